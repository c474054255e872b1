import Derived.Test.YtfholjcelnkleaaMFnExactGroupOk1
import Derived.Test.YtfholjcelnkleaaMFnExactGroupOk2
import Derived.Test.YtfholjcelnkleaaMFnExactGroupOk3
import Derived.Test.YtfholjcelnkleaaMFnExactGroupOk4
section
namespace Go.Proofs.Ytfholjcelnkleaa.Print
open Go.RowKit Go.Proofs.YtfholjcelnkleaaV.PrintWords Go.Proofs.YtfholjcelnkleaaV.PrintLast Go.Proofs.YtfholjcelnkleaaV.PrintMore
attribute [local go_sem] max2_int min2_int max_two min_two max_three min_three max_four min_four   -- for this text's walks alone
set_option linter.unusedVariables false
set_option linter.unusedSimpArgs false

/-! ### laws_FnExactGroupOk: function 8 -/
def laws_FnExactGroupOk.f (k : Nat) (a0_0 : Int) (l0_1 : List (S163)) (a0_2 : Int) (a0_3 : Int) (l0_4 : List (S34)) (l1 : List ByteArray) : Option (Bool) := (laws_szGroup.f k a0_0 l0_1 a0_2 a0_3 l0_4 1048576).bind fun t749 => (if t749 < 0 then (some true) else ((laws_szStringS.f k l1 t749).bind fun t750 => (if t750 < 0 then (some true) else ((laws_toGroup.f k a0_0 l0_1 a0_2 a0_3 l0_4).bind fun bt751 => ((laws_toStringS.f k l1).bind fun t760 => ((spec_GroupOk.f k bt751.1 bt751.2.1 bt751.2.2.1 bt751.2.2.2.1 bt751.2.2.2.2 t760).bind fun t763 => ((laws_toGroup.f k a0_0 l0_1 a0_2 a0_3 l0_4).bind fun bt764 => ((laws_toStringS.f k l1).bind fun t774 => ((impl_GroupOk.f k bt764.1 bt764.2.1 bt764.2.2.1 bt764.2.2.2.1 bt764.2.2.2.2 t774).bind fun t777 => (if (t777 != t763) = true then (none) else ((laws_toGroup.f k a0_0 l0_1 a0_2 a0_3 l0_4).bind fun bt778 => ((laws_eqGroup.f k bt764.1 bt764.2.1 bt764.2.2.1 bt764.2.2.2.1 bt764.2.2.2.2 bt778.1 bt778.2.1 bt778.2.2.1 bt778.2.2.2.1 bt778.2.2.2.2).bind fun t787 => (if t787 = true then ((laws_toStringS.f k l1).bind fun t788 => ((laws_eqStringS.f k t774 t788).bind fun t791 => (if t791 = true then (some true) else (none)))) else (none))))))))))))))
theorem laws_FnExactGroupOk.mono : ∀ a0 a1 a2 a3 a4 a5 k, LeO (laws_FnExactGroupOk.f k a0 a1 a2 a3 a4 a5) (laws_FnExactGroupOk.f (k + 1) a0 a1 a2 a3 a4 a5) := by
 intro a0 a1 a2 a3 a4 a5 k
 unfold laws_FnExactGroupOk.f
 repeat' first
   | (with_reducible exact impl_GroupOk.mono _ _ _ _ _ _ _)
   | (with_reducible exact laws_eqGroup.mono _ _ _ _ _ _ _ _ _ _ _)
   | (with_reducible exact laws_eqStringS.mono _ _ _)
   | (with_reducible exact laws_szGroup.mono _ _ _ _ _ _ _)
   | (with_reducible exact laws_szStringS.mono _ _ _)
   | (with_reducible exact laws_toGroup.mono _ _ _ _ _ _)
   | (with_reducible exact laws_toStringS.mono _ _)
   | (with_reducible exact spec_GroupOk.mono _ _ _ _ _ _ _)
   | (with_reducible exact LeO.refl _)
   | (with_reducible exact LeO.none _)
   | (with_reducible refine LeO.ite ?_ ?_)
   | (with_reducible refine LeO.bind ?_ (fun _ => ?_))
   | exact impl_GroupOk.mono _ _ _ _ _ _ _
   | exact laws_eqGroup.mono _ _ _ _ _ _ _ _ _ _ _
   | exact laws_eqStringS.mono _ _ _
   | exact laws_szGroup.mono _ _ _ _ _ _ _
   | exact laws_szStringS.mono _ _ _
   | exact laws_toGroup.mono _ _ _ _ _ _
   | exact laws_toStringS.mono _ _
   | exact spec_GroupOk.mono _ _ _ _ _ _ _
   | exact LeO.none _
   | refine LeO.ite ?_ ?_
   | refine LeO.bind ?_ (fun _ => ?_)
set_option maxHeartbeats 8000000 in
set_option maxRecDepth 100000 in
theorem laws_FnExactGroupOk.calls (k : Nat) (a0_0 : Int) (A0_1 : Option Addr) (c0_1 : Nat) (l0_1 : List (S163)) (a0_2 : Int) (a0_3 : Int) (A0_4 : Option Addr) (c0_4 : Nat) (l0_4 : List (S34)) (A1 : Option Addr) (c1 : Nat) (l1 : List ByteArray) (r : Bool) (w : World) (hr0_1 : Kd.C k163 w A0_1 l0_1.length l0_1) (hc0_1 : l0_1.length ≤ c0_1) (hr0_4 : Kd.C k34 w A0_4 l0_4.length l0_4) (hc0_4 : l0_4.length ≤ c0_4) (hr1 : Kd.C Kd.string w A1 l1.length l1) (hc1 : l1.length ≤ c1) (h : laws_FnExactGroupOk.f k a0_0 l0_1 a0_2 a0_3 l0_4 l1 = some r) :
  Calls Try.prog 8 #[.agg #[.int .i64 a0_0, .slice A0_1 l0_1.length c0_1, .int .i64 a0_2, .int .i64 a0_3, .slice A0_4 l0_4.length c0_4], .slice A1 l1.length c1] w fun e w' => e = .returned (.bool r) ∧ Below w.heap.size w w' := by
 have hu69 := Try.underlying69
 have hu75 := Try.underlying75
 have HR0_1 := Aside0.mk hr0_1
 have HC0_1 := Aside0.mk hc0_1
 clear hr0_1 hc0_1
 have HR0_4 := Aside0.mk hr0_4
 have HC0_4 := Aside0.mk hc0_4
 clear hr0_4 hc0_4
 have HR1 := Aside0.mk hr1
 have HC1 := Aside0.mk hc1
 clear hr1 hc1
 have HB := Aside0.mk (Below.refl w.heap.size w)
 have H : ((laws_szGroup.f k a0_0 l0_1 a0_2 a0_3 l0_4 1048576).bind fun t749 => (if t749 < 0 then (some true) else ((laws_szStringS.f k l1 t749).bind fun t750 => (if t750 < 0 then (some true) else ((laws_toGroup.f k a0_0 l0_1 a0_2 a0_3 l0_4).bind fun bt751 => ((laws_toStringS.f k l1).bind fun t760 => ((spec_GroupOk.f k bt751.1 bt751.2.1 bt751.2.2.1 bt751.2.2.2.1 bt751.2.2.2.2 t760).bind fun t763 => ((laws_toGroup.f k a0_0 l0_1 a0_2 a0_3 l0_4).bind fun bt764 => ((laws_toStringS.f k l1).bind fun t774 => ((impl_GroupOk.f k bt764.1 bt764.2.1 bt764.2.2.1 bt764.2.2.2.1 bt764.2.2.2.2 t774).bind fun t777 => (if (t777 != t763) = true then (none) else ((laws_toGroup.f k a0_0 l0_1 a0_2 a0_3 l0_4).bind fun bt778 => ((laws_eqGroup.f k bt764.1 bt764.2.1 bt764.2.2.1 bt764.2.2.2.1 bt764.2.2.2.2 bt778.1 bt778.2.1 bt778.2.2.1 bt778.2.2.2.1 bt778.2.2.2.2).bind fun t787 => (if t787 = true then ((laws_toStringS.f k l1).bind fun t788 => ((laws_eqStringS.f k t774 t788).bind fun t791 => (if t791 = true then (some true) else (none)))) else (none))))))))))))))) = some r := h
 clear h
 replace H := Option.bind_eq_some_iff.mp H
 obtain ⟨t749, A30, H⟩ := H
 replace H : (if t749 < 0 then (some true) else ((laws_szStringS.f k l1 t749).bind fun t750 => (if t750 < 0 then (some true) else ((laws_toGroup.f k a0_0 l0_1 a0_2 a0_3 l0_4).bind fun bt751 => ((laws_toStringS.f k l1).bind fun t760 => ((spec_GroupOk.f k bt751.1 bt751.2.1 bt751.2.2.1 bt751.2.2.2.1 bt751.2.2.2.2 t760).bind fun t763 => ((laws_toGroup.f k a0_0 l0_1 a0_2 a0_3 l0_4).bind fun bt764 => ((laws_toStringS.f k l1).bind fun t774 => ((impl_GroupOk.f k bt764.1 bt764.2.1 bt764.2.2.1 bt764.2.2.2.1 bt764.2.2.2.2 t774).bind fun t777 => (if (t777 != t763) = true then (none) else ((laws_toGroup.f k a0_0 l0_1 a0_2 a0_3 l0_4).bind fun bt778 => ((laws_eqGroup.f k bt764.1 bt764.2.1 bt764.2.2.1 bt764.2.2.2.1 bt764.2.2.2.2 bt778.1 bt778.2.1 bt778.2.2.1 bt778.2.2.2.1 bt778.2.2.2.2).bind fun t787 => (if t787 = true then ((laws_toStringS.f k l1).bind fun t788 => ((laws_eqStringS.f k t774 t788).bind fun t791 => (if t791 = true then (some true) else (none)))) else (none)))))))))))))) = some r := H
 have A3 := Aside0.mk A30
 clear A30
 by_cases c4 : t749 < 0
 ·
  rw [if_pos c4] at H
  have c4b0 : decide (t749 < 0) = true := decide_eq_true c4
  clear c4
  obtain rfl := Option.some.inj H
  go_enter Try.func8, Try.ntmps8
  go_wp2_with (first | ((with_reducible refine gate_dst (N := 2) rfl ?_); refine box_event ?hg (N := 2) ?hd (cs := #[.int .i64 a0_0, .slice A0_1 l0_1.length c0_1, .int .i64 a0_2, .int .i64 a0_3, .slice A0_4 l0_4.length c0_4]) (t := 69) ?hr ?_; (case hd => rfl); (case hg => rfl); (case hr => first | (go_simp; done) | (go_simp; rfl)); intro gb748 hg w5 hbox hb; have n0_ := Aside0.mk (below_step (by repeat (first | (with_reducible first | exact HB.out | apply below_alloc | apply pw_below_drewN | apply below_drew1) | exact HB.out)) hb); have n1_ := Aside0.mk (hbox); have n2_ := Aside0.mk ((by rw [hg]; exact (below_size (by repeat (first | (with_reducible first | exact HB.out | apply below_alloc | apply pw_below_drewN | apply below_drew1) | exact HB.out))) : w.heap.size ≤ gb748)); have n3_ := n2_; clear HB; have HB := n0_; have BK748 := n1_; have GW748 := n2_; have GE748 := n3_; clear n0_ n1_ n2_ n3_; clear hb hbox hg; have hcz6_0 : w5.cell? ⟨gb748, 0, none⟩ = some (.int .i64 a0_0) := (blk_cell BK748.out 0).trans rfl; have hcz6_1 : w5.cell? ⟨gb748, 1, none⟩ = some (.slice A0_1 l0_1.length c0_1) := (blk_cell BK748.out 1).trans rfl; have hcz6_2 : w5.cell? ⟨gb748, 2, none⟩ = some (.int .i64 a0_2) := (blk_cell BK748.out 2).trans rfl; have hcz6_3 : w5.cell? ⟨gb748, 3, none⟩ = some (.int .i64 a0_3) := (blk_cell BK748.out 3).trans rfl; have hcz6_4 : w5.cell? ⟨gb748, 4, none⟩ = some (.slice A0_4 l0_4.length c0_4) := (blk_cell BK748.out 4).trans rfl; have hfz6_0 := blk_frozen BK748.out 0; have hfz6_1 := blk_frozen BK748.out 1; have hfz6_2 := blk_frozen BK748.out 2; have hfz6_3 := blk_frozen BK748.out 3; have hfz6_4 := blk_frozen BK748.out 4) | ((with_reducible refine gate_callee (f := 48) rfl ?_); refine goesL_ (some 12) rfl rfl Try.func48 (by kernel_rfl) rfl #[.agg #[.int .i64 a0_0, .slice A0_1 l0_1.length c0_1, .int .i64 a0_2, .int .i64 a0_3, .slice A0_4 l0_4.length c0_4], .int .i64 1048576] rfl (by (try simp only [List.map_toArray, List.map_cons, List.map_nil]); first | done | rfl | (simp only [List.length_drop, List.length_take]; rfl)) ?_; (with_reducible refine (laws_szGroup.calls k a0_0 _ _ l0_1 a0_2 a0_3 _ _ l0_4 1048576 t749 _ ?side1 ?side2 ?side3 ?side4 A3.out).mono ?_); (case side1 => repeat (first | exact (Kd.C_below HR0_1.out HB.out) | (with_reducible refine Kd.C_alloc ?_ _) | (with_reducible refine Kd.C_drewN ?_ _) | (with_reducible refine Kd.C_drew ?_))); (case side2 => exact HC0_1.out); (case side3 => repeat (first | exact (Kd.C_below HR0_4.out HB.out) | (with_reducible refine Kd.C_alloc ?_ _) | (with_reducible refine Kd.C_drewN ?_ _) | (with_reducible refine Kd.C_drew ?_))); (case side4 => exact HC0_4.out); rintro e w7 ⟨rfl, hb⟩; refine ⟨_, rfl, ?_⟩; have n0_ := Aside0.mk (blk_below (g := gb748) (o := .cells #[.int .i64 a0_0, .slice A0_1 l0_1.length c0_1, .int .i64 a0_2, .int .i64 a0_3, .slice A0_4 l0_4.length c0_4] 69 (0, 0)) (by (with_reducible repeat (first | refine blk_drewN ?_ _ | refine blk_drew ?_ | refine blk_alloc ?_ _)); exact BK748.out) hb); have n1_ := Aside0.mk (below_step (by repeat (first | (with_reducible first | exact HB.out | apply below_alloc | apply pw_below_drewN | apply below_drew1 | refine below_set ?_ GE748.out) | exact HB.out)) hb); clear BK748; clear HB; have BK748 := n0_; have HB := n1_; clear n0_ n1_; (try clear hb); (try clear hb2); (try clear hk); (try clear hi)))
  go_ret
  exact ⟨by first | rfl | (simp [errW_none, errW_some] <;> rfl) | (simp [*, errW_none, errW_some] <;> rfl), by repeat (first | (with_reducible first | exact HB.out | apply below_alloc | apply pw_below_drewN | apply below_drew1 | refine below_set ?_ GE748.out) | exact HB.out)⟩
 rw [if_neg c4] at H
 have c4b0 : decide (t749 < 0) = false := decide_eq_false c4
 clear c4
 replace H := Option.bind_eq_some_iff.mp H
 obtain ⟨t750, A80, H⟩ := H
 replace H : (if t750 < 0 then (some true) else ((laws_toGroup.f k a0_0 l0_1 a0_2 a0_3 l0_4).bind fun bt751 => ((laws_toStringS.f k l1).bind fun t760 => ((spec_GroupOk.f k bt751.1 bt751.2.1 bt751.2.2.1 bt751.2.2.2.1 bt751.2.2.2.2 t760).bind fun t763 => ((laws_toGroup.f k a0_0 l0_1 a0_2 a0_3 l0_4).bind fun bt764 => ((laws_toStringS.f k l1).bind fun t774 => ((impl_GroupOk.f k bt764.1 bt764.2.1 bt764.2.2.1 bt764.2.2.2.1 bt764.2.2.2.2 t774).bind fun t777 => (if (t777 != t763) = true then (none) else ((laws_toGroup.f k a0_0 l0_1 a0_2 a0_3 l0_4).bind fun bt778 => ((laws_eqGroup.f k bt764.1 bt764.2.1 bt764.2.2.1 bt764.2.2.2.1 bt764.2.2.2.2 bt778.1 bt778.2.1 bt778.2.2.1 bt778.2.2.2.1 bt778.2.2.2.2).bind fun t787 => (if t787 = true then ((laws_toStringS.f k l1).bind fun t788 => ((laws_eqStringS.f k t774 t788).bind fun t791 => (if t791 = true then (some true) else (none)))) else (none)))))))))))) = some r := H
 have A8 := Aside0.mk A80
 clear A80
 by_cases c9 : t750 < 0
 ·
  rw [if_pos c9] at H
  have c9b0 : decide (t750 < 0) = true := decide_eq_true c9
  clear c9
  obtain rfl := Option.some.inj H
  go_enter Try.func8, Try.ntmps8
  go_wp2_with (first | ((with_reducible refine gate_dst (N := 2) rfl ?_); refine box_event ?hg (N := 2) ?hd (cs := #[.int .i64 a0_0, .slice A0_1 l0_1.length c0_1, .int .i64 a0_2, .int .i64 a0_3, .slice A0_4 l0_4.length c0_4]) (t := 69) ?hr ?_; (case hd => rfl); (case hg => rfl); (case hr => first | (go_simp; done) | (go_simp; rfl)); intro gb748 hg w10 hbox hb; have n0_ := Aside0.mk (below_step (by repeat (first | (with_reducible first | exact HB.out | apply below_alloc | apply pw_below_drewN | apply below_drew1) | exact HB.out)) hb); have n1_ := Aside0.mk (hbox); have n2_ := Aside0.mk ((by rw [hg]; exact (below_size (by repeat (first | (with_reducible first | exact HB.out | apply below_alloc | apply pw_below_drewN | apply below_drew1) | exact HB.out))) : w.heap.size ≤ gb748)); have n3_ := n2_; clear HB; have HB := n0_; have BK748 := n1_; have GW748 := n2_; have GE748 := n3_; clear n0_ n1_ n2_ n3_; clear hb hbox hg; have hcz11_0 : w10.cell? ⟨gb748, 0, none⟩ = some (.int .i64 a0_0) := (blk_cell BK748.out 0).trans rfl; have hcz11_1 : w10.cell? ⟨gb748, 1, none⟩ = some (.slice A0_1 l0_1.length c0_1) := (blk_cell BK748.out 1).trans rfl; have hcz11_2 : w10.cell? ⟨gb748, 2, none⟩ = some (.int .i64 a0_2) := (blk_cell BK748.out 2).trans rfl; have hcz11_3 : w10.cell? ⟨gb748, 3, none⟩ = some (.int .i64 a0_3) := (blk_cell BK748.out 3).trans rfl; have hcz11_4 : w10.cell? ⟨gb748, 4, none⟩ = some (.slice A0_4 l0_4.length c0_4) := (blk_cell BK748.out 4).trans rfl; have hfz11_0 := blk_frozen BK748.out 0; have hfz11_1 := blk_frozen BK748.out 1; have hfz11_2 := blk_frozen BK748.out 2; have hfz11_3 := blk_frozen BK748.out 3; have hfz11_4 := blk_frozen BK748.out 4) | ((with_reducible refine gate_callee (f := 48) rfl ?_); refine goesL_ (some 12) rfl rfl Try.func48 (by kernel_rfl) rfl #[.agg #[.int .i64 a0_0, .slice A0_1 l0_1.length c0_1, .int .i64 a0_2, .int .i64 a0_3, .slice A0_4 l0_4.length c0_4], .int .i64 1048576] rfl (by (try simp only [List.map_toArray, List.map_cons, List.map_nil]); first | done | rfl | (simp only [List.length_drop, List.length_take]; rfl)) ?_; (with_reducible refine (laws_szGroup.calls k a0_0 _ _ l0_1 a0_2 a0_3 _ _ l0_4 1048576 t749 _ ?side1 ?side2 ?side3 ?side4 A3.out).mono ?_); (case side1 => repeat (first | exact (Kd.C_below HR0_1.out HB.out) | (with_reducible refine Kd.C_alloc ?_ _) | (with_reducible refine Kd.C_drewN ?_ _) | (with_reducible refine Kd.C_drew ?_))); (case side2 => exact HC0_1.out); (case side3 => repeat (first | exact (Kd.C_below HR0_4.out HB.out) | (with_reducible refine Kd.C_alloc ?_ _) | (with_reducible refine Kd.C_drewN ?_ _) | (with_reducible refine Kd.C_drew ?_))); (case side4 => exact HC0_4.out); rintro e w12 ⟨rfl, hb⟩; refine ⟨_, rfl, ?_⟩; have n0_ := Aside0.mk (blk_below (g := gb748) (o := .cells #[.int .i64 a0_0, .slice A0_1 l0_1.length c0_1, .int .i64 a0_2, .int .i64 a0_3, .slice A0_4 l0_4.length c0_4] 69 (0, 0)) (by (with_reducible repeat (first | refine blk_drewN ?_ _ | refine blk_drew ?_ | refine blk_alloc ?_ _)); exact BK748.out) hb); have n1_ := Aside0.mk (below_step (by repeat (first | (with_reducible first | exact HB.out | apply below_alloc | apply pw_below_drewN | apply below_drew1 | refine below_set ?_ GE748.out) | exact HB.out)) hb); clear BK748; clear HB; have BK748 := n0_; have HB := n1_; clear n0_ n1_; (try clear hb); (try clear hb2); (try clear hk); (try clear hi)) | ((with_reducible refine gate_callee (f := 49) rfl ?_); refine goesL_ (some 17) rfl rfl Try.func49 (by kernel_rfl) rfl #[.slice A1 l1.length c1, .int .i64 t749] rfl (by (try simp only [List.map_toArray, List.map_cons, List.map_nil]); first | done | rfl | (simp only [List.length_drop, List.length_take]; rfl)) ?_; (with_reducible refine (laws_szStringS.calls k _ _ l1 t749 t750 _ ?side1 ?side2 A8.out).mono ?_); (case side1 => repeat (first | exact (Kd.C_below HR1.out HB.out) | (with_reducible refine Kd.C_alloc ?_ _) | (with_reducible refine Kd.C_drewN ?_ _) | (with_reducible refine Kd.C_drew ?_))); (case side2 => exact HC1.out); rintro e w' ⟨rfl, ⟨nd, rfl⟩⟩; refine ⟨_, rfl, ?_⟩))
  go_ret
  exact ⟨by first | rfl | (simp [errW_none, errW_some] <;> rfl) | (simp [*, errW_none, errW_some] <;> rfl), by repeat (first | (with_reducible first | exact HB.out | apply below_alloc | apply pw_below_drewN | apply below_drew1 | refine below_set ?_ GE748.out) | exact HB.out)⟩
 rw [if_neg c9] at H
 have c9b0 : decide (t750 < 0) = false := decide_eq_false c9
 clear c9
 replace H := Option.bind_eq_some_iff.mp H
 obtain ⟨⟨t751, t752, t755, t756, t757⟩, A130, H⟩ := H
 replace H : ((laws_toStringS.f k l1).bind fun t760 => ((spec_GroupOk.f k t751 t752 t755 t756 t757 t760).bind fun t763 => ((laws_toGroup.f k a0_0 l0_1 a0_2 a0_3 l0_4).bind fun bt764 => ((laws_toStringS.f k l1).bind fun t774 => ((impl_GroupOk.f k bt764.1 bt764.2.1 bt764.2.2.1 bt764.2.2.2.1 bt764.2.2.2.2 t774).bind fun t777 => (if (t777 != t763) = true then (none) else ((laws_toGroup.f k a0_0 l0_1 a0_2 a0_3 l0_4).bind fun bt778 => ((laws_eqGroup.f k bt764.1 bt764.2.1 bt764.2.2.1 bt764.2.2.2.1 bt764.2.2.2.2 bt778.1 bt778.2.1 bt778.2.2.1 bt778.2.2.2.1 bt778.2.2.2.2).bind fun t787 => (if t787 = true then ((laws_toStringS.f k l1).bind fun t788 => ((laws_eqStringS.f k t774 t788).bind fun t791 => (if t791 = true then (some true) else (none)))) else (none)))))))))) = some r := H
 have A13 := Aside0.mk A130
 clear A130
 replace H := Option.bind_eq_some_iff.mp H
 obtain ⟨t760, A140, H⟩ := H
 replace H : ((spec_GroupOk.f k t751 t752 t755 t756 t757 t760).bind fun t763 => ((laws_toGroup.f k a0_0 l0_1 a0_2 a0_3 l0_4).bind fun bt764 => ((laws_toStringS.f k l1).bind fun t774 => ((impl_GroupOk.f k bt764.1 bt764.2.1 bt764.2.2.1 bt764.2.2.2.1 bt764.2.2.2.2 t774).bind fun t777 => (if (t777 != t763) = true then (none) else ((laws_toGroup.f k a0_0 l0_1 a0_2 a0_3 l0_4).bind fun bt778 => ((laws_eqGroup.f k bt764.1 bt764.2.1 bt764.2.2.1 bt764.2.2.2.1 bt764.2.2.2.2 bt778.1 bt778.2.1 bt778.2.2.1 bt778.2.2.2.1 bt778.2.2.2.2).bind fun t787 => (if t787 = true then ((laws_toStringS.f k l1).bind fun t788 => ((laws_eqStringS.f k t774 t788).bind fun t791 => (if t791 = true then (some true) else (none)))) else (none))))))))) = some r := H
 have A14 := Aside0.mk A140
 clear A140
 replace H := Option.bind_eq_some_iff.mp H
 obtain ⟨t763, A150, H⟩ := H
 replace H : ((laws_toGroup.f k a0_0 l0_1 a0_2 a0_3 l0_4).bind fun bt764 => ((laws_toStringS.f k l1).bind fun t774 => ((impl_GroupOk.f k bt764.1 bt764.2.1 bt764.2.2.1 bt764.2.2.2.1 bt764.2.2.2.2 t774).bind fun t777 => (if (t777 != t763) = true then (none) else ((laws_toGroup.f k a0_0 l0_1 a0_2 a0_3 l0_4).bind fun bt778 => ((laws_eqGroup.f k bt764.1 bt764.2.1 bt764.2.2.1 bt764.2.2.2.1 bt764.2.2.2.2 bt778.1 bt778.2.1 bt778.2.2.1 bt778.2.2.2.1 bt778.2.2.2.2).bind fun t787 => (if t787 = true then ((laws_toStringS.f k l1).bind fun t788 => ((laws_eqStringS.f k t774 t788).bind fun t791 => (if t791 = true then (some true) else (none)))) else (none)))))))) = some r := H
 have A15 := Aside0.mk A150
 clear A150
 replace H := Option.bind_eq_some_iff.mp H
 obtain ⟨⟨t764, t765, t768, t769, t770⟩, A160, H⟩ := H
 replace H : ((laws_toStringS.f k l1).bind fun t774 => ((impl_GroupOk.f k t764 t765 t768 t769 t770 t774).bind fun t777 => (if (t777 != t763) = true then (none) else ((laws_toGroup.f k a0_0 l0_1 a0_2 a0_3 l0_4).bind fun bt778 => ((laws_eqGroup.f k t764 t765 t768 t769 t770 bt778.1 bt778.2.1 bt778.2.2.1 bt778.2.2.2.1 bt778.2.2.2.2).bind fun t787 => (if t787 = true then ((laws_toStringS.f k l1).bind fun t788 => ((laws_eqStringS.f k t774 t788).bind fun t791 => (if t791 = true then (some true) else (none)))) else (none))))))) = some r := H
 have A16 := Aside0.mk A160
 clear A160
 replace H := Option.bind_eq_some_iff.mp H
 obtain ⟨t774, A170, H⟩ := H
 replace H : ((impl_GroupOk.f k t764 t765 t768 t769 t770 t774).bind fun t777 => (if (t777 != t763) = true then (none) else ((laws_toGroup.f k a0_0 l0_1 a0_2 a0_3 l0_4).bind fun bt778 => ((laws_eqGroup.f k t764 t765 t768 t769 t770 bt778.1 bt778.2.1 bt778.2.2.1 bt778.2.2.2.1 bt778.2.2.2.2).bind fun t787 => (if t787 = true then ((laws_toStringS.f k l1).bind fun t788 => ((laws_eqStringS.f k t774 t788).bind fun t791 => (if t791 = true then (some true) else (none)))) else (none)))))) = some r := H
 have A17 := Aside0.mk A170
 clear A170
 replace H := Option.bind_eq_some_iff.mp H
 obtain ⟨t777, A180, H⟩ := H
 replace H : (if (t777 != t763) = true then (none) else ((laws_toGroup.f k a0_0 l0_1 a0_2 a0_3 l0_4).bind fun bt778 => ((laws_eqGroup.f k t764 t765 t768 t769 t770 bt778.1 bt778.2.1 bt778.2.2.1 bt778.2.2.2.1 bt778.2.2.2.2).bind fun t787 => (if t787 = true then ((laws_toStringS.f k l1).bind fun t788 => ((laws_eqStringS.f k t774 t788).bind fun t791 => (if t791 = true then (some true) else (none)))) else (none))))) = some r := H
 have A18 := Aside0.mk A180
 clear A180
 by_cases c19 : (t777 != t763) = true
 ·
  rw [if_pos c19] at H
  exact absurd H (by simp)
 rw [if_neg c19] at H
 have c19b0 : (t777 != t763) = false := by simpa using c19
 (try (have c19b1 : decide (t777 = t763) = true := by simpa using c19))
 (try (have c19b2 : (t777 == t763) = true := by simpa using c19))
 clear c19
 replace H := Option.bind_eq_some_iff.mp H
 obtain ⟨⟨t778, t779, t782, t783, t784⟩, A200, H⟩ := H
 replace H : ((laws_eqGroup.f k t764 t765 t768 t769 t770 t778 t779 t782 t783 t784).bind fun t787 => (if t787 = true then ((laws_toStringS.f k l1).bind fun t788 => ((laws_eqStringS.f k t774 t788).bind fun t791 => (if t791 = true then (some true) else (none)))) else (none))) = some r := H
 have A20 := Aside0.mk A200
 clear A200
 replace H := Option.bind_eq_some_iff.mp H
 obtain ⟨t787, A210, H⟩ := H
 replace H : (if t787 = true then ((laws_toStringS.f k l1).bind fun t788 => ((laws_eqStringS.f k t774 t788).bind fun t791 => (if t791 = true then (some true) else (none)))) else (none)) = some r := H
 have A21 := Aside0.mk A210
 clear A210
 by_cases c22 : t787 = true
 ·
  subst c22
  have H1 : ((laws_toStringS.f k l1).bind fun t788 => ((laws_eqStringS.f k t774 t788).bind fun t791 => (if t791 = true then (some true) else (none)))) = some r := by rw [if_pos rfl] at H; exact H
  clear H
  have H := H1
  clear H1
  replace H := Option.bind_eq_some_iff.mp H
  obtain ⟨t788, A230, H⟩ := H
  replace H : ((laws_eqStringS.f k t774 t788).bind fun t791 => (if t791 = true then (some true) else (none))) = some r := H
  have A23 := Aside0.mk A230
  clear A230
  replace H := Option.bind_eq_some_iff.mp H
  obtain ⟨t791, A240, H⟩ := H
  replace H : (if t791 = true then (some true) else (none)) = some r := H
  have A24 := Aside0.mk A240
  clear A240
  by_cases c25 : t791 = true
  ·
   subst c25
   have H1 : (some true) = some r := by rw [if_pos rfl] at H; exact H
   clear H
   have H := H1
   clear H1
   obtain rfl := Option.some.inj H
   go_enter Try.func8, Try.ntmps8
   try go_wp2_with (first | ((with_reducible refine gate_dst (N := 2) rfl ?_); refine box_event ?hg (N := 2) ?hd (cs := #[.int .i64 a0_0, .slice A0_1 l0_1.length c0_1, .int .i64 a0_2, .int .i64 a0_3, .slice A0_4 l0_4.length c0_4]) (t := 69) ?hr ?_; (case hd => rfl); (case hg => rfl); (case hr => first | (go_simp; done) | (go_simp; rfl)); intro gb748 hg w26 hbox hb; have n0_ := Aside0.mk (below_step (by repeat (first | (with_reducible first | exact HB.out | apply below_alloc | apply pw_below_drewN | apply below_drew1) | exact HB.out)) hb); have n1_ := Aside0.mk (hbox); have n2_ := Aside0.mk ((by rw [hg]; exact (below_size (by repeat (first | (with_reducible first | exact HB.out | apply below_alloc | apply pw_below_drewN | apply below_drew1) | exact HB.out))) : w.heap.size ≤ gb748)); have n3_ := n2_; clear HB; have HB := n0_; have BK748 := n1_; have GW748 := n2_; have GE748 := n3_; clear n0_ n1_ n2_ n3_; clear hb hbox hg; have hcz27_0 : w26.cell? ⟨gb748, 0, none⟩ = some (.int .i64 a0_0) := (blk_cell BK748.out 0).trans rfl; have hcz27_1 : w26.cell? ⟨gb748, 1, none⟩ = some (.slice A0_1 l0_1.length c0_1) := (blk_cell BK748.out 1).trans rfl; have hcz27_2 : w26.cell? ⟨gb748, 2, none⟩ = some (.int .i64 a0_2) := (blk_cell BK748.out 2).trans rfl; have hcz27_3 : w26.cell? ⟨gb748, 3, none⟩ = some (.int .i64 a0_3) := (blk_cell BK748.out 3).trans rfl; have hcz27_4 : w26.cell? ⟨gb748, 4, none⟩ = some (.slice A0_4 l0_4.length c0_4) := (blk_cell BK748.out 4).trans rfl; have hfz27_0 := blk_frozen BK748.out 0; have hfz27_1 := blk_frozen BK748.out 1; have hfz27_2 := blk_frozen BK748.out 2; have hfz27_3 := blk_frozen BK748.out 3; have hfz27_4 := blk_frozen BK748.out 4) | ((with_reducible refine gate_callee (f := 48) rfl ?_); refine goesL_ (some 12) rfl rfl Try.func48 (by kernel_rfl) rfl #[.agg #[.int .i64 a0_0, .slice A0_1 l0_1.length c0_1, .int .i64 a0_2, .int .i64 a0_3, .slice A0_4 l0_4.length c0_4], .int .i64 1048576] rfl (by (try simp only [List.map_toArray, List.map_cons, List.map_nil]); first | done | rfl | (simp only [List.length_drop, List.length_take]; rfl)) ?_; (with_reducible refine (laws_szGroup.calls k a0_0 _ _ l0_1 a0_2 a0_3 _ _ l0_4 1048576 t749 _ ?side1 ?side2 ?side3 ?side4 A3.out).mono ?_); (case side1 => repeat (first | exact (Kd.C_below HR0_1.out HB.out) | (with_reducible refine Kd.C_alloc ?_ _) | (with_reducible refine Kd.C_drewN ?_ _) | (with_reducible refine Kd.C_drew ?_))); (case side2 => exact HC0_1.out); (case side3 => repeat (first | exact (Kd.C_below HR0_4.out HB.out) | (with_reducible refine Kd.C_alloc ?_ _) | (with_reducible refine Kd.C_drewN ?_ _) | (with_reducible refine Kd.C_drew ?_))); (case side4 => exact HC0_4.out); rintro e w28 ⟨rfl, hb⟩; refine ⟨_, rfl, ?_⟩; have n0_ := Aside0.mk (blk_below (g := gb748) (o := .cells #[.int .i64 a0_0, .slice A0_1 l0_1.length c0_1, .int .i64 a0_2, .int .i64 a0_3, .slice A0_4 l0_4.length c0_4] 69 (0, 0)) (by (with_reducible repeat (first | refine blk_drewN ?_ _ | refine blk_drew ?_ | refine blk_alloc ?_ _)); exact BK748.out) hb); have n1_ := Aside0.mk (below_step (by repeat (first | (with_reducible first | exact HB.out | apply below_alloc | apply pw_below_drewN | apply below_drew1 | refine below_set ?_ GE748.out) | exact HB.out)) hb); clear BK748; clear HB; have BK748 := n0_; have HB := n1_; clear n0_ n1_; (try clear hb); (try clear hb2); (try clear hk); (try clear hi)) | ((with_reducible refine gate_callee (f := 49) rfl ?_); refine goesL_ (some 17) rfl rfl Try.func49 (by kernel_rfl) rfl #[.slice A1 l1.length c1, .int .i64 t749] rfl (by (try simp only [List.map_toArray, List.map_cons, List.map_nil]); first | done | rfl | (simp only [List.length_drop, List.length_take]; rfl)) ?_; (with_reducible refine (laws_szStringS.calls k _ _ l1 t749 t750 _ ?side1 ?side2 A8.out).mono ?_); (case side1 => repeat (first | exact (Kd.C_below HR1.out HB.out) | (with_reducible refine Kd.C_alloc ?_ _) | (with_reducible refine Kd.C_drewN ?_ _) | (with_reducible refine Kd.C_drew ?_))); (case side2 => exact HC1.out); rintro e w' ⟨rfl, ⟨nd, rfl⟩⟩; refine ⟨_, rfl, ?_⟩; (try (rw [drewN_self w28]; generalize hq_ : World.drewN w28 _ = w28; have n0_ : Aside0 (w28.heap[gb748]? = some (.cells #[.int .i64 a0_0, .slice A0_1 l0_1.length c0_1, .int .i64 a0_2, .int .i64 a0_3, .slice A0_4 l0_4.length c0_4] 69 (0, 0))) := ⟨by rw [← hq_]; exact (by (with_reducible repeat (first | refine blk_drewN ?_ _ | refine blk_drew ?_ | refine blk_alloc ?_ _)); exact BK748.out)⟩; have n1_ : Aside0 (Below w.heap.size w w28) := ⟨by rw [← hq_]; exact (by repeat (first | (with_reducible first | exact HB.out | apply below_alloc | apply pw_below_drewN | apply below_drew1 | refine below_set ?_ GE748.out) | exact HB.out))⟩; clear BK748 HB hq_; have BK748 := n0_; have HB := n1_; clear n0_ n1_)); have hcz29_0 : w28.cell? ⟨gb748, 0, none⟩ = some (.int .i64 a0_0) := (blk_cell BK748.out 0).trans rfl; have hcz29_1 : w28.cell? ⟨gb748, 1, none⟩ = some (.slice A0_1 l0_1.length c0_1) := (blk_cell BK748.out 1).trans rfl; have hcz29_2 : w28.cell? ⟨gb748, 2, none⟩ = some (.int .i64 a0_2) := (blk_cell BK748.out 2).trans rfl; have hcz29_3 : w28.cell? ⟨gb748, 3, none⟩ = some (.int .i64 a0_3) := (blk_cell BK748.out 3).trans rfl; have hcz29_4 : w28.cell? ⟨gb748, 4, none⟩ = some (.slice A0_4 l0_4.length c0_4) := (blk_cell BK748.out 4).trans rfl; have hfz29_0 := blk_frozen BK748.out 0; have hfz29_1 := blk_frozen BK748.out 1; have hfz29_2 := blk_frozen BK748.out 2; have hfz29_3 := blk_frozen BK748.out 3; have hfz29_4 := blk_frozen BK748.out 4) | ((with_reducible refine gate_callee (f := 51) rfl ?_); refine goesL_ (some 21) rfl rfl Try.func51 (by kernel_rfl) rfl #[.agg #[.int .i64 a0_0, .slice A0_1 l0_1.length c0_1, .int .i64 a0_2, .int .i64 a0_3, .slice A0_4 l0_4.length c0_4]] rfl (by (try simp only [List.map_toArray, List.map_cons, List.map_nil]); first | done | rfl | (simp only [List.length_drop, List.length_take]; rfl)) ?_; (with_reducible refine (laws_toGroup.calls k a0_0 _ _ l0_1 a0_2 a0_3 _ _ l0_4 t751 t752 t755 t756 t757 _ ?side1 ?side2 ?side3 ?side4 A13.out).mono ?_); (case side1 => repeat (first | exact (Kd.C_below HR0_1.out HB.out) | (with_reducible refine Kd.C_alloc ?_ _) | (with_reducible refine Kd.C_drewN ?_ _) | (with_reducible refine Kd.C_drew ?_))); (case side2 => exact HC0_1.out); (case side3 => repeat (first | exact (Kd.C_below HR0_4.out HB.out) | (with_reducible refine Kd.C_alloc ?_ _) | (with_reducible refine Kd.C_drewN ?_ _) | (with_reducible refine Kd.C_drew ?_))); (case side4 => exact HC0_4.out); rintro e w30 ⟨v753, v758, rfl, ho0, ho1, hb⟩; refine ⟨_, rfl, ?_⟩; have n0_ := Aside0.mk (Kd.R_lower ho0 (below_size (by repeat (first | (with_reducible first | exact HB.out | apply below_alloc | apply pw_below_drewN | apply below_drew1 | refine below_set ?_ GE748.out) | exact HB.out)))); have n1_ := Aside0.mk (Kd.S_lower ho1 (below_size (by repeat (first | (with_reducible first | exact HB.out | apply below_alloc | apply pw_below_drewN | apply below_drew1 | refine below_set ?_ GE748.out) | exact HB.out)))); have n2_ := Aside0.mk (blk_below (g := gb748) (o := .cells #[.int .i64 a0_0, .slice A0_1 l0_1.length c0_1, .int .i64 a0_2, .int .i64 a0_3, .slice A0_4 l0_4.length c0_4] 69 (0, 0)) (by (with_reducible repeat (first | refine blk_drewN ?_ _ | refine blk_drew ?_ | refine blk_alloc ?_ _)); exact BK748.out) hb); have n3_ := Aside0.mk (below_step (by repeat (first | (with_reducible first | exact HB.out | apply below_alloc | apply pw_below_drewN | apply below_drew1 | refine below_set ?_ GE748.out) | exact HB.out)) hb); clear BK748; clear HB; have HO754 := n0_; have HO759 := n1_; have BK748 := n2_; have HB := n3_; clear n0_ n1_ n2_ n3_; (try clear hb); (try clear hb2); (try clear hk); (try clear hi); (try clear ho0); (try clear ho1)) | ((with_reducible refine gate_callee (f := 52) rfl ?_); refine goesL_ (some 23) rfl rfl Try.func52 (by kernel_rfl) rfl #[.slice A1 l1.length c1] rfl (by (try simp only [List.map_toArray, List.map_cons, List.map_nil]); first | done | rfl | (simp only [List.length_drop, List.length_take]; rfl)) ?_; (with_reducible refine (laws_toStringS.calls k _ _ l1 t760 _ ?side1 ?side2 A14.out).mono ?_); (case side1 => repeat (first | exact (Kd.C_below HR1.out HB.out) | (with_reducible refine Kd.C_alloc ?_ _) | (with_reducible refine Kd.C_drewN ?_ _) | (with_reducible refine Kd.C_drew ?_))); (case side2 => exact HC1.out); rintro e w31 ⟨v761, rfl, ho0, hb⟩; refine ⟨_, rfl, ?_⟩; have n0_ := Aside0.mk (Kd.R_below (by (with_reducible repeat (first | apply Kd.R_alloc | apply Kd.R_drewN | apply Kd.R_drew)); exact HO754.out) hb); have n1_ := Aside0.mk (Kd.S_below (by (with_reducible repeat (first | apply Kd.S_alloc | apply Kd.S_drewN | apply Kd.S_drew)); exact HO759.out) hb); have n2_ := Aside0.mk (Kd.R_lower ho0 (below_size (by repeat (first | (with_reducible first | exact HB.out | apply below_alloc | apply pw_below_drewN | apply below_drew1 | refine below_set ?_ GE748.out) | exact HB.out)))); have n3_ := Aside0.mk (blk_below (g := gb748) (o := .cells #[.int .i64 a0_0, .slice A0_1 l0_1.length c0_1, .int .i64 a0_2, .int .i64 a0_3, .slice A0_4 l0_4.length c0_4] 69 (0, 0)) (by (with_reducible repeat (first | refine blk_drewN ?_ _ | refine blk_drew ?_ | refine blk_alloc ?_ _)); exact BK748.out) hb); have n4_ := Aside0.mk (below_step (by repeat (first | (with_reducible first | exact HB.out | apply below_alloc | apply pw_below_drewN | apply below_drew1 | refine below_set ?_ GE748.out) | exact HB.out)) hb); clear HO754; clear HO759; clear BK748; clear HB; have HO754 := n0_; have HO759 := n1_; have HO762 := n2_; have BK748 := n3_; have HB := n4_; clear n0_ n1_ n2_ n3_ n4_; (try clear hb); (try clear hb2); (try clear hk); (try clear hi); (try clear ho0); obtain ⟨Ao32, co32, eo32⟩ := Kd.R_slice HO754.out; subst eo32; obtain ⟨Ao33, co33, eo33⟩ := Kd.S_slice HO759.out; subst eo33; obtain ⟨Ao34, co34, eo34⟩ := Kd.R_slice HO762.out; subst eo34) | ((with_reducible refine gate_callee (f := 50) rfl ?_); refine goesL_ (some 24) rfl rfl Try.func50 (by kernel_rfl) rfl #[.agg #[.int .i64 t751, .slice Ao32 t752.length co32, .int .i64 t755, .int .i64 t756, .slice Ao33 t757.length co33], .slice Ao34 t760.length co34] rfl (by (try simp only [List.map_toArray, List.map_cons, List.map_nil]); first | done | rfl | (simp only [List.length_drop, List.length_take]; rfl)) ?_; (with_reducible refine (spec_GroupOk.calls k t751 _ _ t752 t755 t756 _ _ t757 _ _ t760 t763 _ ?side1 ?side2 ?side3 ?side4 ?side5 ?side6 A15.out).mono ?_); (case side1 => repeat (first | exact (Kd.R_reads' HO754.out).2.2 | (with_reducible refine Kd.C_alloc ?_ _) | (with_reducible refine Kd.C_drewN ?_ _) | (with_reducible refine Kd.C_drew ?_))); (case side2 => exact (Kd.R_reads' HO754.out).2.1); (case side3 => repeat (first | exact (Kd.S_reads' HO759.out).2.2 | (with_reducible refine Kd.C_alloc ?_ _) | (with_reducible refine Kd.C_drewN ?_ _) | (with_reducible refine Kd.C_drew ?_))); (case side4 => exact (Kd.S_reads' HO759.out).2.1); (case side5 => repeat (first | exact (Kd.R_reads' HO762.out).2.2 | (with_reducible refine Kd.C_alloc ?_ _) | (with_reducible refine Kd.C_drewN ?_ _) | (with_reducible refine Kd.C_drew ?_))); (case side6 => exact (Kd.R_reads' HO762.out).2.1); rintro e w35 ⟨rfl, hb⟩; refine ⟨_, rfl, ?_⟩; have n0_ := Aside0.mk (Kd.R_below (by (with_reducible repeat (first | apply Kd.R_alloc | apply Kd.R_drewN | apply Kd.R_drew)); exact HO754.out) hb); have n1_ := Aside0.mk (Kd.S_below (by (with_reducible repeat (first | apply Kd.S_alloc | apply Kd.S_drewN | apply Kd.S_drew)); exact HO759.out) hb); have n2_ := Aside0.mk (Kd.R_below (by (with_reducible repeat (first | apply Kd.R_alloc | apply Kd.R_drewN | apply Kd.R_drew)); exact HO762.out) hb); have n3_ := Aside0.mk (blk_below (g := gb748) (o := .cells #[.int .i64 a0_0, .slice A0_1 l0_1.length c0_1, .int .i64 a0_2, .int .i64 a0_3, .slice A0_4 l0_4.length c0_4] 69 (0, 0)) (by (with_reducible repeat (first | refine blk_drewN ?_ _ | refine blk_drew ?_ | refine blk_alloc ?_ _)); exact BK748.out) hb); have n4_ := Aside0.mk (below_step (by repeat (first | (with_reducible first | exact HB.out | apply below_alloc | apply pw_below_drewN | apply below_drew1 | refine below_set ?_ GE748.out) | exact HB.out)) hb); clear HO754; clear HO759; clear HO762; clear BK748; clear HB; have HO754 := n0_; have HO759 := n1_; have HO762 := n2_; have BK748 := n3_; have HB := n4_; clear n0_ n1_ n2_ n3_ n4_; (try clear hb); (try clear hb2); (try clear hk); (try clear hi); have hcz36_0 : w35.cell? ⟨gb748, 0, none⟩ = some (.int .i64 a0_0) := (blk_cell BK748.out 0).trans rfl; have hcz36_1 : w35.cell? ⟨gb748, 1, none⟩ = some (.slice A0_1 l0_1.length c0_1) := (blk_cell BK748.out 1).trans rfl; have hcz36_2 : w35.cell? ⟨gb748, 2, none⟩ = some (.int .i64 a0_2) := (blk_cell BK748.out 2).trans rfl; have hcz36_3 : w35.cell? ⟨gb748, 3, none⟩ = some (.int .i64 a0_3) := (blk_cell BK748.out 3).trans rfl; have hcz36_4 : w35.cell? ⟨gb748, 4, none⟩ = some (.slice A0_4 l0_4.length c0_4) := (blk_cell BK748.out 4).trans rfl; have hfz36_0 := blk_frozen BK748.out 0; have hfz36_1 := blk_frozen BK748.out 1; have hfz36_2 := blk_frozen BK748.out 2; have hfz36_3 := blk_frozen BK748.out 3; have hfz36_4 := blk_frozen BK748.out 4) | ((with_reducible refine gate_callee (f := 51) rfl ?_); refine goesL_ (some 26) rfl rfl Try.func51 (by kernel_rfl) rfl #[.agg #[.int .i64 a0_0, .slice A0_1 l0_1.length c0_1, .int .i64 a0_2, .int .i64 a0_3, .slice A0_4 l0_4.length c0_4]] rfl (by (try simp only [List.map_toArray, List.map_cons, List.map_nil]); first | done | rfl | (simp only [List.length_drop, List.length_take]; rfl)) ?_; (with_reducible refine (laws_toGroup.calls k a0_0 _ _ l0_1 a0_2 a0_3 _ _ l0_4 t764 t765 t768 t769 t770 _ ?side1 ?side2 ?side3 ?side4 A16.out).mono ?_); (case side1 => repeat (first | exact (Kd.C_below HR0_1.out HB.out) | (with_reducible refine Kd.C_alloc ?_ _) | (with_reducible refine Kd.C_drewN ?_ _) | (with_reducible refine Kd.C_drew ?_))); (case side2 => exact HC0_1.out); (case side3 => repeat (first | exact (Kd.C_below HR0_4.out HB.out) | (with_reducible refine Kd.C_alloc ?_ _) | (with_reducible refine Kd.C_drewN ?_ _) | (with_reducible refine Kd.C_drew ?_))); (case side4 => exact HC0_4.out); rintro e w37 ⟨v766, v771, rfl, ho0, ho1, hb⟩; refine ⟨_, rfl, ?_⟩; have n0_ := Aside0.mk (Kd.R_elder' (by (with_reducible repeat (first | apply Kd.R_alloc | apply Kd.R_drewN | apply Kd.R_drew)); exact HO754.out) (Kd.R_base ho0) hb); have n1_ := Aside0.mk (Kd.S_mono (Kd.S_told (Kd.S_told (Kd.S_old (by (with_reducible repeat (first | apply Kd.S_alloc | apply Kd.S_drewN | apply Kd.S_drew)); exact HO759.out) hb) (Kd.R_base ho0)) (Kd.S_base ho1)) (fun _ h_ => h_.1)); have n2_ := Aside0.mk (Kd.R_below (by (with_reducible repeat (first | apply Kd.R_alloc | apply Kd.R_drewN | apply Kd.R_drew)); exact HO762.out) hb); have n3_ := Aside0.mk (Kd.R_lower (Kd.R_new' ho0 (Kd.R_lt (by (with_reducible repeat (first | apply Kd.R_alloc | apply Kd.R_drewN | apply Kd.R_drew)); exact HO754.out))) (below_size (by repeat (first | (with_reducible first | exact HB.out | apply below_alloc | apply pw_below_drewN | apply below_drew1 | refine below_set ?_ GE748.out) | exact HB.out)))); have n4_ := Aside0.mk (Kd.S_lower (Kd.S_new' (Kd.S_new' ho1 (Kd.R_lt (by (with_reducible repeat (first | apply Kd.R_alloc | apply Kd.R_drewN | apply Kd.R_drew)); exact HO754.out))) (Kd.S_lt (by (with_reducible repeat (first | apply Kd.S_alloc | apply Kd.S_drewN | apply Kd.S_drew)); exact HO759.out))) (below_size (by repeat (first | (with_reducible first | exact HB.out | apply below_alloc | apply pw_below_drewN | apply below_drew1 | refine below_set ?_ GE748.out) | exact HB.out)))); have n5_ := Aside0.mk (blk_below (g := gb748) (o := .cells #[.int .i64 a0_0, .slice A0_1 l0_1.length c0_1, .int .i64 a0_2, .int .i64 a0_3, .slice A0_4 l0_4.length c0_4] 69 (0, 0)) (by (with_reducible repeat (first | refine blk_drewN ?_ _ | refine blk_drew ?_ | refine blk_alloc ?_ _)); exact BK748.out) hb); have n6_ := Aside0.mk (below_step (by repeat (first | (with_reducible first | exact HB.out | apply below_alloc | apply pw_below_drewN | apply below_drew1 | refine below_set ?_ GE748.out) | exact HB.out)) hb); clear HO754; clear HO759; clear HO762; clear BK748; clear HB; have HO754 := n0_; have HO759 := n1_; have HO762 := n2_; have HO767 := n3_; have HO772 := n4_; have BK748 := n5_; have HB := n6_; clear n0_ n1_ n2_ n3_ n4_ n5_ n6_; (try clear hb); (try clear hb2); (try clear hk); (try clear hi); (try clear ho0); (try clear ho1)) | ((with_reducible refine gate_dst (N := 7) rfl ?_); refine box_event ?hg (N := 7) ?hd (cs := #[.int .i64 0, .slice none 0 0, .int .i64 0, .int .i64 0, .slice none 0 0]) (t := 75) ?hr ?_; (case hd => rfl); (case hg => rfl); (case hr => first | (go_simp; done) | (go_simp; rfl)); intro gb773 hg w38 hbox hb; have n0_ := Aside0.mk (Kd.R_below (by (with_reducible repeat (first | apply Kd.R_alloc | apply Kd.R_drewN | apply Kd.R_drew)); exact HO754.out) hb); have n1_ := Aside0.mk (Kd.S_below (by (with_reducible repeat (first | apply Kd.S_alloc | apply Kd.S_drewN | apply Kd.S_drew)); exact HO759.out) hb); have n2_ := Aside0.mk (Kd.R_below (by (with_reducible repeat (first | apply Kd.R_alloc | apply Kd.R_drewN | apply Kd.R_drew)); exact HO762.out) hb); have n3_ := Aside0.mk (Kd.R_below (by (with_reducible repeat (first | apply Kd.R_alloc | apply Kd.R_drewN | apply Kd.R_drew)); exact HO767.out) hb); have n4_ := Aside0.mk (Kd.S_below (by (with_reducible repeat (first | apply Kd.S_alloc | apply Kd.S_drewN | apply Kd.S_drew)); exact HO772.out) hb); have n5_ := Aside0.mk (blk_below (g := gb748) (o := .cells #[.int .i64 a0_0, .slice A0_1 l0_1.length c0_1, .int .i64 a0_2, .int .i64 a0_3, .slice A0_4 l0_4.length c0_4] 69 (0, 0)) (by (with_reducible repeat (first | refine blk_drewN ?_ _ | refine blk_drew ?_ | refine blk_alloc ?_ _)); exact BK748.out) hb); have n6_ := Aside0.mk (below_step (by repeat (first | (with_reducible first | exact HB.out | apply below_alloc | apply pw_below_drewN | apply below_drew1 | refine below_set ?_ GE748.out) | exact HB.out)) hb); have n7_ := Aside0.mk (hbox); have n8_ := Aside0.mk ((by rw [hg]; exact (below_size (by repeat (first | (with_reducible first | exact HB.out | apply below_alloc | apply pw_below_drewN | apply below_drew1 | refine below_set ?_ GE748.out) | exact HB.out))) : w.heap.size ≤ gb773)); have n9_ := n8_; have n10_ := Aside0.mk ((by rw [hg]; exact Nat.ne_of_lt (blk_lt (g := gb748) (o := .cells #[.int .i64 a0_0, .slice A0_1 l0_1.length c0_1, .int .i64 a0_2, .int .i64 a0_3, .slice A0_4 l0_4.length c0_4] 69 (0, 0)) (by (with_reducible repeat (first | refine blk_drewN ?_ _ | refine blk_drew ?_ | refine blk_alloc ?_ _)); exact BK748.out)) : gb748 ≠ gb773)); have n11_ := Aside0.mk ((by rw [hg]; exact Nat.ne_of_gt (blk_lt (g := gb748) (o := .cells #[.int .i64 a0_0, .slice A0_1 l0_1.length c0_1, .int .i64 a0_2, .int .i64 a0_3, .slice A0_4 l0_4.length c0_4] 69 (0, 0)) (by (with_reducible repeat (first | refine blk_drewN ?_ _ | refine blk_drew ?_ | refine blk_alloc ?_ _)); exact BK748.out)) : gb773 ≠ gb748)); clear HO754; clear HO759; clear HO762; clear HO767; clear HO772; clear BK748; clear HB; have HO754 := n0_; have HO759 := n1_; have HO762 := n2_; have HO767 := n3_; have HO772 := n4_; have BK748 := n5_; have HB := n6_; have BK773 := n7_; have GW773 := n8_; have GE773 := n9_; have NB748_773 := n10_; have NB773_748 := n11_; clear n0_ n1_ n2_ n3_ n4_ n5_ n6_ n7_ n8_ n9_ n10_ n11_; clear hb hbox hg; have hnb39 := NB773_748.out; have hnc39 := NB748_773.out; have hcz40_0 : w38.cell? ⟨gb773, 0, none⟩ = some (.int .i64 0) := (blk_cell BK773.out 0).trans rfl; have hcz40_1 : w38.cell? ⟨gb773, 1, none⟩ = some (.slice none 0 0) := (blk_cell BK773.out 1).trans rfl; have hcz40_2 : w38.cell? ⟨gb773, 2, none⟩ = some (.int .i64 0) := (blk_cell BK773.out 2).trans rfl; have hcz40_3 : w38.cell? ⟨gb773, 3, none⟩ = some (.int .i64 0) := (blk_cell BK773.out 3).trans rfl; have hcz40_4 : w38.cell? ⟨gb773, 4, none⟩ = some (.slice none 0 0) := (blk_cell BK773.out 4).trans rfl; have hfz40_0 := blk_frozen BK773.out 0; have hfz40_1 := blk_frozen BK773.out 1; have hfz40_2 := blk_frozen BK773.out 2; have hfz40_3 := blk_frozen BK773.out 3; have hfz40_4 := blk_frozen BK773.out 4; obtain ⟨Ao41, co41, eo41⟩ := Kd.R_slice HO767.out; subst eo41; obtain ⟨Ao42, co42, eo42⟩ := Kd.S_slice HO772.out; subst eo42) | ((with_reducible refine gate_callee (f := 52) rfl ?_); refine goesL_ (some 28) rfl rfl Try.func52 (by kernel_rfl) rfl #[.slice A1 l1.length c1] rfl (by (try simp only [List.map_toArray, List.map_cons, List.map_nil]); first | done | rfl | (simp only [List.length_drop, List.length_take]; rfl)) ?_; (with_reducible refine (laws_toStringS.calls k _ _ l1 t774 _ ?side1 ?side2 A17.out).mono ?_); (case side1 => exact Kd.C_below HR1.out (by repeat (first | (with_reducible first | exact HB.out | apply below_alloc | apply pw_below_drewN | apply below_drew1 | refine below_set ?_ GE748.out | refine below_set ?_ GE773.out) | exact HB.out))); (case side2 => exact HC1.out); rintro e w43 ⟨v775, rfl, ho0, hb⟩; refine ⟨_, rfl, ?_⟩; have n0_ := Aside0.mk (Kd.R_below (by (with_reducible repeat (first | apply Kd.R_alloc | apply Kd.R_drewN | apply Kd.R_drew)); exact (Kd.R_mono (Kd.R_far (p := ⟨gb773, 4, none⟩) (Kd.R_far (p := ⟨gb773, 3, none⟩) (Kd.R_far (p := ⟨gb773, 2, none⟩) (Kd.R_far (p := ⟨gb773, 1, none⟩) (Kd.R_far (p := ⟨gb773, 0, none⟩) (Kd.R_types HO754.out BK773.out (by decide)) (fun _ hk => hk.2) (.int .i64 t764)) (fun _ hk => hk.2) (.slice Ao41 t765.length co41)) (fun _ hk => hk.2) (.int .i64 t768)) (fun _ hk => hk.2) (.int .i64 t769)) (fun _ hk => hk.2) (.slice Ao42 t770.length co42)) (fun _ h_ => h_.1))) hb); have n1_ := Aside0.mk (Kd.S_below (by (with_reducible repeat (first | apply Kd.S_alloc | apply Kd.S_drewN | apply Kd.S_drew)); exact (Kd.S_mono (Kd.S_far (p := ⟨gb773, 4, none⟩) (Kd.S_far (p := ⟨gb773, 3, none⟩) (Kd.S_far (p := ⟨gb773, 2, none⟩) (Kd.S_far (p := ⟨gb773, 1, none⟩) (Kd.S_far (p := ⟨gb773, 0, none⟩) (Kd.S_types HO759.out BK773.out (by decide)) (fun _ hk => hk.2) (.int .i64 t764)) (fun _ hk => hk.2) (.slice Ao41 t765.length co41)) (fun _ hk => hk.2) (.int .i64 t768)) (fun _ hk => hk.2) (.int .i64 t769)) (fun _ hk => hk.2) (.slice Ao42 t770.length co42)) (fun _ h_ => h_.1))) hb); have n2_ := Aside0.mk (Kd.R_elder' (by (with_reducible repeat (first | apply Kd.R_alloc | apply Kd.R_drewN | apply Kd.R_drew)); exact (Kd.R_mono (Kd.R_far (p := ⟨gb773, 4, none⟩) (Kd.R_far (p := ⟨gb773, 3, none⟩) (Kd.R_far (p := ⟨gb773, 2, none⟩) (Kd.R_far (p := ⟨gb773, 1, none⟩) (Kd.R_far (p := ⟨gb773, 0, none⟩) (Kd.R_types HO762.out BK773.out (by decide)) (fun _ hk => hk.2) (.int .i64 t764)) (fun _ hk => hk.2) (.slice Ao41 t765.length co41)) (fun _ hk => hk.2) (.int .i64 t768)) (fun _ hk => hk.2) (.int .i64 t769)) (fun _ hk => hk.2) (.slice Ao42 t770.length co42)) (fun _ h_ => h_.1))) (Kd.R_base ho0) hb); have n3_ := Aside0.mk (Kd.R_below (by (with_reducible repeat (first | apply Kd.R_alloc | apply Kd.R_drewN | apply Kd.R_drew)); exact (Kd.R_mono (Kd.R_far (p := ⟨gb773, 4, none⟩) (Kd.R_far (p := ⟨gb773, 3, none⟩) (Kd.R_far (p := ⟨gb773, 2, none⟩) (Kd.R_far (p := ⟨gb773, 1, none⟩) (Kd.R_far (p := ⟨gb773, 0, none⟩) (Kd.R_types HO767.out BK773.out (by decide)) (fun _ hk => hk.2) (.int .i64 t764)) (fun _ hk => hk.2) (.slice Ao41 t765.length co41)) (fun _ hk => hk.2) (.int .i64 t768)) (fun _ hk => hk.2) (.int .i64 t769)) (fun _ hk => hk.2) (.slice Ao42 t770.length co42)) (fun _ h_ => h_.1))) hb); have n4_ := Aside0.mk (Kd.S_below (by (with_reducible repeat (first | apply Kd.S_alloc | apply Kd.S_drewN | apply Kd.S_drew)); exact (Kd.S_mono (Kd.S_far (p := ⟨gb773, 4, none⟩) (Kd.S_far (p := ⟨gb773, 3, none⟩) (Kd.S_far (p := ⟨gb773, 2, none⟩) (Kd.S_far (p := ⟨gb773, 1, none⟩) (Kd.S_far (p := ⟨gb773, 0, none⟩) (Kd.S_types HO772.out BK773.out (by decide)) (fun _ hk => hk.2) (.int .i64 t764)) (fun _ hk => hk.2) (.slice Ao41 t765.length co41)) (fun _ hk => hk.2) (.int .i64 t768)) (fun _ hk => hk.2) (.int .i64 t769)) (fun _ hk => hk.2) (.slice Ao42 t770.length co42)) (fun _ h_ => h_.1))) hb); have n5_ := Aside0.mk (Kd.R_lower (Kd.R_new' ho0 (Kd.R_lt (by (with_reducible repeat (first | apply Kd.R_alloc | apply Kd.R_drewN | apply Kd.R_drew)); exact (Kd.R_mono (Kd.R_far (p := ⟨gb773, 4, none⟩) (Kd.R_far (p := ⟨gb773, 3, none⟩) (Kd.R_far (p := ⟨gb773, 2, none⟩) (Kd.R_far (p := ⟨gb773, 1, none⟩) (Kd.R_far (p := ⟨gb773, 0, none⟩) (Kd.R_types HO762.out BK773.out (by decide)) (fun _ hk => hk.2) (.int .i64 t764)) (fun _ hk => hk.2) (.slice Ao41 t765.length co41)) (fun _ hk => hk.2) (.int .i64 t768)) (fun _ hk => hk.2) (.int .i64 t769)) (fun _ hk => hk.2) (.slice Ao42 t770.length co42)) (fun _ h_ => h_.1))))) (below_size (by repeat (first | (with_reducible first | exact HB.out | apply below_alloc | apply pw_below_drewN | apply below_drew1 | refine below_set ?_ GE748.out | refine below_set ?_ GE773.out) | exact HB.out)))); have n6_ := Aside0.mk (blk_below (g := gb748) (o := .cells #[.int .i64 a0_0, .slice A0_1 l0_1.length c0_1, .int .i64 a0_2, .int .i64 a0_3, .slice A0_4 l0_4.length c0_4] 69 (0, 0)) (by (with_reducible repeat (first | refine blk_drewN ?_ _ | refine blk_drew ?_ | refine blk_alloc ?_ _)); refine blk_far ?_ NB748_773.out _; (with_reducible repeat (first | refine blk_drewN ?_ _ | refine blk_drew ?_ | refine blk_alloc ?_ _)); refine blk_far ?_ NB748_773.out _; (with_reducible repeat (first | refine blk_drewN ?_ _ | refine blk_drew ?_ | refine blk_alloc ?_ _)); refine blk_far ?_ NB748_773.out _; (with_reducible repeat (first | refine blk_drewN ?_ _ | refine blk_drew ?_ | refine blk_alloc ?_ _)); refine blk_far ?_ NB748_773.out _; (with_reducible repeat (first | refine blk_drewN ?_ _ | refine blk_drew ?_ | refine blk_alloc ?_ _)); refine blk_far ?_ NB748_773.out _; (with_reducible repeat (first | refine blk_drewN ?_ _ | refine blk_drew ?_ | refine blk_alloc ?_ _)); exact BK748.out) hb); have n7_ := Aside0.mk (blk_below (g := gb773) (o := .cells #[.int .i64 t764, .slice Ao41 t765.length co41, .int .i64 t768, .int .i64 t769, .slice Ao42 t770.length co42] 75 (0, 0)) (by (with_reducible repeat (first | refine blk_drewN ?_ _ | refine blk_drew ?_ | refine blk_alloc ?_ _)); refine blk_put (cs := #[.int .i64 t764, .slice Ao41 t765.length co41, .int .i64 t768, .int .i64 t769, .slice none 0 0]) ?_ 4 _ rfl; (with_reducible repeat (first | refine blk_drewN ?_ _ | refine blk_drew ?_ | refine blk_alloc ?_ _)); refine blk_put (cs := #[.int .i64 t764, .slice Ao41 t765.length co41, .int .i64 t768, .int .i64 0, .slice none 0 0]) ?_ 3 _ rfl; (with_reducible repeat (first | refine blk_drewN ?_ _ | refine blk_drew ?_ | refine blk_alloc ?_ _)); refine blk_put (cs := #[.int .i64 t764, .slice Ao41 t765.length co41, .int .i64 0, .int .i64 0, .slice none 0 0]) ?_ 2 _ rfl; (with_reducible repeat (first | refine blk_drewN ?_ _ | refine blk_drew ?_ | refine blk_alloc ?_ _)); refine blk_put (cs := #[.int .i64 t764, .slice none 0 0, .int .i64 0, .int .i64 0, .slice none 0 0]) ?_ 1 _ rfl; (with_reducible repeat (first | refine blk_drewN ?_ _ | refine blk_drew ?_ | refine blk_alloc ?_ _)); refine blk_put (cs := #[.int .i64 0, .slice none 0 0, .int .i64 0, .int .i64 0, .slice none 0 0]) ?_ 0 _ rfl; (with_reducible repeat (first | refine blk_drewN ?_ _ | refine blk_drew ?_ | refine blk_alloc ?_ _)); exact BK773.out) hb); have n8_ := Aside0.mk (below_step (by repeat (first | (with_reducible first | exact HB.out | apply below_alloc | apply pw_below_drewN | apply below_drew1 | refine below_set ?_ GE748.out | refine below_set ?_ GE773.out) | exact HB.out)) hb); clear HO754; clear HO759; clear HO762; clear HO767; clear HO772; clear BK748; clear BK773; clear HB; have HO754 := n0_; have HO759 := n1_; have HO762 := n2_; have HO767 := n3_; have HO772 := n4_; have HO776 := n5_; have BK748 := n6_; have BK773 := n7_; have HB := n8_; clear n0_ n1_ n2_ n3_ n4_ n5_ n6_ n7_ n8_; (try clear hb); (try clear hb2); (try clear hk); (try clear hi); (try clear ho0); have hcz44_0 : w43.cell? ⟨gb773, 0, none⟩ = some (.int .i64 t764) := (blk_cell BK773.out 0).trans rfl; have hcz44_1 : w43.cell? ⟨gb773, 1, none⟩ = some (.slice Ao41 t765.length co41) := (blk_cell BK773.out 1).trans rfl; have hcz44_2 : w43.cell? ⟨gb773, 2, none⟩ = some (.int .i64 t768) := (blk_cell BK773.out 2).trans rfl; have hcz44_3 : w43.cell? ⟨gb773, 3, none⟩ = some (.int .i64 t769) := (blk_cell BK773.out 3).trans rfl; have hcz44_4 : w43.cell? ⟨gb773, 4, none⟩ = some (.slice Ao42 t770.length co42) := (blk_cell BK773.out 4).trans rfl; have hfz44_0 := blk_frozen BK773.out 0; have hfz44_1 := blk_frozen BK773.out 1; have hfz44_2 := blk_frozen BK773.out 2; have hfz44_3 := blk_frozen BK773.out 3; have hfz44_4 := blk_frozen BK773.out 4; obtain ⟨Ao45, co45, eo45⟩ := Kd.R_slice HO776.out; subst eo45) | ((with_reducible refine gate_callee (f := 53) rfl ?_); refine goesL_ (some 31) rfl rfl Try.func53 (by kernel_rfl) rfl #[.agg #[.int .i64 t764, .slice Ao41 t765.length co41, .int .i64 t768, .int .i64 t769, .slice Ao42 t770.length co42], .slice Ao45 t774.length co45] rfl (by (try simp only [List.map_toArray, List.map_cons, List.map_nil]); first | done | rfl | (simp only [List.length_drop, List.length_take]; rfl)) ?_; (with_reducible refine (impl_GroupOk.calls k t764 _ _ t765 t768 t769 _ _ t770 _ _ t774 t777 _ ?side1 ?side2 ?side3 ?side4 ?side5 ?side6 A18.out).mono ?_); (case side1 => repeat (first | exact (Kd.R_reads' HO767.out).2.2 | (with_reducible refine Kd.C_alloc ?_ _) | (with_reducible refine Kd.C_drewN ?_ _) | (with_reducible refine Kd.C_drew ?_))); (case side2 => exact (Kd.R_reads' HO767.out).2.1); (case side3 => repeat (first | exact (Kd.S_reads' HO772.out).2.2 | (with_reducible refine Kd.C_alloc ?_ _) | (with_reducible refine Kd.C_drewN ?_ _) | (with_reducible refine Kd.C_drew ?_))); (case side4 => exact (Kd.S_reads' HO772.out).2.1); (case side5 => repeat (first | exact (Kd.R_reads' HO776.out).2.2 | (with_reducible refine Kd.C_alloc ?_ _) | (with_reducible refine Kd.C_drewN ?_ _) | (with_reducible refine Kd.C_drew ?_))); (case side6 => exact (Kd.R_reads' HO776.out).2.1); rintro e w46 ⟨rfl, hb⟩; refine ⟨_, rfl, ?_⟩; have n0_ := Aside0.mk (Kd.R_below (by (with_reducible repeat (first | apply Kd.R_alloc | apply Kd.R_drewN | apply Kd.R_drew)); exact HO754.out) hb); have n1_ := Aside0.mk (Kd.S_below (by (with_reducible repeat (first | apply Kd.S_alloc | apply Kd.S_drewN | apply Kd.S_drew)); exact HO759.out) hb); have n2_ := Aside0.mk (Kd.R_below (by (with_reducible repeat (first | apply Kd.R_alloc | apply Kd.R_drewN | apply Kd.R_drew)); exact HO762.out) hb); have n3_ := Aside0.mk (Kd.R_below (by (with_reducible repeat (first | apply Kd.R_alloc | apply Kd.R_drewN | apply Kd.R_drew)); exact HO767.out) hb); have n4_ := Aside0.mk (Kd.S_below (by (with_reducible repeat (first | apply Kd.S_alloc | apply Kd.S_drewN | apply Kd.S_drew)); exact HO772.out) hb); have n5_ := Aside0.mk (Kd.R_below (by (with_reducible repeat (first | apply Kd.R_alloc | apply Kd.R_drewN | apply Kd.R_drew)); exact HO776.out) hb); have n6_ := Aside0.mk (blk_below (g := gb748) (o := .cells #[.int .i64 a0_0, .slice A0_1 l0_1.length c0_1, .int .i64 a0_2, .int .i64 a0_3, .slice A0_4 l0_4.length c0_4] 69 (0, 0)) (by (with_reducible repeat (first | refine blk_drewN ?_ _ | refine blk_drew ?_ | refine blk_alloc ?_ _)); exact BK748.out) hb); have n7_ := Aside0.mk (blk_below (g := gb773) (o := .cells #[.int .i64 t764, .slice Ao41 t765.length co41, .int .i64 t768, .int .i64 t769, .slice Ao42 t770.length co42] 75 (0, 0)) (by (with_reducible repeat (first | refine blk_drewN ?_ _ | refine blk_drew ?_ | refine blk_alloc ?_ _)); exact BK773.out) hb); have n8_ := Aside0.mk (below_step (by repeat (first | (with_reducible first | exact HB.out | apply below_alloc | apply pw_below_drewN | apply below_drew1 | refine below_set ?_ GE748.out | refine below_set ?_ GE773.out) | exact HB.out)) hb); clear HO754; clear HO759; clear HO762; clear HO767; clear HO772; clear HO776; clear BK748; clear BK773; clear HB; have HO754 := n0_; have HO759 := n1_; have HO762 := n2_; have HO767 := n3_; have HO772 := n4_; have HO776 := n5_; have BK748 := n6_; have BK773 := n7_; have HB := n8_; clear n0_ n1_ n2_ n3_ n4_ n5_ n6_ n7_ n8_; (try clear hb); (try clear hb2); (try clear hk); (try clear hi)))
   have n0_ := Aside0.mk (Kd.R_drew HO754.out)
   have n1_ := Aside0.mk (Kd.S_drew HO759.out)
   have n2_ := Aside0.mk (Kd.R_drew HO762.out)
   have n3_ := Aside0.mk (Kd.R_drew HO767.out)
   have n4_ := Aside0.mk (Kd.S_drew HO772.out)
   have n5_ := Aside0.mk (Kd.R_drew HO776.out)
   have n6_ := Aside0.mk (blk_drew BK748.out)
   have n7_ := Aside0.mk (blk_drew BK773.out)
   have n8_ := Aside0.mk (below_drew1 HB.out)
   clear HO754
   clear HO759
   clear HO762
   clear HO767
   clear HO772
   clear HO776
   clear BK748
   clear BK773
   clear HB
   have HO754 := n0_
   have HO759 := n1_
   have HO762 := n2_
   have HO767 := n3_
   have HO772 := n4_
   have HO776 := n5_
   have BK748 := n6_
   have BK773 := n7_
   have HB := n8_
   clear n0_ n1_ n2_ n3_ n4_ n5_ n6_ n7_ n8_
   refine start_ (n := 5) (S := fun w' => w'.cell? ⟨gb773, 0, none⟩ = some (.int .i64 t764) ∧ w'.cell? ⟨gb773, 1, none⟩ = some (.slice Ao41 t765.length co41) ∧ w'.cell? ⟨gb773, 2, none⟩ = some (.int .i64 t768) ∧ w'.cell? ⟨gb773, 3, none⟩ = some (.int .i64 t769) ∧ w'.cell? ⟨gb773, 4, none⟩ = some (.slice Ao42 t770.length co42) ∧ w'.cell? ⟨gb748, 0, none⟩ = some (.int .i64 a0_0) ∧ w'.cell? ⟨gb748, 1, none⟩ = some (.slice A0_1 l0_1.length c0_1) ∧ w'.cell? ⟨gb748, 2, none⟩ = some (.int .i64 a0_2) ∧ w'.cell? ⟨gb748, 3, none⟩ = some (.int .i64 a0_3) ∧ w'.cell? ⟨gb748, 4, none⟩ = some (.slice A0_4 l0_4.length c0_4)) (ds := []) #[f_,f_,f_,f_,f_] (by kernel_rfl) rfl rfl ⟨(blk_cell BK773.out 0).trans rfl, (blk_cell BK773.out 1).trans rfl, (blk_cell BK773.out 2).trans rfl, (blk_cell BK773.out 3).trans rfl, (blk_cell BK773.out 4).trans rfl, (blk_cell BK748.out 0).trans rfl, (blk_cell BK748.out 1).trans rfl, (blk_cell BK748.out 2).trans rfl, (blk_cell BK748.out 3).trans rfl, (blk_cell BK748.out 4).trans rfl⟩ (fun hHeld => ?_)
   generalize w46.drew = w47 at HO754 HO759 HO762 HO767 HO772 HO776 BK748 BK773 HB hHeld ⊢
   refine take_ (i := 0) (N := some 35) (v := ?_) (a' := ?_) #[t_,f_,f_,f_,f_] rfl rfl (by kernel_rfl) (fun _ _ _ h => h) (Or.inl ⟨by rfl, ?_⟩) hHeld ?_ ?_
   rotate_left
   ·
    rintro w' ⟨s0, s1, s2, s3, s4, s5, s6, s7, s8, s9⟩
    go_simp
    with_reducible rfl
   rotate_left
   ·
    simp only [fr_]
    rfl
   refine take_ (i := 1) (N := some 36) (v := ?_) (a' := ?_) #[t_,t_,f_,f_,f_] rfl rfl (by kernel_rfl) (fun _ _ _ h => h) (Or.inl ⟨by rfl, ?_⟩) hHeld ?_ ?_
   rotate_left
   ·
    rintro w' ⟨s0, s1, s2, s3, s4, s5, s6, s7, s8, s9⟩
    go_simp
    with_reducible rfl
   rotate_left
   ·
    simp only [fr_]
    rfl
   refine one_ (i := 2) (N := some 37) #[t_,t_,t_,f_,f_] rfl rfl (by kernel_rfl) (by decide) (fun K hK => ?_)
   refine goes_ Try.func51 (by kernel_rfl) rfl #[.agg #[.int .i64 a0_0, .slice A0_1 l0_1.length c0_1, .int .i64 a0_2, .int .i64 a0_3, .slice A0_4 l0_4.length c0_4]] (by rfl) rfl rfl (by (try simp only [List.map_toArray, List.map_cons, List.map_nil]); first | done | rfl | (simp only [List.length_drop, List.length_take]; rfl)) ?_
   with_reducible refine (laws_toGroup.calls k a0_0 _ _ l0_1 a0_2 a0_3 _ _ l0_4 t778 t779 t782 t783 t784 _ ?side1 ?side2 ?side3 ?side4 A20.out).mono ?_
   (case side1 => repeat (first | exact (Kd.C_below HR0_1.out HB.out) | (with_reducible refine Kd.C_alloc ?_ _) | (with_reducible refine Kd.C_drewN ?_ _) | (with_reducible refine Kd.C_drew ?_)))
   (case side2 => exact HC0_1.out)
   (case side3 => repeat (first | exact (Kd.C_below HR0_4.out HB.out) | (with_reducible refine Kd.C_alloc ?_ _) | (with_reducible refine Kd.C_drewN ?_ _) | (with_reducible refine Kd.C_drew ?_)))
   (case side4 => exact HC0_4.out)
   rintro e w48 ⟨v780, v785, rfl, ho0, ho1, hb⟩
   refine ⟨_, rfl, ?_⟩
   have n0_ := Aside0.mk (Kd.R_elder' (by (with_reducible repeat (first | apply Kd.R_alloc | apply Kd.R_drewN | apply Kd.R_drew)); exact HO754.out) (Kd.R_base ho0) hb)
   have n1_ := Aside0.mk (Kd.S_mono (Kd.S_told (Kd.S_told (Kd.S_old (by (with_reducible repeat (first | apply Kd.S_alloc | apply Kd.S_drewN | apply Kd.S_drew)); exact HO759.out) hb) (Kd.R_base ho0)) (Kd.S_base ho1)) (fun _ h_ => h_.1))
   have n2_ := Aside0.mk (Kd.R_below (by (with_reducible repeat (first | apply Kd.R_alloc | apply Kd.R_drewN | apply Kd.R_drew)); exact HO762.out) hb)
   have n3_ := Aside0.mk (Kd.R_elder' (by (with_reducible repeat (first | apply Kd.R_alloc | apply Kd.R_drewN | apply Kd.R_drew)); exact HO767.out) (Kd.R_base ho0) hb)
   have n4_ := Aside0.mk (Kd.S_mono (Kd.S_told (Kd.S_told (Kd.S_old (by (with_reducible repeat (first | apply Kd.S_alloc | apply Kd.S_drewN | apply Kd.S_drew)); exact HO772.out) hb) (Kd.R_base ho0)) (Kd.S_base ho1)) (fun _ h_ => h_.1))
   have n5_ := Aside0.mk (Kd.R_below (by (with_reducible repeat (first | apply Kd.R_alloc | apply Kd.R_drewN | apply Kd.R_drew)); exact HO776.out) hb)
   have n6_ := Aside0.mk (Kd.R_lower (Kd.R_new' (Kd.R_new' ho0 (Kd.R_lt (by (with_reducible repeat (first | apply Kd.R_alloc | apply Kd.R_drewN | apply Kd.R_drew)); exact HO754.out))) (Kd.R_lt (by (with_reducible repeat (first | apply Kd.R_alloc | apply Kd.R_drewN | apply Kd.R_drew)); exact HO767.out))) (below_size (by repeat (first | (with_reducible first | exact HB.out | apply below_alloc | apply pw_below_drewN | apply below_drew1 | refine below_set ?_ GE748.out | refine below_set ?_ GE773.out) | exact HB.out))))
   have n7_ := Aside0.mk (Kd.S_lower (Kd.S_new' (Kd.S_new' (Kd.S_new' (Kd.S_new' ho1 (Kd.R_lt (by (with_reducible repeat (first | apply Kd.R_alloc | apply Kd.R_drewN | apply Kd.R_drew)); exact HO754.out))) (Kd.S_lt (by (with_reducible repeat (first | apply Kd.S_alloc | apply Kd.S_drewN | apply Kd.S_drew)); exact HO759.out))) (Kd.R_lt (by (with_reducible repeat (first | apply Kd.R_alloc | apply Kd.R_drewN | apply Kd.R_drew)); exact HO767.out))) (Kd.S_lt (by (with_reducible repeat (first | apply Kd.S_alloc | apply Kd.S_drewN | apply Kd.S_drew)); exact HO772.out))) (below_size (by repeat (first | (with_reducible first | exact HB.out | apply below_alloc | apply pw_below_drewN | apply below_drew1 | refine below_set ?_ GE748.out | refine below_set ?_ GE773.out) | exact HB.out))))
   have n8_ := Aside0.mk (blk_below (g := gb748) (o := .cells #[.int .i64 a0_0, .slice A0_1 l0_1.length c0_1, .int .i64 a0_2, .int .i64 a0_3, .slice A0_4 l0_4.length c0_4] 69 (0, 0)) (by (with_reducible repeat (first | refine blk_drewN ?_ _ | refine blk_drew ?_ | refine blk_alloc ?_ _)); exact BK748.out) hb)
   have n9_ := Aside0.mk (blk_below (g := gb773) (o := .cells #[.int .i64 t764, .slice Ao41 t765.length co41, .int .i64 t768, .int .i64 t769, .slice Ao42 t770.length co42] 75 (0, 0)) (by (with_reducible repeat (first | refine blk_drewN ?_ _ | refine blk_drew ?_ | refine blk_alloc ?_ _)); exact BK773.out) hb)
   have n10_ := Aside0.mk (below_step (by repeat (first | (with_reducible first | exact HB.out | apply below_alloc | apply pw_below_drewN | apply below_drew1 | refine below_set ?_ GE748.out | refine below_set ?_ GE773.out) | exact HB.out)) hb)
   clear HO754
   clear HO759
   clear HO762
   clear HO767
   clear HO772
   clear HO776
   clear BK748
   clear BK773
   clear HB
   have HO754 := n0_
   have HO759 := n1_
   have HO762 := n2_
   have HO767 := n3_
   have HO772 := n4_
   have HO776 := n5_
   have HO781 := n6_
   have HO786 := n7_
   have BK748 := n8_
   have BK773 := n9_
   have HB := n10_
   clear n0_ n1_ n2_ n3_ n4_ n5_ n6_ n7_ n8_ n9_ n10_
   (try clear hb)
   (try clear hb2)
   (try clear hk)
   (try clear hi)
   (try clear ho0)
   (try clear ho1)
   obtain ⟨Ao49, co49, eo49⟩ := Kd.R_slice HO781.out
   (first | subst eo49 | (injection eo49 with f1_ f2_ f3_; have f4_ := f1_.symm; have f5_ := f3_.symm; clear f1_ f2_ f3_; subst f4_; subst f5_))
   obtain ⟨Ao50, co50, eo50⟩ := Kd.S_slice HO786.out
   (first | subst eo50 | (injection eo50 with f1_ f2_ f3_; have f4_ := f1_.symm; have f5_ := f3_.symm; clear f1_ f2_ f3_; subst f4_; subst f5_))
   refine hK.out _ _ ⟨(blk_cell BK773.out 0).trans rfl, (blk_cell BK773.out 1).trans rfl, (blk_cell BK773.out 2).trans rfl, (blk_cell BK773.out 3).trans rfl, (blk_cell BK773.out 4).trans rfl, (blk_cell BK748.out 0).trans rfl, (blk_cell BK748.out 1).trans rfl, (blk_cell BK748.out 2).trans rfl, (blk_cell BK748.out 3).trans rfl, (blk_cell BK748.out 4).trans rfl⟩ (fun hHeld => ?_)
   clear hK K
   refine norm_ (a' := ?_) ?_ ?_
   rotate_left
   ·
    show Act.put _ (some 37) _ = _
    simp only [fr_]
    rfl
   refine one_ (i := 3) (N := some 38) #[t_,t_,t_,t_,f_] rfl rfl (by kernel_rfl) (by decide) (fun K hK => ?_)
   refine goes_ Try.func54 (by kernel_rfl) rfl #[.agg #[.int .i64 t764, .slice Ao41 t765.length co41, .int .i64 t768, .int .i64 t769, .slice Ao42 t770.length co42], .agg #[.int .i64 t778, .slice Ao49 t779.length co49, .int .i64 t782, .int .i64 t783, .slice Ao50 t784.length co50]] (by rfl) rfl rfl (by (try simp only [List.map_toArray, List.map_cons, List.map_nil]); first | done | rfl | (simp only [List.length_drop, List.length_take]; rfl)) ?_
   with_reducible refine (laws_eqGroup.calls k t764 _ _ t765 t768 t769 _ _ t770 t778 _ _ t779 t782 t783 _ _ t784 true _ ?side1 ?side2 ?side3 ?side4 ?side5 ?side6 ?side7 ?side8 A21.out).mono ?_
   (case side1 => repeat (first | exact (Kd.R_reads' HO767.out).2.2 | (with_reducible refine Kd.C_alloc ?_ _) | (with_reducible refine Kd.C_drewN ?_ _) | (with_reducible refine Kd.C_drew ?_)))
   (case side2 => exact (Kd.R_reads' HO767.out).2.1)
   (case side3 => repeat (first | exact (Kd.S_reads' HO772.out).2.2 | (with_reducible refine Kd.C_alloc ?_ _) | (with_reducible refine Kd.C_drewN ?_ _) | (with_reducible refine Kd.C_drew ?_)))
   (case side4 => exact (Kd.S_reads' HO772.out).2.1)
   (case side5 => repeat (first | exact (Kd.R_reads' HO781.out).2.2 | (with_reducible refine Kd.C_alloc ?_ _) | (with_reducible refine Kd.C_drewN ?_ _) | (with_reducible refine Kd.C_drew ?_)))
   (case side6 => exact (Kd.R_reads' HO781.out).2.1)
   (case side7 => repeat (first | exact (Kd.S_reads' HO786.out).2.2 | (with_reducible refine Kd.C_alloc ?_ _) | (with_reducible refine Kd.C_drewN ?_ _) | (with_reducible refine Kd.C_drew ?_)))
   (case side8 => exact (Kd.S_reads' HO786.out).2.1)
   rintro e w51 ⟨rfl, hb⟩
   refine ⟨_, rfl, ?_⟩
   have n0_ := Aside0.mk (Kd.R_below (by (with_reducible repeat (first | apply Kd.R_alloc | apply Kd.R_drewN | apply Kd.R_drew)); exact HO754.out) hb)
   have n1_ := Aside0.mk (Kd.S_below (by (with_reducible repeat (first | apply Kd.S_alloc | apply Kd.S_drewN | apply Kd.S_drew)); exact HO759.out) hb)
   have n2_ := Aside0.mk (Kd.R_below (by (with_reducible repeat (first | apply Kd.R_alloc | apply Kd.R_drewN | apply Kd.R_drew)); exact HO762.out) hb)
   have n3_ := Aside0.mk (Kd.R_below (by (with_reducible repeat (first | apply Kd.R_alloc | apply Kd.R_drewN | apply Kd.R_drew)); exact HO767.out) hb)
   have n4_ := Aside0.mk (Kd.S_below (by (with_reducible repeat (first | apply Kd.S_alloc | apply Kd.S_drewN | apply Kd.S_drew)); exact HO772.out) hb)
   have n5_ := Aside0.mk (Kd.R_below (by (with_reducible repeat (first | apply Kd.R_alloc | apply Kd.R_drewN | apply Kd.R_drew)); exact HO776.out) hb)
   have n6_ := Aside0.mk (Kd.R_below (by (with_reducible repeat (first | apply Kd.R_alloc | apply Kd.R_drewN | apply Kd.R_drew)); exact HO781.out) hb)
   have n7_ := Aside0.mk (Kd.S_below (by (with_reducible repeat (first | apply Kd.S_alloc | apply Kd.S_drewN | apply Kd.S_drew)); exact HO786.out) hb)
   have n8_ := Aside0.mk (blk_below (g := gb748) (o := .cells #[.int .i64 a0_0, .slice A0_1 l0_1.length c0_1, .int .i64 a0_2, .int .i64 a0_3, .slice A0_4 l0_4.length c0_4] 69 (0, 0)) (by (with_reducible repeat (first | refine blk_drewN ?_ _ | refine blk_drew ?_ | refine blk_alloc ?_ _)); exact BK748.out) hb)
   have n9_ := Aside0.mk (blk_below (g := gb773) (o := .cells #[.int .i64 t764, .slice Ao41 t765.length co41, .int .i64 t768, .int .i64 t769, .slice Ao42 t770.length co42] 75 (0, 0)) (by (with_reducible repeat (first | refine blk_drewN ?_ _ | refine blk_drew ?_ | refine blk_alloc ?_ _)); exact BK773.out) hb)
   have n10_ := Aside0.mk (below_step (by repeat (first | (with_reducible first | exact HB.out | apply below_alloc | apply pw_below_drewN | apply below_drew1 | refine below_set ?_ GE748.out | refine below_set ?_ GE773.out) | exact HB.out)) hb)
   clear HO754
   clear HO759
   clear HO762
   clear HO767
   clear HO772
   clear HO776
   clear HO781
   clear HO786
   clear BK748
   clear BK773
   clear HB
   have HO754 := n0_
   have HO759 := n1_
   have HO762 := n2_
   have HO767 := n3_
   have HO772 := n4_
   have HO776 := n5_
   have HO781 := n6_
   have HO786 := n7_
   have BK748 := n8_
   have BK773 := n9_
   have HB := n10_
   clear n0_ n1_ n2_ n3_ n4_ n5_ n6_ n7_ n8_ n9_ n10_
   (try clear hb)
   (try clear hb2)
   (try clear hk)
   (try clear hi)
   refine hK.out _ _ ⟨(blk_cell BK773.out 0).trans rfl, (blk_cell BK773.out 1).trans rfl, (blk_cell BK773.out 2).trans rfl, (blk_cell BK773.out 3).trans rfl, (blk_cell BK773.out 4).trans rfl, (blk_cell BK748.out 0).trans rfl, (blk_cell BK748.out 1).trans rfl, (blk_cell BK748.out 2).trans rfl, (blk_cell BK748.out 3).trans rfl, (blk_cell BK748.out 4).trans rfl⟩ (fun hHeld => ?_)
   clear hK K
   refine norm_ (a' := ?_) ?_ ?_
   rotate_left
   ·
    show Act.put _ (some 38) _ = _
    simp only [fr_]
    rfl
   refine pure_ (i := 4) (N := some 39) (v := ?_) (a' := ?_) #[t_,t_,t_,t_,t_] rfl rfl (by kernel_rfl) (fun _ _ _ h => h) (Or.inl ⟨by rfl, ?_⟩) ?_ ?_
   rotate_left
   ·
    intro w'
    go_simp
    with_reducible rfl
   rotate_left
   ·
    simp only [fr_]
    rfl
   refine done_ (by kernel_rfl) ?_
   try go_wp2_with (first | ((with_reducible refine gate_callee (f := 52) rfl ?_); refine goesL_ (some 42) rfl rfl Try.func52 (by kernel_rfl) rfl #[.slice A1 l1.length c1] rfl (by (try simp only [List.map_toArray, List.map_cons, List.map_nil]); first | done | rfl | (simp only [List.length_drop, List.length_take]; rfl)) ?_; (with_reducible refine (laws_toStringS.calls k _ _ l1 t788 _ ?side1 ?side2 A23.out).mono ?_); (case side1 => repeat (first | exact (Kd.C_below HR1.out HB.out) | (with_reducible refine Kd.C_alloc ?_ _) | (with_reducible refine Kd.C_drewN ?_ _) | (with_reducible refine Kd.C_drew ?_))); (case side2 => exact HC1.out); rintro e w52 ⟨v789, rfl, ho0, hb⟩; refine ⟨_, rfl, ?_⟩; have n0_ := Aside0.mk (Kd.R_below (by (with_reducible repeat (first | apply Kd.R_alloc | apply Kd.R_drewN | apply Kd.R_drew)); exact HO754.out) hb); have n1_ := Aside0.mk (Kd.S_below (by (with_reducible repeat (first | apply Kd.S_alloc | apply Kd.S_drewN | apply Kd.S_drew)); exact HO759.out) hb); have n2_ := Aside0.mk (Kd.R_elder' (by (with_reducible repeat (first | apply Kd.R_alloc | apply Kd.R_drewN | apply Kd.R_drew)); exact HO762.out) (Kd.R_base ho0) hb); have n3_ := Aside0.mk (Kd.R_below (by (with_reducible repeat (first | apply Kd.R_alloc | apply Kd.R_drewN | apply Kd.R_drew)); exact HO767.out) hb); have n4_ := Aside0.mk (Kd.S_below (by (with_reducible repeat (first | apply Kd.S_alloc | apply Kd.S_drewN | apply Kd.S_drew)); exact HO772.out) hb); have n5_ := Aside0.mk (Kd.R_elder' (by (with_reducible repeat (first | apply Kd.R_alloc | apply Kd.R_drewN | apply Kd.R_drew)); exact HO776.out) (Kd.R_base ho0) hb); have n6_ := Aside0.mk (Kd.R_below (by (with_reducible repeat (first | apply Kd.R_alloc | apply Kd.R_drewN | apply Kd.R_drew)); exact HO781.out) hb); have n7_ := Aside0.mk (Kd.S_below (by (with_reducible repeat (first | apply Kd.S_alloc | apply Kd.S_drewN | apply Kd.S_drew)); exact HO786.out) hb); have n8_ := Aside0.mk (Kd.R_lower (Kd.R_new' (Kd.R_new' ho0 (Kd.R_lt (by (with_reducible repeat (first | apply Kd.R_alloc | apply Kd.R_drewN | apply Kd.R_drew)); exact HO762.out))) (Kd.R_lt (by (with_reducible repeat (first | apply Kd.R_alloc | apply Kd.R_drewN | apply Kd.R_drew)); exact HO776.out))) (below_size (by repeat (first | (with_reducible first | exact HB.out | apply below_alloc | apply pw_below_drewN | apply below_drew1 | refine below_set ?_ GE748.out | refine below_set ?_ GE773.out) | exact HB.out)))); have n9_ := Aside0.mk (blk_below (g := gb748) (o := .cells #[.int .i64 a0_0, .slice A0_1 l0_1.length c0_1, .int .i64 a0_2, .int .i64 a0_3, .slice A0_4 l0_4.length c0_4] 69 (0, 0)) (by (with_reducible repeat (first | refine blk_drewN ?_ _ | refine blk_drew ?_ | refine blk_alloc ?_ _)); exact BK748.out) hb); have n10_ := Aside0.mk (blk_below (g := gb773) (o := .cells #[.int .i64 t764, .slice Ao41 t765.length co41, .int .i64 t768, .int .i64 t769, .slice Ao42 t770.length co42] 75 (0, 0)) (by (with_reducible repeat (first | refine blk_drewN ?_ _ | refine blk_drew ?_ | refine blk_alloc ?_ _)); exact BK773.out) hb); have n11_ := Aside0.mk (below_step (by repeat (first | (with_reducible first | exact HB.out | apply below_alloc | apply pw_below_drewN | apply below_drew1 | refine below_set ?_ GE748.out | refine below_set ?_ GE773.out) | exact HB.out)) hb); clear HO754; clear HO759; clear HO762; clear HO767; clear HO772; clear HO776; clear HO781; clear HO786; clear BK748; clear BK773; clear HB; have HO754 := n0_; have HO759 := n1_; have HO762 := n2_; have HO767 := n3_; have HO772 := n4_; have HO776 := n5_; have HO781 := n6_; have HO786 := n7_; have HO790 := n8_; have BK748 := n9_; have BK773 := n10_; have HB := n11_; clear n0_ n1_ n2_ n3_ n4_ n5_ n6_ n7_ n8_ n9_ n10_ n11_; (try clear hb); (try clear hb2); (try clear hk); (try clear hi); (try clear ho0); obtain ⟨Ao53, co53, eo53⟩ := Kd.R_slice HO790.out; subst eo53) | ((with_reducible refine gate_callee (f := 55) rfl ?_); refine goesL_ (some 43) rfl rfl Try.func55 (by kernel_rfl) rfl #[.slice Ao45 t774.length co45, .slice Ao53 t788.length co53] rfl (by (try simp only [List.map_toArray, List.map_cons, List.map_nil]); first | done | rfl | (simp only [List.length_drop, List.length_take]; rfl)) ?_; (with_reducible refine (laws_eqStringS.calls k _ _ t774 _ _ t788 true _ ?side1 ?side2 ?side3 ?side4 A24.out).mono ?_); (case side1 => repeat (first | exact (Kd.R_reads' HO776.out).2.2 | (with_reducible refine Kd.C_alloc ?_ _) | (with_reducible refine Kd.C_drewN ?_ _) | (with_reducible refine Kd.C_drew ?_))); (case side2 => exact (Kd.R_reads' HO776.out).2.1); (case side3 => repeat (first | exact (Kd.R_reads' HO790.out).2.2 | (with_reducible refine Kd.C_alloc ?_ _) | (with_reducible refine Kd.C_drewN ?_ _) | (with_reducible refine Kd.C_drew ?_))); (case side4 => exact (Kd.R_reads' HO790.out).2.1); rintro e w' ⟨rfl, ⟨nd, rfl⟩⟩; refine ⟨_, rfl, ?_⟩))
   go_ret
   exact ⟨by first | rfl | (simp [errW_none, errW_some] <;> rfl) | (simp [*, errW_none, errW_some] <;> rfl), by repeat (first | (with_reducible first | exact HB.out | apply below_alloc | apply pw_below_drewN | apply below_drew1 | refine below_set ?_ GE748.out | refine below_set ?_ GE773.out) | exact HB.out)⟩
  replace c25 := Bool.eq_false_iff.mpr c25
  subst c25
  have H1 : (none) = some r := by rw [if_neg (show ¬ (false = true) by decide)] at H; exact H
  clear H
  have H := H1
  clear H1
  exact absurd H (by simp)
 replace c22 := Bool.eq_false_iff.mpr c22
 subst c22
 have H1 : (none) = some r := by rw [if_neg (show ¬ (false = true) by decide)] at H; exact H
 clear H
 have H := H1
 clear H1
 exact absurd H (by simp)

end Go.Proofs.Ytfholjcelnkleaa.Print
end
section
namespace Go.Proofs.Ytfholjcelnkleaa.Print
open Go.RowKit Go.Proofs.YtfholjcelnkleaaV.PrintWords Go.Proofs.YtfholjcelnkleaaV.PrintLast Go.Proofs.YtfholjcelnkleaaV.PrintMore
set_option linter.unusedVariables false
/-- The pure statement of laws_FnExactGroupOk. -/
def laws_FnExactGroupOk.Pure : Prop := ∀ (a0_0 : Int) (l0_1 : List (S163)) (a0_2 : Int) (a0_3 : Int) (l0_4 : List (S34)) (l1 : List ByteArray), (Lit.int .i64 a0_0).wf = true → (l0_1.length ≤ maxLen ∧ ∀ y ∈ l0_1, B163 y) → (Lit.int .i64 a0_2).wf = true → (Lit.int .i64 a0_3).wf = true → (l0_4.length ≤ maxLen ∧ ∀ y ∈ l0_4, B34 y) → (l1.length ≤ maxLen ∧ ∀ y ∈ l1, y.size ≤ maxLen) → ∃ k, laws_FnExactGroupOk.f k a0_0 l0_1 a0_2 a0_3 l0_4 l1 = some true
end Go.Proofs.Ytfholjcelnkleaa.Print
end
section
namespace Go.Proofs.Ytfholjcelnkleaa.Print
open Go.RowKit Go.Proofs.YtfholjcelnkleaaV.PrintWords Go.Proofs.YtfholjcelnkleaaV.PrintLast Go.Proofs.YtfholjcelnkleaaV.PrintMore
set_option linter.unusedVariables false
set_option linter.unusedSimpArgs false
theorem wrap_id {x : Int} (h1 : -9223372036854775808 ≤ x) (h2 : x ≤ 9223372036854775807) : wrap64 x = x := by unfold wrap64; omega
theorem wrap_up (n : Nat) (h : n < 9223372036854775807) : wrap64 ((n : Int) + 1) = ((n + 1 : Nat) : Int) := by unfold wrap64; omega
theorem Ev.const {α : Type} {o : Option α} {r : α} (h : o = some r) : Ev (fun _ => o) r := ⟨0, fun _ _ => h⟩
theorem Ev.uniq {α : Type} {g : Nat → Option α} {a b : α} (h : Ev g a) (h' : Ev g b) : a = b := by
  obtain ⟨K, h⟩ := h
  obtain ⟨K', h'⟩ := h'
  exact Option.some.inj ((h (max K K') (Nat.le_max_left _ _)).symm.trans (h' _ (Nat.le_max_right _ _)))
theorem getD_mid {α : Type} (pre suf : List α) (y z : α) : (pre ++ y :: suf).getD pre.length z = y := by simp
theorem set_mid {α : Type} (pre suf : List α) (y v : α) : (pre ++ y :: suf).set pre.length v = pre ++ v :: suf := by simp
theorem lt_mid {α : Type} (pre suf : List α) (y : α) : (pre.length : Int) < ((pre ++ y :: suf).length : Int) := by simp only [List.length_append, List.length_cons]; omega
theorem not_lt_end {α : Type} (pre : List α) : ¬ ((pre.length : Int) < ((pre ++ []).length : Int)) := by simp
theorem nn (n : Nat) : (0 : Int) ≤ (n : Int) := by omega
theorem mid_assoc {α : Type} (pre suf : List α) (y : α) : pre ++ y :: suf = (pre ++ [y]) ++ suf := by simp
theorem not_neg12 (n : Nat) : ¬ (1 + 2 * (n : Int) < 0) := by omega

end Go.Proofs.Ytfholjcelnkleaa.Print
end
section
namespace Go.Proofs.Ytfholjcelnkleaa.Print
open Go.RowKit Go.Proofs.YtfholjcelnkleaaV.PrintWords Go.Proofs.YtfholjcelnkleaaV.PrintLast Go.Proofs.YtfholjcelnkleaaV.PrintMore
set_option linter.unusedVariables false
set_option linter.unusedSimpArgs false
def cvLabel (x : S163) : S164 := ⟨x.f0, x.f1⟩
def WLabel (x : S163) : Prop := x.f0.size ≤ 1048576 ∧ x.f1.size ≤ 1048576
def WiLabel (x : S164) : Prop := x.f0.size ≤ 4000000 ∧ x.f1.size ≤ 4000000
theorem Wi_cvLabel {x : S163} (h : WLabel x) : WiLabel (cvLabel x) := ⟨Nat.le_trans h.1 (by decide), Nat.le_trans h.2 (by decide)⟩
theorem szLabel_ev (x : S163) (hB : B163 x) (n : Int) (h0 : 0 ≤ n) (h1 : n ≤ 1048576) : ∃ r, Ev (fun k => laws_szLabel.f x.f0 x.f1 n) r ∧ r ≤ n ∧ (0 ≤ r → WLabel x) := by
  have q1 : x.f0.size ≤ 9223372036854775807 := hB.1
  have e1 : wrap64 (n - (x.f0.size : Int)) = n - (x.f0.size : Int) := wrap_id (by omega) (by omega)
  by_cases c1 : n - (x.f0.size : Int) < 0
  · exact ⟨-1, ⟨0, fun k hk => by simp [laws_szLabel.f, e1, c1]⟩, by omega, by omega⟩
  have q2 : x.f1.size ≤ 9223372036854775807 := hB.2
  have e2 : wrap64 ((n - (x.f0.size : Int)) - (x.f1.size : Int)) = (n - (x.f0.size : Int)) - (x.f1.size : Int) := wrap_id (by omega) (by omega)
  by_cases c2 : (n - (x.f0.size : Int)) - (x.f1.size : Int) < 0
  · exact ⟨-1, ⟨0, fun k hk => by simp [laws_szLabel.f, e1, c1, e2, c2]⟩, by omega, by omega⟩
  exact ⟨((n - (x.f0.size : Int)) - (x.f1.size : Int)), ⟨0, fun k hk => by simp [laws_szLabel.f, e1, c1, e2, c2]⟩, by omega, fun _ => ⟨(by omega), (by omega)⟩⟩
theorem toLabel_ev (x : S163) (h : WLabel x) : Ev (fun k => laws_toLabel.f x.f0 x.f1) ((cvLabel x).f0, (cvLabel x).f1) := by
  exact ⟨0, fun k hk => by simp [laws_toLabel.f, cvLabel]⟩
theorem eqLabel_ev (x : S164) (h : WiLabel x) : Ev (fun k => laws_eqLabel.f x.f0 x.f1 x.f0 x.f1) true := by
  exact ⟨0, fun k hk => by simp [laws_eqLabel.f]⟩

end Go.Proofs.Ytfholjcelnkleaa.Print
end
section
namespace Go.Proofs.Ytfholjcelnkleaa.Print
open Go.RowKit Go.Proofs.YtfholjcelnkleaaV.PrintWords Go.Proofs.YtfholjcelnkleaaV.PrintLast Go.Proofs.YtfholjcelnkleaaV.PrintMore
set_option linter.unusedVariables false
set_option linter.unusedSimpArgs false
theorem rdmidLabell (pre suf : List S163) (y : S163) : rd_T163 (pre ++ y :: suf) (pre.length : Int) = y := by unfold rd_T163; simp
theorem rdmidLabeli (pre suf : List S164) (y : S164) : rd_T164 (pre ++ y :: suf) (pre.length : Int) = y := by unfold rd_T164; simp
theorem szLabelS_l0 : ∀ (suf pre : List S163) (n : Int), 0 ≤ n → n ≤ 1048576 → (∀ y ∈ suf, B163 y) → (pre ++ suf).length < 4611686018427387904 → ∃ r, Ev (fun k => laws_szLabelS.l0 k (pre ++ suf) n (pre.length : Int)) r ∧ r ≤ n ∧ (0 ≤ r → ∀ y ∈ suf, WLabel y)
  | [], pre, n, h0, h1, hB, h => by
    refine ⟨n, Ev.step (f := fun _ => some n) (fun k => ?_) (Ev.now _), Int.le_refl _, fun _ y hy => by cases hy⟩
    simp only [laws_szLabelS.l0]
    rw [if_neg (not_lt_end pre)]
  | y :: suf, pre, n, h0, h1, hB, h => by
    have hp : pre.length < 4611686018427387904 := by simp at h; omega
    have hy := hB y List.mem_cons_self
    obtain ⟨r1, g1, l1, w1⟩ := szLabel_ev y hy n h0 h1
    by_cases c : r1 < 0
    · refine ⟨-1, Ev.step (f := fun k => (laws_szLabel.f y.f0 y.f1 n).bind fun t => if t < 0 then some (-1) else laws_szLabelS.l0 k (pre ++ y :: suf) t (wrap64 ((pre.length : Int) + 1))) (fun k => ?_) (Ev.bind g1 ?_), by omega, by omega⟩
      · simp only [laws_szLabelS.l0]
        rw [if_pos (lt_mid pre suf y), if_pos (nn _), rdmidLabell]
      · simp only [if_pos c]
        exact Ev.now _
    · obtain ⟨r, g, hl, hw⟩ := szLabelS_l0 suf (pre ++ [y]) r1 (by omega) (by omega) (fun z hz => hB z (List.mem_cons_of_mem _ hz)) (by simpa using h)
      refine ⟨r, Ev.step (f := fun k => (laws_szLabel.f y.f0 y.f1 n).bind fun t => if t < 0 then some (-1) else laws_szLabelS.l0 k ((pre ++ [y]) ++ suf) t ((pre ++ [y]).length : Int)) (fun k => ?_) (Ev.bind g1 ?_), by omega, fun hr z hz => ?_⟩
      · simp only [laws_szLabelS.l0]
        rw [if_pos (lt_mid pre suf y), if_pos (nn _), rdmidLabell, wrap_up _ (by omega)]
        simp
      · simp only [if_neg c]
        exact g
      · rcases List.mem_cons.1 hz with rfl | hz
        · exact w1 (by omega)
        · exact hw hr z hz
theorem szLabelS_ev (l : List S163) (hB : l.length ≤ maxLen ∧ ∀ y ∈ l, B163 y) (n : Int) (h0 : 0 ≤ n) (h1 : n ≤ 1048576) : ∃ r, Ev (fun k => laws_szLabelS.f k l n) r ∧ r ≤ n ∧ (0 ≤ r → l.length ≤ 1048576 ∧ ∀ y ∈ l, WLabel y) := by
  have q : l.length ≤ 9223372036854775807 := hB.1
  have e : wrap64 (n - (l.length : Int)) = n - (l.length : Int) := wrap_id (by omega) (by omega)
  by_cases c : n - (l.length : Int) < 0
  · exact ⟨-1, ⟨0, fun k _ => by simp [laws_szLabelS.f, e, c]⟩, by omega, by omega⟩
  · obtain ⟨r, g, hl, hw⟩ := szLabelS_l0 l [] (n - (l.length : Int)) (by omega) (by omega) hB.2 (by simp; omega)
    refine ⟨r, Ev.congr (fun k => ?_) g, by omega, fun hr => ⟨by omega, hw hr⟩⟩
    unfold laws_szLabelS.f
    rw [e, if_neg c]
    rfl
theorem toLabelS_l0 : ∀ (suf pre : List S163), (pre ++ suf).length < 4611686018427387904 → (∀ y ∈ suf, WLabel y) → Ev (fun k => laws_toLabelS.l0 k (pre ++ suf) ((pre.map cvLabel) ++ List.replicate suf.length z164) (pre.length : Int)) ((pre ++ suf).map cvLabel)
  | [], pre, h, hW => by
    refine Ev.step (f := fun _ => some ((pre ++ []).map cvLabel)) (fun k => ?_) (Ev.now _)
    simp only [laws_toLabelS.l0]
    rw [if_neg (not_lt_end pre)]
    simp
  | y :: suf, pre, h, hW => by
    have hp : pre.length < 4611686018427387904 := by simp at h; omega
    have ih := toLabelS_l0 suf (pre ++ [y]) (by simpa using h) (fun z hz => hW z (List.mem_cons_of_mem _ hz))
    have g := toLabel_ev y (hW y List.mem_cons_self)
    refine Ev.step (f := fun k => (laws_toLabel.f y.f0 y.f1).bind fun t => laws_toLabelS.l0 k ((pre ++ [y]) ++ suf) ((pre.map cvLabel) ++ (⟨t.1, t.2⟩ : S164) :: List.replicate suf.length z164) ((pre ++ [y]).length : Int)) (fun k => ?_) (Ev.bind g ?_)
    · simp only [laws_toLabelS.l0]
      rw [if_pos (lt_mid pre suf y), if_pos (nn _), rdmidLabell, wrap_up _ (by omega)]
      congr 1
      funext t
      rw [if_pos (by simp; omega)]
      congr 1
      · simp
      · simp [List.replicate_succ]
      · simp
    · rw [mid_assoc pre suf y]
      have e : (pre.map cvLabel) ++ (cvLabel y) :: List.replicate suf.length z164 = ((pre ++ [y]).map cvLabel) ++ List.replicate suf.length z164 := by simp
      rw [← e] at ih
      exact ih
theorem toLabelS_ev (l : List S163) (h : l.length ≤ 1048576 ∧ ∀ y ∈ l, WLabel y) : Ev (fun k => laws_toLabelS.f k l) (l.map cvLabel) := by
  have h1 := h.1
  refine Ev.congr (fun k => ?_) (toLabelS_l0 l [] (by simp; omega) h.2)
  unfold laws_toLabelS.f
  rw [if_pos (nn l.length), Int.toNat_natCast, if_pos (by omega)]
  rfl
theorem eqLabelS_l0 : ∀ (suf pre : List S164), (pre ++ suf).length < 4611686018427387904 → (∀ y ∈ suf, WiLabel y) → Ev (fun k => laws_eqLabelS.l0 k (pre ++ suf) (pre ++ suf) (pre.length : Int)) true
  | [], pre, h, hW => by
    refine Ev.step (f := fun _ => some true) (fun k => ?_) (Ev.now _)
    simp only [laws_eqLabelS.l0]
    rw [if_neg (not_lt_end pre)]
  | y :: suf, pre, h, hW => by
    have hp : pre.length < 4611686018427387904 := by simp at h; omega
    have ih := eqLabelS_l0 suf (pre ++ [y]) (by simpa using h) (fun z hz => hW z (List.mem_cons_of_mem _ hz))
    have g := eqLabel_ev y (hW y List.mem_cons_self)
    refine Ev.step (f := fun k => (laws_eqLabel.f y.f0 y.f1 y.f0 y.f1).bind fun t => if t = true then laws_eqLabelS.l0 k ((pre ++ [y]) ++ suf) ((pre ++ [y]) ++ suf) ((pre ++ [y]).length : Int) else none) (fun k => ?_) (Ev.bind g ?_)
    · simp only [laws_eqLabelS.l0]
      rw [if_pos (lt_mid pre suf y), if_pos (nn _), if_pos (lt_mid pre suf y), rdmidLabeli, wrap_up _ (by omega)]
      simp
    · simp only [if_true]
      exact ih
theorem eqLabelS_ev (l : List S164) (h : l.length ≤ 4000000 ∧ ∀ y ∈ l, WiLabel y) : Ev (fun k => laws_eqLabelS.f k l l) true := by
  have h1 := h.1
  refine Ev.congr (fun k => ?_) (eqLabelS_l0 l [] (by simp; omega) h.2)
  unfold laws_eqLabelS.f
  rw [if_pos rfl]
  rfl

end Go.Proofs.Ytfholjcelnkleaa.Print
end
section
namespace Go.Proofs.Ytfholjcelnkleaa.Print
open Go.RowKit Go.Proofs.YtfholjcelnkleaaV.PrintWords Go.Proofs.YtfholjcelnkleaaV.PrintLast Go.Proofs.YtfholjcelnkleaaV.PrintMore
set_option linter.unusedVariables false
set_option linter.unusedSimpArgs false
def cvAlarm (x : S34) : S44 := ⟨(x.f0.map cvLabel), x.f1, x.f2, x.f3⟩
def WAlarm (x : S34) : Prop := (x.f0.length ≤ 1048576 ∧ ∀ y ∈ x.f0, WLabel y) ∧ True ∧ True ∧ x.f3.size ≤ 1048576
def WiAlarm (x : S44) : Prop := (x.f0.length ≤ 4000000 ∧ ∀ y ∈ x.f0, WiLabel y) ∧ True ∧ True ∧ x.f3.size ≤ 4000000
theorem Wi_cvAlarm {x : S34} (h : WAlarm x) : WiAlarm (cvAlarm x) := ⟨⟨by show (List.map cvLabel x.f0).length ≤ 4000000; rw [List.length_map]; exact Nat.le_trans h.1.1 (by decide), fun y hy => by obtain ⟨z, hz, rfl⟩ := List.mem_map.1 hy; exact Wi_cvLabel (h.1.2 z hz)⟩, trivial, trivial, Nat.le_trans h.2.2.2 (by decide)⟩
theorem szAlarm_ev (x : S34) (hB : B34 x) (n : Int) (h0 : 0 ≤ n) (h1 : n ≤ 1048576) : ∃ r, Ev (fun k => laws_szAlarm.f k x.f0 x.f1 x.f2 x.f3 n) r ∧ r ≤ n ∧ (0 ≤ r → WAlarm x) := by
  obtain ⟨r1, ⟨K1, g1⟩, l1, w1⟩ := szLabelS_ev x.f0 hB.1 n (by omega) (by omega)
  by_cases c1 : r1 < 0
  · exact ⟨-1, ⟨K1, fun k hk => by simp [laws_szAlarm.f, g1 k (by omega), c1]⟩, by omega, by omega⟩
  have q2 : x.f3.size ≤ 9223372036854775807 := hB.2.2.2
  have e2 : wrap64 (r1 - (x.f3.size : Int)) = r1 - (x.f3.size : Int) := wrap_id (by omega) (by omega)
  by_cases c2 : r1 - (x.f3.size : Int) < 0
  · exact ⟨-1, ⟨K1, fun k hk => by simp [laws_szAlarm.f, g1 k (by omega), c1, e2, c2]⟩, by omega, by omega⟩
  exact ⟨(r1 - (x.f3.size : Int)), ⟨K1, fun k hk => by simp [laws_szAlarm.f, g1 k (by omega), c1, e2, c2]⟩, by omega, fun _ => ⟨(w1 (by omega)), trivial, trivial, (by omega)⟩⟩
theorem toAlarm_ev (x : S34) (h : WAlarm x) : Ev (fun k => laws_toAlarm.f k x.f0 x.f1 x.f2 x.f3) ((cvAlarm x).f0, (cvAlarm x).f1, (cvAlarm x).f2, (cvAlarm x).f3) := by
  obtain ⟨K0, g0⟩ := toLabelS_ev x.f0 h.1
  exact ⟨K0, fun k hk => by simp [laws_toAlarm.f, cvAlarm, g0 k (by omega)]⟩
theorem eqAlarm_ev (x : S44) (h : WiAlarm x) : Ev (fun k => laws_eqAlarm.f k x.f0 x.f1 x.f2 x.f3 x.f0 x.f1 x.f2 x.f3) true := by
  obtain ⟨K0, g0⟩ := eqLabelS_ev x.f0 h.1
  exact ⟨K0, fun k hk => by simp [laws_eqAlarm.f, g0 k (by omega)]⟩

end Go.Proofs.Ytfholjcelnkleaa.Print
end
section
namespace Go.Proofs.Ytfholjcelnkleaa.Print
open Go.RowKit Go.Proofs.YtfholjcelnkleaaV.PrintWords Go.Proofs.YtfholjcelnkleaaV.PrintLast Go.Proofs.YtfholjcelnkleaaV.PrintMore
set_option linter.unusedVariables false
set_option linter.unusedSimpArgs false
theorem rdmidAlarml (pre suf : List S34) (y : S34) : rd_T34 (pre ++ y :: suf) (pre.length : Int) = y := by unfold rd_T34; simp
theorem rdmidAlarmi (pre suf : List S44) (y : S44) : rd_T44 (pre ++ y :: suf) (pre.length : Int) = y := by unfold rd_T44; simp
theorem szAlarmS_l0 : ∀ (suf pre : List S34) (n : Int), 0 ≤ n → n ≤ 1048576 → (∀ y ∈ suf, B34 y) → (pre ++ suf).length < 4611686018427387904 → ∃ r, Ev (fun k => laws_szAlarmS.l0 k (pre ++ suf) n (pre.length : Int)) r ∧ r ≤ n ∧ (0 ≤ r → ∀ y ∈ suf, WAlarm y)
  | [], pre, n, h0, h1, hB, h => by
    refine ⟨n, Ev.step (f := fun _ => some n) (fun k => ?_) (Ev.now _), Int.le_refl _, fun _ y hy => by cases hy⟩
    simp only [laws_szAlarmS.l0]
    rw [if_neg (not_lt_end pre)]
  | y :: suf, pre, n, h0, h1, hB, h => by
    have hp : pre.length < 4611686018427387904 := by simp at h; omega
    have hy := hB y List.mem_cons_self
    obtain ⟨r1, g1, l1, w1⟩ := szAlarm_ev y hy n h0 h1
    by_cases c : r1 < 0
    · refine ⟨-1, Ev.step (f := fun k => (laws_szAlarm.f k y.f0 y.f1 y.f2 y.f3 n).bind fun t => if t < 0 then some (-1) else laws_szAlarmS.l0 k (pre ++ y :: suf) t (wrap64 ((pre.length : Int) + 1))) (fun k => ?_) (Ev.bind g1 ?_), by omega, by omega⟩
      · simp only [laws_szAlarmS.l0]
        rw [if_pos (lt_mid pre suf y), if_pos (nn _), rdmidAlarml]
      · simp only [if_pos c]
        exact Ev.now _
    · obtain ⟨r, g, hl, hw⟩ := szAlarmS_l0 suf (pre ++ [y]) r1 (by omega) (by omega) (fun z hz => hB z (List.mem_cons_of_mem _ hz)) (by simpa using h)
      refine ⟨r, Ev.step (f := fun k => (laws_szAlarm.f k y.f0 y.f1 y.f2 y.f3 n).bind fun t => if t < 0 then some (-1) else laws_szAlarmS.l0 k ((pre ++ [y]) ++ suf) t ((pre ++ [y]).length : Int)) (fun k => ?_) (Ev.bind g1 ?_), by omega, fun hr z hz => ?_⟩
      · simp only [laws_szAlarmS.l0]
        rw [if_pos (lt_mid pre suf y), if_pos (nn _), rdmidAlarml, wrap_up _ (by omega)]
        simp
      · simp only [if_neg c]
        exact g
      · rcases List.mem_cons.1 hz with rfl | hz
        · exact w1 (by omega)
        · exact hw hr z hz
theorem szAlarmS_ev (l : List S34) (hB : l.length ≤ maxLen ∧ ∀ y ∈ l, B34 y) (n : Int) (h0 : 0 ≤ n) (h1 : n ≤ 1048576) : ∃ r, Ev (fun k => laws_szAlarmS.f k l n) r ∧ r ≤ n ∧ (0 ≤ r → l.length ≤ 1048576 ∧ ∀ y ∈ l, WAlarm y) := by
  have q : l.length ≤ 9223372036854775807 := hB.1
  have e : wrap64 (n - (l.length : Int)) = n - (l.length : Int) := wrap_id (by omega) (by omega)
  by_cases c : n - (l.length : Int) < 0
  · exact ⟨-1, ⟨0, fun k _ => by simp [laws_szAlarmS.f, e, c]⟩, by omega, by omega⟩
  · obtain ⟨r, g, hl, hw⟩ := szAlarmS_l0 l [] (n - (l.length : Int)) (by omega) (by omega) hB.2 (by simp; omega)
    refine ⟨r, Ev.congr (fun k => ?_) g, by omega, fun hr => ⟨by omega, hw hr⟩⟩
    unfold laws_szAlarmS.f
    rw [e, if_neg c]
    rfl
theorem toAlarmS_l0 : ∀ (suf pre : List S34), (pre ++ suf).length < 4611686018427387904 → (∀ y ∈ suf, WAlarm y) → Ev (fun k => laws_toAlarmS.l0 k (pre ++ suf) ((pre.map cvAlarm) ++ List.replicate suf.length z44) (pre.length : Int)) ((pre ++ suf).map cvAlarm)
  | [], pre, h, hW => by
    refine Ev.step (f := fun _ => some ((pre ++ []).map cvAlarm)) (fun k => ?_) (Ev.now _)
    simp only [laws_toAlarmS.l0]
    rw [if_neg (not_lt_end pre)]
    simp
  | y :: suf, pre, h, hW => by
    have hp : pre.length < 4611686018427387904 := by simp at h; omega
    have ih := toAlarmS_l0 suf (pre ++ [y]) (by simpa using h) (fun z hz => hW z (List.mem_cons_of_mem _ hz))
    have g := toAlarm_ev y (hW y List.mem_cons_self)
    refine Ev.step (f := fun k => (laws_toAlarm.f k y.f0 y.f1 y.f2 y.f3).bind fun t => laws_toAlarmS.l0 k ((pre ++ [y]) ++ suf) ((pre.map cvAlarm) ++ (⟨t.1, t.2.1, t.2.2.1, t.2.2.2⟩ : S44) :: List.replicate suf.length z44) ((pre ++ [y]).length : Int)) (fun k => ?_) (Ev.bind g ?_)
    · simp only [laws_toAlarmS.l0]
      rw [if_pos (lt_mid pre suf y), if_pos (nn _), rdmidAlarml, wrap_up _ (by omega)]
      congr 1
      funext t
      rw [if_pos (by simp; omega)]
      congr 1
      · simp
      · simp [List.replicate_succ]
      · simp
    · rw [mid_assoc pre suf y]
      have e : (pre.map cvAlarm) ++ (cvAlarm y) :: List.replicate suf.length z44 = ((pre ++ [y]).map cvAlarm) ++ List.replicate suf.length z44 := by simp
      rw [← e] at ih
      exact ih
theorem toAlarmS_ev (l : List S34) (h : l.length ≤ 1048576 ∧ ∀ y ∈ l, WAlarm y) : Ev (fun k => laws_toAlarmS.f k l) (l.map cvAlarm) := by
  have h1 := h.1
  refine Ev.congr (fun k => ?_) (toAlarmS_l0 l [] (by simp; omega) h.2)
  unfold laws_toAlarmS.f
  rw [if_pos (nn l.length), Int.toNat_natCast, if_pos (by omega)]
  rfl
theorem eqAlarmS_l0 : ∀ (suf pre : List S44), (pre ++ suf).length < 4611686018427387904 → (∀ y ∈ suf, WiAlarm y) → Ev (fun k => laws_eqAlarmS.l0 k (pre ++ suf) (pre ++ suf) (pre.length : Int)) true
  | [], pre, h, hW => by
    refine Ev.step (f := fun _ => some true) (fun k => ?_) (Ev.now _)
    simp only [laws_eqAlarmS.l0]
    rw [if_neg (not_lt_end pre)]
  | y :: suf, pre, h, hW => by
    have hp : pre.length < 4611686018427387904 := by simp at h; omega
    have ih := eqAlarmS_l0 suf (pre ++ [y]) (by simpa using h) (fun z hz => hW z (List.mem_cons_of_mem _ hz))
    have g := eqAlarm_ev y (hW y List.mem_cons_self)
    refine Ev.step (f := fun k => (laws_eqAlarm.f k y.f0 y.f1 y.f2 y.f3 y.f0 y.f1 y.f2 y.f3).bind fun t => if t = true then laws_eqAlarmS.l0 k ((pre ++ [y]) ++ suf) ((pre ++ [y]) ++ suf) ((pre ++ [y]).length : Int) else none) (fun k => ?_) (Ev.bind g ?_)
    · simp only [laws_eqAlarmS.l0]
      rw [if_pos (lt_mid pre suf y), if_pos (nn _), if_pos (lt_mid pre suf y), rdmidAlarmi, wrap_up _ (by omega)]
      simp
    · simp only [if_true]
      exact ih
theorem eqAlarmS_ev (l : List S44) (h : l.length ≤ 4000000 ∧ ∀ y ∈ l, WiAlarm y) : Ev (fun k => laws_eqAlarmS.f k l l) true := by
  have h1 := h.1
  refine Ev.congr (fun k => ?_) (eqAlarmS_l0 l [] (by simp; omega) h.2)
  unfold laws_eqAlarmS.f
  rw [if_pos rfl]
  rfl

end Go.Proofs.Ytfholjcelnkleaa.Print
end
section
namespace Go.Proofs.Ytfholjcelnkleaa.Print
open Go.RowKit Go.Proofs.YtfholjcelnkleaaV.PrintWords Go.Proofs.YtfholjcelnkleaaV.PrintLast Go.Proofs.YtfholjcelnkleaaV.PrintMore
set_option linter.unusedVariables false
set_option linter.unusedSimpArgs false
def cvGroup (x : S69) : S75 := ⟨x.f0, (x.f1.map cvLabel), x.f2, x.f3, (x.f4.map cvAlarm)⟩
def WGroup (x : S69) : Prop := True ∧ (x.f1.length ≤ 1048576 ∧ ∀ y ∈ x.f1, WLabel y) ∧ True ∧ True ∧ (x.f4.length ≤ 1048576 ∧ ∀ y ∈ x.f4, WAlarm y)
def WiGroup (x : S75) : Prop := True ∧ (x.f1.length ≤ 4000000 ∧ ∀ y ∈ x.f1, WiLabel y) ∧ True ∧ True ∧ (x.f4.length ≤ 4000000 ∧ ∀ y ∈ x.f4, WiAlarm y)
theorem Wi_cvGroup {x : S69} (h : WGroup x) : WiGroup (cvGroup x) := ⟨trivial, ⟨by show (List.map cvLabel x.f1).length ≤ 4000000; rw [List.length_map]; exact Nat.le_trans h.2.1.1 (by decide), fun y hy => by obtain ⟨z, hz, rfl⟩ := List.mem_map.1 hy; exact Wi_cvLabel (h.2.1.2 z hz)⟩, trivial, trivial, ⟨by show (List.map cvAlarm x.f4).length ≤ 4000000; rw [List.length_map]; exact Nat.le_trans h.2.2.2.2.1 (by decide), fun y hy => by obtain ⟨z, hz, rfl⟩ := List.mem_map.1 hy; exact Wi_cvAlarm (h.2.2.2.2.2 z hz)⟩⟩
theorem szGroup_ev (x : S69) (hB : B69 x) (n : Int) (h0 : 0 ≤ n) (h1 : n ≤ 1048576) : ∃ r, Ev (fun k => laws_szGroup.f k x.f0 x.f1 x.f2 x.f3 x.f4 n) r ∧ r ≤ n ∧ (0 ≤ r → WGroup x) := by
  obtain ⟨r1, ⟨K1, g1⟩, l1, w1⟩ := szLabelS_ev x.f1 hB.2.1 n (by omega) (by omega)
  by_cases c1 : r1 < 0
  · exact ⟨-1, ⟨K1, fun k hk => by simp [laws_szGroup.f, g1 k (by omega), c1]⟩, by omega, by omega⟩
  obtain ⟨r2, ⟨K2, g2⟩, l2, w2⟩ := szAlarmS_ev x.f4 hB.2.2.2.2 r1 (by omega) (by omega)
  by_cases c2 : r2 < 0
  · exact ⟨-1, ⟨K1 + K2, fun k hk => by simp [laws_szGroup.f, g1 k (by omega), c1, g2 k (by omega), c2]⟩, by omega, by omega⟩
  exact ⟨r2, ⟨K1 + K2, fun k hk => by simp [laws_szGroup.f, g1 k (by omega), c1, g2 k (by omega), c2]⟩, by omega, fun _ => ⟨trivial, (w1 (by omega)), trivial, trivial, (w2 (by omega))⟩⟩
theorem toGroup_ev (x : S69) (h : WGroup x) : Ev (fun k => laws_toGroup.f k x.f0 x.f1 x.f2 x.f3 x.f4) ((cvGroup x).f0, (cvGroup x).f1, (cvGroup x).f2, (cvGroup x).f3, (cvGroup x).f4) := by
  obtain ⟨K1, g1⟩ := toLabelS_ev x.f1 h.2.1
  obtain ⟨K4, g4⟩ := toAlarmS_ev x.f4 h.2.2.2.2
  exact ⟨K1 + K4, fun k hk => by simp [laws_toGroup.f, cvGroup, g1 k (by omega), g4 k (by omega)]⟩
theorem eqGroup_ev (x : S75) (h : WiGroup x) : Ev (fun k => laws_eqGroup.f k x.f0 x.f1 x.f2 x.f3 x.f4 x.f0 x.f1 x.f2 x.f3 x.f4) true := by
  obtain ⟨K1, g1⟩ := eqLabelS_ev x.f1 h.2.1
  obtain ⟨K4, g4⟩ := eqAlarmS_ev x.f4 h.2.2.2.2
  exact ⟨K1 + K4, fun k hk => by simp [laws_eqGroup.f, g1 k (by omega), g4 k (by omega)]⟩

end Go.Proofs.Ytfholjcelnkleaa.Print
end
section
namespace Go.Proofs.Ytfholjcelnkleaa.Print
open Go.RowKit Go.Proofs.YtfholjcelnkleaaV.PrintWords Go.Proofs.YtfholjcelnkleaaV.PrintLast Go.Proofs.YtfholjcelnkleaaV.PrintMore
attribute [local go_sem] max2_int min2_int max_two min_two max_three min_three max_four min_four   -- for this text's walks alone
set_option linter.unusedVariables false
set_option linter.unusedSimpArgs false

/-! ### laws_szGroupS: function 60 -/
def laws_szGroupS.l0 : Nat → List (S69) → Int → Int → Option (Int)
 | 0, _, _, _ => none
 | k + 1, x0, x1, x5 => if x5 < (x0.length : Int) then (if 0 ≤ x5 then ((laws_szGroup.f k ((rd_T69 x0 x5).f0) ((rd_T69 x0 x5).f1) ((rd_T69 x0 x5).f2) ((rd_T69 x0 x5).f3) ((rd_T69 x0 x5).f4) x1).bind fun t1045 => (if t1045 < 0 then (some (-1)) else (laws_szGroupS.l0 k x0 t1045 (wrap64 (x5 + 1))))) else (none)) else (some x1)
def laws_szGroupS.f (k : Nat) (l0 : List (S69)) (a1 : Int) : Option (Int) := if (wrap64 (a1 - (l0.length : Int))) < 0 then (some (-1)) else (laws_szGroupS.l0 k l0 (wrap64 (a1 - (l0.length : Int))) 0)
theorem laws_szGroupS.mono_l : ∀ k, (∀ y0 y1 y2, LeO (laws_szGroupS.l0 k y0 y1 y2) (laws_szGroupS.l0 (k + 1) y0 y1 y2))
 | 0 => fun _ _ _ r h => by simp [laws_szGroupS.l0] at h
 | k + 1 => by
  have ih0 := laws_szGroupS.mono_l k
  intro y0 y1 y2
  unfold laws_szGroupS.l0
  repeat' first
  | (with_reducible exact ih0 _ _ _)
  | (with_reducible exact laws_szGroup.mono _ _ _ _ _ _ _)
  | (with_reducible exact LeO.refl _)
  | (with_reducible exact LeO.none _)
  | (with_reducible refine LeO.ite ?_ ?_)
  | (with_reducible refine LeO.bind ?_ (fun _ => ?_))
  | exact ih0 _ _ _
  | exact laws_szGroup.mono _ _ _ _ _ _ _
  | exact LeO.none _
  | refine LeO.ite ?_ ?_
  | refine LeO.bind ?_ (fun _ => ?_)
theorem laws_szGroupS.mono : ∀ a0 a1 k, LeO (laws_szGroupS.f k a0 a1) (laws_szGroupS.f (k + 1) a0 a1) := by
 intro a0 a1 k
 have ih0 := laws_szGroupS.mono_l k
 unfold laws_szGroupS.f
 repeat' first
   | (with_reducible exact ih0 _ _ _)
   | (with_reducible exact laws_szGroup.mono _ _ _ _ _ _ _)
   | (with_reducible exact LeO.refl _)
   | (with_reducible exact LeO.none _)
   | (with_reducible refine LeO.ite ?_ ?_)
   | (with_reducible refine LeO.bind ?_ (fun _ => ?_))
   | exact ih0 _ _ _
   | exact laws_szGroup.mono _ _ _ _ _ _ _
   | exact LeO.none _
   | refine LeO.ite ?_ ?_
   | refine LeO.bind ?_ (fun _ => ?_)
set_option maxHeartbeats 8000000 in
set_option maxRecDepth 100000 in
theorem laws_szGroupS.calls (k : Nat) (A0 : Option Addr) (c0 : Nat) (l0 : List (S69)) (a1 : Int) (r : Int) (w : World) (hr0 : Kd.C k69 w A0 l0.length l0) (hc0 : l0.length ≤ c0) (h : laws_szGroupS.f k l0 a1 = some r) :
  Calls Try.prog 60 #[.slice A0 l0.length c0, .int .i64 a1] w fun e w' => e = .returned (.int .i64 r) ∧ Below w.heap.size w w' := by
 have hu69 := Try.underlying69
 have HR0 := Aside0.mk hr0
 have HC0 := Aside0.mk hc0
 clear hr0 hc0
 have HB := Aside0.mk (Below.refl w.heap.size w)
 have H : (if (wrap64 (a1 - (l0.length : Int))) < 0 then (some (-1)) else (laws_szGroupS.l0 k l0 (wrap64 (a1 - (l0.length : Int))) 0)) = some r := h
 clear h
 by_cases c3 : (wrap64 (a1 - (l0.length : Int))) < 0
 ·
  rw [if_pos c3] at H
  have c3b0 : decide ((wrap64 (a1 - (l0.length : Int))) < 0) = true := decide_eq_true c3
  clear c3
  obtain rfl := Option.some.inj H
  go_enter Try.func60, Try.ntmps60
  go_wp2
  go_ret
  exact ⟨by first | rfl | (simp [errW_none, errW_some] <;> rfl) | (simp [*, errW_none, errW_some] <;> rfl), by repeat (first | (with_reducible first | exact HB.out | apply below_alloc | apply pw_below_drewN | apply below_drew1) | exact HB.out)⟩
 rw [if_neg c3] at H
 have c3b0 : decide ((wrap64 (a1 - (l0.length : Int))) < 0) = false := decide_eq_false c3
 clear c3
 have H' := Aside0.mk H
 clear H
 go_enter Try.func60, Try.ntmps60
 go_wp2
 go_loopg [1, 5] k (fun kq v1 v5 w' => ∃ (x1_1 : Int) (x5_1 : Int), v1 = .int .i64 x1_1 ∧ v5 = .int .i64 x5_1 ∧ Aside0 (laws_szGroupS.l0 kq l0 x1_1 x5_1 = some r) ∧ Aside0 (kq ≤ k) ∧ Aside0 (Below w.heap.size w w'))
 case atStart => exact ⟨(wrap64 (a1 - (l0.length : Int))), (0), (by first | rfl | (simp; done) | (simp [*]; done)), (by first | rfl | (simp; done) | (simp [*]; done)), H', ⟨Nat.le_refl _⟩, ⟨by repeat (first | (with_reducible first | exact HB.out | apply below_alloc | apply pw_below_drewN | apply below_drew1) | exact HB.out)⟩⟩
 case round =>
  clear H'
  try clear p2
  try clear c3
  try clear c3b0
  obtain ⟨x1_1, x5_1, rfl, rfl, HA, HK1, HB⟩ := hrel
  cases gk with
  | zero => exact absurd HA.out (by simp [laws_szGroupS.l0])
  | succ k1 =>
   have H := HA.out
   clear HA
   simp only [laws_szGroupS.l0] at H
   by_cases c4 : x5_1 < (l0.length : Int)
   ·
    rw [if_pos c4] at H
    have c4b0 : decide (x5_1 < (l0.length : Int)) = true := decide_eq_true c4
    clear c4
    by_cases c5 : 0 ≤ x5_1
    ·
     rw [if_pos c5] at H
     have c5b0 : decide (0 ≤ x5_1) = true := decide_eq_true c5
     clear c5
     replace H := Option.bind_eq_some_iff.mp H
     obtain ⟨t1045, A60, H⟩ := H
     replace H : (if t1045 < 0 then (some (-1)) else (laws_szGroupS.l0 k1 l0 t1045 (wrap64 (x5_1 + 1)))) = some r := H
     have A6 := Aside0.mk A60
     clear A60
     by_cases c7 : t1045 < 0
     ·
      rw [if_pos c7] at H
      have c7b0 : decide (t1045 < 0) = true := decide_eq_true c7
      clear c7
      obtain rfl := Option.some.inj H
      have p1044 : 0 ≤ (x5_1 : Int) := of_decide_eq_true (by first | (with_reducible assumption) | assumption)
      have q1044 : x5_1 < (l0.length : Int) := of_decide_eq_true (by first | (with_reducible assumption) | assumption)
      obtain ⟨ad1044, A1044_1, c1044_1, A1044_4, c1044_4, e1044, hx1044_0, hx1044_1, hx1044_2, hx1044_3, hx1044_4, hl1044_1, hi1044_1, hl1044_4, hi1044_4⟩ := at_T69 HR0.out x5_1 p1044 q1044
      cases e1044
      replace hx1044_0 := (HB.out.cell (World.block_lt_of_cell? w _ hx1044_0)).trans hx1044_0
      replace hx1044_1 := (HB.out.cell (World.block_lt_of_cell? w _ hx1044_1)).trans hx1044_1
      replace hx1044_2 := (HB.out.cell (World.block_lt_of_cell? w _ hx1044_2)).trans hx1044_2
      replace hx1044_3 := (HB.out.cell (World.block_lt_of_cell? w _ hx1044_3)).trans hx1044_3
      replace hx1044_4 := (HB.out.cell (World.block_lt_of_cell? w _ hx1044_4)).trans hx1044_4
      have HR1044_1 := Aside0.mk hi1044_1
      have HC1044_1 := Aside0.mk hl1044_1
      clear hi1044_1 hl1044_1
      have HR1044_4 := Aside0.mk hi1044_4
      have HC1044_4 := Aside0.mk hl1044_4
      clear hi1044_4 hl1044_4
      replace p1044 := eq_true p1044
      replace q1044 := eq_true q1044
      go_wp2_with (first | ((with_reducible refine gate_callee (f := 48) rfl ?_); refine goesL_ (some 23) rfl rfl Try.func48 (by kernel_rfl) rfl #[.agg #[.int .i64 ((rd_T69 l0 x5_1).f0), .slice A1044_1 ((rd_T69 l0 x5_1).f1).length c1044_1, .int .i64 ((rd_T69 l0 x5_1).f2), .int .i64 ((rd_T69 l0 x5_1).f3), .slice A1044_4 ((rd_T69 l0 x5_1).f4).length c1044_4], .int .i64 x1_1] rfl (by (try simp only [List.map_toArray, List.map_cons, List.map_nil]); first | done | rfl | (simp only [List.length_drop, List.length_take]; rfl)) ?_; (with_reducible refine (laws_szGroup.calls k1 ((rd_T69 l0 x5_1).f0) _ _ ((rd_T69 l0 x5_1).f1) ((rd_T69 l0 x5_1).f2) ((rd_T69 l0 x5_1).f3) _ _ ((rd_T69 l0 x5_1).f4) x1_1 t1045 _ ?side1 ?side2 ?side3 ?side4 A6.out).mono ?_); (case side1 => repeat (first | exact (Kd.C_below HR1044_1.out HB.out) | (with_reducible refine Kd.C_alloc ?_ _) | (with_reducible refine Kd.C_drewN ?_ _) | (with_reducible refine Kd.C_drew ?_))); (case side2 => exact HC1044_1.out); (case side3 => repeat (first | exact (Kd.C_below HR1044_4.out HB.out) | (with_reducible refine Kd.C_alloc ?_ _) | (with_reducible refine Kd.C_drewN ?_ _) | (with_reducible refine Kd.C_drew ?_))); (case side4 => exact HC1044_4.out); rintro e w8 ⟨rfl, hb⟩; refine ⟨_, rfl, ?_⟩; have n0_ := Aside0.mk (below_step (by repeat (first | (with_reducible first | exact HB.out | apply below_alloc | apply pw_below_drewN | apply below_drew1) | exact HB.out)) hb); clear HB; have HB := n0_; clear n0_; (try clear hb); (try clear hb2); (try clear hk); (try clear hi)))
      go_ret
      exact ⟨by first | rfl | (simp [errW_none, errW_some] <;> rfl) | (simp [*, errW_none, errW_some] <;> rfl), by repeat (first | (with_reducible first | exact HB.out | apply below_alloc | apply pw_below_drewN | apply below_drew1) | exact HB.out)⟩
     rw [if_neg c7] at H
     have c7b0 : decide (t1045 < 0) = false := decide_eq_false c7
     clear c7
     have H' := Aside0.mk H
     clear H
     have p1044 : 0 ≤ (x5_1 : Int) := of_decide_eq_true (by first | (with_reducible assumption) | assumption)
     have q1044 : x5_1 < (l0.length : Int) := of_decide_eq_true (by first | (with_reducible assumption) | assumption)
     obtain ⟨ad1044, A1044_1, c1044_1, A1044_4, c1044_4, e1044, hx1044_0, hx1044_1, hx1044_2, hx1044_3, hx1044_4, hl1044_1, hi1044_1, hl1044_4, hi1044_4⟩ := at_T69 HR0.out x5_1 p1044 q1044
     cases e1044
     replace hx1044_0 := (HB.out.cell (World.block_lt_of_cell? w _ hx1044_0)).trans hx1044_0
     replace hx1044_1 := (HB.out.cell (World.block_lt_of_cell? w _ hx1044_1)).trans hx1044_1
     replace hx1044_2 := (HB.out.cell (World.block_lt_of_cell? w _ hx1044_2)).trans hx1044_2
     replace hx1044_3 := (HB.out.cell (World.block_lt_of_cell? w _ hx1044_3)).trans hx1044_3
     replace hx1044_4 := (HB.out.cell (World.block_lt_of_cell? w _ hx1044_4)).trans hx1044_4
     have HR1044_1 := Aside0.mk hi1044_1
     have HC1044_1 := Aside0.mk hl1044_1
     clear hi1044_1 hl1044_1
     have HR1044_4 := Aside0.mk hi1044_4
     have HC1044_4 := Aside0.mk hl1044_4
     clear hi1044_4 hl1044_4
     replace p1044 := eq_true p1044
     replace q1044 := eq_true q1044
     go_wp2_with (first | ((with_reducible refine gate_callee (f := 48) rfl ?_); refine goesL_ (some 23) rfl rfl Try.func48 (by kernel_rfl) rfl #[.agg #[.int .i64 ((rd_T69 l0 x5_1).f0), .slice A1044_1 ((rd_T69 l0 x5_1).f1).length c1044_1, .int .i64 ((rd_T69 l0 x5_1).f2), .int .i64 ((rd_T69 l0 x5_1).f3), .slice A1044_4 ((rd_T69 l0 x5_1).f4).length c1044_4], .int .i64 x1_1] rfl (by (try simp only [List.map_toArray, List.map_cons, List.map_nil]); first | done | rfl | (simp only [List.length_drop, List.length_take]; rfl)) ?_; (with_reducible refine (laws_szGroup.calls k1 ((rd_T69 l0 x5_1).f0) _ _ ((rd_T69 l0 x5_1).f1) ((rd_T69 l0 x5_1).f2) ((rd_T69 l0 x5_1).f3) _ _ ((rd_T69 l0 x5_1).f4) x1_1 t1045 _ ?side1 ?side2 ?side3 ?side4 A6.out).mono ?_); (case side1 => repeat (first | exact (Kd.C_below HR1044_1.out HB.out) | (with_reducible refine Kd.C_alloc ?_ _) | (with_reducible refine Kd.C_drewN ?_ _) | (with_reducible refine Kd.C_drew ?_))); (case side2 => exact HC1044_1.out); (case side3 => repeat (first | exact (Kd.C_below HR1044_4.out HB.out) | (with_reducible refine Kd.C_alloc ?_ _) | (with_reducible refine Kd.C_drewN ?_ _) | (with_reducible refine Kd.C_drew ?_))); (case side4 => exact HC1044_4.out); rintro e w9 ⟨rfl, hb⟩; refine ⟨_, rfl, ?_⟩; have n0_ := Aside0.mk (below_step (by repeat (first | (with_reducible first | exact HB.out | apply below_alloc | apply pw_below_drewN | apply below_drew1) | exact HB.out)) hb); clear HB; have HB := n0_; clear n0_; (try clear hb); (try clear hb2); (try clear hk); (try clear hi)))
     go_roundg k1
     case measure => have := HK1.out; omega
     case rel => exact ⟨(t1045), (wrap64 (x5_1 + 1)), (by first | rfl | (simp; done) | (simp [*]; done)), (by first | rfl | (simp; done) | (simp [*]; done)), H', ⟨by have := HK1.out; omega⟩, ⟨by repeat (first | (with_reducible first | exact HB.out | apply below_alloc | apply pw_below_drewN | apply below_drew1) | exact HB.out)⟩⟩
    rw [if_neg c5] at H
    exact absurd H (by simp)
   rw [if_neg c4] at H
   have c4b0 : decide (x5_1 < (l0.length : Int)) = false := decide_eq_false c4
   clear c4
   obtain rfl := Option.some.inj H
   go_wp2
   go_ret
   exact ⟨by first | rfl | (simp [errW_none, errW_some] <;> rfl) | (simp [*, errW_none, errW_some] <;> rfl), by repeat (first | (with_reducible first | exact HB.out | apply below_alloc | apply pw_below_drewN | apply below_drew1) | exact HB.out)⟩

end Go.Proofs.Ytfholjcelnkleaa.Print
end
section
namespace Go.Proofs.Ytfholjcelnkleaa.Print
open Go.RowKit Go.Proofs.YtfholjcelnkleaaV.PrintWords Go.Proofs.YtfholjcelnkleaaV.PrintLast Go.Proofs.YtfholjcelnkleaaV.PrintMore
attribute [local go_sem] max2_int min2_int max_two min_two max_three min_three max_four min_four   -- for this text's walks alone
set_option linter.unusedVariables false
set_option linter.unusedSimpArgs false

/-! ### laws_toGroupS: function 62 -/
def laws_toGroupS.l0 : Nat → List (S69) → List (S75) → Int → Option ((List (S75)))
 | 0, _, _, _ => none
 | k + 1, x0, x3, x4 => if x4 < (x0.length : Int) then (if 0 ≤ x4 then ((laws_toGroup.f k ((rd_T69 x0 x4).f0) ((rd_T69 x0 x4).f1) ((rd_T69 x0 x4).f2) ((rd_T69 x0 x4).f3) ((rd_T69 x0 x4).f4)).bind fun bt1057 => (if x4 < (x3.length : Int) then (laws_toGroupS.l0 k x0 (x3.set (x4 : Int).toNat (⟨bt1057.1, bt1057.2.1, bt1057.2.2.1, bt1057.2.2.2.1, bt1057.2.2.2.2⟩ : S75)) (wrap64 (x4 + 1))) else (none))) else (none)) else (some x3)
def laws_toGroupS.f (k : Nat) (l0 : List (S69)) : Option ((List (S75))) := if 0 ≤ (l0.length : Int) then (if ((l0.length : Int) : Int).toNat ≤ 3909374676536 then (laws_toGroupS.l0 k l0 (List.replicate ((l0.length : Int) : Int).toNat z75) 0) else (none)) else (none)
theorem laws_toGroupS.mono_l : ∀ k, (∀ y0 y1 y2, LeO (laws_toGroupS.l0 k y0 y1 y2) (laws_toGroupS.l0 (k + 1) y0 y1 y2))
 | 0 => fun _ _ _ r h => by simp [laws_toGroupS.l0] at h
 | k + 1 => by
  have ih0 := laws_toGroupS.mono_l k
  intro y0 y1 y2
  unfold laws_toGroupS.l0
  repeat' first
  | (with_reducible exact ih0 _ _ _)
  | (with_reducible exact laws_toGroup.mono _ _ _ _ _ _)
  | (with_reducible exact LeO.refl _)
  | (with_reducible exact LeO.none _)
  | (with_reducible refine LeO.ite ?_ ?_)
  | (with_reducible refine LeO.bind ?_ (fun _ => ?_))
  | exact ih0 _ _ _
  | exact laws_toGroup.mono _ _ _ _ _ _
  | exact LeO.none _
  | refine LeO.ite ?_ ?_
  | refine LeO.bind ?_ (fun _ => ?_)
theorem laws_toGroupS.mono : ∀ a0 k, LeO (laws_toGroupS.f k a0) (laws_toGroupS.f (k + 1) a0) := by
 intro a0 k
 have ih0 := laws_toGroupS.mono_l k
 unfold laws_toGroupS.f
 repeat' first
   | (with_reducible exact ih0 _ _ _)
   | (with_reducible exact laws_toGroup.mono _ _ _ _ _ _)
   | (with_reducible exact LeO.refl _)
   | (with_reducible exact LeO.none _)
   | (with_reducible refine LeO.ite ?_ ?_)
   | (with_reducible refine LeO.bind ?_ (fun _ => ?_))
   | exact ih0 _ _ _
   | exact laws_toGroup.mono _ _ _ _ _ _
   | exact LeO.none _
   | refine LeO.ite ?_ ?_
   | refine LeO.bind ?_ (fun _ => ?_)
set_option maxHeartbeats 8000000 in
set_option maxRecDepth 100000 in
theorem laws_toGroupS.calls (k : Nat) (A0 : Option Addr) (c0 : Nat) (l0 : List (S69)) (r : List (S75)) (w : World) (hr0 : Kd.C k69 w A0 l0.length l0) (hc0 : l0.length ≤ c0) (h : laws_toGroupS.f k l0 = some r) :
  Calls Try.prog 62 #[.slice A0 l0.length c0] w fun e w' => ∃ v0_ : Value, e = .returned (v0_) ∧ Kd.R k75 75 w' w.heap.size (fun _ => True) v0_ r ∧ Below w.heap.size w w' := by
 have hu69 := Try.underlying69
 have hu75 := Try.underlying75
 have HR0 := Aside0.mk hr0
 have HC0 := Aside0.mk hc0
 clear hr0 hc0
 have HB := Aside0.mk (Below.refl w.heap.size w)
 have H : (if 0 ≤ (l0.length : Int) then (if ((l0.length : Int) : Int).toNat ≤ 3909374676536 then (laws_toGroupS.l0 k l0 (List.replicate ((l0.length : Int) : Int).toNat z75) 0) else (none)) else (none)) = some r := h
 clear h
 by_cases c2 : 0 ≤ (l0.length : Int)
 ·
  rw [if_pos c2] at H
  have c2b0 := eq_true c2
  have c2b1 : decide (0 ≤ (l0.length : Int)) = true := decide_eq_true c2
  clear c2
  by_cases c3 : ((l0.length : Int) : Int).toNat ≤ 3909374676536
  ·
   rw [if_pos c3] at H
   have c3b0 := eq_true c3
   have c3b1 : decide (((l0.length : Int) : Int).toNat ≤ 3909374676536) = true := decide_eq_true c3
   clear c3
   obtain ⟨y1053, hy1053⟩ : ∃ y_ : List (S75), y_ = (List.replicate ((l0.length : Int) : Int).toNat z75) := ⟨_, rfl⟩
   replace H : (laws_toGroupS.l0 k l0 y1053 0) = some r := by first | (rw [hy1053]; with_reducible exact H) | (have H2_ := (Option.bind_some _ _).symm.trans H; rw [hy1053]; with_reducible exact H2_) | (have H2_ := (Option.bind_some _ _).symm.trans H; with_reducible exact H2_) | with_reducible exact H | (rw [hy1053]; exact H) | exact H
   have Ny1053 := Aside0.mk hy1053
   clear hy1053
   have H' := Aside0.mk H
   clear H
   go_enter Try.func62, Try.ntmps62
   go_wp2_with (first | ((with_reducible refine gate_dst (N := 7) rfl ?_); refine Kd.R_make k75 _ 75 rfl (N := 7) rfl 87 _ _ rfl (l0.length : Int) rfl rfl Try.underlying87 (.agg #[(.int .i64 0), (.slice none 0 0), (.int .i64 0), (.int .i64 0), (.slice none 0 0)]) 72 info75 rfl (by decide) (by omega) z75 (ok := fun _ => True) (okp := fun _ => True) (k75_mkM _ _ _ z75 (Kd.R_nil _ _ _ _ _) (Kd.R_nil _ _ _ _ _)) (fun _ hk => hk) trivial (of_decide_eq_true (by first | (with_reducible assumption) | assumption)) (Nat.le_trans (Nat.mul_le_mul_right _ (of_decide_eq_true (by first | (with_reducible assumption) | assumption) : (l0.length : Int).toNat ≤ 3909374676536)) (by omega)) (Below.refl _ _) (Nat.le_refl _) ?_; intro v1054 w4 ho5 hb hg_ hnew_; clear hg_ hnew_; (first | rw [← Ny1053.out] at ho5 | (simp only [Int.reduceToNat] at ho5; rw [← Ny1053.out] at ho5)); have n0_ := Aside0.mk (Kd.R_lower ho5 (below_size (by repeat (first | (with_reducible first | exact HB.out | apply below_alloc | apply pw_below_drewN | apply below_drew1) | exact HB.out)))); have n1_ := Aside0.mk (below_step (by repeat (first | (with_reducible first | exact HB.out | apply below_alloc | apply pw_below_drewN | apply below_drew1) | exact HB.out)) hb); clear HB; have HO1055 := n0_; have HB := n1_; clear n0_ n1_; clear hb ho5))
   go_loopg [4] k (fun kq v4 w' => ∃ (x3_1 : List (S75)) (x4_1 : Int), v4 = .int .i64 x4_1 ∧ Aside0 (laws_toGroupS.l0 kq l0 x3_1 x4_1 = some r) ∧ Aside0 (kq ≤ k) ∧ Aside0 (Kd.R k75 75 w' w.heap.size (fun _ => True) v1054 x3_1) ∧ Aside0 (Below w.heap.size w w'))
   case atStart => exact ⟨(y1053), (0), (by first | rfl | (simp; done) | (simp [*]; done)), H', ⟨Nat.le_refl _⟩, ⟨by (with_reducible repeat (first | apply Kd.R_alloc | apply Kd.R_drewN | apply Kd.R_drew)); exact HO1055.out⟩, ⟨by repeat (first | (with_reducible first | exact HB.out | apply below_alloc | apply pw_below_drewN | apply below_drew1) | exact HB.out)⟩⟩
   case round =>
    clear H'
    try clear c2
    try clear c2b0
    try clear c2b1
    try clear p2
    try clear c3
    try clear c3b0
    try clear c3b1
    obtain ⟨x3_1, x4_1, rfl, HA, HK1, HO_3, HB⟩ := hrel
    cases gk with
    | zero => exact absurd HA.out (by simp [laws_toGroupS.l0])
    | succ k1 =>
     have H := HA.out
     clear HA
     simp only [laws_toGroupS.l0] at H
     by_cases c6 : x4_1 < (l0.length : Int)
     ·
      rw [if_pos c6] at H
      have c6b0 : decide (x4_1 < (l0.length : Int)) = true := decide_eq_true c6
      clear c6
      by_cases c7 : 0 ≤ x4_1
      ·
       rw [if_pos c7] at H
       have c7b0 : decide (0 ≤ x4_1) = true := decide_eq_true c7
       clear c7
       replace H := Option.bind_eq_some_iff.mp H
       obtain ⟨⟨t1057, t1058, t1061, t1062, t1063⟩, A80, H⟩ := H
       replace H : (if x4_1 < (x3_1.length : Int) then (laws_toGroupS.l0 k1 l0 (x3_1.set (x4_1 : Int).toNat (⟨t1057, t1058, t1061, t1062, t1063⟩ : S75)) (wrap64 (x4_1 + 1))) else (none)) = some r := H
       have A8 := Aside0.mk A80
       clear A80
       by_cases c9 : x4_1 < (x3_1.length : Int)
       ·
        rw [if_pos c9] at H
        have c9b0 : decide (x4_1 < (x3_1.length : Int)) = true := decide_eq_true c9
        clear c9
        obtain ⟨y1066, hy1066⟩ : ∃ y_ : List (S75), y_ = (x3_1.set (x4_1 : Int).toNat (⟨t1057, t1058, t1061, t1062, t1063⟩ : S75)) := ⟨_, rfl⟩
        replace H : (laws_toGroupS.l0 k1 l0 y1066 (wrap64 (x4_1 + 1))) = some r := by first | (rw [hy1066]; with_reducible exact H) | (have H2_ := (Option.bind_some _ _).symm.trans H; rw [hy1066]; with_reducible exact H2_) | (have H2_ := (Option.bind_some _ _).symm.trans H; with_reducible exact H2_) | with_reducible exact H | (rw [hy1066]; exact H) | exact H
        have Ny1066 := Aside0.mk hy1066
        clear hy1066
        have H' := Aside0.mk H
        clear H
        have p1056 : 0 ≤ (x4_1 : Int) := of_decide_eq_true (by first | (with_reducible assumption) | assumption)
        have q1056 : x4_1 < (l0.length : Int) := of_decide_eq_true (by first | (with_reducible assumption) | assumption)
        obtain ⟨ad1056, A1056_1, c1056_1, A1056_4, c1056_4, e1056, hx1056_0, hx1056_1, hx1056_2, hx1056_3, hx1056_4, hl1056_1, hi1056_1, hl1056_4, hi1056_4⟩ := at_T69 HR0.out x4_1 p1056 q1056
        cases e1056
        replace hx1056_0 := (HB.out.cell (World.block_lt_of_cell? w _ hx1056_0)).trans hx1056_0
        replace hx1056_1 := (HB.out.cell (World.block_lt_of_cell? w _ hx1056_1)).trans hx1056_1
        replace hx1056_2 := (HB.out.cell (World.block_lt_of_cell? w _ hx1056_2)).trans hx1056_2
        replace hx1056_3 := (HB.out.cell (World.block_lt_of_cell? w _ hx1056_3)).trans hx1056_3
        replace hx1056_4 := (HB.out.cell (World.block_lt_of_cell? w _ hx1056_4)).trans hx1056_4
        have HR1056_1 := Aside0.mk hi1056_1
        have HC1056_1 := Aside0.mk hl1056_1
        clear hi1056_1 hl1056_1
        have HR1056_4 := Aside0.mk hi1056_4
        have HC1056_4 := Aside0.mk hl1056_4
        clear hi1056_4 hl1056_4
        replace p1056 := eq_true p1056
        replace q1056 := eq_true q1056
        go_wp2_with (first | ((with_reducible refine gate_callee (f := 51) rfl ?_); refine goesL_ (some 20) rfl rfl Try.func51 (by kernel_rfl) rfl #[.agg #[.int .i64 ((rd_T69 l0 x4_1).f0), .slice A1056_1 ((rd_T69 l0 x4_1).f1).length c1056_1, .int .i64 ((rd_T69 l0 x4_1).f2), .int .i64 ((rd_T69 l0 x4_1).f3), .slice A1056_4 ((rd_T69 l0 x4_1).f4).length c1056_4]] rfl (by (try simp only [List.map_toArray, List.map_cons, List.map_nil]); first | done | rfl | (simp only [List.length_drop, List.length_take]; rfl)) ?_; (with_reducible refine (laws_toGroup.calls k1 ((rd_T69 l0 x4_1).f0) _ _ ((rd_T69 l0 x4_1).f1) ((rd_T69 l0 x4_1).f2) ((rd_T69 l0 x4_1).f3) _ _ ((rd_T69 l0 x4_1).f4) t1057 t1058 t1061 t1062 t1063 _ ?side1 ?side2 ?side3 ?side4 A8.out).mono ?_); (case side1 => repeat (first | exact (Kd.C_below HR1056_1.out HB.out) | (with_reducible refine Kd.C_alloc ?_ _) | (with_reducible refine Kd.C_drewN ?_ _) | (with_reducible refine Kd.C_drew ?_))); (case side2 => exact HC1056_1.out); (case side3 => repeat (first | exact (Kd.C_below HR1056_4.out HB.out) | (with_reducible refine Kd.C_alloc ?_ _) | (with_reducible refine Kd.C_drewN ?_ _) | (with_reducible refine Kd.C_drew ?_))); (case side4 => exact HC1056_4.out); rintro e w11 ⟨v1059, v1064, rfl, ho0, ho1, hb⟩; refine ⟨_, rfl, ?_⟩; have n0_ := Aside0.mk (Kd.R_mono (Kd.R_told (Kd.R_told (Kd.R_old (by (with_reducible repeat (first | apply Kd.R_alloc | apply Kd.R_drewN | apply Kd.R_drew)); exact HO_3.out) hb) (Kd.R_base ho0)) (Kd.S_base ho1)) (fun _ h_ => h_.1)); have n1_ := Aside0.mk (Kd.R_lower ho0 (below_size (by repeat (first | (with_reducible first | exact HB.out | apply below_alloc | apply pw_below_drewN | apply below_drew1) | exact HB.out)))); have n2_ := Aside0.mk (Kd.S_lower ho1 (below_size (by repeat (first | (with_reducible first | exact HB.out | apply below_alloc | apply pw_below_drewN | apply below_drew1) | exact HB.out)))); have n3_ := Aside0.mk (below_step (by repeat (first | (with_reducible first | exact HB.out | apply below_alloc | apply pw_below_drewN | apply below_drew1) | exact HB.out)) hb); clear HO_3; clear HB; have HO_3 := n0_; have HO1060 := n1_; have HO1065 := n2_; have HB := n3_; clear n0_ n1_ n2_ n3_; (try clear hb); (try clear hb2); (try clear hk); (try clear hi); (try clear ho0); (try clear ho1); have p10 : 0 ≤ (x4_1 : Int) := of_decide_eq_true (by first | (with_reducible assumption) | assumption); have q10 : (x4_1 : Int) < ((x3_1.length : Int) : Int) := of_decide_eq_true (by first | (with_reducible assumption) | assumption); obtain ⟨go10, co10, eo10, gb10, gl10, cl10, HG10⟩ := Kd.R_form HO_3.out (by omega); (first | cases eo10 | (injection eo10 with ea_ en_ ec_; (first | subst ea_ | (injection ea_ with ea_; subst ea_)); subst ec_; clear en_)); have GB10 := Aside0.mk gb10; have GG10 := Aside0.mk HG10; clear gb10 gl10 HG10; obtain ⟨ce10, hcl10, hM10, hcc10, hfr10⟩ := Kd.R_elem HO_3.out z75 (x4_1 : Int) p10 q10; obtain ⟨ve10_1, ve10_4, rfl, ge10_1, ge10_4⟩ := k75_openM hM10; have hx10_0 : w11.cell? ⟨go10, (x4_1 : Int).toNat * 5, none⟩ = some (.int .i64 ((rd_T75 x3_1 x4_1).f0)) := hcc10 0 _ rfl; have hx10_1 : w11.cell? ⟨go10, (x4_1 : Int).toNat * 5 + 1, none⟩ = some (ve10_1) := hcc10 1 _ rfl; have hx10_2 : w11.cell? ⟨go10, (x4_1 : Int).toNat * 5 + 2, none⟩ = some (.int .i64 ((rd_T75 x3_1 x4_1).f2)) := hcc10 2 _ rfl; have hx10_3 : w11.cell? ⟨go10, (x4_1 : Int).toNat * 5 + 3, none⟩ = some (.int .i64 ((rd_T75 x3_1 x4_1).f3)) := hcc10 3 _ rfl; have hx10_4 : w11.cell? ⟨go10, (x4_1 : Int).toNat * 5 + 4, none⟩ = some (ve10_4) := hcc10 4 _ rfl; have hf10_0 : w11.frozen? ⟨go10, (x4_1 : Int).toNat * 5, none⟩ = false := hfr10 0; have hf10_1 : w11.frozen? ⟨go10, (x4_1 : Int).toNat * 5 + 1, none⟩ = false := hfr10 1; have hf10_2 : w11.frozen? ⟨go10, (x4_1 : Int).toNat * 5 + 2, none⟩ = false := hfr10 2; have hf10_3 : w11.frozen? ⟨go10, (x4_1 : Int).toNat * 5 + 3, none⟩ = false := hfr10 3; have hf10_4 : w11.frozen? ⟨go10, (x4_1 : Int).toNat * 5 + 4, none⟩ = false := hfr10 4; clear hcl10 hcc10 hfr10 hM10; replace p10 := eq_true p10; replace q10 := eq_true q10; have n_ := Aside0.mk (Kd.R_mono (ok' := (fun k_ => some k_ ≠ (v1059 : Value).ownBlock ∧ some k_ ≠ (v1064 : Value).ownBlock)) HO_3.out (fun k_ hk => ⟨hk.1.2, hk.2⟩)); clear HO_3; have HO_3 := n_; clear n_; have HX12 := Aside0.mk (show Kd.R k75 75 w11 w.heap.size (fun _ => True) (.slice (some ⟨go10, 0, none⟩) x3_1.length co10) x3_1 from (by (with_reducible repeat (first | apply Kd.R_alloc | apply Kd.R_drewN | apply Kd.R_drew)); exact Kd.R_mono HO_3.out (fun _ hk => trivial))); obtain ⟨ce12, hcl12, hM12, hcc12, hfr12⟩ := Kd.R_elem HX12.out z75 (x4_1 : Int) (of_decide_eq_true (by first | (with_reducible assumption) | assumption)) (by have h_ : (x4_1 : Int) < ((x3_1.length : Int) : Int) := of_decide_eq_true (by first | (with_reducible assumption) | assumption); first | exact h_ | (have e_ := (Kd.R_reads' HO_3.out).1; omega) | simpa using h_); obtain ⟨ve12_1, ve12_4, rfl, ge12_1, ge12_4⟩ := k75_openM hM12; have HP12 := Kd.R_seg HX12.out (x4_1 : Int) (of_decide_eq_true (by first | (with_reducible assumption) | assumption)) (by have h_ : (x4_1 : Int) < ((x3_1.length : Int) : Int) := of_decide_eq_true (by first | (with_reducible assumption) | assumption); first | exact h_ | (have e_ := (Kd.R_reads' HO_3.out).1; omega) | simpa using h_) (seg := [.int .i64 t1057, v1059, .int .i64 t1061, .int .i64 t1062, v1064]) (j := 0) hcl12 hcc12 (show 5 ≤ 5 from by decide) (x' := (⟨t1057, t1058, t1061, t1062, t1063⟩ : S75)) (k75_mkM _ _ _ (⟨t1057, t1058, t1061, t1062, t1063⟩ : S75) (Kd.R_mono (Kd.R_apart' (HO1060.out) (Kd.R_typed HO_3.out) (by decide)) (fun k_ hk => ⟨trivial, fun e_ => (hk.2) (by rw [e_]; rfl)⟩)) (Kd.R_mono (Kd.R_apart' ((Kd.S_R HO1065.out)) (Kd.R_typed HO_3.out) (by decide)) (fun k_ hk => ⟨trivial, fun e_ => (hk.2) (by rw [e_]; rfl)⟩))) (fun _ hk => hk); have hx12_0 := hcc12 0 _ rfl; (try simp only [show (k75).sz = 5 from rfl, Nat.mul_one, Nat.add_zero] at hx12_0); have hf12_0 := hfr12 0; (try simp only [show (k75).sz = 5 from rfl, Nat.mul_one, Nat.add_zero] at hf12_0); have hx12_1 := hcc12 1 _ rfl; (try simp only [show (k75).sz = 5 from rfl, Nat.mul_one, Nat.add_zero] at hx12_1); have hf12_1 := hfr12 1; (try simp only [show (k75).sz = 5 from rfl, Nat.mul_one, Nat.add_zero] at hf12_1); have hx12_2 := hcc12 2 _ rfl; (try simp only [show (k75).sz = 5 from rfl, Nat.mul_one, Nat.add_zero] at hx12_2); have hf12_2 := hfr12 2; (try simp only [show (k75).sz = 5 from rfl, Nat.mul_one, Nat.add_zero] at hf12_2); have hx12_3 := hcc12 3 _ rfl; (try simp only [show (k75).sz = 5 from rfl, Nat.mul_one, Nat.add_zero] at hx12_3); have hf12_3 := hfr12 3; (try simp only [show (k75).sz = 5 from rfl, Nat.mul_one, Nat.add_zero] at hf12_3); have hx12_4 := hcc12 4 _ rfl; (try simp only [show (k75).sz = 5 from rfl, Nat.mul_one, Nat.add_zero] at hx12_4); have hf12_4 := hfr12 4; (try simp only [show (k75).sz = 5 from rfl, Nat.mul_one, Nat.add_zero] at hf12_4); clear hcl12 hcc12 hfr12 hM12) | ((with_reducible refine gate_store (t := 75) (p := 21) rfl ?_); refine store_event (t := 75) (p := 21) (v := ?vo_w13) (w1 := (((((w11.setCell ⟨go10, (x4_1 : Int).toNat * 5, none⟩ (.int .i64 t1057)).setCell ⟨go10, (x4_1 : Int).toNat * 5 + 1, none⟩ (v1059)).setCell ⟨go10, (x4_1 : Int).toNat * 5 + 2, none⟩ (.int .i64 t1061)).setCell ⟨go10, (x4_1 : Int).toNat * 5 + 3, none⟩ (.int .i64 t1062)).setCell ⟨go10, (x4_1 : Int).toNat * 5 + 4, none⟩ (v1064))) ?hg ?ho ?hn ?hr ?_; (case ho => rfl); (case hg => rfl); (case hn => rfl); (case hr => obtain ⟨Ao1_, co1_, eo1_⟩ := Kd.R_slice HO1060.out; obtain ⟨Ao4_, co4_, eo4_⟩ := Kd.S_slice HO1065.out; first | (go_simp; done) | (go_simp; rfl)); intro w13 hw; have hg : w11.grownBy w13 (some go10) := (by rw [hw]; exact HP12.2); have hp_ : Kd.R k75 75 w13 w.heap.size (fun _ => True) (.slice (some ⟨go10, 0, none⟩) x3_1.length co10) y1066 := (by rw [hw, Ny1066.out]; exact HP12.1); clear HP12; have n0_ := Aside0.mk (hp_); have n1_ := Aside0.mk ((by rw [hw]; exact below_set (below_set (below_set (below_set (below_set (HB.out) GB10.out) GB10.out) GB10.out) GB10.out) GB10.out : Below w.heap.size w w13)); clear HO_3; clear HB; clear HO1060; clear HO1065; have HO_3 := n0_; have HB := n1_; clear n0_ n1_; clear hg hw hp_))
        go_roundg k1
        case measure => have := HK1.out; omega
        case rel => exact ⟨(y1066), (wrap64 (x4_1 + 1)), (by first | rfl | (simp; done) | (simp [*]; done)), H', ⟨by have := HK1.out; omega⟩, ⟨by (with_reducible repeat (first | apply Kd.R_alloc | apply Kd.R_drewN | apply Kd.R_drew)); exact HO_3.out⟩, ⟨by repeat (first | (with_reducible first | exact HB.out | apply below_alloc | apply pw_below_drewN | apply below_drew1) | exact HB.out)⟩⟩
       rw [if_neg c9] at H
       exact absurd H (by simp)
      rw [if_neg c7] at H
      exact absurd H (by simp)
     rw [if_neg c6] at H
     have c6b0 : decide (x4_1 < (l0.length : Int)) = false := decide_eq_false c6
     clear c6
     obtain rfl := Option.some.inj H
     go_wp2
     go_ret
     exact ⟨_, by first | rfl | (simp [errW_none, errW_some] <;> rfl) | (simp [*, errW_none, errW_some] <;> rfl), by (with_reducible repeat (first | apply Kd.R_alloc | apply Kd.R_drewN | apply Kd.R_drew)); exact HO_3.out, by repeat (first | (with_reducible first | exact HB.out | apply below_alloc | apply pw_below_drewN | apply below_drew1) | exact HB.out)⟩
  rw [if_neg c3] at H
  exact absurd H (by simp)
 rw [if_neg c2] at H
 exact absurd H (by simp)

end Go.Proofs.Ytfholjcelnkleaa.Print
end
section
namespace Go.Proofs.Ytfholjcelnkleaa.Print
open Go.RowKit Go.Proofs.YtfholjcelnkleaaV.PrintWords Go.Proofs.YtfholjcelnkleaaV.PrintLast Go.Proofs.YtfholjcelnkleaaV.PrintMore
attribute [local go_sem] max2_int min2_int max_two min_two max_three min_three max_four min_four   -- for this text's walks alone
set_option linter.unusedVariables false
set_option linter.unusedSimpArgs false

/-! ### laws_eqGroupS: function 64 -/
def laws_eqGroupS.l0 : Nat → List (S75) → List (S75) → Int → Option (Bool)
 | 0, _, _, _ => none
 | k + 1, x0, x1, x5 => if x5 < (x0.length : Int) then (if 0 ≤ x5 then (if x5 < (x1.length : Int) then ((laws_eqGroup.f k ((rd_T75 x0 x5).f0) ((rd_T75 x0 x5).f1) ((rd_T75 x0 x5).f2) ((rd_T75 x0 x5).f3) ((rd_T75 x0 x5).f4) ((rd_T75 x1 x5).f0) ((rd_T75 x1 x5).f1) ((rd_T75 x1 x5).f2) ((rd_T75 x1 x5).f3) ((rd_T75 x1 x5).f4)).bind fun t1078 => (if t1078 = true then (laws_eqGroupS.l0 k x0 x1 (wrap64 (x5 + 1))) else (none))) else (none)) else (none)) else (some true)
def laws_eqGroupS.f (k : Nat) (l0 : List (S75)) (l1 : List (S75)) : Option (Bool) := if (l0.length : Int) = (l1.length : Int) then (laws_eqGroupS.l0 k l0 l1 0) else (none)
theorem laws_eqGroupS.mono_l : ∀ k, (∀ y0 y1 y2, LeO (laws_eqGroupS.l0 k y0 y1 y2) (laws_eqGroupS.l0 (k + 1) y0 y1 y2))
 | 0 => fun _ _ _ r h => by simp [laws_eqGroupS.l0] at h
 | k + 1 => by
  have ih0 := laws_eqGroupS.mono_l k
  intro y0 y1 y2
  unfold laws_eqGroupS.l0
  repeat' first
  | (with_reducible exact ih0 _ _ _)
  | (with_reducible exact laws_eqGroup.mono _ _ _ _ _ _ _ _ _ _ _)
  | (with_reducible exact LeO.refl _)
  | (with_reducible exact LeO.none _)
  | (with_reducible refine LeO.ite ?_ ?_)
  | (with_reducible refine LeO.bind ?_ (fun _ => ?_))
  | exact ih0 _ _ _
  | exact laws_eqGroup.mono _ _ _ _ _ _ _ _ _ _ _
  | exact LeO.none _
  | refine LeO.ite ?_ ?_
  | refine LeO.bind ?_ (fun _ => ?_)
theorem laws_eqGroupS.mono : ∀ a0 a1 k, LeO (laws_eqGroupS.f k a0 a1) (laws_eqGroupS.f (k + 1) a0 a1) := by
 intro a0 a1 k
 have ih0 := laws_eqGroupS.mono_l k
 unfold laws_eqGroupS.f
 repeat' first
   | (with_reducible exact ih0 _ _ _)
   | (with_reducible exact laws_eqGroup.mono _ _ _ _ _ _ _ _ _ _ _)
   | (with_reducible exact LeO.refl _)
   | (with_reducible exact LeO.none _)
   | (with_reducible refine LeO.ite ?_ ?_)
   | (with_reducible refine LeO.bind ?_ (fun _ => ?_))
   | exact ih0 _ _ _
   | exact laws_eqGroup.mono _ _ _ _ _ _ _ _ _ _ _
   | exact LeO.none _
   | refine LeO.ite ?_ ?_
   | refine LeO.bind ?_ (fun _ => ?_)
def laws_eqGroupS.T6 : Bool × List (List Nat × List Nat) := (true, [([], []), ([], []), ([0, 1], [0, 1]), ([2], [2]), ([], []), ([], []), ([4, 5], [4, 5]), ([6], [6]), ([3, 7], [3, 7]), ([8], [8])])
def laws_eqGroupS.B6 : List Nat := [0, 0, 3, 7, 0, 0, 48, 112, 255, 511]
theorem laws_eqGroupS.tab6 : rtab .any (opsOf Try.f64 6) = laws_eqGroupS.T6 := by kernel_rfl
theorem laws_eqGroupS.bits6 : waitsOk laws_eqGroupS.T6.2 laws_eqGroupS.B6 = true := by kernel_rfl
set_option maxHeartbeats 8000000 in
set_option maxRecDepth 100000 in
theorem laws_eqGroupS.calls (k : Nat) (A0 : Option Addr) (c0 : Nat) (l0 : List (S75)) (A1 : Option Addr) (c1 : Nat) (l1 : List (S75)) (r : Bool) (w : World) (hr0 : Kd.C k75 w A0 l0.length l0) (hc0 : l0.length ≤ c0) (hr1 : Kd.C k75 w A1 l1.length l1) (hc1 : l1.length ≤ c1) (h : laws_eqGroupS.f k l0 l1 = some r) :
  Calls Try.prog 64 #[.slice A0 l0.length c0, .slice A1 l1.length c1] w fun e w' => e = .returned (.bool r) ∧ Below w.heap.size w w' := by
 have hu75 := Try.underlying75
 have HR0 := Aside0.mk hr0
 have HC0 := Aside0.mk hc0
 clear hr0 hc0
 have HR1 := Aside0.mk hr1
 have HC1 := Aside0.mk hc1
 clear hr1 hc1
 have HB := Aside0.mk (Below.refl w.heap.size w)
 have H : (if (l0.length : Int) = (l1.length : Int) then (laws_eqGroupS.l0 k l0 l1 0) else (none)) = some r := h
 clear h
 by_cases c3 : (l0.length : Int) = (l1.length : Int)
 ·
  rw [if_pos c3] at H
  have c3b0 : ((l0.length : Int) == (l1.length : Int)) = true := beq_iff_eq.mpr c3
  have c3b1 : ((l0.length : Int) != (l1.length : Int)) = false := bne_eq_false_iff_eq.mpr c3
  have c3b2 : (l0.length == l1.length) = true := by first | simpa using c3 | (simp at c3 ⊢; omega)
  clear c3
  have H' := Aside0.mk H
  clear H
  go_enter Try.func64, Try.ntmps64
  go_wp2
  go_loopg [5] k (fun kq v5 w' => ∃ (x5_1 : Int), v5 = .int .i64 x5_1 ∧ Aside0 (laws_eqGroupS.l0 kq l0 l1 x5_1 = some r) ∧ Aside0 (kq ≤ k) ∧ Aside0 (Below w.heap.size w w'))
  case atStart => exact ⟨(0), (by first | rfl | (simp; done) | (simp [*]; done)), H', ⟨Nat.le_refl _⟩, ⟨by repeat (first | (with_reducible first | exact HB.out | apply below_alloc | apply pw_below_drewN | apply below_drew1) | exact HB.out)⟩⟩
  case round =>
   clear H'
   try clear c1
   try clear p2
   try clear c3
   try clear c3b0
   try clear c3b1
   try clear c3b2
   obtain ⟨x5_1, rfl, HA, HK1, HB⟩ := hrel
   cases gk with
   | zero => exact absurd HA.out (by simp [laws_eqGroupS.l0])
   | succ k1 =>
    have H := HA.out
    clear HA
    simp only [laws_eqGroupS.l0] at H
    by_cases c4 : x5_1 < (l0.length : Int)
    ·
     rw [if_pos c4] at H
     have c4b0 : decide (x5_1 < (l0.length : Int)) = true := decide_eq_true c4
     clear c4
     by_cases c5 : 0 ≤ x5_1
     ·
      rw [if_pos c5] at H
      have c5b0 : decide (0 ≤ x5_1) = true := decide_eq_true c5
      clear c5
      by_cases c6 : x5_1 < (l1.length : Int)
      ·
       rw [if_pos c6] at H
       have c6b0 : decide (x5_1 < (l1.length : Int)) = true := decide_eq_true c6
       clear c6
       replace H := Option.bind_eq_some_iff.mp H
       obtain ⟨t1078, A70, H⟩ := H
       replace H : (if t1078 = true then (laws_eqGroupS.l0 k1 l0 l1 (wrap64 (x5_1 + 1))) else (none)) = some r := H
       have A7 := Aside0.mk A70
       clear A70
       by_cases c8 : t1078 = true
       ·
        subst c8
        have H1 : (laws_eqGroupS.l0 k1 l0 l1 (wrap64 (x5_1 + 1))) = some r := by rw [if_pos rfl] at H; exact H
        clear H
        have H := H1
        clear H1
        have H' := Aside0.mk H
        clear H
        try go_wp2
        have n0_ := Aside0.mk (below_drew1 HB.out)
        clear HB
        have HB := n0_
        clear n0_
        have p1076 : 0 ≤ (x5_1 : Int) := of_decide_eq_true (by first | (with_reducible assumption) | assumption)
        have q1076 : x5_1 < (l0.length : Int) := of_decide_eq_true (by first | (with_reducible assumption) | assumption)
        obtain ⟨ad1076, A1076_1, c1076_1, A1076_4, c1076_4, e1076, hx1076_0, hx1076_1, hx1076_2, hx1076_3, hx1076_4, hl1076_1, hi1076_1, hl1076_4, hi1076_4⟩ := at_T75 HR0.out x5_1 p1076 q1076
        have hw1076_4 := hx1076_4
        have hw1076_3 := hx1076_3
        have hw1076_2 := hx1076_2
        have hw1076_1 := hx1076_1
        have hw1076_0 := hx1076_0
        cases e1076
        replace hx1076_0 := (HB.out.cell (World.block_lt_of_cell? w _ hx1076_0)).trans hx1076_0
        replace hx1076_1 := (HB.out.cell (World.block_lt_of_cell? w _ hx1076_1)).trans hx1076_1
        replace hx1076_2 := (HB.out.cell (World.block_lt_of_cell? w _ hx1076_2)).trans hx1076_2
        replace hx1076_3 := (HB.out.cell (World.block_lt_of_cell? w _ hx1076_3)).trans hx1076_3
        replace hx1076_4 := (HB.out.cell (World.block_lt_of_cell? w _ hx1076_4)).trans hx1076_4
        have HR1076_1 := Aside0.mk hi1076_1
        have HC1076_1 := Aside0.mk hl1076_1
        clear hi1076_1 hl1076_1
        have HR1076_4 := Aside0.mk hi1076_4
        have HC1076_4 := Aside0.mk hl1076_4
        clear hi1076_4 hl1076_4
        replace p1076 := eq_true p1076
        replace q1076 := eq_true q1076
        have p1077 : 0 ≤ (x5_1 : Int) := of_decide_eq_true (by first | (with_reducible assumption) | assumption)
        have q1077 : x5_1 < (l1.length : Int) := of_decide_eq_true (by first | (with_reducible assumption) | assumption)
        obtain ⟨ad1077, A1077_1, c1077_1, A1077_4, c1077_4, e1077, hx1077_0, hx1077_1, hx1077_2, hx1077_3, hx1077_4, hl1077_1, hi1077_1, hl1077_4, hi1077_4⟩ := at_T75 HR1.out x5_1 p1077 q1077
        have hw1077_4 := hx1077_4
        have hw1077_3 := hx1077_3
        have hw1077_2 := hx1077_2
        have hw1077_1 := hx1077_1
        have hw1077_0 := hx1077_0
        cases e1077
        replace hx1077_0 := (HB.out.cell (World.block_lt_of_cell? w _ hx1077_0)).trans hx1077_0
        replace hx1077_1 := (HB.out.cell (World.block_lt_of_cell? w _ hx1077_1)).trans hx1077_1
        replace hx1077_2 := (HB.out.cell (World.block_lt_of_cell? w _ hx1077_2)).trans hx1077_2
        replace hx1077_3 := (HB.out.cell (World.block_lt_of_cell? w _ hx1077_3)).trans hx1077_3
        replace hx1077_4 := (HB.out.cell (World.block_lt_of_cell? w _ hx1077_4)).trans hx1077_4
        have HR1077_1 := Aside0.mk hi1077_1
        have HC1077_1 := Aside0.mk hl1077_1
        clear hi1077_1 hl1077_1
        have HR1077_4 := Aside0.mk hi1077_4
        have HC1077_4 := Aside0.mk hl1077_4
        clear hi1077_4 hl1077_4
        replace p1077 := eq_true p1077
        replace q1077 := eq_true q1077
        refine start_ (n := 10) (S := fun w' => w'.cell? (ad1076.add ((x5_1).toNat * 5)) = some (.int .i64 ((rd_T75 l0 x5_1).f0)) ∧ w'.cell? ⟨(ad1076.add ((x5_1).toNat * 5)).block, (ad1076.add ((x5_1).toNat * 5)).off + 1, none⟩ = some (.slice A1076_1 ((rd_T75 l0 x5_1).f1).length c1076_1) ∧ w'.cell? ⟨(ad1076.add ((x5_1).toNat * 5)).block, (ad1076.add ((x5_1).toNat * 5)).off + 2, none⟩ = some (.int .i64 ((rd_T75 l0 x5_1).f2)) ∧ w'.cell? ⟨(ad1076.add ((x5_1).toNat * 5)).block, (ad1076.add ((x5_1).toNat * 5)).off + 3, none⟩ = some (.int .i64 ((rd_T75 l0 x5_1).f3)) ∧ w'.cell? ⟨(ad1076.add ((x5_1).toNat * 5)).block, (ad1076.add ((x5_1).toNat * 5)).off + 4, none⟩ = some (.slice A1076_4 ((rd_T75 l0 x5_1).f4).length c1076_4) ∧ w'.cell? (ad1077.add ((x5_1).toNat * 5)) = some (.int .i64 ((rd_T75 l1 x5_1).f0)) ∧ w'.cell? ⟨(ad1077.add ((x5_1).toNat * 5)).block, (ad1077.add ((x5_1).toNat * 5)).off + 1, none⟩ = some (.slice A1077_1 ((rd_T75 l1 x5_1).f1).length c1077_1) ∧ w'.cell? ⟨(ad1077.add ((x5_1).toNat * 5)).block, (ad1077.add ((x5_1).toNat * 5)).off + 2, none⟩ = some (.int .i64 ((rd_T75 l1 x5_1).f2)) ∧ w'.cell? ⟨(ad1077.add ((x5_1).toNat * 5)).block, (ad1077.add ((x5_1).toNat * 5)).off + 3, none⟩ = some (.int .i64 ((rd_T75 l1 x5_1).f3)) ∧ w'.cell? ⟨(ad1077.add ((x5_1).toNat * 5)).block, (ad1077.add ((x5_1).toNat * 5)).off + 4, none⟩ = some (.slice A1077_4 ((rd_T75 l1 x5_1).f4).length c1077_4)) (ds := []) #[f_,f_,f_,f_,f_,f_,f_,f_,f_,f_] (by kernel_rfl) rfl rfl ⟨((HB.out.cell (World.block_lt_of_cell? w _ hw1076_0)).trans hw1076_0), ((HB.out.cell (World.block_lt_of_cell? w _ hw1076_1)).trans hw1076_1), ((HB.out.cell (World.block_lt_of_cell? w _ hw1076_2)).trans hw1076_2), ((HB.out.cell (World.block_lt_of_cell? w _ hw1076_3)).trans hw1076_3), ((HB.out.cell (World.block_lt_of_cell? w _ hw1076_4)).trans hw1076_4), ((HB.out.cell (World.block_lt_of_cell? w _ hw1077_0)).trans hw1077_0), ((HB.out.cell (World.block_lt_of_cell? w _ hw1077_1)).trans hw1077_1), ((HB.out.cell (World.block_lt_of_cell? w _ hw1077_2)).trans hw1077_2), ((HB.out.cell (World.block_lt_of_cell? w _ hw1077_3)).trans hw1077_3), ((HB.out.cell (World.block_lt_of_cell? w _ hw1077_4)).trans hw1077_4)⟩ (fun hHeld => ?_); refine with_tabW laws_eqGroupS.tab6 laws_eqGroupS.bits6 (fun HT_ HW_ => ?_)
        generalize wr.drew = w9 at HB HR1076_1 HR1076_4 HR1077_1 HR1077_4 hx1076_0 hx1076_1 hx1076_2 hx1076_3 hx1076_4 hx1077_0 hx1077_1 hx1077_2 hx1077_3 hx1077_4 hHeld ⊢
        refine pu_ 0 17 ?_ (b_ 1 9) rfl rfl (any_of HT_.out (by kernel_rfl)) (fun _ _ _ h => h) (by rfl) ?_ ?_ ?_ ?_; rotate_left; intro w'; go_simp; with_reducible rfl; rotate_left; simp only [fr_]; rfl
        refine pu_ 1 18 ?_ (b_ 2 8) rfl rfl (any_of HT_.out (by kernel_rfl)) (fun _ _ _ h => h) (by rfl) ?_ ?_ ?_ ?_; rotate_left; intro w'; go_simp; with_reducible rfl; rotate_left; simp only [fr_]; rfl
        refine pu_ 2 19 ?_ (b_ 3 7) rfl rfl (any_of HT_.out (by kernel_rfl)) (fun _ _ _ h => h) (by rfl) ?_ ?_ ?_ ?_; rotate_left; intro w'; go_simp; with_reducible rfl; rotate_left; simp only [fr_]; rfl
        refine pu_ 4 21 ?_ #[t_,t_,t_,f_,t_,f_,f_,f_,f_,f_] rfl rfl (any_of HT_.out (by kernel_rfl)) (fun _ _ _ h => h) (by rfl) ?_ ?_ ?_ ?_; rotate_left; intro w'; go_simp; with_reducible rfl; rotate_left; simp only [fr_]; rfl
        refine pu_ 5 22 ?_ #[t_,t_,t_,f_,t_,t_,f_,f_,f_,f_] rfl rfl (any_of HT_.out (by kernel_rfl)) (fun _ _ _ h => h) (by rfl) ?_ ?_ ?_ ?_; rotate_left; intro w'; go_simp; with_reducible rfl; rotate_left; simp only [fr_]; rfl
        refine pu_ 6 23 ?_ #[t_,t_,t_,f_,t_,t_,t_,f_,f_,f_] rfl rfl (any_of HT_.out (by kernel_rfl)) (fun _ _ _ h => h) (by rfl) ?_ ?_ ?_ ?_; rotate_left; intro w'; go_simp; with_reducible rfl; rotate_left; simp only [fr_]; rfl
        refine take_ (i := 3) (N := some 20) (v := ?_) (a' := ?_) #[t_,t_,t_,t_,t_,t_,t_,f_,f_,f_] rfl rfl (take_ofW HT_.out HW_.out (by kernel_rfl)) (fun _ _ _ h => h) (Or.inl ⟨by rfl, ?_⟩) hHeld ?_ ?_
        rotate_left
        ·
         rintro w' ⟨s0, s1, s2, s3, s4, s5, s6, s7, s8, s9⟩
         go_simp
         with_reducible rfl
        rotate_left
        ·
         simp only [fr_]
         rfl
        refine take_ (i := 7) (N := some 24) (v := ?_) (a' := ?_) #[t_,t_,t_,t_,t_,t_,t_,t_,f_,f_] rfl rfl (take_ofW HT_.out HW_.out (by kernel_rfl)) (fun _ _ _ h => h) (Or.inl ⟨by rfl, ?_⟩) hHeld ?_ ?_
        rotate_left
        ·
         rintro w' ⟨s0, s1, s2, s3, s4, s5, s6, s7, s8, s9⟩
         go_simp
         with_reducible rfl
        rotate_left
        ·
         simp only [fr_]
         rfl
        refine one_ (i := 8) (N := some 25) #[t_,t_,t_,t_,t_,t_,t_,t_,t_,f_] rfl rfl (one_of HT_.out (by kernel_rfl)) (by decide) (fun K hK => ?_)
        refine goes_ Try.func54 (by kernel_rfl) rfl #[.agg #[.int .i64 ((rd_T75 l0 x5_1).f0), .slice A1076_1 ((rd_T75 l0 x5_1).f1).length c1076_1, .int .i64 ((rd_T75 l0 x5_1).f2), .int .i64 ((rd_T75 l0 x5_1).f3), .slice A1076_4 ((rd_T75 l0 x5_1).f4).length c1076_4], .agg #[.int .i64 ((rd_T75 l1 x5_1).f0), .slice A1077_1 ((rd_T75 l1 x5_1).f1).length c1077_1, .int .i64 ((rd_T75 l1 x5_1).f2), .int .i64 ((rd_T75 l1 x5_1).f3), .slice A1077_4 ((rd_T75 l1 x5_1).f4).length c1077_4]] (by rfl) rfl rfl (by (try simp only [List.map_toArray, List.map_cons, List.map_nil]); first | done | rfl | (simp only [List.length_drop, List.length_take]; rfl)) ?_
        with_reducible refine (laws_eqGroup.calls k1 ((rd_T75 l0 x5_1).f0) _ _ ((rd_T75 l0 x5_1).f1) ((rd_T75 l0 x5_1).f2) ((rd_T75 l0 x5_1).f3) _ _ ((rd_T75 l0 x5_1).f4) ((rd_T75 l1 x5_1).f0) _ _ ((rd_T75 l1 x5_1).f1) ((rd_T75 l1 x5_1).f2) ((rd_T75 l1 x5_1).f3) _ _ ((rd_T75 l1 x5_1).f4) true _ ?side1 ?side2 ?side3 ?side4 ?side5 ?side6 ?side7 ?side8 A7.out).mono ?_
        (case side1 => repeat (first | exact (Kd.C_below HR1076_1.out HB.out) | (with_reducible refine Kd.C_alloc ?_ _) | (with_reducible refine Kd.C_drewN ?_ _) | (with_reducible refine Kd.C_drew ?_)))
        (case side2 => exact HC1076_1.out)
        (case side3 => repeat (first | exact (Kd.C_below HR1076_4.out HB.out) | (with_reducible refine Kd.C_alloc ?_ _) | (with_reducible refine Kd.C_drewN ?_ _) | (with_reducible refine Kd.C_drew ?_)))
        (case side4 => exact HC1076_4.out)
        (case side5 => repeat (first | exact (Kd.C_below HR1077_1.out HB.out) | (with_reducible refine Kd.C_alloc ?_ _) | (with_reducible refine Kd.C_drewN ?_ _) | (with_reducible refine Kd.C_drew ?_)))
        (case side6 => exact HC1077_1.out)
        (case side7 => repeat (first | exact (Kd.C_below HR1077_4.out HB.out) | (with_reducible refine Kd.C_alloc ?_ _) | (with_reducible refine Kd.C_drewN ?_ _) | (with_reducible refine Kd.C_drew ?_)))
        (case side8 => exact HC1077_4.out)
        rintro e w10 ⟨rfl, hb⟩
        refine ⟨_, rfl, ?_⟩
        have n0_ := Aside0.mk (below_step (by repeat (first | (with_reducible first | exact HB.out | apply below_alloc | apply pw_below_drewN | apply below_drew1) | exact HB.out)) hb)
        clear HB
        have HB := n0_
        clear n0_
        (try clear hb)
        (try clear hb2)
        (try clear hk)
        (try clear hi)
        refine hK.out _ _ ⟨((HB.out.cell (World.block_lt_of_cell? w _ hw1076_0)).trans hw1076_0), ((HB.out.cell (World.block_lt_of_cell? w _ hw1076_1)).trans hw1076_1), ((HB.out.cell (World.block_lt_of_cell? w _ hw1076_2)).trans hw1076_2), ((HB.out.cell (World.block_lt_of_cell? w _ hw1076_3)).trans hw1076_3), ((HB.out.cell (World.block_lt_of_cell? w _ hw1076_4)).trans hw1076_4), ((HB.out.cell (World.block_lt_of_cell? w _ hw1077_0)).trans hw1077_0), ((HB.out.cell (World.block_lt_of_cell? w _ hw1077_1)).trans hw1077_1), ((HB.out.cell (World.block_lt_of_cell? w _ hw1077_2)).trans hw1077_2), ((HB.out.cell (World.block_lt_of_cell? w _ hw1077_3)).trans hw1077_3), ((HB.out.cell (World.block_lt_of_cell? w _ hw1077_4)).trans hw1077_4)⟩ (fun hHeld => ?_)
        clear hK K
        refine norm_ (a' := ?_) ?_ ?_
        rotate_left
        ·
         show Act.put _ (some 25) _ = _
         simp only [fr_]
         rfl
        refine pu_ 9 26 ?_ (b_ 10 0) rfl rfl (any_of HT_.out (by kernel_rfl)) (fun _ _ _ h => h) (by rfl) ?_ ?_ ?_ ?_; rotate_left; intro w'; go_simp; with_reducible rfl; rotate_left; simp only [fr_]; rfl
        refine done_ (done_of HT_.out (by kernel_rfl)) ?_
        try go_wp2
        go_roundg k1
        case measure => have := HK1.out; omega
        case rel => exact ⟨(wrap64 (x5_1 + 1)), (by first | rfl | (simp; done) | (simp [*]; done)), H', ⟨by have := HK1.out; omega⟩, ⟨by repeat (first | (with_reducible first | exact HB.out | apply below_alloc | apply pw_below_drewN | apply below_drew1) | exact HB.out)⟩⟩
       replace c8 := Bool.eq_false_iff.mpr c8
       subst c8
       have H1 : (none) = some r := by rw [if_neg (show ¬ (false = true) by decide)] at H; exact H
       clear H
       have H := H1
       clear H1
       exact absurd H (by simp)
      rw [if_neg c6] at H
      exact absurd H (by simp)
     rw [if_neg c5] at H
     exact absurd H (by simp)
    rw [if_neg c4] at H
    have c4b0 : decide (x5_1 < (l0.length : Int)) = false := decide_eq_false c4
    clear c4
    obtain rfl := Option.some.inj H
    go_wp2
    go_ret
    exact ⟨by first | rfl | (simp [errW_none, errW_some] <;> rfl) | (simp [*, errW_none, errW_some] <;> rfl), by repeat (first | (with_reducible first | exact HB.out | apply below_alloc | apply pw_below_drewN | apply below_drew1) | exact HB.out)⟩
 rw [if_neg c3] at H
 exact absurd H (by simp)

end Go.Proofs.Ytfholjcelnkleaa.Print
end
section
namespace Go.Proofs.Ytfholjcelnkleaa.Print
open Go.RowKit Go.Proofs.YtfholjcelnkleaaV.PrintWords Go.Proofs.YtfholjcelnkleaaV.PrintLast Go.Proofs.YtfholjcelnkleaaV.PrintMore
set_option linter.unusedVariables false
set_option linter.unusedSimpArgs false
theorem rdmidGroupl (pre suf : List S69) (y : S69) : rd_T69 (pre ++ y :: suf) (pre.length : Int) = y := by unfold rd_T69; simp
theorem rdmidGroupi (pre suf : List S75) (y : S75) : rd_T75 (pre ++ y :: suf) (pre.length : Int) = y := by unfold rd_T75; simp
theorem szGroupS_l0 : ∀ (suf pre : List S69) (n : Int), 0 ≤ n → n ≤ 1048576 → (∀ y ∈ suf, B69 y) → (pre ++ suf).length < 4611686018427387904 → ∃ r, Ev (fun k => laws_szGroupS.l0 k (pre ++ suf) n (pre.length : Int)) r ∧ r ≤ n ∧ (0 ≤ r → ∀ y ∈ suf, WGroup y)
  | [], pre, n, h0, h1, hB, h => by
    refine ⟨n, Ev.step (f := fun _ => some n) (fun k => ?_) (Ev.now _), Int.le_refl _, fun _ y hy => by cases hy⟩
    simp only [laws_szGroupS.l0]
    rw [if_neg (not_lt_end pre)]
  | y :: suf, pre, n, h0, h1, hB, h => by
    have hp : pre.length < 4611686018427387904 := by simp at h; omega
    have hy := hB y List.mem_cons_self
    obtain ⟨r1, g1, l1, w1⟩ := szGroup_ev y hy n h0 h1
    by_cases c : r1 < 0
    · refine ⟨-1, Ev.step (f := fun k => (laws_szGroup.f k y.f0 y.f1 y.f2 y.f3 y.f4 n).bind fun t => if t < 0 then some (-1) else laws_szGroupS.l0 k (pre ++ y :: suf) t (wrap64 ((pre.length : Int) + 1))) (fun k => ?_) (Ev.bind g1 ?_), by omega, by omega⟩
      · simp only [laws_szGroupS.l0]
        rw [if_pos (lt_mid pre suf y), if_pos (nn _), rdmidGroupl]
      · simp only [if_pos c]
        exact Ev.now _
    · obtain ⟨r, g, hl, hw⟩ := szGroupS_l0 suf (pre ++ [y]) r1 (by omega) (by omega) (fun z hz => hB z (List.mem_cons_of_mem _ hz)) (by simpa using h)
      refine ⟨r, Ev.step (f := fun k => (laws_szGroup.f k y.f0 y.f1 y.f2 y.f3 y.f4 n).bind fun t => if t < 0 then some (-1) else laws_szGroupS.l0 k ((pre ++ [y]) ++ suf) t ((pre ++ [y]).length : Int)) (fun k => ?_) (Ev.bind g1 ?_), by omega, fun hr z hz => ?_⟩
      · simp only [laws_szGroupS.l0]
        rw [if_pos (lt_mid pre suf y), if_pos (nn _), rdmidGroupl, wrap_up _ (by omega)]
        simp
      · simp only [if_neg c]
        exact g
      · rcases List.mem_cons.1 hz with rfl | hz
        · exact w1 (by omega)
        · exact hw hr z hz
theorem szGroupS_ev (l : List S69) (hB : l.length ≤ maxLen ∧ ∀ y ∈ l, B69 y) (n : Int) (h0 : 0 ≤ n) (h1 : n ≤ 1048576) : ∃ r, Ev (fun k => laws_szGroupS.f k l n) r ∧ r ≤ n ∧ (0 ≤ r → l.length ≤ 1048576 ∧ ∀ y ∈ l, WGroup y) := by
  have q : l.length ≤ 9223372036854775807 := hB.1
  have e : wrap64 (n - (l.length : Int)) = n - (l.length : Int) := wrap_id (by omega) (by omega)
  by_cases c : n - (l.length : Int) < 0
  · exact ⟨-1, ⟨0, fun k _ => by simp [laws_szGroupS.f, e, c]⟩, by omega, by omega⟩
  · obtain ⟨r, g, hl, hw⟩ := szGroupS_l0 l [] (n - (l.length : Int)) (by omega) (by omega) hB.2 (by simp; omega)
    refine ⟨r, Ev.congr (fun k => ?_) g, by omega, fun hr => ⟨by omega, hw hr⟩⟩
    unfold laws_szGroupS.f
    rw [e, if_neg c]
    rfl
theorem toGroupS_l0 : ∀ (suf pre : List S69), (pre ++ suf).length < 4611686018427387904 → (∀ y ∈ suf, WGroup y) → Ev (fun k => laws_toGroupS.l0 k (pre ++ suf) ((pre.map cvGroup) ++ List.replicate suf.length z75) (pre.length : Int)) ((pre ++ suf).map cvGroup)
  | [], pre, h, hW => by
    refine Ev.step (f := fun _ => some ((pre ++ []).map cvGroup)) (fun k => ?_) (Ev.now _)
    simp only [laws_toGroupS.l0]
    rw [if_neg (not_lt_end pre)]
    simp
  | y :: suf, pre, h, hW => by
    have hp : pre.length < 4611686018427387904 := by simp at h; omega
    have ih := toGroupS_l0 suf (pre ++ [y]) (by simpa using h) (fun z hz => hW z (List.mem_cons_of_mem _ hz))
    have g := toGroup_ev y (hW y List.mem_cons_self)
    refine Ev.step (f := fun k => (laws_toGroup.f k y.f0 y.f1 y.f2 y.f3 y.f4).bind fun t => laws_toGroupS.l0 k ((pre ++ [y]) ++ suf) ((pre.map cvGroup) ++ (⟨t.1, t.2.1, t.2.2.1, t.2.2.2.1, t.2.2.2.2⟩ : S75) :: List.replicate suf.length z75) ((pre ++ [y]).length : Int)) (fun k => ?_) (Ev.bind g ?_)
    · simp only [laws_toGroupS.l0]
      rw [if_pos (lt_mid pre suf y), if_pos (nn _), rdmidGroupl, wrap_up _ (by omega)]
      congr 1
      funext t
      rw [if_pos (by simp; omega)]
      congr 1
      · simp
      · simp [List.replicate_succ]
      · simp
    · rw [mid_assoc pre suf y]
      have e : (pre.map cvGroup) ++ (cvGroup y) :: List.replicate suf.length z75 = ((pre ++ [y]).map cvGroup) ++ List.replicate suf.length z75 := by simp
      rw [← e] at ih
      exact ih
theorem toGroupS_ev (l : List S69) (h : l.length ≤ 1048576 ∧ ∀ y ∈ l, WGroup y) : Ev (fun k => laws_toGroupS.f k l) (l.map cvGroup) := by
  have h1 := h.1
  refine Ev.congr (fun k => ?_) (toGroupS_l0 l [] (by simp; omega) h.2)
  unfold laws_toGroupS.f
  rw [if_pos (nn l.length), Int.toNat_natCast, if_pos (by omega)]
  rfl
theorem eqGroupS_l0 : ∀ (suf pre : List S75), (pre ++ suf).length < 4611686018427387904 → (∀ y ∈ suf, WiGroup y) → Ev (fun k => laws_eqGroupS.l0 k (pre ++ suf) (pre ++ suf) (pre.length : Int)) true
  | [], pre, h, hW => by
    refine Ev.step (f := fun _ => some true) (fun k => ?_) (Ev.now _)
    simp only [laws_eqGroupS.l0]
    rw [if_neg (not_lt_end pre)]
  | y :: suf, pre, h, hW => by
    have hp : pre.length < 4611686018427387904 := by simp at h; omega
    have ih := eqGroupS_l0 suf (pre ++ [y]) (by simpa using h) (fun z hz => hW z (List.mem_cons_of_mem _ hz))
    have g := eqGroup_ev y (hW y List.mem_cons_self)
    refine Ev.step (f := fun k => (laws_eqGroup.f k y.f0 y.f1 y.f2 y.f3 y.f4 y.f0 y.f1 y.f2 y.f3 y.f4).bind fun t => if t = true then laws_eqGroupS.l0 k ((pre ++ [y]) ++ suf) ((pre ++ [y]) ++ suf) ((pre ++ [y]).length : Int) else none) (fun k => ?_) (Ev.bind g ?_)
    · simp only [laws_eqGroupS.l0]
      rw [if_pos (lt_mid pre suf y), if_pos (nn _), if_pos (lt_mid pre suf y), rdmidGroupi, wrap_up _ (by omega)]
      simp
    · simp only [if_true]
      exact ih
theorem eqGroupS_ev (l : List S75) (h : l.length ≤ 4000000 ∧ ∀ y ∈ l, WiGroup y) : Ev (fun k => laws_eqGroupS.f k l l) true := by
  have h1 := h.1
  refine Ev.congr (fun k => ?_) (eqGroupS_l0 l [] (by simp; omega) h.2)
  unfold laws_eqGroupS.f
  rw [if_pos rfl]
  rfl

end Go.Proofs.Ytfholjcelnkleaa.Print
end
section
namespace Go.Proofs.Ytfholjcelnkleaa.Print
open Go.RowKit Go.Proofs.YtfholjcelnkleaaV.PrintWords Go.Proofs.YtfholjcelnkleaaV.PrintLast Go.Proofs.YtfholjcelnkleaaV.PrintMore
set_option linter.unusedVariables false
set_option linter.unusedSimpArgs false
theorem Wi_mapLabel {l : List S163} (h : l.length ≤ 1048576 ∧ ∀ y ∈ l, WLabel y) : (l.map cvLabel).length ≤ 4000000 ∧ ∀ y ∈ l.map cvLabel, WiLabel y :=
  ⟨by rw [List.length_map]; exact Nat.le_trans h.1 (by decide), fun y hy => by obtain ⟨z, hz, rfl⟩ := List.mem_map.1 hy; exact Wi_cvLabel (h.2 z hz)⟩
theorem Wi_mapAlarm {l : List S34} (h : l.length ≤ 1048576 ∧ ∀ y ∈ l, WAlarm y) : (l.map cvAlarm).length ≤ 4000000 ∧ ∀ y ∈ l.map cvAlarm, WiAlarm y :=
  ⟨by rw [List.length_map]; exact Nat.le_trans h.1 (by decide), fun y hy => by obtain ⟨z, hz, rfl⟩ := List.mem_map.1 hy; exact Wi_cvAlarm (h.2 z hz)⟩
theorem Wi_mapGroup {l : List S69} (h : l.length ≤ 1048576 ∧ ∀ y ∈ l, WGroup y) : (l.map cvGroup).length ≤ 4000000 ∧ ∀ y ∈ l.map cvGroup, WiGroup y :=
  ⟨by rw [List.length_map]; exact Nat.le_trans h.1 (by decide), fun y hy => by obtain ⟨z, hz, rfl⟩ := List.mem_map.1 hy; exact Wi_cvGroup (h.2 z hz)⟩

end Go.Proofs.Ytfholjcelnkleaa.Print
end
section
namespace Go.Proofs.Ytfholjcelnkleaa.Print
open Go.RowKit Go.Proofs.YtfholjcelnkleaaV.PrintWords Go.Proofs.YtfholjcelnkleaaV.PrintLast Go.Proofs.YtfholjcelnkleaaV.PrintMore
set_option linter.unusedVariables false
set_option linter.unusedSimpArgs false
theorem rdmidString (pre suf : List ByteArray) (y : ByteArray) : rdOf ByteArray.empty (pre ++ y :: suf) (pre.length : Int) = y := by unfold rdOf; simp
theorem szStringS_l0 : ∀ (suf pre : List ByteArray) (n : Int), 0 ≤ n → n ≤ 1048576 → (∀ y ∈ suf, y.size ≤ maxLen) → (pre ++ suf).length < 4611686018427387904 → ∃ r, Ev (fun k => laws_szStringS.l0 k (pre ++ suf) n (pre.length : Int)) r ∧ r ≤ n ∧ (0 ≤ r → ∀ y ∈ suf, y.size ≤ 1048576)
  | [], pre, n, h0, h1, hB, h => by
    refine ⟨n, Ev.step (f := fun _ => some n) (fun k => ?_) (Ev.now _), Int.le_refl _, fun _ y hy => by cases hy⟩
    simp only [laws_szStringS.l0]
    rw [if_neg (not_lt_end pre)]
  | y :: suf, pre, n, h0, h1, hB, h => by
    have hp : pre.length < 4611686018427387904 := by simp at h; omega
    have hy := hB y List.mem_cons_self
    have q : y.size ≤ 9223372036854775807 := hy
    have e : wrap64 (n - (y.size : Int)) = n - (y.size : Int) := wrap_id (by omega) (by omega)
    by_cases c : n - (y.size : Int) < 0
    · refine ⟨-1, Ev.step (f := fun _ => some (-1)) (fun k => ?_) (Ev.now _), by omega, by omega⟩
      simp only [laws_szStringS.l0]
      rw [if_pos (lt_mid pre suf y), if_pos (nn _), rdmidString, e, if_pos c]
    · obtain ⟨r, g, hl, hw⟩ := szStringS_l0 suf (pre ++ [y]) (n - (y.size : Int)) (by omega) (by omega) (fun z hz => hB z (List.mem_cons_of_mem _ hz)) (by simpa using h)
      refine ⟨r, Ev.step (f := fun k => laws_szStringS.l0 k ((pre ++ [y]) ++ suf) (n - (y.size : Int)) ((pre ++ [y]).length : Int)) (fun k => ?_) g, by omega, fun hr z hz => ?_⟩
      · simp only [laws_szStringS.l0]
        rw [if_pos (lt_mid pre suf y), if_pos (nn _), rdmidString, e, if_neg c, wrap_up _ (by omega)]
        simp
      · rcases List.mem_cons.1 hz with rfl | hz
        · omega
        · exact hw hr z hz
theorem szStringS_ev (l : List ByteArray) (hB : l.length ≤ maxLen ∧ ∀ y ∈ l, y.size ≤ maxLen) (n : Int) (h0 : 0 ≤ n) (h1 : n ≤ 1048576) : ∃ r, Ev (fun k => laws_szStringS.f k l n) r ∧ r ≤ n ∧ (0 ≤ r → l.length ≤ 1048576 ∧ ∀ y ∈ l, y.size ≤ 1048576) := by
  have q : l.length ≤ 9223372036854775807 := hB.1
  have e : wrap64 (n - (l.length : Int)) = n - (l.length : Int) := wrap_id (by omega) (by omega)
  by_cases c : n - (l.length : Int) < 0
  · exact ⟨-1, ⟨0, fun k _ => by simp [laws_szStringS.f, e, c]⟩, by omega, by omega⟩
  · obtain ⟨r, g, hl, hw⟩ := szStringS_l0 l [] (n - (l.length : Int)) (by omega) (by omega) hB.2 (by simp; omega)
    refine ⟨r, Ev.congr (fun k => ?_) g, by omega, fun hr => ⟨by omega, hw hr⟩⟩
    unfold laws_szStringS.f
    rw [e, if_neg c]
    rfl
theorem toStringS_l0 : ∀ (suf pre : List ByteArray), (pre ++ suf).length < 4611686018427387904 → (∀ y ∈ suf, y.size ≤ 1048576) → Ev (fun k => laws_toStringS.l0 k (pre ++ suf) (pre ++ List.replicate suf.length (⟨#[]⟩ : ByteArray)) (pre.length : Int)) (pre ++ suf)
  | [], pre, h, hW => by
    refine Ev.step (f := fun _ => some (pre ++ [])) (fun k => ?_) (Ev.now _)
    simp only [laws_toStringS.l0]
    rw [if_neg (not_lt_end pre)]
    simp
  | y :: suf, pre, h, hW => by
    have hp : pre.length < 4611686018427387904 := by simp at h; omega
    have ih := toStringS_l0 suf (pre ++ [y]) (by simpa using h) (fun z hz => hW z (List.mem_cons_of_mem _ hz))
    refine Ev.step (f := fun k => laws_toStringS.l0 k ((pre ++ [y]) ++ suf) ((pre ++ [y]) ++ List.replicate suf.length (⟨#[]⟩ : ByteArray)) ((pre ++ [y]).length : Int)) (fun k => ?_) (by rw [mid_assoc pre suf y]; exact ih)
    simp only [laws_toStringS.l0]
    rw [if_pos (lt_mid pre suf y), if_pos (nn _), rdmidString, wrap_up _ (by omega), if_pos (by simp; omega)]
    congr 1
    · simp
    · simp [List.replicate_succ]
    · simp
theorem toStringS_ev (l : List ByteArray) (h : l.length ≤ 1048576 ∧ ∀ y ∈ l, y.size ≤ 1048576) : Ev (fun k => laws_toStringS.f k l) l := by
  have h1 := h.1
  refine Ev.congr (fun k => ?_) (toStringS_l0 l [] (by simp; omega) h.2)
  unfold laws_toStringS.f
  rw [if_pos (nn l.length), Int.toNat_natCast, if_pos (by omega)]
  rfl
theorem eqStringS_l0 : ∀ (suf pre : List ByteArray), (pre ++ suf).length < 4611686018427387904 → (∀ y ∈ suf, y.size ≤ 4000000) → Ev (fun k => laws_eqStringS.l0 k (pre ++ suf) (pre ++ suf) (pre.length : Int)) true
  | [], pre, h, hW => by
    refine Ev.step (f := fun _ => some true) (fun k => ?_) (Ev.now _)
    simp only [laws_eqStringS.l0]
    rw [if_neg (not_lt_end pre)]
  | y :: suf, pre, h, hW => by
    have hp : pre.length < 4611686018427387904 := by simp at h; omega
    have ih := eqStringS_l0 suf (pre ++ [y]) (by simpa using h) (fun z hz => hW z (List.mem_cons_of_mem _ hz))
    refine Ev.step (f := fun k => laws_eqStringS.l0 k ((pre ++ [y]) ++ suf) ((pre ++ [y]) ++ suf) ((pre ++ [y]).length : Int)) (fun k => ?_) ih
    simp only [laws_eqStringS.l0]
    rw [if_pos (lt_mid pre suf y), if_pos (nn _), if_pos (lt_mid pre suf y), wrap_up _ (by omega)]
    simp
theorem eqStringS_ev (l : List ByteArray) (h : l.length ≤ 4000000 ∧ ∀ y ∈ l, y.size ≤ 4000000) : Ev (fun k => laws_eqStringS.f k l l) true := by
  have h1 := h.1
  refine Ev.congr (fun k => ?_) (eqStringS_l0 l [] (by simp; omega) h.2)
  unfold laws_eqStringS.f
  rw [if_pos rfl]
  rfl

end Go.Proofs.Ytfholjcelnkleaa.Print
end
section
namespace Go.Proofs.Ytfholjcelnkleaa.Print
open Go.RowKit Go.Proofs.YtfholjcelnkleaaV.PrintWords Go.Proofs.YtfholjcelnkleaaV.PrintLast Go.Proofs.YtfholjcelnkleaaV.PrintMore
set_option linter.unusedVariables false
set_option linter.unusedSimpArgs false
theorem Wi_mapString {l : List ByteArray} (h : l.length ≤ 1048576 ∧ ∀ y ∈ l, y.size ≤ 1048576) : l.length ≤ 4000000 ∧ ∀ y ∈ l, y.size ≤ 4000000 := ⟨Nat.le_trans h.1 (by decide), fun y hy => Nat.le_trans (h.2 y hy) (by decide)⟩

end Go.Proofs.Ytfholjcelnkleaa.Print
end
section
namespace Go.Proofs.Ytfholjcelnkleaa.Print
open Go.RowKit Go.Proofs.YtfholjcelnkleaaV.PrintWords Go.Proofs.YtfholjcelnkleaaV.PrintLast Go.Proofs.YtfholjcelnkleaaV.PrintMore
set_option linter.unusedVariables false
set_option linter.unusedSimpArgs false
/-- A loop that goes on or stops with an answer. -/
def scan {ρ : Type} (step : Nat → Option ρ) (fin : ρ) : Nat → Nat → ρ
  | 0, _ => fin
  | d + 1, i => match step i with
    | some r => r
    | none => scan step fin d (i + 1)
/-- What one round does. -/
def goOn {ρ : Type} (o : Option ρ) (next : Option ρ) : Option ρ := match o with
  | some r => some r
  | none => next
theorem goOn_none {ρ : Type} (next : Option ρ) : goOn none next = next := rfl
theorem goOn_some {ρ : Type} (r : ρ) (next : Option ρ) : goOn (some r) next = some r := rfl
theorem scan_ev2 {ρ : Type} {F : Nat → Int → Option ρ} {n : Nat} {step : Nat → Option ρ} {fin : ρ} (hend : ∃ K, ∀ k, K ≤ k → F (k + 1) (n : Int) = some fin)
    (hstep : ∀ i, i < n → ∃ K, ∀ k, K ≤ k → F (k + 1) (i : Int) = goOn (step i) (F k ((i + 1 : Nat) : Int))) : ∀ d i, d + i = n → Ev (fun k => F k (i : Int)) (scan step fin d i)
  | 0, i, h => by
    obtain rfl : i = n := by omega
    obtain ⟨K, hK⟩ := hend
    refine ⟨K + 1, fun k hk => ?_⟩
    obtain ⟨m, rfl⟩ : ∃ m, k = m + 1 := ⟨k - 1, by omega⟩
    exact hK m (by omega)
  | d + 1, i, h => by
    obtain ⟨K, hK⟩ := hstep i (by omega)
    unfold scan
    cases hs : step i with
    | some r =>
      refine ⟨K + 1, fun k hk => ?_⟩
      obtain ⟨m, rfl⟩ : ∃ m, k = m + 1 := ⟨k - 1, by omega⟩
      have := hK m (by omega)
      rw [hs] at this
      exact this
    | none =>
      obtain ⟨K', hK'⟩ := scan_ev2 hend hstep d (i + 1) (by omega)
      refine ⟨max K K' + 1, fun k hk => ?_⟩
      obtain ⟨m, rfl⟩ : ∃ m, k = m + 1 := ⟨k - 1, by omega⟩
      have := hK m (by omega)
      rw [hs] at this
      exact this.trans (hK' m (by omega))
theorem scan_ev {ρ : Type} {F : Nat → Int → Option ρ} {n : Nat} {step : Nat → Option ρ} {fin : ρ} (hend : ∀ k, F (k + 1) (n : Int) = some fin)
    (hstep : ∀ i, i < n → ∃ K, ∀ k, K ≤ k → F (k + 1) (i : Int) = goOn (step i) (F k ((i + 1 : Nat) : Int))) : ∀ d i, d + i = n → Ev (fun k => F k (i : Int)) (scan step fin d i) := scan_ev2 ⟨0, fun k _ => hend k⟩ hstep
theorem scan_congr {ρ : Type} {s s' : Nat → Option ρ} {f : ρ} : ∀ d i, (∀ j, i ≤ j → j < i + d → s j = s' j) → scan s f d i = scan s' f d i
  | 0, _, _ => rfl
  | d + 1, i, h => by
    unfold scan
    rw [h i (Nat.le_refl _) (by omega)]
    cases s' i with
    | some r => rfl
    | none => exact scan_congr d (i + 1) (fun j h1 h2 => h j (by omega) (by omega))
/-- All of a list, and e. -/
theorem scan_all {α : Type} (p : α → Bool) (z : α) (e : Bool) : ∀ (suf pre : List α), scan (fun i => if p ((pre ++ suf).getD i z) = true then none else some false) e suf.length pre.length = (suf.all p && e)
  | [], pre => by simp [scan]
  | y :: suf, pre => by
    have ih := scan_all p z e suf (pre ++ [y])
    simp only [List.append_assoc, List.singleton_append, List.length_append, List.length_singleton] at ih
    simp only [List.length_cons, scan]
    rw [show (pre ++ y :: suf).getD pre.length z = y by simp]
    cases hp : p y with
    | true => simp only [if_true]; rw [ih]; simp [hp]
    | false => simp [hp]
theorem scan_all0 {α : Type} (p : α → Bool) (z : α) (e : Bool) (l : List α) : scan (fun i => if p (l.getD i z) = true then none else some false) e l.length 0 = (l.all p && e) := scan_all p z e l []
/-- Two lists of one length, element by element. -/
theorem scan_same {α β : Type} [DecidableEq β] (f : α → β) (z : α) : ∀ (a b pa pb : List α), a.length = b.length → pa.length = pb.length →
    scan (fun i => if f ((pa ++ a).getD i z) = f ((pb ++ b).getD i z) then none else some false) true a.length pa.length = decide (a.map f = b.map f)
  | [], [], pa, pb, _, _ => by simp [scan]
  | [], _ :: _, _, _, h, _ => by simp at h
  | _ :: _, [], _, _, h, _ => by simp at h
  | x :: a, y :: b, pa, pb, h, h2 => by
    have ih := scan_same f z a b (pa ++ [x]) (pb ++ [y]) (by simpa using h) (by simp [h2])
    simp only [List.append_assoc, List.singleton_append, List.length_append, List.length_singleton] at ih
    simp only [List.length_cons, scan]
    rw [show (pa ++ x :: a).getD pa.length z = x by simp, show (pb ++ y :: b).getD pa.length z = y by rw [h2]; simp]
    by_cases he : f x = f y
    · simp only [if_pos he]; rw [ih]; simp [he]
    · simp [he]
theorem scan_same0 {α β : Type} [DecidableEq β] (f : α → β) (z : α) (a b : List α) (h : a.length = b.length) : scan (fun i => if f (a.getD i z) = f (b.getD i z) then none else some false) true a.length 0 = decide (a.map f = b.map f) := scan_same f z a b [] [] h rfl
/-- The place of the first that is so, or -1. -/
def place {α : Type} (p : α → Bool) : List α → Nat → Int
  | [], _ => -1
  | x :: l, i => if p x = true then (i : Int) else place p l (i + 1)
theorem scan_place {α : Type} (p : α → Bool) (z : α) : ∀ (suf pre : List α), scan (fun i => if p ((pre ++ suf).getD i z) = true then some (i : Int) else none) (-1) suf.length pre.length = place p suf pre.length
  | [], pre => by simp [scan, place]
  | y :: suf, pre => by
    have ih := scan_place p z suf (pre ++ [y])
    simp only [List.append_assoc, List.singleton_append, List.length_append, List.length_singleton] at ih
    simp only [List.length_cons, scan, place]
    rw [show (pre ++ y :: suf).getD pre.length z = y by simp]
    by_cases hp : p y = true
    · simp [hp]
    · simp only [if_neg hp]; exact ih
theorem scan_place0 {α : Type} (p : α → Bool) (z : α) (l : List α) : scan (fun i => if p (l.getD i z) = true then some (i : Int) else none) (-1) l.length 0 = place p l 0 := scan_place p z l []
theorem getD_eq {α : Type} (l : List α) (i : Nat) (z : α) (h : i < l.length) : l.getD i z = l[i] := by simp [List.getD_eq_getElem?_getD, List.getElem?_eq_getElem h]
theorem getD_mem {α : Type} (l : List α) (i : Nat) (z : α) (h : i < l.length) : l.getD i z ∈ l := by rw [getD_eq l i z h]; exact List.getElem_mem h

end Go.Proofs.Ytfholjcelnkleaa.Print
end
section
namespace Go.Proofs.Ytfholjcelnkleaa.Print
open Go.RowKit Go.Proofs.YtfholjcelnkleaaV.PrintWords Go.Proofs.YtfholjcelnkleaaV.PrintLast Go.Proofs.YtfholjcelnkleaaV.PrintMore
attribute [local go_sem] max2_int min2_int max_two min_two max_three min_three max_four min_four   -- for this text's walks alone
set_option linter.unusedVariables false
set_option linter.unusedSimpArgs false

/-! ### spec_SameAlarm: function 154 -/
def spec_SameAlarm.f (k : Nat) (l0_0 : List (S164)) (a0_1 : Int) (a0_2 : Int) (a0_3 : ByteArray) (l1_0 : List (S164)) (a1_1 : Int) (a1_2 : Int) (a1_3 : ByteArray) : Option (Bool) := (spec_SameSet.f k l0_0 l1_0).bind fun t1112 => (if t1112 = true then (if a0_1 = a1_1 then (if a0_2 = a1_2 then (some (a0_3.toList == a1_3.toList)) else (some false)) else (some false)) else (some false))
theorem spec_SameAlarm.mono : ∀ a0 a1 a2 a3 a4 a5 a6 a7 k, LeO (spec_SameAlarm.f k a0 a1 a2 a3 a4 a5 a6 a7) (spec_SameAlarm.f (k + 1) a0 a1 a2 a3 a4 a5 a6 a7) := by
 intro a0 a1 a2 a3 a4 a5 a6 a7 k
 unfold spec_SameAlarm.f
 repeat' first
   | (with_reducible exact spec_SameSet.mono _ _ _)
   | (with_reducible exact LeO.refl _)
   | (with_reducible exact LeO.none _)
   | (with_reducible refine LeO.ite ?_ ?_)
   | (with_reducible refine LeO.bind ?_ (fun _ => ?_))
   | exact spec_SameSet.mono _ _ _
   | exact LeO.none _
   | refine LeO.ite ?_ ?_
   | refine LeO.bind ?_ (fun _ => ?_)
set_option maxHeartbeats 8000000 in
set_option maxRecDepth 100000 in
theorem spec_SameAlarm.calls (k : Nat) (A0_0 : Option Addr) (c0_0 : Nat) (l0_0 : List (S164)) (a0_1 : Int) (a0_2 : Int) (a0_3 : ByteArray) (A1_0 : Option Addr) (c1_0 : Nat) (l1_0 : List (S164)) (a1_1 : Int) (a1_2 : Int) (a1_3 : ByteArray) (r : Bool) (w : World) (hr0_0 : Kd.C k164 w A0_0 l0_0.length l0_0) (hc0_0 : l0_0.length ≤ c0_0) (hr1_0 : Kd.C k164 w A1_0 l1_0.length l1_0) (hc1_0 : l1_0.length ≤ c1_0) (h : spec_SameAlarm.f k l0_0 a0_1 a0_2 a0_3 l1_0 a1_1 a1_2 a1_3 = some r) :
  Calls Try.prog 154 #[.agg #[.slice A0_0 l0_0.length c0_0, .int .i64 a0_1, .int .i64 a0_2, .string a0_3], .agg #[.slice A1_0 l1_0.length c1_0, .int .i64 a1_1, .int .i64 a1_2, .string a1_3]] w fun e w' => e = .returned (.bool r) ∧ Below w.heap.size w w' := by
 have hu44 := Try.underlying44
 have HR0_0 := Aside0.mk hr0_0
 have HC0_0 := Aside0.mk hc0_0
 clear hr0_0 hc0_0
 have HR1_0 := Aside0.mk hr1_0
 have HC1_0 := Aside0.mk hc1_0
 clear hr1_0 hc1_0
 have HB := Aside0.mk (Below.refl w.heap.size w)
 have H : ((spec_SameSet.f k l0_0 l1_0).bind fun t1112 => (if t1112 = true then (if a0_1 = a1_1 then (if a0_2 = a1_2 then (some (a0_3.toList == a1_3.toList)) else (some false)) else (some false)) else (some false))) = some r := h
 clear h
 replace H := Option.bind_eq_some_iff.mp H
 obtain ⟨t1112, A30, H⟩ := H
 replace H : (if t1112 = true then (if a0_1 = a1_1 then (if a0_2 = a1_2 then (some (a0_3.toList == a1_3.toList)) else (some false)) else (some false)) else (some false)) = some r := H
 have A3 := Aside0.mk A30
 clear A30
 by_cases c4 : t1112 = true
 ·
  subst c4
  have H1 : (if a0_1 = a1_1 then (if a0_2 = a1_2 then (some (a0_3.toList == a1_3.toList)) else (some false)) else (some false)) = some r := by rw [if_pos rfl] at H; exact H
  clear H
  have H := H1
  clear H1
  by_cases c5 : a0_1 = a1_1
  ·
   rw [if_pos c5] at H
   have c5b0 : (a0_1 == a1_1) = true := beq_iff_eq.mpr c5
   have c5b1 : (a0_1 != a1_1) = false := bne_eq_false_iff_eq.mpr c5
   clear c5
   by_cases c6 : a0_2 = a1_2
   ·
    rw [if_pos c6] at H
    have c6b0 : (a0_2 == a1_2) = true := beq_iff_eq.mpr c6
    have c6b1 : (a0_2 != a1_2) = false := bne_eq_false_iff_eq.mpr c6
    clear c6
    obtain rfl := Option.some.inj H
    go_enter Try.func154, Try.ntmps154
    go_wp2_with (first | ((with_reducible refine gate_dst (N := 2) rfl ?_); refine box_event ?hg (N := 2) ?hd (cs := #[.slice A0_0 l0_0.length c0_0, .int .i64 a0_1, .int .i64 a0_2, .string a0_3]) (t := 44) ?hr ?_; (case hd => rfl); (case hg => rfl); (case hr => first | (go_simp; done) | (go_simp; rfl)); intro gb1110 hg w7 hbox hb; have n0_ := Aside0.mk (below_step (by repeat (first | (with_reducible first | exact HB.out | apply below_alloc | apply pw_below_drewN | apply below_drew1) | exact HB.out)) hb); have n1_ := Aside0.mk (hbox); have n2_ := Aside0.mk ((by rw [hg]; exact (below_size (by repeat (first | (with_reducible first | exact HB.out | apply below_alloc | apply pw_below_drewN | apply below_drew1) | exact HB.out))) : w.heap.size ≤ gb1110)); have n3_ := n2_; clear HB; have HB := n0_; have BK1110 := n1_; have GW1110 := n2_; have GE1110 := n3_; clear n0_ n1_ n2_ n3_; clear hb hbox hg) | ((with_reducible refine gate_dst (N := 3) rfl ?_); refine box_event ?hg (N := 3) ?hd (cs := #[.slice A1_0 l1_0.length c1_0, .int .i64 a1_1, .int .i64 a1_2, .string a1_3]) (t := 44) ?hr ?_; (case hd => rfl); (case hg => rfl); (case hr => first | (go_simp; done) | (go_simp; rfl)); intro gb1111 hg w8 hbox hb; have n0_ := Aside0.mk (blk_below (g := gb1110) (o := .cells #[.slice A0_0 l0_0.length c0_0, .int .i64 a0_1, .int .i64 a0_2, .string a0_3] 44 (0, 0)) (by (with_reducible repeat (first | refine blk_drewN ?_ _ | refine blk_drew ?_ | refine blk_alloc ?_ _)); exact BK1110.out) hb); have n1_ := Aside0.mk (below_step (by repeat (first | (with_reducible first | exact HB.out | apply below_alloc | apply pw_below_drewN | apply below_drew1 | refine below_set ?_ GE1110.out) | exact HB.out)) hb); have n2_ := Aside0.mk (hbox); have n3_ := Aside0.mk ((by rw [hg]; exact (below_size (by repeat (first | (with_reducible first | exact HB.out | apply below_alloc | apply pw_below_drewN | apply below_drew1 | refine below_set ?_ GE1110.out) | exact HB.out))) : w.heap.size ≤ gb1111)); have n4_ := n3_; have n5_ := Aside0.mk ((by rw [hg]; exact Nat.ne_of_lt (blk_lt (g := gb1110) (o := .cells #[.slice A0_0 l0_0.length c0_0, .int .i64 a0_1, .int .i64 a0_2, .string a0_3] 44 (0, 0)) (by (with_reducible repeat (first | refine blk_drewN ?_ _ | refine blk_drew ?_ | refine blk_alloc ?_ _)); exact BK1110.out)) : gb1110 ≠ gb1111)); have n6_ := Aside0.mk ((by rw [hg]; exact Nat.ne_of_gt (blk_lt (g := gb1110) (o := .cells #[.slice A0_0 l0_0.length c0_0, .int .i64 a0_1, .int .i64 a0_2, .string a0_3] 44 (0, 0)) (by (with_reducible repeat (first | refine blk_drewN ?_ _ | refine blk_drew ?_ | refine blk_alloc ?_ _)); exact BK1110.out)) : gb1111 ≠ gb1110)); clear BK1110; clear HB; have BK1110 := n0_; have HB := n1_; have BK1111 := n2_; have GW1111 := n3_; have GE1111 := n4_; have NB1110_1111 := n5_; have NB1111_1110 := n6_; clear n0_ n1_ n2_ n3_ n4_ n5_ n6_; clear hb hbox hg; have hnb9 := NB1110_1111.out; have hnc9 := NB1111_1110.out; have hcz10_0 : w8.cell? ⟨gb1110, 0, none⟩ = some (.slice A0_0 l0_0.length c0_0) := (blk_cell BK1110.out 0).trans rfl; have hcz10_1 : w8.cell? ⟨gb1110, 1, none⟩ = some (.int .i64 a0_1) := (blk_cell BK1110.out 1).trans rfl; have hcz10_2 : w8.cell? ⟨gb1110, 2, none⟩ = some (.int .i64 a0_2) := (blk_cell BK1110.out 2).trans rfl; have hcz10_3 : w8.cell? ⟨gb1110, 3, none⟩ = some (.string a0_3) := (blk_cell BK1110.out 3).trans rfl; have hfz10_0 := blk_frozen BK1110.out 0; have hfz10_1 := blk_frozen BK1110.out 1; have hfz10_2 := blk_frozen BK1110.out 2; have hfz10_3 := blk_frozen BK1110.out 3; have hcz11_0 : w8.cell? ⟨gb1111, 0, none⟩ = some (.slice A1_0 l1_0.length c1_0) := (blk_cell BK1111.out 0).trans rfl; have hcz11_1 : w8.cell? ⟨gb1111, 1, none⟩ = some (.int .i64 a1_1) := (blk_cell BK1111.out 1).trans rfl; have hcz11_2 : w8.cell? ⟨gb1111, 2, none⟩ = some (.int .i64 a1_2) := (blk_cell BK1111.out 2).trans rfl; have hcz11_3 : w8.cell? ⟨gb1111, 3, none⟩ = some (.string a1_3) := (blk_cell BK1111.out 3).trans rfl; have hfz11_0 := blk_frozen BK1111.out 0; have hfz11_1 := blk_frozen BK1111.out 1; have hfz11_2 := blk_frozen BK1111.out 2; have hfz11_3 := blk_frozen BK1111.out 3) | ((with_reducible refine gate_callee (f := 106) rfl ?_); refine goesL_ (some 9) rfl rfl Try.func106 (by kernel_rfl) rfl #[.slice A0_0 l0_0.length c0_0, .slice A1_0 l1_0.length c1_0] rfl (by (try simp only [List.map_toArray, List.map_cons, List.map_nil]); first | done | rfl | (simp only [List.length_drop, List.length_take]; rfl)) ?_; (with_reducible refine (spec_SameSet.calls k _ _ l0_0 _ _ l1_0 true _ ?side1 ?side2 ?side3 ?side4 A3.out).mono ?_); (case side1 => repeat (first | exact (Kd.C_below HR0_0.out HB.out) | (with_reducible refine Kd.C_alloc ?_ _) | (with_reducible refine Kd.C_drewN ?_ _) | (with_reducible refine Kd.C_drew ?_))); (case side2 => exact HC0_0.out); (case side3 => repeat (first | exact (Kd.C_below HR1_0.out HB.out) | (with_reducible refine Kd.C_alloc ?_ _) | (with_reducible refine Kd.C_drewN ?_ _) | (with_reducible refine Kd.C_drew ?_))); (case side4 => exact HC1_0.out); rintro e w' ⟨rfl, ⟨nd, rfl⟩⟩; refine ⟨_, rfl, ?_⟩))
    go_ret
    exact ⟨by first | rfl | (simp [errW_none, errW_some] <;> rfl) | (simp [*, errW_none, errW_some] <;> rfl), by repeat (first | (with_reducible first | exact HB.out | apply below_alloc | apply pw_below_drewN | apply below_drew1 | refine below_set ?_ GE1110.out | refine below_set ?_ GE1111.out) | exact HB.out)⟩
   rw [if_neg c6] at H
   have c6b0 : (a0_2 == a1_2) = false := beq_eq_false_iff_ne.mpr c6
   have c6b1 : (a0_2 != a1_2) = true := bne_iff_ne.mpr c6
   obtain rfl := Option.some.inj H
   go_enter Try.func154, Try.ntmps154
   go_wp2_with (first | ((with_reducible refine gate_dst (N := 2) rfl ?_); refine box_event ?hg (N := 2) ?hd (cs := #[.slice A0_0 l0_0.length c0_0, .int .i64 a0_1, .int .i64 a0_2, .string a0_3]) (t := 44) ?hr ?_; (case hd => rfl); (case hg => rfl); (case hr => first | (go_simp; done) | (go_simp; rfl)); intro gb1110 hg w12 hbox hb; have n0_ := Aside0.mk (below_step (by repeat (first | (with_reducible first | exact HB.out | apply below_alloc | apply pw_below_drewN | apply below_drew1) | exact HB.out)) hb); have n1_ := Aside0.mk (hbox); have n2_ := Aside0.mk ((by rw [hg]; exact (below_size (by repeat (first | (with_reducible first | exact HB.out | apply below_alloc | apply pw_below_drewN | apply below_drew1) | exact HB.out))) : w.heap.size ≤ gb1110)); have n3_ := n2_; clear HB; have HB := n0_; have BK1110 := n1_; have GW1110 := n2_; have GE1110 := n3_; clear n0_ n1_ n2_ n3_; clear hb hbox hg) | ((with_reducible refine gate_dst (N := 3) rfl ?_); refine box_event ?hg (N := 3) ?hd (cs := #[.slice A1_0 l1_0.length c1_0, .int .i64 a1_1, .int .i64 a1_2, .string a1_3]) (t := 44) ?hr ?_; (case hd => rfl); (case hg => rfl); (case hr => first | (go_simp; done) | (go_simp; rfl)); intro gb1111 hg w13 hbox hb; have n0_ := Aside0.mk (blk_below (g := gb1110) (o := .cells #[.slice A0_0 l0_0.length c0_0, .int .i64 a0_1, .int .i64 a0_2, .string a0_3] 44 (0, 0)) (by (with_reducible repeat (first | refine blk_drewN ?_ _ | refine blk_drew ?_ | refine blk_alloc ?_ _)); exact BK1110.out) hb); have n1_ := Aside0.mk (below_step (by repeat (first | (with_reducible first | exact HB.out | apply below_alloc | apply pw_below_drewN | apply below_drew1 | refine below_set ?_ GE1110.out) | exact HB.out)) hb); have n2_ := Aside0.mk (hbox); have n3_ := Aside0.mk ((by rw [hg]; exact (below_size (by repeat (first | (with_reducible first | exact HB.out | apply below_alloc | apply pw_below_drewN | apply below_drew1 | refine below_set ?_ GE1110.out) | exact HB.out))) : w.heap.size ≤ gb1111)); have n4_ := n3_; have n5_ := Aside0.mk ((by rw [hg]; exact Nat.ne_of_lt (blk_lt (g := gb1110) (o := .cells #[.slice A0_0 l0_0.length c0_0, .int .i64 a0_1, .int .i64 a0_2, .string a0_3] 44 (0, 0)) (by (with_reducible repeat (first | refine blk_drewN ?_ _ | refine blk_drew ?_ | refine blk_alloc ?_ _)); exact BK1110.out)) : gb1110 ≠ gb1111)); have n6_ := Aside0.mk ((by rw [hg]; exact Nat.ne_of_gt (blk_lt (g := gb1110) (o := .cells #[.slice A0_0 l0_0.length c0_0, .int .i64 a0_1, .int .i64 a0_2, .string a0_3] 44 (0, 0)) (by (with_reducible repeat (first | refine blk_drewN ?_ _ | refine blk_drew ?_ | refine blk_alloc ?_ _)); exact BK1110.out)) : gb1111 ≠ gb1110)); clear BK1110; clear HB; have BK1110 := n0_; have HB := n1_; have BK1111 := n2_; have GW1111 := n3_; have GE1111 := n4_; have NB1110_1111 := n5_; have NB1111_1110 := n6_; clear n0_ n1_ n2_ n3_ n4_ n5_ n6_; clear hb hbox hg; have hnb14 := NB1110_1111.out; have hnc14 := NB1111_1110.out; have hcz15_0 : w13.cell? ⟨gb1110, 0, none⟩ = some (.slice A0_0 l0_0.length c0_0) := (blk_cell BK1110.out 0).trans rfl; have hcz15_1 : w13.cell? ⟨gb1110, 1, none⟩ = some (.int .i64 a0_1) := (blk_cell BK1110.out 1).trans rfl; have hcz15_2 : w13.cell? ⟨gb1110, 2, none⟩ = some (.int .i64 a0_2) := (blk_cell BK1110.out 2).trans rfl; have hcz15_3 : w13.cell? ⟨gb1110, 3, none⟩ = some (.string a0_3) := (blk_cell BK1110.out 3).trans rfl; have hfz15_0 := blk_frozen BK1110.out 0; have hfz15_1 := blk_frozen BK1110.out 1; have hfz15_2 := blk_frozen BK1110.out 2; have hfz15_3 := blk_frozen BK1110.out 3; have hcz16_0 : w13.cell? ⟨gb1111, 0, none⟩ = some (.slice A1_0 l1_0.length c1_0) := (blk_cell BK1111.out 0).trans rfl; have hcz16_1 : w13.cell? ⟨gb1111, 1, none⟩ = some (.int .i64 a1_1) := (blk_cell BK1111.out 1).trans rfl; have hcz16_2 : w13.cell? ⟨gb1111, 2, none⟩ = some (.int .i64 a1_2) := (blk_cell BK1111.out 2).trans rfl; have hcz16_3 : w13.cell? ⟨gb1111, 3, none⟩ = some (.string a1_3) := (blk_cell BK1111.out 3).trans rfl; have hfz16_0 := blk_frozen BK1111.out 0; have hfz16_1 := blk_frozen BK1111.out 1; have hfz16_2 := blk_frozen BK1111.out 2; have hfz16_3 := blk_frozen BK1111.out 3) | ((with_reducible refine gate_callee (f := 106) rfl ?_); refine goesL_ (some 9) rfl rfl Try.func106 (by kernel_rfl) rfl #[.slice A0_0 l0_0.length c0_0, .slice A1_0 l1_0.length c1_0] rfl (by (try simp only [List.map_toArray, List.map_cons, List.map_nil]); first | done | rfl | (simp only [List.length_drop, List.length_take]; rfl)) ?_; (with_reducible refine (spec_SameSet.calls k _ _ l0_0 _ _ l1_0 true _ ?side1 ?side2 ?side3 ?side4 A3.out).mono ?_); (case side1 => repeat (first | exact (Kd.C_below HR0_0.out HB.out) | (with_reducible refine Kd.C_alloc ?_ _) | (with_reducible refine Kd.C_drewN ?_ _) | (with_reducible refine Kd.C_drew ?_))); (case side2 => exact HC0_0.out); (case side3 => repeat (first | exact (Kd.C_below HR1_0.out HB.out) | (with_reducible refine Kd.C_alloc ?_ _) | (with_reducible refine Kd.C_drewN ?_ _) | (with_reducible refine Kd.C_drew ?_))); (case side4 => exact HC1_0.out); rintro e w' ⟨rfl, ⟨nd, rfl⟩⟩; refine ⟨_, rfl, ?_⟩))
   go_ret
   exact ⟨by first | rfl | (simp [errW_none, errW_some] <;> rfl) | (simp [*, errW_none, errW_some] <;> rfl), by repeat (first | (with_reducible first | exact HB.out | apply below_alloc | apply pw_below_drewN | apply below_drew1 | refine below_set ?_ GE1110.out | refine below_set ?_ GE1111.out) | exact HB.out)⟩
  rw [if_neg c5] at H
  have c5b0 : (a0_1 == a1_1) = false := beq_eq_false_iff_ne.mpr c5
  have c5b1 : (a0_1 != a1_1) = true := bne_iff_ne.mpr c5
  obtain rfl := Option.some.inj H
  go_enter Try.func154, Try.ntmps154
  go_wp2_with (first | ((with_reducible refine gate_dst (N := 2) rfl ?_); refine box_event ?hg (N := 2) ?hd (cs := #[.slice A0_0 l0_0.length c0_0, .int .i64 a0_1, .int .i64 a0_2, .string a0_3]) (t := 44) ?hr ?_; (case hd => rfl); (case hg => rfl); (case hr => first | (go_simp; done) | (go_simp; rfl)); intro gb1110 hg w17 hbox hb; have n0_ := Aside0.mk (below_step (by repeat (first | (with_reducible first | exact HB.out | apply below_alloc | apply pw_below_drewN | apply below_drew1) | exact HB.out)) hb); have n1_ := Aside0.mk (hbox); have n2_ := Aside0.mk ((by rw [hg]; exact (below_size (by repeat (first | (with_reducible first | exact HB.out | apply below_alloc | apply pw_below_drewN | apply below_drew1) | exact HB.out))) : w.heap.size ≤ gb1110)); have n3_ := n2_; clear HB; have HB := n0_; have BK1110 := n1_; have GW1110 := n2_; have GE1110 := n3_; clear n0_ n1_ n2_ n3_; clear hb hbox hg) | ((with_reducible refine gate_dst (N := 3) rfl ?_); refine box_event ?hg (N := 3) ?hd (cs := #[.slice A1_0 l1_0.length c1_0, .int .i64 a1_1, .int .i64 a1_2, .string a1_3]) (t := 44) ?hr ?_; (case hd => rfl); (case hg => rfl); (case hr => first | (go_simp; done) | (go_simp; rfl)); intro gb1111 hg w18 hbox hb; have n0_ := Aside0.mk (blk_below (g := gb1110) (o := .cells #[.slice A0_0 l0_0.length c0_0, .int .i64 a0_1, .int .i64 a0_2, .string a0_3] 44 (0, 0)) (by (with_reducible repeat (first | refine blk_drewN ?_ _ | refine blk_drew ?_ | refine blk_alloc ?_ _)); exact BK1110.out) hb); have n1_ := Aside0.mk (below_step (by repeat (first | (with_reducible first | exact HB.out | apply below_alloc | apply pw_below_drewN | apply below_drew1 | refine below_set ?_ GE1110.out) | exact HB.out)) hb); have n2_ := Aside0.mk (hbox); have n3_ := Aside0.mk ((by rw [hg]; exact (below_size (by repeat (first | (with_reducible first | exact HB.out | apply below_alloc | apply pw_below_drewN | apply below_drew1 | refine below_set ?_ GE1110.out) | exact HB.out))) : w.heap.size ≤ gb1111)); have n4_ := n3_; have n5_ := Aside0.mk ((by rw [hg]; exact Nat.ne_of_lt (blk_lt (g := gb1110) (o := .cells #[.slice A0_0 l0_0.length c0_0, .int .i64 a0_1, .int .i64 a0_2, .string a0_3] 44 (0, 0)) (by (with_reducible repeat (first | refine blk_drewN ?_ _ | refine blk_drew ?_ | refine blk_alloc ?_ _)); exact BK1110.out)) : gb1110 ≠ gb1111)); have n6_ := Aside0.mk ((by rw [hg]; exact Nat.ne_of_gt (blk_lt (g := gb1110) (o := .cells #[.slice A0_0 l0_0.length c0_0, .int .i64 a0_1, .int .i64 a0_2, .string a0_3] 44 (0, 0)) (by (with_reducible repeat (first | refine blk_drewN ?_ _ | refine blk_drew ?_ | refine blk_alloc ?_ _)); exact BK1110.out)) : gb1111 ≠ gb1110)); clear BK1110; clear HB; have BK1110 := n0_; have HB := n1_; have BK1111 := n2_; have GW1111 := n3_; have GE1111 := n4_; have NB1110_1111 := n5_; have NB1111_1110 := n6_; clear n0_ n1_ n2_ n3_ n4_ n5_ n6_; clear hb hbox hg; have hnb19 := NB1110_1111.out; have hnc19 := NB1111_1110.out; have hcz20_0 : w18.cell? ⟨gb1110, 0, none⟩ = some (.slice A0_0 l0_0.length c0_0) := (blk_cell BK1110.out 0).trans rfl; have hcz20_1 : w18.cell? ⟨gb1110, 1, none⟩ = some (.int .i64 a0_1) := (blk_cell BK1110.out 1).trans rfl; have hcz20_2 : w18.cell? ⟨gb1110, 2, none⟩ = some (.int .i64 a0_2) := (blk_cell BK1110.out 2).trans rfl; have hcz20_3 : w18.cell? ⟨gb1110, 3, none⟩ = some (.string a0_3) := (blk_cell BK1110.out 3).trans rfl; have hfz20_0 := blk_frozen BK1110.out 0; have hfz20_1 := blk_frozen BK1110.out 1; have hfz20_2 := blk_frozen BK1110.out 2; have hfz20_3 := blk_frozen BK1110.out 3; have hcz21_0 : w18.cell? ⟨gb1111, 0, none⟩ = some (.slice A1_0 l1_0.length c1_0) := (blk_cell BK1111.out 0).trans rfl; have hcz21_1 : w18.cell? ⟨gb1111, 1, none⟩ = some (.int .i64 a1_1) := (blk_cell BK1111.out 1).trans rfl; have hcz21_2 : w18.cell? ⟨gb1111, 2, none⟩ = some (.int .i64 a1_2) := (blk_cell BK1111.out 2).trans rfl; have hcz21_3 : w18.cell? ⟨gb1111, 3, none⟩ = some (.string a1_3) := (blk_cell BK1111.out 3).trans rfl; have hfz21_0 := blk_frozen BK1111.out 0; have hfz21_1 := blk_frozen BK1111.out 1; have hfz21_2 := blk_frozen BK1111.out 2; have hfz21_3 := blk_frozen BK1111.out 3) | ((with_reducible refine gate_callee (f := 106) rfl ?_); refine goesL_ (some 9) rfl rfl Try.func106 (by kernel_rfl) rfl #[.slice A0_0 l0_0.length c0_0, .slice A1_0 l1_0.length c1_0] rfl (by (try simp only [List.map_toArray, List.map_cons, List.map_nil]); first | done | rfl | (simp only [List.length_drop, List.length_take]; rfl)) ?_; (with_reducible refine (spec_SameSet.calls k _ _ l0_0 _ _ l1_0 true _ ?side1 ?side2 ?side3 ?side4 A3.out).mono ?_); (case side1 => repeat (first | exact (Kd.C_below HR0_0.out HB.out) | (with_reducible refine Kd.C_alloc ?_ _) | (with_reducible refine Kd.C_drewN ?_ _) | (with_reducible refine Kd.C_drew ?_))); (case side2 => exact HC0_0.out); (case side3 => repeat (first | exact (Kd.C_below HR1_0.out HB.out) | (with_reducible refine Kd.C_alloc ?_ _) | (with_reducible refine Kd.C_drewN ?_ _) | (with_reducible refine Kd.C_drew ?_))); (case side4 => exact HC1_0.out); rintro e w' ⟨rfl, ⟨nd, rfl⟩⟩; refine ⟨_, rfl, ?_⟩))
  go_ret
  exact ⟨by first | rfl | (simp [errW_none, errW_some] <;> rfl) | (simp [*, errW_none, errW_some] <;> rfl), by repeat (first | (with_reducible first | exact HB.out | apply below_alloc | apply pw_below_drewN | apply below_drew1 | refine below_set ?_ GE1110.out | refine below_set ?_ GE1111.out) | exact HB.out)⟩
 replace c4 := Bool.eq_false_iff.mpr c4
 subst c4
 have H1 : (some false) = some r := by rw [if_neg (show ¬ (false = true) by decide)] at H; exact H
 clear H
 have H := H1
 clear H1
 obtain rfl := Option.some.inj H
 go_enter Try.func154, Try.ntmps154
 go_wp2_with (first | ((with_reducible refine gate_dst (N := 2) rfl ?_); refine box_event ?hg (N := 2) ?hd (cs := #[.slice A0_0 l0_0.length c0_0, .int .i64 a0_1, .int .i64 a0_2, .string a0_3]) (t := 44) ?hr ?_; (case hd => rfl); (case hg => rfl); (case hr => first | (go_simp; done) | (go_simp; rfl)); intro gb1110 hg w22 hbox hb; have n0_ := Aside0.mk (below_step (by repeat (first | (with_reducible first | exact HB.out | apply below_alloc | apply pw_below_drewN | apply below_drew1) | exact HB.out)) hb); have n1_ := Aside0.mk (hbox); have n2_ := Aside0.mk ((by rw [hg]; exact (below_size (by repeat (first | (with_reducible first | exact HB.out | apply below_alloc | apply pw_below_drewN | apply below_drew1) | exact HB.out))) : w.heap.size ≤ gb1110)); have n3_ := n2_; clear HB; have HB := n0_; have BK1110 := n1_; have GW1110 := n2_; have GE1110 := n3_; clear n0_ n1_ n2_ n3_; clear hb hbox hg) | ((with_reducible refine gate_dst (N := 3) rfl ?_); refine box_event ?hg (N := 3) ?hd (cs := #[.slice A1_0 l1_0.length c1_0, .int .i64 a1_1, .int .i64 a1_2, .string a1_3]) (t := 44) ?hr ?_; (case hd => rfl); (case hg => rfl); (case hr => first | (go_simp; done) | (go_simp; rfl)); intro gb1111 hg w23 hbox hb; have n0_ := Aside0.mk (blk_below (g := gb1110) (o := .cells #[.slice A0_0 l0_0.length c0_0, .int .i64 a0_1, .int .i64 a0_2, .string a0_3] 44 (0, 0)) (by (with_reducible repeat (first | refine blk_drewN ?_ _ | refine blk_drew ?_ | refine blk_alloc ?_ _)); exact BK1110.out) hb); have n1_ := Aside0.mk (below_step (by repeat (first | (with_reducible first | exact HB.out | apply below_alloc | apply pw_below_drewN | apply below_drew1 | refine below_set ?_ GE1110.out) | exact HB.out)) hb); have n2_ := Aside0.mk (hbox); have n3_ := Aside0.mk ((by rw [hg]; exact (below_size (by repeat (first | (with_reducible first | exact HB.out | apply below_alloc | apply pw_below_drewN | apply below_drew1 | refine below_set ?_ GE1110.out) | exact HB.out))) : w.heap.size ≤ gb1111)); have n4_ := n3_; have n5_ := Aside0.mk ((by rw [hg]; exact Nat.ne_of_lt (blk_lt (g := gb1110) (o := .cells #[.slice A0_0 l0_0.length c0_0, .int .i64 a0_1, .int .i64 a0_2, .string a0_3] 44 (0, 0)) (by (with_reducible repeat (first | refine blk_drewN ?_ _ | refine blk_drew ?_ | refine blk_alloc ?_ _)); exact BK1110.out)) : gb1110 ≠ gb1111)); have n6_ := Aside0.mk ((by rw [hg]; exact Nat.ne_of_gt (blk_lt (g := gb1110) (o := .cells #[.slice A0_0 l0_0.length c0_0, .int .i64 a0_1, .int .i64 a0_2, .string a0_3] 44 (0, 0)) (by (with_reducible repeat (first | refine blk_drewN ?_ _ | refine blk_drew ?_ | refine blk_alloc ?_ _)); exact BK1110.out)) : gb1111 ≠ gb1110)); clear BK1110; clear HB; have BK1110 := n0_; have HB := n1_; have BK1111 := n2_; have GW1111 := n3_; have GE1111 := n4_; have NB1110_1111 := n5_; have NB1111_1110 := n6_; clear n0_ n1_ n2_ n3_ n4_ n5_ n6_; clear hb hbox hg; have hnb24 := NB1110_1111.out; have hnc24 := NB1111_1110.out; have hcz25_0 : w23.cell? ⟨gb1110, 0, none⟩ = some (.slice A0_0 l0_0.length c0_0) := (blk_cell BK1110.out 0).trans rfl; have hcz25_1 : w23.cell? ⟨gb1110, 1, none⟩ = some (.int .i64 a0_1) := (blk_cell BK1110.out 1).trans rfl; have hcz25_2 : w23.cell? ⟨gb1110, 2, none⟩ = some (.int .i64 a0_2) := (blk_cell BK1110.out 2).trans rfl; have hcz25_3 : w23.cell? ⟨gb1110, 3, none⟩ = some (.string a0_3) := (blk_cell BK1110.out 3).trans rfl; have hfz25_0 := blk_frozen BK1110.out 0; have hfz25_1 := blk_frozen BK1110.out 1; have hfz25_2 := blk_frozen BK1110.out 2; have hfz25_3 := blk_frozen BK1110.out 3; have hcz26_0 : w23.cell? ⟨gb1111, 0, none⟩ = some (.slice A1_0 l1_0.length c1_0) := (blk_cell BK1111.out 0).trans rfl; have hcz26_1 : w23.cell? ⟨gb1111, 1, none⟩ = some (.int .i64 a1_1) := (blk_cell BK1111.out 1).trans rfl; have hcz26_2 : w23.cell? ⟨gb1111, 2, none⟩ = some (.int .i64 a1_2) := (blk_cell BK1111.out 2).trans rfl; have hcz26_3 : w23.cell? ⟨gb1111, 3, none⟩ = some (.string a1_3) := (blk_cell BK1111.out 3).trans rfl; have hfz26_0 := blk_frozen BK1111.out 0; have hfz26_1 := blk_frozen BK1111.out 1; have hfz26_2 := blk_frozen BK1111.out 2; have hfz26_3 := blk_frozen BK1111.out 3) | ((with_reducible refine gate_callee (f := 106) rfl ?_); refine goesL_ (some 9) rfl rfl Try.func106 (by kernel_rfl) rfl #[.slice A0_0 l0_0.length c0_0, .slice A1_0 l1_0.length c1_0] rfl (by (try simp only [List.map_toArray, List.map_cons, List.map_nil]); first | done | rfl | (simp only [List.length_drop, List.length_take]; rfl)) ?_; (with_reducible refine (spec_SameSet.calls k _ _ l0_0 _ _ l1_0 false _ ?side1 ?side2 ?side3 ?side4 A3.out).mono ?_); (case side1 => repeat (first | exact (Kd.C_below HR0_0.out HB.out) | (with_reducible refine Kd.C_alloc ?_ _) | (with_reducible refine Kd.C_drewN ?_ _) | (with_reducible refine Kd.C_drew ?_))); (case side2 => exact HC0_0.out); (case side3 => repeat (first | exact (Kd.C_below HR1_0.out HB.out) | (with_reducible refine Kd.C_alloc ?_ _) | (with_reducible refine Kd.C_drewN ?_ _) | (with_reducible refine Kd.C_drew ?_))); (case side4 => exact HC1_0.out); rintro e w' ⟨rfl, ⟨nd, rfl⟩⟩; refine ⟨_, rfl, ?_⟩))
 go_ret
 exact ⟨by first | rfl | (simp [errW_none, errW_some] <;> rfl) | (simp [*, errW_none, errW_some] <;> rfl), by repeat (first | (with_reducible first | exact HB.out | apply below_alloc | apply pw_below_drewN | apply below_drew1 | refine below_set ?_ GE1110.out | refine below_set ?_ GE1111.out) | exact HB.out)⟩

end Go.Proofs.Ytfholjcelnkleaa.Print
end
section
namespace Go.Proofs.Ytfholjcelnkleaa.Print
open Go.RowKit Go.Proofs.YtfholjcelnkleaaV.PrintWords Go.Proofs.YtfholjcelnkleaaV.PrintLast Go.Proofs.YtfholjcelnkleaaV.PrintMore
attribute [local go_sem] max2_int min2_int max_two min_two max_three min_three max_four min_four   -- for this text's walks alone
set_option linter.unusedVariables false
set_option linter.unusedSimpArgs false

/-! ### impl_SameAlarm: function 85 -/
def impl_SameAlarm.f (k : Nat) (l0_0 : List (S164)) (a0_1 : Int) (a0_2 : Int) (a0_3 : ByteArray) (l1_0 : List (S164)) (a1_1 : Int) (a1_2 : Int) (a1_3 : ByteArray) : Option (Bool) := (impl_SameSet.f k l0_0 l1_0).bind fun t1156 => (if t1156 = true then (if a0_1 = a1_1 then (if a0_2 = a1_2 then (some (a0_3.toList == a1_3.toList)) else (some false)) else (some false)) else (some false))
theorem impl_SameAlarm.mono : ∀ a0 a1 a2 a3 a4 a5 a6 a7 k, LeO (impl_SameAlarm.f k a0 a1 a2 a3 a4 a5 a6 a7) (impl_SameAlarm.f (k + 1) a0 a1 a2 a3 a4 a5 a6 a7) := by
 intro a0 a1 a2 a3 a4 a5 a6 a7 k
 unfold impl_SameAlarm.f
 repeat' first
   | (with_reducible exact impl_SameSet.mono _ _ _)
   | (with_reducible exact LeO.refl _)
   | (with_reducible exact LeO.none _)
   | (with_reducible refine LeO.ite ?_ ?_)
   | (with_reducible refine LeO.bind ?_ (fun _ => ?_))
   | exact impl_SameSet.mono _ _ _
   | exact LeO.none _
   | refine LeO.ite ?_ ?_
   | refine LeO.bind ?_ (fun _ => ?_)
set_option maxHeartbeats 8000000 in
set_option maxRecDepth 100000 in
theorem impl_SameAlarm.calls (k : Nat) (A0_0 : Option Addr) (c0_0 : Nat) (l0_0 : List (S164)) (a0_1 : Int) (a0_2 : Int) (a0_3 : ByteArray) (A1_0 : Option Addr) (c1_0 : Nat) (l1_0 : List (S164)) (a1_1 : Int) (a1_2 : Int) (a1_3 : ByteArray) (r : Bool) (w : World) (hr0_0 : Kd.C k164 w A0_0 l0_0.length l0_0) (hc0_0 : l0_0.length ≤ c0_0) (hr1_0 : Kd.C k164 w A1_0 l1_0.length l1_0) (hc1_0 : l1_0.length ≤ c1_0) (h : impl_SameAlarm.f k l0_0 a0_1 a0_2 a0_3 l1_0 a1_1 a1_2 a1_3 = some r) :
  Calls Try.prog 85 #[.agg #[.slice A0_0 l0_0.length c0_0, .int .i64 a0_1, .int .i64 a0_2, .string a0_3], .agg #[.slice A1_0 l1_0.length c1_0, .int .i64 a1_1, .int .i64 a1_2, .string a1_3]] w fun e w' => e = .returned (.bool r) ∧ Below w.heap.size w w' := by
 have hu44 := Try.underlying44
 have HR0_0 := Aside0.mk hr0_0
 have HC0_0 := Aside0.mk hc0_0
 clear hr0_0 hc0_0
 have HR1_0 := Aside0.mk hr1_0
 have HC1_0 := Aside0.mk hc1_0
 clear hr1_0 hc1_0
 have HB := Aside0.mk (Below.refl w.heap.size w)
 have H : ((impl_SameSet.f k l0_0 l1_0).bind fun t1156 => (if t1156 = true then (if a0_1 = a1_1 then (if a0_2 = a1_2 then (some (a0_3.toList == a1_3.toList)) else (some false)) else (some false)) else (some false))) = some r := h
 clear h
 replace H := Option.bind_eq_some_iff.mp H
 obtain ⟨t1156, A30, H⟩ := H
 replace H : (if t1156 = true then (if a0_1 = a1_1 then (if a0_2 = a1_2 then (some (a0_3.toList == a1_3.toList)) else (some false)) else (some false)) else (some false)) = some r := H
 have A3 := Aside0.mk A30
 clear A30
 by_cases c4 : t1156 = true
 ·
  subst c4
  have H1 : (if a0_1 = a1_1 then (if a0_2 = a1_2 then (some (a0_3.toList == a1_3.toList)) else (some false)) else (some false)) = some r := by rw [if_pos rfl] at H; exact H
  clear H
  have H := H1
  clear H1
  by_cases c5 : a0_1 = a1_1
  ·
   rw [if_pos c5] at H
   have c5b0 : (a0_1 == a1_1) = true := beq_iff_eq.mpr c5
   have c5b1 : (a0_1 != a1_1) = false := bne_eq_false_iff_eq.mpr c5
   clear c5
   by_cases c6 : a0_2 = a1_2
   ·
    rw [if_pos c6] at H
    have c6b0 : (a0_2 == a1_2) = true := beq_iff_eq.mpr c6
    have c6b1 : (a0_2 != a1_2) = false := bne_eq_false_iff_eq.mpr c6
    clear c6
    obtain rfl := Option.some.inj H
    go_enter Try.func85, Try.ntmps85
    go_wp2_with (first | ((with_reducible refine gate_dst (N := 2) rfl ?_); refine box_event ?hg (N := 2) ?hd (cs := #[.slice A0_0 l0_0.length c0_0, .int .i64 a0_1, .int .i64 a0_2, .string a0_3]) (t := 44) ?hr ?_; (case hd => rfl); (case hg => rfl); (case hr => first | (go_simp; done) | (go_simp; rfl)); intro gb1154 hg w7 hbox hb; have n0_ := Aside0.mk (below_step (by repeat (first | (with_reducible first | exact HB.out | apply below_alloc | apply pw_below_drewN | apply below_drew1) | exact HB.out)) hb); have n1_ := Aside0.mk (hbox); have n2_ := Aside0.mk ((by rw [hg]; exact (below_size (by repeat (first | (with_reducible first | exact HB.out | apply below_alloc | apply pw_below_drewN | apply below_drew1) | exact HB.out))) : w.heap.size ≤ gb1154)); have n3_ := n2_; clear HB; have HB := n0_; have BK1154 := n1_; have GW1154 := n2_; have GE1154 := n3_; clear n0_ n1_ n2_ n3_; clear hb hbox hg) | ((with_reducible refine gate_dst (N := 3) rfl ?_); refine box_event ?hg (N := 3) ?hd (cs := #[.slice A1_0 l1_0.length c1_0, .int .i64 a1_1, .int .i64 a1_2, .string a1_3]) (t := 44) ?hr ?_; (case hd => rfl); (case hg => rfl); (case hr => first | (go_simp; done) | (go_simp; rfl)); intro gb1155 hg w8 hbox hb; have n0_ := Aside0.mk (blk_below (g := gb1154) (o := .cells #[.slice A0_0 l0_0.length c0_0, .int .i64 a0_1, .int .i64 a0_2, .string a0_3] 44 (0, 0)) (by (with_reducible repeat (first | refine blk_drewN ?_ _ | refine blk_drew ?_ | refine blk_alloc ?_ _)); exact BK1154.out) hb); have n1_ := Aside0.mk (below_step (by repeat (first | (with_reducible first | exact HB.out | apply below_alloc | apply pw_below_drewN | apply below_drew1 | refine below_set ?_ GE1154.out) | exact HB.out)) hb); have n2_ := Aside0.mk (hbox); have n3_ := Aside0.mk ((by rw [hg]; exact (below_size (by repeat (first | (with_reducible first | exact HB.out | apply below_alloc | apply pw_below_drewN | apply below_drew1 | refine below_set ?_ GE1154.out) | exact HB.out))) : w.heap.size ≤ gb1155)); have n4_ := n3_; have n5_ := Aside0.mk ((by rw [hg]; exact Nat.ne_of_lt (blk_lt (g := gb1154) (o := .cells #[.slice A0_0 l0_0.length c0_0, .int .i64 a0_1, .int .i64 a0_2, .string a0_3] 44 (0, 0)) (by (with_reducible repeat (first | refine blk_drewN ?_ _ | refine blk_drew ?_ | refine blk_alloc ?_ _)); exact BK1154.out)) : gb1154 ≠ gb1155)); have n6_ := Aside0.mk ((by rw [hg]; exact Nat.ne_of_gt (blk_lt (g := gb1154) (o := .cells #[.slice A0_0 l0_0.length c0_0, .int .i64 a0_1, .int .i64 a0_2, .string a0_3] 44 (0, 0)) (by (with_reducible repeat (first | refine blk_drewN ?_ _ | refine blk_drew ?_ | refine blk_alloc ?_ _)); exact BK1154.out)) : gb1155 ≠ gb1154)); clear BK1154; clear HB; have BK1154 := n0_; have HB := n1_; have BK1155 := n2_; have GW1155 := n3_; have GE1155 := n4_; have NB1154_1155 := n5_; have NB1155_1154 := n6_; clear n0_ n1_ n2_ n3_ n4_ n5_ n6_; clear hb hbox hg; have hnb9 := NB1154_1155.out; have hnc9 := NB1155_1154.out; have hcz10_0 : w8.cell? ⟨gb1154, 0, none⟩ = some (.slice A0_0 l0_0.length c0_0) := (blk_cell BK1154.out 0).trans rfl; have hcz10_1 : w8.cell? ⟨gb1154, 1, none⟩ = some (.int .i64 a0_1) := (blk_cell BK1154.out 1).trans rfl; have hcz10_2 : w8.cell? ⟨gb1154, 2, none⟩ = some (.int .i64 a0_2) := (blk_cell BK1154.out 2).trans rfl; have hcz10_3 : w8.cell? ⟨gb1154, 3, none⟩ = some (.string a0_3) := (blk_cell BK1154.out 3).trans rfl; have hfz10_0 := blk_frozen BK1154.out 0; have hfz10_1 := blk_frozen BK1154.out 1; have hfz10_2 := blk_frozen BK1154.out 2; have hfz10_3 := blk_frozen BK1154.out 3; have hcz11_0 : w8.cell? ⟨gb1155, 0, none⟩ = some (.slice A1_0 l1_0.length c1_0) := (blk_cell BK1155.out 0).trans rfl; have hcz11_1 : w8.cell? ⟨gb1155, 1, none⟩ = some (.int .i64 a1_1) := (blk_cell BK1155.out 1).trans rfl; have hcz11_2 : w8.cell? ⟨gb1155, 2, none⟩ = some (.int .i64 a1_2) := (blk_cell BK1155.out 2).trans rfl; have hcz11_3 : w8.cell? ⟨gb1155, 3, none⟩ = some (.string a1_3) := (blk_cell BK1155.out 3).trans rfl; have hfz11_0 := blk_frozen BK1155.out 0; have hfz11_1 := blk_frozen BK1155.out 1; have hfz11_2 := blk_frozen BK1155.out 2; have hfz11_3 := blk_frozen BK1155.out 3) | ((with_reducible refine gate_callee (f := 139) rfl ?_); refine goesL_ (some 9) rfl rfl Try.func139 (by kernel_rfl) rfl #[.slice A0_0 l0_0.length c0_0, .slice A1_0 l1_0.length c1_0] rfl (by (try simp only [List.map_toArray, List.map_cons, List.map_nil]); first | done | rfl | (simp only [List.length_drop, List.length_take]; rfl)) ?_; (with_reducible refine (impl_SameSet.calls k _ _ l0_0 _ _ l1_0 true _ ?side1 ?side2 ?side3 ?side4 A3.out).mono ?_); (case side1 => repeat (first | exact (Kd.C_below HR0_0.out HB.out) | (with_reducible refine Kd.C_alloc ?_ _) | (with_reducible refine Kd.C_drewN ?_ _) | (with_reducible refine Kd.C_drew ?_))); (case side2 => exact HC0_0.out); (case side3 => repeat (first | exact (Kd.C_below HR1_0.out HB.out) | (with_reducible refine Kd.C_alloc ?_ _) | (with_reducible refine Kd.C_drewN ?_ _) | (with_reducible refine Kd.C_drew ?_))); (case side4 => exact HC1_0.out); rintro e w' ⟨rfl, ⟨nd, rfl⟩⟩; refine ⟨_, rfl, ?_⟩))
    go_ret
    exact ⟨by first | rfl | (simp [errW_none, errW_some] <;> rfl) | (simp [*, errW_none, errW_some] <;> rfl), by repeat (first | (with_reducible first | exact HB.out | apply below_alloc | apply pw_below_drewN | apply below_drew1 | refine below_set ?_ GE1154.out | refine below_set ?_ GE1155.out) | exact HB.out)⟩
   rw [if_neg c6] at H
   have c6b0 : (a0_2 == a1_2) = false := beq_eq_false_iff_ne.mpr c6
   have c6b1 : (a0_2 != a1_2) = true := bne_iff_ne.mpr c6
   obtain rfl := Option.some.inj H
   go_enter Try.func85, Try.ntmps85
   go_wp2_with (first | ((with_reducible refine gate_dst (N := 2) rfl ?_); refine box_event ?hg (N := 2) ?hd (cs := #[.slice A0_0 l0_0.length c0_0, .int .i64 a0_1, .int .i64 a0_2, .string a0_3]) (t := 44) ?hr ?_; (case hd => rfl); (case hg => rfl); (case hr => first | (go_simp; done) | (go_simp; rfl)); intro gb1154 hg w12 hbox hb; have n0_ := Aside0.mk (below_step (by repeat (first | (with_reducible first | exact HB.out | apply below_alloc | apply pw_below_drewN | apply below_drew1) | exact HB.out)) hb); have n1_ := Aside0.mk (hbox); have n2_ := Aside0.mk ((by rw [hg]; exact (below_size (by repeat (first | (with_reducible first | exact HB.out | apply below_alloc | apply pw_below_drewN | apply below_drew1) | exact HB.out))) : w.heap.size ≤ gb1154)); have n3_ := n2_; clear HB; have HB := n0_; have BK1154 := n1_; have GW1154 := n2_; have GE1154 := n3_; clear n0_ n1_ n2_ n3_; clear hb hbox hg) | ((with_reducible refine gate_dst (N := 3) rfl ?_); refine box_event ?hg (N := 3) ?hd (cs := #[.slice A1_0 l1_0.length c1_0, .int .i64 a1_1, .int .i64 a1_2, .string a1_3]) (t := 44) ?hr ?_; (case hd => rfl); (case hg => rfl); (case hr => first | (go_simp; done) | (go_simp; rfl)); intro gb1155 hg w13 hbox hb; have n0_ := Aside0.mk (blk_below (g := gb1154) (o := .cells #[.slice A0_0 l0_0.length c0_0, .int .i64 a0_1, .int .i64 a0_2, .string a0_3] 44 (0, 0)) (by (with_reducible repeat (first | refine blk_drewN ?_ _ | refine blk_drew ?_ | refine blk_alloc ?_ _)); exact BK1154.out) hb); have n1_ := Aside0.mk (below_step (by repeat (first | (with_reducible first | exact HB.out | apply below_alloc | apply pw_below_drewN | apply below_drew1 | refine below_set ?_ GE1154.out) | exact HB.out)) hb); have n2_ := Aside0.mk (hbox); have n3_ := Aside0.mk ((by rw [hg]; exact (below_size (by repeat (first | (with_reducible first | exact HB.out | apply below_alloc | apply pw_below_drewN | apply below_drew1 | refine below_set ?_ GE1154.out) | exact HB.out))) : w.heap.size ≤ gb1155)); have n4_ := n3_; have n5_ := Aside0.mk ((by rw [hg]; exact Nat.ne_of_lt (blk_lt (g := gb1154) (o := .cells #[.slice A0_0 l0_0.length c0_0, .int .i64 a0_1, .int .i64 a0_2, .string a0_3] 44 (0, 0)) (by (with_reducible repeat (first | refine blk_drewN ?_ _ | refine blk_drew ?_ | refine blk_alloc ?_ _)); exact BK1154.out)) : gb1154 ≠ gb1155)); have n6_ := Aside0.mk ((by rw [hg]; exact Nat.ne_of_gt (blk_lt (g := gb1154) (o := .cells #[.slice A0_0 l0_0.length c0_0, .int .i64 a0_1, .int .i64 a0_2, .string a0_3] 44 (0, 0)) (by (with_reducible repeat (first | refine blk_drewN ?_ _ | refine blk_drew ?_ | refine blk_alloc ?_ _)); exact BK1154.out)) : gb1155 ≠ gb1154)); clear BK1154; clear HB; have BK1154 := n0_; have HB := n1_; have BK1155 := n2_; have GW1155 := n3_; have GE1155 := n4_; have NB1154_1155 := n5_; have NB1155_1154 := n6_; clear n0_ n1_ n2_ n3_ n4_ n5_ n6_; clear hb hbox hg; have hnb14 := NB1154_1155.out; have hnc14 := NB1155_1154.out; have hcz15_0 : w13.cell? ⟨gb1154, 0, none⟩ = some (.slice A0_0 l0_0.length c0_0) := (blk_cell BK1154.out 0).trans rfl; have hcz15_1 : w13.cell? ⟨gb1154, 1, none⟩ = some (.int .i64 a0_1) := (blk_cell BK1154.out 1).trans rfl; have hcz15_2 : w13.cell? ⟨gb1154, 2, none⟩ = some (.int .i64 a0_2) := (blk_cell BK1154.out 2).trans rfl; have hcz15_3 : w13.cell? ⟨gb1154, 3, none⟩ = some (.string a0_3) := (blk_cell BK1154.out 3).trans rfl; have hfz15_0 := blk_frozen BK1154.out 0; have hfz15_1 := blk_frozen BK1154.out 1; have hfz15_2 := blk_frozen BK1154.out 2; have hfz15_3 := blk_frozen BK1154.out 3; have hcz16_0 : w13.cell? ⟨gb1155, 0, none⟩ = some (.slice A1_0 l1_0.length c1_0) := (blk_cell BK1155.out 0).trans rfl; have hcz16_1 : w13.cell? ⟨gb1155, 1, none⟩ = some (.int .i64 a1_1) := (blk_cell BK1155.out 1).trans rfl; have hcz16_2 : w13.cell? ⟨gb1155, 2, none⟩ = some (.int .i64 a1_2) := (blk_cell BK1155.out 2).trans rfl; have hcz16_3 : w13.cell? ⟨gb1155, 3, none⟩ = some (.string a1_3) := (blk_cell BK1155.out 3).trans rfl; have hfz16_0 := blk_frozen BK1155.out 0; have hfz16_1 := blk_frozen BK1155.out 1; have hfz16_2 := blk_frozen BK1155.out 2; have hfz16_3 := blk_frozen BK1155.out 3) | ((with_reducible refine gate_callee (f := 139) rfl ?_); refine goesL_ (some 9) rfl rfl Try.func139 (by kernel_rfl) rfl #[.slice A0_0 l0_0.length c0_0, .slice A1_0 l1_0.length c1_0] rfl (by (try simp only [List.map_toArray, List.map_cons, List.map_nil]); first | done | rfl | (simp only [List.length_drop, List.length_take]; rfl)) ?_; (with_reducible refine (impl_SameSet.calls k _ _ l0_0 _ _ l1_0 true _ ?side1 ?side2 ?side3 ?side4 A3.out).mono ?_); (case side1 => repeat (first | exact (Kd.C_below HR0_0.out HB.out) | (with_reducible refine Kd.C_alloc ?_ _) | (with_reducible refine Kd.C_drewN ?_ _) | (with_reducible refine Kd.C_drew ?_))); (case side2 => exact HC0_0.out); (case side3 => repeat (first | exact (Kd.C_below HR1_0.out HB.out) | (with_reducible refine Kd.C_alloc ?_ _) | (with_reducible refine Kd.C_drewN ?_ _) | (with_reducible refine Kd.C_drew ?_))); (case side4 => exact HC1_0.out); rintro e w' ⟨rfl, ⟨nd, rfl⟩⟩; refine ⟨_, rfl, ?_⟩))
   go_ret
   exact ⟨by first | rfl | (simp [errW_none, errW_some] <;> rfl) | (simp [*, errW_none, errW_some] <;> rfl), by repeat (first | (with_reducible first | exact HB.out | apply below_alloc | apply pw_below_drewN | apply below_drew1 | refine below_set ?_ GE1154.out | refine below_set ?_ GE1155.out) | exact HB.out)⟩
  rw [if_neg c5] at H
  have c5b0 : (a0_1 == a1_1) = false := beq_eq_false_iff_ne.mpr c5
  have c5b1 : (a0_1 != a1_1) = true := bne_iff_ne.mpr c5
  obtain rfl := Option.some.inj H
  go_enter Try.func85, Try.ntmps85
  go_wp2_with (first | ((with_reducible refine gate_dst (N := 2) rfl ?_); refine box_event ?hg (N := 2) ?hd (cs := #[.slice A0_0 l0_0.length c0_0, .int .i64 a0_1, .int .i64 a0_2, .string a0_3]) (t := 44) ?hr ?_; (case hd => rfl); (case hg => rfl); (case hr => first | (go_simp; done) | (go_simp; rfl)); intro gb1154 hg w17 hbox hb; have n0_ := Aside0.mk (below_step (by repeat (first | (with_reducible first | exact HB.out | apply below_alloc | apply pw_below_drewN | apply below_drew1) | exact HB.out)) hb); have n1_ := Aside0.mk (hbox); have n2_ := Aside0.mk ((by rw [hg]; exact (below_size (by repeat (first | (with_reducible first | exact HB.out | apply below_alloc | apply pw_below_drewN | apply below_drew1) | exact HB.out))) : w.heap.size ≤ gb1154)); have n3_ := n2_; clear HB; have HB := n0_; have BK1154 := n1_; have GW1154 := n2_; have GE1154 := n3_; clear n0_ n1_ n2_ n3_; clear hb hbox hg) | ((with_reducible refine gate_dst (N := 3) rfl ?_); refine box_event ?hg (N := 3) ?hd (cs := #[.slice A1_0 l1_0.length c1_0, .int .i64 a1_1, .int .i64 a1_2, .string a1_3]) (t := 44) ?hr ?_; (case hd => rfl); (case hg => rfl); (case hr => first | (go_simp; done) | (go_simp; rfl)); intro gb1155 hg w18 hbox hb; have n0_ := Aside0.mk (blk_below (g := gb1154) (o := .cells #[.slice A0_0 l0_0.length c0_0, .int .i64 a0_1, .int .i64 a0_2, .string a0_3] 44 (0, 0)) (by (with_reducible repeat (first | refine blk_drewN ?_ _ | refine blk_drew ?_ | refine blk_alloc ?_ _)); exact BK1154.out) hb); have n1_ := Aside0.mk (below_step (by repeat (first | (with_reducible first | exact HB.out | apply below_alloc | apply pw_below_drewN | apply below_drew1 | refine below_set ?_ GE1154.out) | exact HB.out)) hb); have n2_ := Aside0.mk (hbox); have n3_ := Aside0.mk ((by rw [hg]; exact (below_size (by repeat (first | (with_reducible first | exact HB.out | apply below_alloc | apply pw_below_drewN | apply below_drew1 | refine below_set ?_ GE1154.out) | exact HB.out))) : w.heap.size ≤ gb1155)); have n4_ := n3_; have n5_ := Aside0.mk ((by rw [hg]; exact Nat.ne_of_lt (blk_lt (g := gb1154) (o := .cells #[.slice A0_0 l0_0.length c0_0, .int .i64 a0_1, .int .i64 a0_2, .string a0_3] 44 (0, 0)) (by (with_reducible repeat (first | refine blk_drewN ?_ _ | refine blk_drew ?_ | refine blk_alloc ?_ _)); exact BK1154.out)) : gb1154 ≠ gb1155)); have n6_ := Aside0.mk ((by rw [hg]; exact Nat.ne_of_gt (blk_lt (g := gb1154) (o := .cells #[.slice A0_0 l0_0.length c0_0, .int .i64 a0_1, .int .i64 a0_2, .string a0_3] 44 (0, 0)) (by (with_reducible repeat (first | refine blk_drewN ?_ _ | refine blk_drew ?_ | refine blk_alloc ?_ _)); exact BK1154.out)) : gb1155 ≠ gb1154)); clear BK1154; clear HB; have BK1154 := n0_; have HB := n1_; have BK1155 := n2_; have GW1155 := n3_; have GE1155 := n4_; have NB1154_1155 := n5_; have NB1155_1154 := n6_; clear n0_ n1_ n2_ n3_ n4_ n5_ n6_; clear hb hbox hg; have hnb19 := NB1154_1155.out; have hnc19 := NB1155_1154.out; have hcz20_0 : w18.cell? ⟨gb1154, 0, none⟩ = some (.slice A0_0 l0_0.length c0_0) := (blk_cell BK1154.out 0).trans rfl; have hcz20_1 : w18.cell? ⟨gb1154, 1, none⟩ = some (.int .i64 a0_1) := (blk_cell BK1154.out 1).trans rfl; have hcz20_2 : w18.cell? ⟨gb1154, 2, none⟩ = some (.int .i64 a0_2) := (blk_cell BK1154.out 2).trans rfl; have hcz20_3 : w18.cell? ⟨gb1154, 3, none⟩ = some (.string a0_3) := (blk_cell BK1154.out 3).trans rfl; have hfz20_0 := blk_frozen BK1154.out 0; have hfz20_1 := blk_frozen BK1154.out 1; have hfz20_2 := blk_frozen BK1154.out 2; have hfz20_3 := blk_frozen BK1154.out 3; have hcz21_0 : w18.cell? ⟨gb1155, 0, none⟩ = some (.slice A1_0 l1_0.length c1_0) := (blk_cell BK1155.out 0).trans rfl; have hcz21_1 : w18.cell? ⟨gb1155, 1, none⟩ = some (.int .i64 a1_1) := (blk_cell BK1155.out 1).trans rfl; have hcz21_2 : w18.cell? ⟨gb1155, 2, none⟩ = some (.int .i64 a1_2) := (blk_cell BK1155.out 2).trans rfl; have hcz21_3 : w18.cell? ⟨gb1155, 3, none⟩ = some (.string a1_3) := (blk_cell BK1155.out 3).trans rfl; have hfz21_0 := blk_frozen BK1155.out 0; have hfz21_1 := blk_frozen BK1155.out 1; have hfz21_2 := blk_frozen BK1155.out 2; have hfz21_3 := blk_frozen BK1155.out 3) | ((with_reducible refine gate_callee (f := 139) rfl ?_); refine goesL_ (some 9) rfl rfl Try.func139 (by kernel_rfl) rfl #[.slice A0_0 l0_0.length c0_0, .slice A1_0 l1_0.length c1_0] rfl (by (try simp only [List.map_toArray, List.map_cons, List.map_nil]); first | done | rfl | (simp only [List.length_drop, List.length_take]; rfl)) ?_; (with_reducible refine (impl_SameSet.calls k _ _ l0_0 _ _ l1_0 true _ ?side1 ?side2 ?side3 ?side4 A3.out).mono ?_); (case side1 => repeat (first | exact (Kd.C_below HR0_0.out HB.out) | (with_reducible refine Kd.C_alloc ?_ _) | (with_reducible refine Kd.C_drewN ?_ _) | (with_reducible refine Kd.C_drew ?_))); (case side2 => exact HC0_0.out); (case side3 => repeat (first | exact (Kd.C_below HR1_0.out HB.out) | (with_reducible refine Kd.C_alloc ?_ _) | (with_reducible refine Kd.C_drewN ?_ _) | (with_reducible refine Kd.C_drew ?_))); (case side4 => exact HC1_0.out); rintro e w' ⟨rfl, ⟨nd, rfl⟩⟩; refine ⟨_, rfl, ?_⟩))
  go_ret
  exact ⟨by first | rfl | (simp [errW_none, errW_some] <;> rfl) | (simp [*, errW_none, errW_some] <;> rfl), by repeat (first | (with_reducible first | exact HB.out | apply below_alloc | apply pw_below_drewN | apply below_drew1 | refine below_set ?_ GE1154.out | refine below_set ?_ GE1155.out) | exact HB.out)⟩
 replace c4 := Bool.eq_false_iff.mpr c4
 subst c4
 have H1 : (some false) = some r := by rw [if_neg (show ¬ (false = true) by decide)] at H; exact H
 clear H
 have H := H1
 clear H1
 obtain rfl := Option.some.inj H
 go_enter Try.func85, Try.ntmps85
 go_wp2_with (first | ((with_reducible refine gate_dst (N := 2) rfl ?_); refine box_event ?hg (N := 2) ?hd (cs := #[.slice A0_0 l0_0.length c0_0, .int .i64 a0_1, .int .i64 a0_2, .string a0_3]) (t := 44) ?hr ?_; (case hd => rfl); (case hg => rfl); (case hr => first | (go_simp; done) | (go_simp; rfl)); intro gb1154 hg w22 hbox hb; have n0_ := Aside0.mk (below_step (by repeat (first | (with_reducible first | exact HB.out | apply below_alloc | apply pw_below_drewN | apply below_drew1) | exact HB.out)) hb); have n1_ := Aside0.mk (hbox); have n2_ := Aside0.mk ((by rw [hg]; exact (below_size (by repeat (first | (with_reducible first | exact HB.out | apply below_alloc | apply pw_below_drewN | apply below_drew1) | exact HB.out))) : w.heap.size ≤ gb1154)); have n3_ := n2_; clear HB; have HB := n0_; have BK1154 := n1_; have GW1154 := n2_; have GE1154 := n3_; clear n0_ n1_ n2_ n3_; clear hb hbox hg) | ((with_reducible refine gate_dst (N := 3) rfl ?_); refine box_event ?hg (N := 3) ?hd (cs := #[.slice A1_0 l1_0.length c1_0, .int .i64 a1_1, .int .i64 a1_2, .string a1_3]) (t := 44) ?hr ?_; (case hd => rfl); (case hg => rfl); (case hr => first | (go_simp; done) | (go_simp; rfl)); intro gb1155 hg w23 hbox hb; have n0_ := Aside0.mk (blk_below (g := gb1154) (o := .cells #[.slice A0_0 l0_0.length c0_0, .int .i64 a0_1, .int .i64 a0_2, .string a0_3] 44 (0, 0)) (by (with_reducible repeat (first | refine blk_drewN ?_ _ | refine blk_drew ?_ | refine blk_alloc ?_ _)); exact BK1154.out) hb); have n1_ := Aside0.mk (below_step (by repeat (first | (with_reducible first | exact HB.out | apply below_alloc | apply pw_below_drewN | apply below_drew1 | refine below_set ?_ GE1154.out) | exact HB.out)) hb); have n2_ := Aside0.mk (hbox); have n3_ := Aside0.mk ((by rw [hg]; exact (below_size (by repeat (first | (with_reducible first | exact HB.out | apply below_alloc | apply pw_below_drewN | apply below_drew1 | refine below_set ?_ GE1154.out) | exact HB.out))) : w.heap.size ≤ gb1155)); have n4_ := n3_; have n5_ := Aside0.mk ((by rw [hg]; exact Nat.ne_of_lt (blk_lt (g := gb1154) (o := .cells #[.slice A0_0 l0_0.length c0_0, .int .i64 a0_1, .int .i64 a0_2, .string a0_3] 44 (0, 0)) (by (with_reducible repeat (first | refine blk_drewN ?_ _ | refine blk_drew ?_ | refine blk_alloc ?_ _)); exact BK1154.out)) : gb1154 ≠ gb1155)); have n6_ := Aside0.mk ((by rw [hg]; exact Nat.ne_of_gt (blk_lt (g := gb1154) (o := .cells #[.slice A0_0 l0_0.length c0_0, .int .i64 a0_1, .int .i64 a0_2, .string a0_3] 44 (0, 0)) (by (with_reducible repeat (first | refine blk_drewN ?_ _ | refine blk_drew ?_ | refine blk_alloc ?_ _)); exact BK1154.out)) : gb1155 ≠ gb1154)); clear BK1154; clear HB; have BK1154 := n0_; have HB := n1_; have BK1155 := n2_; have GW1155 := n3_; have GE1155 := n4_; have NB1154_1155 := n5_; have NB1155_1154 := n6_; clear n0_ n1_ n2_ n3_ n4_ n5_ n6_; clear hb hbox hg; have hnb24 := NB1154_1155.out; have hnc24 := NB1155_1154.out; have hcz25_0 : w23.cell? ⟨gb1154, 0, none⟩ = some (.slice A0_0 l0_0.length c0_0) := (blk_cell BK1154.out 0).trans rfl; have hcz25_1 : w23.cell? ⟨gb1154, 1, none⟩ = some (.int .i64 a0_1) := (blk_cell BK1154.out 1).trans rfl; have hcz25_2 : w23.cell? ⟨gb1154, 2, none⟩ = some (.int .i64 a0_2) := (blk_cell BK1154.out 2).trans rfl; have hcz25_3 : w23.cell? ⟨gb1154, 3, none⟩ = some (.string a0_3) := (blk_cell BK1154.out 3).trans rfl; have hfz25_0 := blk_frozen BK1154.out 0; have hfz25_1 := blk_frozen BK1154.out 1; have hfz25_2 := blk_frozen BK1154.out 2; have hfz25_3 := blk_frozen BK1154.out 3; have hcz26_0 : w23.cell? ⟨gb1155, 0, none⟩ = some (.slice A1_0 l1_0.length c1_0) := (blk_cell BK1155.out 0).trans rfl; have hcz26_1 : w23.cell? ⟨gb1155, 1, none⟩ = some (.int .i64 a1_1) := (blk_cell BK1155.out 1).trans rfl; have hcz26_2 : w23.cell? ⟨gb1155, 2, none⟩ = some (.int .i64 a1_2) := (blk_cell BK1155.out 2).trans rfl; have hcz26_3 : w23.cell? ⟨gb1155, 3, none⟩ = some (.string a1_3) := (blk_cell BK1155.out 3).trans rfl; have hfz26_0 := blk_frozen BK1155.out 0; have hfz26_1 := blk_frozen BK1155.out 1; have hfz26_2 := blk_frozen BK1155.out 2; have hfz26_3 := blk_frozen BK1155.out 3) | ((with_reducible refine gate_callee (f := 139) rfl ?_); refine goesL_ (some 9) rfl rfl Try.func139 (by kernel_rfl) rfl #[.slice A0_0 l0_0.length c0_0, .slice A1_0 l1_0.length c1_0] rfl (by (try simp only [List.map_toArray, List.map_cons, List.map_nil]); first | done | rfl | (simp only [List.length_drop, List.length_take]; rfl)) ?_; (with_reducible refine (impl_SameSet.calls k _ _ l0_0 _ _ l1_0 false _ ?side1 ?side2 ?side3 ?side4 A3.out).mono ?_); (case side1 => repeat (first | exact (Kd.C_below HR0_0.out HB.out) | (with_reducible refine Kd.C_alloc ?_ _) | (with_reducible refine Kd.C_drewN ?_ _) | (with_reducible refine Kd.C_drew ?_))); (case side2 => exact HC0_0.out); (case side3 => repeat (first | exact (Kd.C_below HR1_0.out HB.out) | (with_reducible refine Kd.C_alloc ?_ _) | (with_reducible refine Kd.C_drewN ?_ _) | (with_reducible refine Kd.C_drew ?_))); (case side4 => exact HC1_0.out); rintro e w' ⟨rfl, ⟨nd, rfl⟩⟩; refine ⟨_, rfl, ?_⟩))
 go_ret
 exact ⟨by first | rfl | (simp [errW_none, errW_some] <;> rfl) | (simp [*, errW_none, errW_some] <;> rfl), by repeat (first | (with_reducible first | exact HB.out | apply below_alloc | apply pw_below_drewN | apply below_drew1 | refine below_set ?_ GE1154.out | refine below_set ?_ GE1155.out) | exact HB.out)⟩

end Go.Proofs.Ytfholjcelnkleaa.Print
end
section
namespace Go.Proofs.Ytfholjcelnkleaa.Print
open Go.RowKit Go.Proofs.YtfholjcelnkleaaV.PrintWords Go.Proofs.YtfholjcelnkleaaV.PrintLast Go.Proofs.YtfholjcelnkleaaV.PrintMore
attribute [local go_sem] max2_int min2_int max_two min_two max_three min_three max_four min_four   -- for this text's walks alone
set_option linter.unusedVariables false
set_option linter.unusedSimpArgs false

/-! ### impl_sameAlarms: function 138 -/
def impl_sameAlarms.l0 : Nat → List (S44) → List (S44) → Int → Int → Option (Bool)
 | 0, _, _, _, _ => none
 | k + 1, x0, x1, x12, x13 => if x13 < x12 then (if 0 ≤ x13 then (if x13 < (x0.length : Int) then (if x13 < (x1.length : Int) then ((impl_SameAlarm.f k ((rd_T44 x0 x13).f0) ((rd_T44 x0 x13).f1) ((rd_T44 x0 x13).f2) ((rd_T44 x0 x13).f3) ((rd_T44 x1 x13).f0) ((rd_T44 x1 x13).f1) ((rd_T44 x1 x13).f2) ((rd_T44 x1 x13).f3)).bind fun t1159 => (if t1159 = true then (impl_sameAlarms.l0 k x0 x1 x12 (wrap64 (x13 + 1))) else (some false))) else (none)) else (none)) else (none)) else (some true)
def impl_sameAlarms.f (k : Nat) (l0 : List (S44)) (l1 : List (S44)) : Option (Bool) := if (l0.length : Int) = (l1.length : Int) then (impl_sameAlarms.l0 k l0 l1 (l0.length : Int) 0) else (some false)
theorem impl_sameAlarms.mono_l : ∀ k, (∀ y0 y1 y2 y3, LeO (impl_sameAlarms.l0 k y0 y1 y2 y3) (impl_sameAlarms.l0 (k + 1) y0 y1 y2 y3))
 | 0 => fun _ _ _ _ r h => by simp [impl_sameAlarms.l0] at h
 | k + 1 => by
  have ih0 := impl_sameAlarms.mono_l k
  intro y0 y1 y2 y3
  unfold impl_sameAlarms.l0
  repeat' first
  | (with_reducible exact ih0 _ _ _ _)
  | (with_reducible exact impl_SameAlarm.mono _ _ _ _ _ _ _ _ _)
  | (with_reducible exact LeO.refl _)
  | (with_reducible exact LeO.none _)
  | (with_reducible refine LeO.ite ?_ ?_)
  | (with_reducible refine LeO.bind ?_ (fun _ => ?_))
  | exact ih0 _ _ _ _
  | exact impl_SameAlarm.mono _ _ _ _ _ _ _ _ _
  | exact LeO.none _
  | refine LeO.ite ?_ ?_
  | refine LeO.bind ?_ (fun _ => ?_)
theorem impl_sameAlarms.mono : ∀ a0 a1 k, LeO (impl_sameAlarms.f k a0 a1) (impl_sameAlarms.f (k + 1) a0 a1) := by
 intro a0 a1 k
 have ih0 := impl_sameAlarms.mono_l k
 unfold impl_sameAlarms.f
 repeat' first
   | (with_reducible exact ih0 _ _ _ _)
   | (with_reducible exact impl_SameAlarm.mono _ _ _ _ _ _ _ _ _)
   | (with_reducible exact LeO.refl _)
   | (with_reducible exact LeO.none _)
   | (with_reducible refine LeO.ite ?_ ?_)
   | (with_reducible refine LeO.bind ?_ (fun _ => ?_))
   | exact ih0 _ _ _ _
   | exact impl_SameAlarm.mono _ _ _ _ _ _ _ _ _
   | exact LeO.none _
   | refine LeO.ite ?_ ?_
   | refine LeO.bind ?_ (fun _ => ?_)
def impl_sameAlarms.T6 : Bool × List (List Nat × List Nat) := (true, [([], []), ([], []), ([0, 1], [0, 1]), ([2], [2]), ([], []), ([], []), ([4, 5], [4, 5]), ([6], [6]), ([3, 7], [3, 7]), ([8], [8])])
def impl_sameAlarms.B6 : List Nat := [0, 0, 3, 7, 0, 0, 48, 112, 255, 511]
theorem impl_sameAlarms.tab6 : rtab .any (opsOf Try.f138 6) = impl_sameAlarms.T6 := by kernel_rfl
theorem impl_sameAlarms.bits6 : waitsOk impl_sameAlarms.T6.2 impl_sameAlarms.B6 = true := by kernel_rfl
set_option maxHeartbeats 8000000 in
set_option maxRecDepth 100000 in
theorem impl_sameAlarms.calls (k : Nat) (A0 : Option Addr) (c0 : Nat) (l0 : List (S44)) (A1 : Option Addr) (c1 : Nat) (l1 : List (S44)) (r : Bool) (w : World) (hr0 : Kd.C k44 w A0 l0.length l0) (hc0 : l0.length ≤ c0) (hr1 : Kd.C k44 w A1 l1.length l1) (hc1 : l1.length ≤ c1) (h : impl_sameAlarms.f k l0 l1 = some r) :
  Calls Try.prog 138 #[.slice A0 l0.length c0, .slice A1 l1.length c1] w fun e w' => e = .returned (.bool r) ∧ Below w.heap.size w w' := by
 have hu44 := Try.underlying44
 have HR0 := Aside0.mk hr0
 have HC0 := Aside0.mk hc0
 clear hr0 hc0
 have HR1 := Aside0.mk hr1
 have HC1 := Aside0.mk hc1
 clear hr1 hc1
 have HB := Aside0.mk (Below.refl w.heap.size w)
 have H : (if (l0.length : Int) = (l1.length : Int) then (impl_sameAlarms.l0 k l0 l1 (l0.length : Int) 0) else (some false)) = some r := h
 clear h
 by_cases c3 : (l0.length : Int) = (l1.length : Int)
 ·
  rw [if_pos c3] at H
  have c3b0 : ((l0.length : Int) == (l1.length : Int)) = true := beq_iff_eq.mpr c3
  have c3b1 : ((l0.length : Int) != (l1.length : Int)) = false := bne_eq_false_iff_eq.mpr c3
  have c3b2 : (l0.length == l1.length) = true := by first | simpa using c3 | (simp at c3 ⊢; omega)
  clear c3
  have H' := Aside0.mk H
  clear H
  go_enter Try.func138, Try.ntmps138
  go_wp2
  go_loopg [13] k (fun kq v13 w' => ∃ (x13_1 : Int), v13 = .int .i64 x13_1 ∧ Aside0 (impl_sameAlarms.l0 kq l0 l1 (l0.length : Int) x13_1 = some r) ∧ Aside0 (kq ≤ k) ∧ Aside0 (Below w.heap.size w w'))
  case atStart => exact ⟨(0), (by first | rfl | (simp; done) | (simp [*]; done)), H', ⟨Nat.le_refl _⟩, ⟨by repeat (first | (with_reducible first | exact HB.out | apply below_alloc | apply pw_below_drewN | apply below_drew1) | exact HB.out)⟩⟩
  case round =>
   clear H'
   try clear c1
   try clear p2
   try clear c3
   try clear c3b0
   try clear c3b1
   try clear c3b2
   obtain ⟨x13_1, rfl, HA, HK1, HB⟩ := hrel
   cases gk with
   | zero => exact absurd HA.out (by simp [impl_sameAlarms.l0])
   | succ k1 =>
    have H := HA.out
    clear HA
    simp only [impl_sameAlarms.l0] at H
    by_cases c4 : x13_1 < (l0.length : Int)
    ·
     rw [if_pos c4] at H
     have c4b0 : decide (x13_1 < (l0.length : Int)) = true := decide_eq_true c4
     clear c4
     by_cases c5 : 0 ≤ x13_1
     ·
      rw [if_pos c5] at H
      have c5b0 : decide (0 ≤ x13_1) = true := decide_eq_true c5
      clear c5
      by_cases c6 : x13_1 < (l0.length : Int)
      ·
       rw [if_pos c6] at H
       have c6b0 : decide (x13_1 < (l0.length : Int)) = true := decide_eq_true c6
       clear c6
       by_cases c7 : x13_1 < (l1.length : Int)
       ·
        rw [if_pos c7] at H
        have c7b0 : decide (x13_1 < (l1.length : Int)) = true := decide_eq_true c7
        clear c7
        replace H := Option.bind_eq_some_iff.mp H
        obtain ⟨t1159, A80, H⟩ := H
        replace H : (if t1159 = true then (impl_sameAlarms.l0 k1 l0 l1 (l0.length : Int) (wrap64 (x13_1 + 1))) else (some false)) = some r := H
        have A8 := Aside0.mk A80
        clear A80
        by_cases c9 : t1159 = true
        ·
         subst c9
         have H1 : (impl_sameAlarms.l0 k1 l0 l1 (l0.length : Int) (wrap64 (x13_1 + 1))) = some r := by rw [if_pos rfl] at H; exact H
         clear H
         have H := H1
         clear H1
         have H' := Aside0.mk H
         clear H
         try go_wp2
         have n0_ := Aside0.mk (below_drew1 HB.out)
         clear HB
         have HB := n0_
         clear n0_
         have p1157 : 0 ≤ (x13_1 : Int) := of_decide_eq_true (by first | (with_reducible assumption) | assumption)
         have q1157 : x13_1 < (l0.length : Int) := of_decide_eq_true (by first | (with_reducible assumption) | assumption)
         obtain ⟨ad1157, A1157_0, c1157_0, e1157, hx1157_0, hx1157_1, hx1157_2, hx1157_3, hl1157_0, hi1157_0⟩ := at_T44 HR0.out x13_1 p1157 q1157
         have hw1157_3 := hx1157_3
         have hw1157_2 := hx1157_2
         have hw1157_1 := hx1157_1
         have hw1157_0 := hx1157_0
         cases e1157
         replace hx1157_0 := (HB.out.cell (World.block_lt_of_cell? w _ hx1157_0)).trans hx1157_0
         replace hx1157_1 := (HB.out.cell (World.block_lt_of_cell? w _ hx1157_1)).trans hx1157_1
         replace hx1157_2 := (HB.out.cell (World.block_lt_of_cell? w _ hx1157_2)).trans hx1157_2
         replace hx1157_3 := (HB.out.cell (World.block_lt_of_cell? w _ hx1157_3)).trans hx1157_3
         have HR1157_0 := Aside0.mk hi1157_0
         have HC1157_0 := Aside0.mk hl1157_0
         clear hi1157_0 hl1157_0
         replace p1157 := eq_true p1157
         replace q1157 := eq_true q1157
         have p1158 : 0 ≤ (x13_1 : Int) := of_decide_eq_true (by first | (with_reducible assumption) | assumption)
         have q1158 : x13_1 < (l1.length : Int) := of_decide_eq_true (by first | (with_reducible assumption) | assumption)
         obtain ⟨ad1158, A1158_0, c1158_0, e1158, hx1158_0, hx1158_1, hx1158_2, hx1158_3, hl1158_0, hi1158_0⟩ := at_T44 HR1.out x13_1 p1158 q1158
         have hw1158_3 := hx1158_3
         have hw1158_2 := hx1158_2
         have hw1158_1 := hx1158_1
         have hw1158_0 := hx1158_0
         cases e1158
         replace hx1158_0 := (HB.out.cell (World.block_lt_of_cell? w _ hx1158_0)).trans hx1158_0
         replace hx1158_1 := (HB.out.cell (World.block_lt_of_cell? w _ hx1158_1)).trans hx1158_1
         replace hx1158_2 := (HB.out.cell (World.block_lt_of_cell? w _ hx1158_2)).trans hx1158_2
         replace hx1158_3 := (HB.out.cell (World.block_lt_of_cell? w _ hx1158_3)).trans hx1158_3
         have HR1158_0 := Aside0.mk hi1158_0
         have HC1158_0 := Aside0.mk hl1158_0
         clear hi1158_0 hl1158_0
         replace p1158 := eq_true p1158
         replace q1158 := eq_true q1158
         refine start_ (n := 10) (S := fun w' => w'.cell? (ad1157.add ((x13_1).toNat * 4)) = some (.slice A1157_0 ((rd_T44 l0 x13_1).f0).length c1157_0) ∧ w'.cell? ⟨(ad1157.add ((x13_1).toNat * 4)).block, (ad1157.add ((x13_1).toNat * 4)).off + 1, none⟩ = some (.int .i64 ((rd_T44 l0 x13_1).f1)) ∧ w'.cell? ⟨(ad1157.add ((x13_1).toNat * 4)).block, (ad1157.add ((x13_1).toNat * 4)).off + 2, none⟩ = some (.int .i64 ((rd_T44 l0 x13_1).f2)) ∧ w'.cell? ⟨(ad1157.add ((x13_1).toNat * 4)).block, (ad1157.add ((x13_1).toNat * 4)).off + 3, none⟩ = some (.string ((rd_T44 l0 x13_1).f3)) ∧ w'.cell? (ad1158.add ((x13_1).toNat * 4)) = some (.slice A1158_0 ((rd_T44 l1 x13_1).f0).length c1158_0) ∧ w'.cell? ⟨(ad1158.add ((x13_1).toNat * 4)).block, (ad1158.add ((x13_1).toNat * 4)).off + 1, none⟩ = some (.int .i64 ((rd_T44 l1 x13_1).f1)) ∧ w'.cell? ⟨(ad1158.add ((x13_1).toNat * 4)).block, (ad1158.add ((x13_1).toNat * 4)).off + 2, none⟩ = some (.int .i64 ((rd_T44 l1 x13_1).f2)) ∧ w'.cell? ⟨(ad1158.add ((x13_1).toNat * 4)).block, (ad1158.add ((x13_1).toNat * 4)).off + 3, none⟩ = some (.string ((rd_T44 l1 x13_1).f3))) (ds := []) #[f_,f_,f_,f_,f_,f_,f_,f_,f_,f_] (by kernel_rfl) rfl rfl ⟨((HB.out.cell (World.block_lt_of_cell? w _ hw1157_0)).trans hw1157_0), ((HB.out.cell (World.block_lt_of_cell? w _ hw1157_1)).trans hw1157_1), ((HB.out.cell (World.block_lt_of_cell? w _ hw1157_2)).trans hw1157_2), ((HB.out.cell (World.block_lt_of_cell? w _ hw1157_3)).trans hw1157_3), ((HB.out.cell (World.block_lt_of_cell? w _ hw1158_0)).trans hw1158_0), ((HB.out.cell (World.block_lt_of_cell? w _ hw1158_1)).trans hw1158_1), ((HB.out.cell (World.block_lt_of_cell? w _ hw1158_2)).trans hw1158_2), ((HB.out.cell (World.block_lt_of_cell? w _ hw1158_3)).trans hw1158_3)⟩ (fun hHeld => ?_); refine with_tabW impl_sameAlarms.tab6 impl_sameAlarms.bits6 (fun HT_ HW_ => ?_)
         generalize wr.drew = w10 at HB HR1157_0 HR1158_0 hx1157_0 hx1157_1 hx1157_2 hx1157_3 hx1158_0 hx1158_1 hx1158_2 hx1158_3 hHeld ⊢
         refine pu_ 0 16 ?_ (b_ 1 9) rfl rfl (any_of HT_.out (by kernel_rfl)) (fun _ _ _ h => h) (by rfl) ?_ ?_ ?_ ?_; rotate_left; intro w'; go_simp; with_reducible rfl; rotate_left; simp only [fr_]; rfl
         refine pu_ 1 17 ?_ (b_ 2 8) rfl rfl (any_of HT_.out (by kernel_rfl)) (fun _ _ _ h => h) (by rfl) ?_ ?_ ?_ ?_; rotate_left; intro w'; go_simp; with_reducible rfl; rotate_left; simp only [fr_]; rfl
         refine pu_ 2 18 ?_ (b_ 3 7) rfl rfl (any_of HT_.out (by kernel_rfl)) (fun _ _ _ h => h) (by rfl) ?_ ?_ ?_ ?_; rotate_left; intro w'; go_simp; with_reducible rfl; rotate_left; simp only [fr_]; rfl
         refine pu_ 4 20 ?_ #[t_,t_,t_,f_,t_,f_,f_,f_,f_,f_] rfl rfl (any_of HT_.out (by kernel_rfl)) (fun _ _ _ h => h) (by rfl) ?_ ?_ ?_ ?_; rotate_left; intro w'; go_simp; with_reducible rfl; rotate_left; simp only [fr_]; rfl
         refine pu_ 5 21 ?_ #[t_,t_,t_,f_,t_,t_,f_,f_,f_,f_] rfl rfl (any_of HT_.out (by kernel_rfl)) (fun _ _ _ h => h) (by rfl) ?_ ?_ ?_ ?_; rotate_left; intro w'; go_simp; with_reducible rfl; rotate_left; simp only [fr_]; rfl
         refine pu_ 6 22 ?_ #[t_,t_,t_,f_,t_,t_,t_,f_,f_,f_] rfl rfl (any_of HT_.out (by kernel_rfl)) (fun _ _ _ h => h) (by rfl) ?_ ?_ ?_ ?_; rotate_left; intro w'; go_simp; with_reducible rfl; rotate_left; simp only [fr_]; rfl
         refine take_ (i := 3) (N := some 19) (v := ?_) (a' := ?_) #[t_,t_,t_,t_,t_,t_,t_,f_,f_,f_] rfl rfl (take_ofW HT_.out HW_.out (by kernel_rfl)) (fun _ _ _ h => h) (Or.inl ⟨by rfl, ?_⟩) hHeld ?_ ?_
         rotate_left
         ·
          rintro w' ⟨s0, s1, s2, s3, s4, s5, s6, s7⟩
          go_simp
          with_reducible rfl
         rotate_left
         ·
          simp only [fr_]
          rfl
         refine take_ (i := 7) (N := some 23) (v := ?_) (a' := ?_) #[t_,t_,t_,t_,t_,t_,t_,t_,f_,f_] rfl rfl (take_ofW HT_.out HW_.out (by kernel_rfl)) (fun _ _ _ h => h) (Or.inl ⟨by rfl, ?_⟩) hHeld ?_ ?_
         rotate_left
         ·
          rintro w' ⟨s0, s1, s2, s3, s4, s5, s6, s7⟩
          go_simp
          with_reducible rfl
         rotate_left
         ·
          simp only [fr_]
          rfl
         refine one_ (i := 8) (N := some 24) #[t_,t_,t_,t_,t_,t_,t_,t_,t_,f_] rfl rfl (one_of HT_.out (by kernel_rfl)) (by decide) (fun K hK => ?_)
         refine goes_ Try.func85 (by kernel_rfl) rfl #[.agg #[.slice A1157_0 ((rd_T44 l0 x13_1).f0).length c1157_0, .int .i64 ((rd_T44 l0 x13_1).f1), .int .i64 ((rd_T44 l0 x13_1).f2), .string ((rd_T44 l0 x13_1).f3)], .agg #[.slice A1158_0 ((rd_T44 l1 x13_1).f0).length c1158_0, .int .i64 ((rd_T44 l1 x13_1).f1), .int .i64 ((rd_T44 l1 x13_1).f2), .string ((rd_T44 l1 x13_1).f3)]] (by rfl) rfl rfl (by (try simp only [List.map_toArray, List.map_cons, List.map_nil]); first | done | rfl | (simp only [List.length_drop, List.length_take]; rfl)) ?_
         with_reducible refine (impl_SameAlarm.calls k1 _ _ ((rd_T44 l0 x13_1).f0) ((rd_T44 l0 x13_1).f1) ((rd_T44 l0 x13_1).f2) ((rd_T44 l0 x13_1).f3) _ _ ((rd_T44 l1 x13_1).f0) ((rd_T44 l1 x13_1).f1) ((rd_T44 l1 x13_1).f2) ((rd_T44 l1 x13_1).f3) true _ ?side1 ?side2 ?side3 ?side4 A8.out).mono ?_
         (case side1 => repeat (first | exact (Kd.C_below HR1157_0.out HB.out) | (with_reducible refine Kd.C_alloc ?_ _) | (with_reducible refine Kd.C_drewN ?_ _) | (with_reducible refine Kd.C_drew ?_)))
         (case side2 => exact HC1157_0.out)
         (case side3 => repeat (first | exact (Kd.C_below HR1158_0.out HB.out) | (with_reducible refine Kd.C_alloc ?_ _) | (with_reducible refine Kd.C_drewN ?_ _) | (with_reducible refine Kd.C_drew ?_)))
         (case side4 => exact HC1158_0.out)
         rintro e w11 ⟨rfl, hb⟩
         refine ⟨_, rfl, ?_⟩
         have n0_ := Aside0.mk (below_step (by repeat (first | (with_reducible first | exact HB.out | apply below_alloc | apply pw_below_drewN | apply below_drew1) | exact HB.out)) hb)
         clear HB
         have HB := n0_
         clear n0_
         (try clear hb)
         (try clear hb2)
         (try clear hk)
         (try clear hi)
         refine hK.out _ _ ⟨((HB.out.cell (World.block_lt_of_cell? w _ hw1157_0)).trans hw1157_0), ((HB.out.cell (World.block_lt_of_cell? w _ hw1157_1)).trans hw1157_1), ((HB.out.cell (World.block_lt_of_cell? w _ hw1157_2)).trans hw1157_2), ((HB.out.cell (World.block_lt_of_cell? w _ hw1157_3)).trans hw1157_3), ((HB.out.cell (World.block_lt_of_cell? w _ hw1158_0)).trans hw1158_0), ((HB.out.cell (World.block_lt_of_cell? w _ hw1158_1)).trans hw1158_1), ((HB.out.cell (World.block_lt_of_cell? w _ hw1158_2)).trans hw1158_2), ((HB.out.cell (World.block_lt_of_cell? w _ hw1158_3)).trans hw1158_3)⟩ (fun hHeld => ?_)
         clear hK K
         refine norm_ (a' := ?_) ?_ ?_
         rotate_left
         ·
          show Act.put _ (some 24) _ = _
          simp only [fr_]
          rfl
         refine pu_ 9 25 ?_ (b_ 10 0) rfl rfl (any_of HT_.out (by kernel_rfl)) (fun _ _ _ h => h) (by rfl) ?_ ?_ ?_ ?_; rotate_left; intro w'; go_simp; with_reducible rfl; rotate_left; simp only [fr_]; rfl
         refine done_ (done_of HT_.out (by kernel_rfl)) ?_
         try go_wp2
         go_roundg k1
         case measure => have := HK1.out; omega
         case rel => exact ⟨(wrap64 (x13_1 + 1)), (by first | rfl | (simp; done) | (simp [*]; done)), H', ⟨by have := HK1.out; omega⟩, ⟨by repeat (first | (with_reducible first | exact HB.out | apply below_alloc | apply pw_below_drewN | apply below_drew1) | exact HB.out)⟩⟩
        replace c9 := Bool.eq_false_iff.mpr c9
        subst c9
        have H1 : (some false) = some r := by rw [if_neg (show ¬ (false = true) by decide)] at H; exact H
        clear H
        have H := H1
        clear H1
        obtain rfl := Option.some.inj H
        try go_wp2
        have n0_ := Aside0.mk (below_drew1 HB.out)
        clear HB
        have HB := n0_
        clear n0_
        have p1157 : 0 ≤ (x13_1 : Int) := of_decide_eq_true (by first | (with_reducible assumption) | assumption)
        have q1157 : x13_1 < (l0.length : Int) := of_decide_eq_true (by first | (with_reducible assumption) | assumption)
        obtain ⟨ad1157, A1157_0, c1157_0, e1157, hx1157_0, hx1157_1, hx1157_2, hx1157_3, hl1157_0, hi1157_0⟩ := at_T44 HR0.out x13_1 p1157 q1157
        have hw1157_3 := hx1157_3
        have hw1157_2 := hx1157_2
        have hw1157_1 := hx1157_1
        have hw1157_0 := hx1157_0
        cases e1157
        replace hx1157_0 := (HB.out.cell (World.block_lt_of_cell? w _ hx1157_0)).trans hx1157_0
        replace hx1157_1 := (HB.out.cell (World.block_lt_of_cell? w _ hx1157_1)).trans hx1157_1
        replace hx1157_2 := (HB.out.cell (World.block_lt_of_cell? w _ hx1157_2)).trans hx1157_2
        replace hx1157_3 := (HB.out.cell (World.block_lt_of_cell? w _ hx1157_3)).trans hx1157_3
        have HR1157_0 := Aside0.mk hi1157_0
        have HC1157_0 := Aside0.mk hl1157_0
        clear hi1157_0 hl1157_0
        replace p1157 := eq_true p1157
        replace q1157 := eq_true q1157
        have p1158 : 0 ≤ (x13_1 : Int) := of_decide_eq_true (by first | (with_reducible assumption) | assumption)
        have q1158 : x13_1 < (l1.length : Int) := of_decide_eq_true (by first | (with_reducible assumption) | assumption)
        obtain ⟨ad1158, A1158_0, c1158_0, e1158, hx1158_0, hx1158_1, hx1158_2, hx1158_3, hl1158_0, hi1158_0⟩ := at_T44 HR1.out x13_1 p1158 q1158
        have hw1158_3 := hx1158_3
        have hw1158_2 := hx1158_2
        have hw1158_1 := hx1158_1
        have hw1158_0 := hx1158_0
        cases e1158
        replace hx1158_0 := (HB.out.cell (World.block_lt_of_cell? w _ hx1158_0)).trans hx1158_0
        replace hx1158_1 := (HB.out.cell (World.block_lt_of_cell? w _ hx1158_1)).trans hx1158_1
        replace hx1158_2 := (HB.out.cell (World.block_lt_of_cell? w _ hx1158_2)).trans hx1158_2
        replace hx1158_3 := (HB.out.cell (World.block_lt_of_cell? w _ hx1158_3)).trans hx1158_3
        have HR1158_0 := Aside0.mk hi1158_0
        have HC1158_0 := Aside0.mk hl1158_0
        clear hi1158_0 hl1158_0
        replace p1158 := eq_true p1158
        replace q1158 := eq_true q1158
        refine start_ (n := 10) (S := fun w' => w'.cell? (ad1157.add ((x13_1).toNat * 4)) = some (.slice A1157_0 ((rd_T44 l0 x13_1).f0).length c1157_0) ∧ w'.cell? ⟨(ad1157.add ((x13_1).toNat * 4)).block, (ad1157.add ((x13_1).toNat * 4)).off + 1, none⟩ = some (.int .i64 ((rd_T44 l0 x13_1).f1)) ∧ w'.cell? ⟨(ad1157.add ((x13_1).toNat * 4)).block, (ad1157.add ((x13_1).toNat * 4)).off + 2, none⟩ = some (.int .i64 ((rd_T44 l0 x13_1).f2)) ∧ w'.cell? ⟨(ad1157.add ((x13_1).toNat * 4)).block, (ad1157.add ((x13_1).toNat * 4)).off + 3, none⟩ = some (.string ((rd_T44 l0 x13_1).f3)) ∧ w'.cell? (ad1158.add ((x13_1).toNat * 4)) = some (.slice A1158_0 ((rd_T44 l1 x13_1).f0).length c1158_0) ∧ w'.cell? ⟨(ad1158.add ((x13_1).toNat * 4)).block, (ad1158.add ((x13_1).toNat * 4)).off + 1, none⟩ = some (.int .i64 ((rd_T44 l1 x13_1).f1)) ∧ w'.cell? ⟨(ad1158.add ((x13_1).toNat * 4)).block, (ad1158.add ((x13_1).toNat * 4)).off + 2, none⟩ = some (.int .i64 ((rd_T44 l1 x13_1).f2)) ∧ w'.cell? ⟨(ad1158.add ((x13_1).toNat * 4)).block, (ad1158.add ((x13_1).toNat * 4)).off + 3, none⟩ = some (.string ((rd_T44 l1 x13_1).f3))) (ds := []) #[f_,f_,f_,f_,f_,f_,f_,f_,f_,f_] (by kernel_rfl) rfl rfl ⟨((HB.out.cell (World.block_lt_of_cell? w _ hw1157_0)).trans hw1157_0), ((HB.out.cell (World.block_lt_of_cell? w _ hw1157_1)).trans hw1157_1), ((HB.out.cell (World.block_lt_of_cell? w _ hw1157_2)).trans hw1157_2), ((HB.out.cell (World.block_lt_of_cell? w _ hw1157_3)).trans hw1157_3), ((HB.out.cell (World.block_lt_of_cell? w _ hw1158_0)).trans hw1158_0), ((HB.out.cell (World.block_lt_of_cell? w _ hw1158_1)).trans hw1158_1), ((HB.out.cell (World.block_lt_of_cell? w _ hw1158_2)).trans hw1158_2), ((HB.out.cell (World.block_lt_of_cell? w _ hw1158_3)).trans hw1158_3)⟩ (fun hHeld => ?_); refine with_tabW impl_sameAlarms.tab6 impl_sameAlarms.bits6 (fun HT_ HW_ => ?_)
        generalize wr.drew = w12 at HB HR1157_0 HR1158_0 hx1157_0 hx1157_1 hx1157_2 hx1157_3 hx1158_0 hx1158_1 hx1158_2 hx1158_3 hHeld ⊢
        refine pu_ 0 16 ?_ (b_ 1 9) rfl rfl (any_of HT_.out (by kernel_rfl)) (fun _ _ _ h => h) (by rfl) ?_ ?_ ?_ ?_; rotate_left; intro w'; go_simp; with_reducible rfl; rotate_left; simp only [fr_]; rfl
        refine pu_ 1 17 ?_ (b_ 2 8) rfl rfl (any_of HT_.out (by kernel_rfl)) (fun _ _ _ h => h) (by rfl) ?_ ?_ ?_ ?_; rotate_left; intro w'; go_simp; with_reducible rfl; rotate_left; simp only [fr_]; rfl
        refine pu_ 2 18 ?_ (b_ 3 7) rfl rfl (any_of HT_.out (by kernel_rfl)) (fun _ _ _ h => h) (by rfl) ?_ ?_ ?_ ?_; rotate_left; intro w'; go_simp; with_reducible rfl; rotate_left; simp only [fr_]; rfl
        refine pu_ 4 20 ?_ #[t_,t_,t_,f_,t_,f_,f_,f_,f_,f_] rfl rfl (any_of HT_.out (by kernel_rfl)) (fun _ _ _ h => h) (by rfl) ?_ ?_ ?_ ?_; rotate_left; intro w'; go_simp; with_reducible rfl; rotate_left; simp only [fr_]; rfl
        refine pu_ 5 21 ?_ #[t_,t_,t_,f_,t_,t_,f_,f_,f_,f_] rfl rfl (any_of HT_.out (by kernel_rfl)) (fun _ _ _ h => h) (by rfl) ?_ ?_ ?_ ?_; rotate_left; intro w'; go_simp; with_reducible rfl; rotate_left; simp only [fr_]; rfl
        refine pu_ 6 22 ?_ #[t_,t_,t_,f_,t_,t_,t_,f_,f_,f_] rfl rfl (any_of HT_.out (by kernel_rfl)) (fun _ _ _ h => h) (by rfl) ?_ ?_ ?_ ?_; rotate_left; intro w'; go_simp; with_reducible rfl; rotate_left; simp only [fr_]; rfl
        refine take_ (i := 3) (N := some 19) (v := ?_) (a' := ?_) #[t_,t_,t_,t_,t_,t_,t_,f_,f_,f_] rfl rfl (take_ofW HT_.out HW_.out (by kernel_rfl)) (fun _ _ _ h => h) (Or.inl ⟨by rfl, ?_⟩) hHeld ?_ ?_
        rotate_left
        ·
         rintro w' ⟨s0, s1, s2, s3, s4, s5, s6, s7⟩
         go_simp
         with_reducible rfl
        rotate_left
        ·
         simp only [fr_]
         rfl
        refine take_ (i := 7) (N := some 23) (v := ?_) (a' := ?_) #[t_,t_,t_,t_,t_,t_,t_,t_,f_,f_] rfl rfl (take_ofW HT_.out HW_.out (by kernel_rfl)) (fun _ _ _ h => h) (Or.inl ⟨by rfl, ?_⟩) hHeld ?_ ?_
        rotate_left
        ·
         rintro w' ⟨s0, s1, s2, s3, s4, s5, s6, s7⟩
         go_simp
         with_reducible rfl
        rotate_left
        ·
         simp only [fr_]
         rfl
        refine one_ (i := 8) (N := some 24) #[t_,t_,t_,t_,t_,t_,t_,t_,t_,f_] rfl rfl (one_of HT_.out (by kernel_rfl)) (by decide) (fun K hK => ?_)
        refine goes_ Try.func85 (by kernel_rfl) rfl #[.agg #[.slice A1157_0 ((rd_T44 l0 x13_1).f0).length c1157_0, .int .i64 ((rd_T44 l0 x13_1).f1), .int .i64 ((rd_T44 l0 x13_1).f2), .string ((rd_T44 l0 x13_1).f3)], .agg #[.slice A1158_0 ((rd_T44 l1 x13_1).f0).length c1158_0, .int .i64 ((rd_T44 l1 x13_1).f1), .int .i64 ((rd_T44 l1 x13_1).f2), .string ((rd_T44 l1 x13_1).f3)]] (by rfl) rfl rfl (by (try simp only [List.map_toArray, List.map_cons, List.map_nil]); first | done | rfl | (simp only [List.length_drop, List.length_take]; rfl)) ?_
        with_reducible refine (impl_SameAlarm.calls k1 _ _ ((rd_T44 l0 x13_1).f0) ((rd_T44 l0 x13_1).f1) ((rd_T44 l0 x13_1).f2) ((rd_T44 l0 x13_1).f3) _ _ ((rd_T44 l1 x13_1).f0) ((rd_T44 l1 x13_1).f1) ((rd_T44 l1 x13_1).f2) ((rd_T44 l1 x13_1).f3) false _ ?side1 ?side2 ?side3 ?side4 A8.out).mono ?_
        (case side1 => repeat (first | exact (Kd.C_below HR1157_0.out HB.out) | (with_reducible refine Kd.C_alloc ?_ _) | (with_reducible refine Kd.C_drewN ?_ _) | (with_reducible refine Kd.C_drew ?_)))
        (case side2 => exact HC1157_0.out)
        (case side3 => repeat (first | exact (Kd.C_below HR1158_0.out HB.out) | (with_reducible refine Kd.C_alloc ?_ _) | (with_reducible refine Kd.C_drewN ?_ _) | (with_reducible refine Kd.C_drew ?_)))
        (case side4 => exact HC1158_0.out)
        rintro e w13 ⟨rfl, hb⟩
        refine ⟨_, rfl, ?_⟩
        have n0_ := Aside0.mk (below_step (by repeat (first | (with_reducible first | exact HB.out | apply below_alloc | apply pw_below_drewN | apply below_drew1) | exact HB.out)) hb)
        clear HB
        have HB := n0_
        clear n0_
        (try clear hb)
        (try clear hb2)
        (try clear hk)
        (try clear hi)
        refine hK.out _ _ ⟨((HB.out.cell (World.block_lt_of_cell? w _ hw1157_0)).trans hw1157_0), ((HB.out.cell (World.block_lt_of_cell? w _ hw1157_1)).trans hw1157_1), ((HB.out.cell (World.block_lt_of_cell? w _ hw1157_2)).trans hw1157_2), ((HB.out.cell (World.block_lt_of_cell? w _ hw1157_3)).trans hw1157_3), ((HB.out.cell (World.block_lt_of_cell? w _ hw1158_0)).trans hw1158_0), ((HB.out.cell (World.block_lt_of_cell? w _ hw1158_1)).trans hw1158_1), ((HB.out.cell (World.block_lt_of_cell? w _ hw1158_2)).trans hw1158_2), ((HB.out.cell (World.block_lt_of_cell? w _ hw1158_3)).trans hw1158_3)⟩ (fun hHeld => ?_)
        clear hK K
        refine norm_ (a' := ?_) ?_ ?_
        rotate_left
        ·
         show Act.put _ (some 24) _ = _
         simp only [fr_]
         rfl
        refine pu_ 9 25 ?_ (b_ 10 0) rfl rfl (any_of HT_.out (by kernel_rfl)) (fun _ _ _ h => h) (by rfl) ?_ ?_ ?_ ?_; rotate_left; intro w'; go_simp; with_reducible rfl; rotate_left; simp only [fr_]; rfl
        refine done_ (done_of HT_.out (by kernel_rfl)) ?_
        try go_wp2
        go_ret
        exact ⟨by first | rfl | (simp [errW_none, errW_some] <;> rfl) | (simp [*, errW_none, errW_some] <;> rfl), by repeat (first | (with_reducible first | exact HB.out | apply below_alloc | apply pw_below_drewN | apply below_drew1) | exact HB.out)⟩
       rw [if_neg c7] at H
       exact absurd H (by simp)
      rw [if_neg c6] at H
      exact absurd H (by simp)
     rw [if_neg c5] at H
     exact absurd H (by simp)
    rw [if_neg c4] at H
    have c4b0 : decide (x13_1 < (l0.length : Int)) = false := decide_eq_false c4
    clear c4
    obtain rfl := Option.some.inj H
    go_wp2
    go_ret
    exact ⟨by first | rfl | (simp [errW_none, errW_some] <;> rfl) | (simp [*, errW_none, errW_some] <;> rfl), by repeat (first | (with_reducible first | exact HB.out | apply below_alloc | apply pw_below_drewN | apply below_drew1) | exact HB.out)⟩
 rw [if_neg c3] at H
 have c3b0 : ((l0.length : Int) == (l1.length : Int)) = false := beq_eq_false_iff_ne.mpr c3
 have c3b1 : ((l0.length : Int) != (l1.length : Int)) = true := bne_iff_ne.mpr c3
 have c3b2 : (l0.length == l1.length) = false := by first | simpa using c3 | (simp at c3 ⊢; omega)
 obtain rfl := Option.some.inj H
 go_enter Try.func138, Try.ntmps138
 go_wp2
 go_ret
 exact ⟨by first | rfl | (simp [errW_none, errW_some] <;> rfl) | (simp [*, errW_none, errW_some] <;> rfl), by repeat (first | (with_reducible first | exact HB.out | apply below_alloc | apply pw_below_drewN | apply below_drew1) | exact HB.out)⟩

end Go.Proofs.Ytfholjcelnkleaa.Print
end
section
namespace Go.Proofs.Ytfholjcelnkleaa.Print
open Go.RowKit Go.Proofs.YtfholjcelnkleaaV.PrintWords Go.Proofs.YtfholjcelnkleaaV.PrintLast Go.Proofs.YtfholjcelnkleaaV.PrintMore
attribute [local go_sem] max2_int min2_int max_two min_two max_three min_three max_four min_four   -- for this text's walks alone
set_option linter.unusedVariables false
set_option linter.unusedSimpArgs false

/-! ### spec_l4Same: function 140 -/
def spec_l4Same.l0 : Nat → List (S44) → List (S44) → Int → Option (Bool)
 | 0, _, _, _ => none
 | k + 1, x0, x1, x5 => if x5 < (x0.length : Int) then (if 0 ≤ x5 then (if x5 < (x1.length : Int) then ((spec_SameAlarm.f k ((rd_T44 x0 x5).f0) ((rd_T44 x0 x5).f1) ((rd_T44 x0 x5).f2) ((rd_T44 x0 x5).f3) ((rd_T44 x1 x5).f0) ((rd_T44 x1 x5).f1) ((rd_T44 x1 x5).f2) ((rd_T44 x1 x5).f3)).bind fun t1832 => (if t1832 = true then (spec_l4Same.l0 k x0 x1 (wrap64 (x5 + 1))) else (some false))) else (none)) else (none)) else (some true)
def spec_l4Same.f (k : Nat) (l0 : List (S44)) (l1 : List (S44)) : Option (Bool) := if (l0.length : Int) = (l1.length : Int) then (spec_l4Same.l0 k l0 l1 0) else (some false)
theorem spec_l4Same.mono_l : ∀ k, (∀ y0 y1 y2, LeO (spec_l4Same.l0 k y0 y1 y2) (spec_l4Same.l0 (k + 1) y0 y1 y2))
 | 0 => fun _ _ _ r h => by simp [spec_l4Same.l0] at h
 | k + 1 => by
  have ih0 := spec_l4Same.mono_l k
  intro y0 y1 y2
  unfold spec_l4Same.l0
  repeat' first
  | (with_reducible exact ih0 _ _ _)
  | (with_reducible exact spec_SameAlarm.mono _ _ _ _ _ _ _ _ _)
  | (with_reducible exact LeO.refl _)
  | (with_reducible exact LeO.none _)
  | (with_reducible refine LeO.ite ?_ ?_)
  | (with_reducible refine LeO.bind ?_ (fun _ => ?_))
  | exact ih0 _ _ _
  | exact spec_SameAlarm.mono _ _ _ _ _ _ _ _ _
  | exact LeO.none _
  | refine LeO.ite ?_ ?_
  | refine LeO.bind ?_ (fun _ => ?_)
theorem spec_l4Same.mono : ∀ a0 a1 k, LeO (spec_l4Same.f k a0 a1) (spec_l4Same.f (k + 1) a0 a1) := by
 intro a0 a1 k
 have ih0 := spec_l4Same.mono_l k
 unfold spec_l4Same.f
 repeat' first
   | (with_reducible exact ih0 _ _ _)
   | (with_reducible exact spec_SameAlarm.mono _ _ _ _ _ _ _ _ _)
   | (with_reducible exact LeO.refl _)
   | (with_reducible exact LeO.none _)
   | (with_reducible refine LeO.ite ?_ ?_)
   | (with_reducible refine LeO.bind ?_ (fun _ => ?_))
   | exact ih0 _ _ _
   | exact spec_SameAlarm.mono _ _ _ _ _ _ _ _ _
   | exact LeO.none _
   | refine LeO.ite ?_ ?_
   | refine LeO.bind ?_ (fun _ => ?_)
def spec_l4Same.T6 : Bool × List (List Nat × List Nat) := (true, [([], []), ([], []), ([0, 1], [0, 1]), ([2], [2]), ([], []), ([], []), ([4, 5], [4, 5]), ([6], [6]), ([3, 7], [3, 7]), ([8], [8])])
def spec_l4Same.B6 : List Nat := [0, 0, 3, 7, 0, 0, 48, 112, 255, 511]
theorem spec_l4Same.tab6 : rtab .any (opsOf Try.f140 6) = spec_l4Same.T6 := by kernel_rfl
theorem spec_l4Same.bits6 : waitsOk spec_l4Same.T6.2 spec_l4Same.B6 = true := by kernel_rfl
set_option maxHeartbeats 8000000 in
set_option maxRecDepth 100000 in
theorem spec_l4Same.calls (k : Nat) (A0 : Option Addr) (c0 : Nat) (l0 : List (S44)) (A1 : Option Addr) (c1 : Nat) (l1 : List (S44)) (r : Bool) (w : World) (hr0 : Kd.C k44 w A0 l0.length l0) (hc0 : l0.length ≤ c0) (hr1 : Kd.C k44 w A1 l1.length l1) (hc1 : l1.length ≤ c1) (h : spec_l4Same.f k l0 l1 = some r) :
  Calls Try.prog 140 #[.slice A0 l0.length c0, .slice A1 l1.length c1] w fun e w' => e = .returned (.bool r) ∧ Below w.heap.size w w' := by
 have hu44 := Try.underlying44
 have HR0 := Aside0.mk hr0
 have HC0 := Aside0.mk hc0
 clear hr0 hc0
 have HR1 := Aside0.mk hr1
 have HC1 := Aside0.mk hc1
 clear hr1 hc1
 have HB := Aside0.mk (Below.refl w.heap.size w)
 have H : (if (l0.length : Int) = (l1.length : Int) then (spec_l4Same.l0 k l0 l1 0) else (some false)) = some r := h
 clear h
 by_cases c3 : (l0.length : Int) = (l1.length : Int)
 ·
  rw [if_pos c3] at H
  have c3b0 : ((l0.length : Int) == (l1.length : Int)) = true := beq_iff_eq.mpr c3
  have c3b1 : ((l0.length : Int) != (l1.length : Int)) = false := bne_eq_false_iff_eq.mpr c3
  have c3b2 : (l0.length == l1.length) = true := by first | simpa using c3 | (simp at c3 ⊢; omega)
  clear c3
  have H' := Aside0.mk H
  clear H
  go_enter Try.func140, Try.ntmps140
  go_wp2
  go_loopg [5] k (fun kq v5 w' => ∃ (x5_1 : Int), v5 = .int .i64 x5_1 ∧ Aside0 (spec_l4Same.l0 kq l0 l1 x5_1 = some r) ∧ Aside0 (kq ≤ k) ∧ Aside0 (Below w.heap.size w w'))
  case atStart => exact ⟨(0), (by first | rfl | (simp; done) | (simp [*]; done)), H', ⟨Nat.le_refl _⟩, ⟨by repeat (first | (with_reducible first | exact HB.out | apply below_alloc | apply pw_below_drewN | apply below_drew1) | exact HB.out)⟩⟩
  case round =>
   clear H'
   try clear c1
   try clear p2
   try clear c3
   try clear c3b0
   try clear c3b1
   try clear c3b2
   obtain ⟨x5_1, rfl, HA, HK1, HB⟩ := hrel
   cases gk with
   | zero => exact absurd HA.out (by simp [spec_l4Same.l0])
   | succ k1 =>
    have H := HA.out
    clear HA
    simp only [spec_l4Same.l0] at H
    by_cases c4 : x5_1 < (l0.length : Int)
    ·
     rw [if_pos c4] at H
     have c4b0 : decide (x5_1 < (l0.length : Int)) = true := decide_eq_true c4
     clear c4
     by_cases c5 : 0 ≤ x5_1
     ·
      rw [if_pos c5] at H
      have c5b0 : decide (0 ≤ x5_1) = true := decide_eq_true c5
      clear c5
      by_cases c6 : x5_1 < (l1.length : Int)
      ·
       rw [if_pos c6] at H
       have c6b0 : decide (x5_1 < (l1.length : Int)) = true := decide_eq_true c6
       clear c6
       replace H := Option.bind_eq_some_iff.mp H
       obtain ⟨t1832, A70, H⟩ := H
       replace H : (if t1832 = true then (spec_l4Same.l0 k1 l0 l1 (wrap64 (x5_1 + 1))) else (some false)) = some r := H
       have A7 := Aside0.mk A70
       clear A70
       by_cases c8 : t1832 = true
       ·
        subst c8
        have H1 : (spec_l4Same.l0 k1 l0 l1 (wrap64 (x5_1 + 1))) = some r := by rw [if_pos rfl] at H; exact H
        clear H
        have H := H1
        clear H1
        have H' := Aside0.mk H
        clear H
        try go_wp2
        have n0_ := Aside0.mk (below_drew1 HB.out)
        clear HB
        have HB := n0_
        clear n0_
        have p1830 : 0 ≤ (x5_1 : Int) := of_decide_eq_true (by first | (with_reducible assumption) | assumption)
        have q1830 : x5_1 < (l0.length : Int) := of_decide_eq_true (by first | (with_reducible assumption) | assumption)
        obtain ⟨ad1830, A1830_0, c1830_0, e1830, hx1830_0, hx1830_1, hx1830_2, hx1830_3, hl1830_0, hi1830_0⟩ := at_T44 HR0.out x5_1 p1830 q1830
        have hw1830_3 := hx1830_3
        have hw1830_2 := hx1830_2
        have hw1830_1 := hx1830_1
        have hw1830_0 := hx1830_0
        cases e1830
        replace hx1830_0 := (HB.out.cell (World.block_lt_of_cell? w _ hx1830_0)).trans hx1830_0
        replace hx1830_1 := (HB.out.cell (World.block_lt_of_cell? w _ hx1830_1)).trans hx1830_1
        replace hx1830_2 := (HB.out.cell (World.block_lt_of_cell? w _ hx1830_2)).trans hx1830_2
        replace hx1830_3 := (HB.out.cell (World.block_lt_of_cell? w _ hx1830_3)).trans hx1830_3
        have HR1830_0 := Aside0.mk hi1830_0
        have HC1830_0 := Aside0.mk hl1830_0
        clear hi1830_0 hl1830_0
        replace p1830 := eq_true p1830
        replace q1830 := eq_true q1830
        have p1831 : 0 ≤ (x5_1 : Int) := of_decide_eq_true (by first | (with_reducible assumption) | assumption)
        have q1831 : x5_1 < (l1.length : Int) := of_decide_eq_true (by first | (with_reducible assumption) | assumption)
        obtain ⟨ad1831, A1831_0, c1831_0, e1831, hx1831_0, hx1831_1, hx1831_2, hx1831_3, hl1831_0, hi1831_0⟩ := at_T44 HR1.out x5_1 p1831 q1831
        have hw1831_3 := hx1831_3
        have hw1831_2 := hx1831_2
        have hw1831_1 := hx1831_1
        have hw1831_0 := hx1831_0
        cases e1831
        replace hx1831_0 := (HB.out.cell (World.block_lt_of_cell? w _ hx1831_0)).trans hx1831_0
        replace hx1831_1 := (HB.out.cell (World.block_lt_of_cell? w _ hx1831_1)).trans hx1831_1
        replace hx1831_2 := (HB.out.cell (World.block_lt_of_cell? w _ hx1831_2)).trans hx1831_2
        replace hx1831_3 := (HB.out.cell (World.block_lt_of_cell? w _ hx1831_3)).trans hx1831_3
        have HR1831_0 := Aside0.mk hi1831_0
        have HC1831_0 := Aside0.mk hl1831_0
        clear hi1831_0 hl1831_0
        replace p1831 := eq_true p1831
        replace q1831 := eq_true q1831
        refine start_ (n := 10) (S := fun w' => w'.cell? (ad1830.add ((x5_1).toNat * 4)) = some (.slice A1830_0 ((rd_T44 l0 x5_1).f0).length c1830_0) ∧ w'.cell? ⟨(ad1830.add ((x5_1).toNat * 4)).block, (ad1830.add ((x5_1).toNat * 4)).off + 1, none⟩ = some (.int .i64 ((rd_T44 l0 x5_1).f1)) ∧ w'.cell? ⟨(ad1830.add ((x5_1).toNat * 4)).block, (ad1830.add ((x5_1).toNat * 4)).off + 2, none⟩ = some (.int .i64 ((rd_T44 l0 x5_1).f2)) ∧ w'.cell? ⟨(ad1830.add ((x5_1).toNat * 4)).block, (ad1830.add ((x5_1).toNat * 4)).off + 3, none⟩ = some (.string ((rd_T44 l0 x5_1).f3)) ∧ w'.cell? (ad1831.add ((x5_1).toNat * 4)) = some (.slice A1831_0 ((rd_T44 l1 x5_1).f0).length c1831_0) ∧ w'.cell? ⟨(ad1831.add ((x5_1).toNat * 4)).block, (ad1831.add ((x5_1).toNat * 4)).off + 1, none⟩ = some (.int .i64 ((rd_T44 l1 x5_1).f1)) ∧ w'.cell? ⟨(ad1831.add ((x5_1).toNat * 4)).block, (ad1831.add ((x5_1).toNat * 4)).off + 2, none⟩ = some (.int .i64 ((rd_T44 l1 x5_1).f2)) ∧ w'.cell? ⟨(ad1831.add ((x5_1).toNat * 4)).block, (ad1831.add ((x5_1).toNat * 4)).off + 3, none⟩ = some (.string ((rd_T44 l1 x5_1).f3))) (ds := []) #[f_,f_,f_,f_,f_,f_,f_,f_,f_,f_] (by kernel_rfl) rfl rfl ⟨((HB.out.cell (World.block_lt_of_cell? w _ hw1830_0)).trans hw1830_0), ((HB.out.cell (World.block_lt_of_cell? w _ hw1830_1)).trans hw1830_1), ((HB.out.cell (World.block_lt_of_cell? w _ hw1830_2)).trans hw1830_2), ((HB.out.cell (World.block_lt_of_cell? w _ hw1830_3)).trans hw1830_3), ((HB.out.cell (World.block_lt_of_cell? w _ hw1831_0)).trans hw1831_0), ((HB.out.cell (World.block_lt_of_cell? w _ hw1831_1)).trans hw1831_1), ((HB.out.cell (World.block_lt_of_cell? w _ hw1831_2)).trans hw1831_2), ((HB.out.cell (World.block_lt_of_cell? w _ hw1831_3)).trans hw1831_3)⟩ (fun hHeld => ?_); refine with_tabW spec_l4Same.tab6 spec_l4Same.bits6 (fun HT_ HW_ => ?_)
        generalize wr.drew = w9 at HB HR1830_0 HR1831_0 hx1830_0 hx1830_1 hx1830_2 hx1830_3 hx1831_0 hx1831_1 hx1831_2 hx1831_3 hHeld ⊢
        refine pu_ 0 17 ?_ (b_ 1 9) rfl rfl (any_of HT_.out (by kernel_rfl)) (fun _ _ _ h => h) (by rfl) ?_ ?_ ?_ ?_; rotate_left; intro w'; go_simp; with_reducible rfl; rotate_left; simp only [fr_]; rfl
        refine pu_ 1 18 ?_ (b_ 2 8) rfl rfl (any_of HT_.out (by kernel_rfl)) (fun _ _ _ h => h) (by rfl) ?_ ?_ ?_ ?_; rotate_left; intro w'; go_simp; with_reducible rfl; rotate_left; simp only [fr_]; rfl
        refine pu_ 2 19 ?_ (b_ 3 7) rfl rfl (any_of HT_.out (by kernel_rfl)) (fun _ _ _ h => h) (by rfl) ?_ ?_ ?_ ?_; rotate_left; intro w'; go_simp; with_reducible rfl; rotate_left; simp only [fr_]; rfl
        refine pu_ 4 21 ?_ #[t_,t_,t_,f_,t_,f_,f_,f_,f_,f_] rfl rfl (any_of HT_.out (by kernel_rfl)) (fun _ _ _ h => h) (by rfl) ?_ ?_ ?_ ?_; rotate_left; intro w'; go_simp; with_reducible rfl; rotate_left; simp only [fr_]; rfl
        refine pu_ 5 22 ?_ #[t_,t_,t_,f_,t_,t_,f_,f_,f_,f_] rfl rfl (any_of HT_.out (by kernel_rfl)) (fun _ _ _ h => h) (by rfl) ?_ ?_ ?_ ?_; rotate_left; intro w'; go_simp; with_reducible rfl; rotate_left; simp only [fr_]; rfl
        refine pu_ 6 23 ?_ #[t_,t_,t_,f_,t_,t_,t_,f_,f_,f_] rfl rfl (any_of HT_.out (by kernel_rfl)) (fun _ _ _ h => h) (by rfl) ?_ ?_ ?_ ?_; rotate_left; intro w'; go_simp; with_reducible rfl; rotate_left; simp only [fr_]; rfl
        refine take_ (i := 3) (N := some 20) (v := ?_) (a' := ?_) #[t_,t_,t_,t_,t_,t_,t_,f_,f_,f_] rfl rfl (take_ofW HT_.out HW_.out (by kernel_rfl)) (fun _ _ _ h => h) (Or.inl ⟨by rfl, ?_⟩) hHeld ?_ ?_
        rotate_left
        ·
         rintro w' ⟨s0, s1, s2, s3, s4, s5, s6, s7⟩
         go_simp
         with_reducible rfl
        rotate_left
        ·
         simp only [fr_]
         rfl
        refine take_ (i := 7) (N := some 24) (v := ?_) (a' := ?_) #[t_,t_,t_,t_,t_,t_,t_,t_,f_,f_] rfl rfl (take_ofW HT_.out HW_.out (by kernel_rfl)) (fun _ _ _ h => h) (Or.inl ⟨by rfl, ?_⟩) hHeld ?_ ?_
        rotate_left
        ·
         rintro w' ⟨s0, s1, s2, s3, s4, s5, s6, s7⟩
         go_simp
         with_reducible rfl
        rotate_left
        ·
         simp only [fr_]
         rfl
        refine one_ (i := 8) (N := some 25) #[t_,t_,t_,t_,t_,t_,t_,t_,t_,f_] rfl rfl (one_of HT_.out (by kernel_rfl)) (by decide) (fun K hK => ?_)
        refine goes_ Try.func154 (by kernel_rfl) rfl #[.agg #[.slice A1830_0 ((rd_T44 l0 x5_1).f0).length c1830_0, .int .i64 ((rd_T44 l0 x5_1).f1), .int .i64 ((rd_T44 l0 x5_1).f2), .string ((rd_T44 l0 x5_1).f3)], .agg #[.slice A1831_0 ((rd_T44 l1 x5_1).f0).length c1831_0, .int .i64 ((rd_T44 l1 x5_1).f1), .int .i64 ((rd_T44 l1 x5_1).f2), .string ((rd_T44 l1 x5_1).f3)]] (by rfl) rfl rfl (by (try simp only [List.map_toArray, List.map_cons, List.map_nil]); first | done | rfl | (simp only [List.length_drop, List.length_take]; rfl)) ?_
        with_reducible refine (spec_SameAlarm.calls k1 _ _ ((rd_T44 l0 x5_1).f0) ((rd_T44 l0 x5_1).f1) ((rd_T44 l0 x5_1).f2) ((rd_T44 l0 x5_1).f3) _ _ ((rd_T44 l1 x5_1).f0) ((rd_T44 l1 x5_1).f1) ((rd_T44 l1 x5_1).f2) ((rd_T44 l1 x5_1).f3) true _ ?side1 ?side2 ?side3 ?side4 A7.out).mono ?_
        (case side1 => repeat (first | exact (Kd.C_below HR1830_0.out HB.out) | (with_reducible refine Kd.C_alloc ?_ _) | (with_reducible refine Kd.C_drewN ?_ _) | (with_reducible refine Kd.C_drew ?_)))
        (case side2 => exact HC1830_0.out)
        (case side3 => repeat (first | exact (Kd.C_below HR1831_0.out HB.out) | (with_reducible refine Kd.C_alloc ?_ _) | (with_reducible refine Kd.C_drewN ?_ _) | (with_reducible refine Kd.C_drew ?_)))
        (case side4 => exact HC1831_0.out)
        rintro e w10 ⟨rfl, hb⟩
        refine ⟨_, rfl, ?_⟩
        have n0_ := Aside0.mk (below_step (by repeat (first | (with_reducible first | exact HB.out | apply below_alloc | apply pw_below_drewN | apply below_drew1) | exact HB.out)) hb)
        clear HB
        have HB := n0_
        clear n0_
        (try clear hb)
        (try clear hb2)
        (try clear hk)
        (try clear hi)
        refine hK.out _ _ ⟨((HB.out.cell (World.block_lt_of_cell? w _ hw1830_0)).trans hw1830_0), ((HB.out.cell (World.block_lt_of_cell? w _ hw1830_1)).trans hw1830_1), ((HB.out.cell (World.block_lt_of_cell? w _ hw1830_2)).trans hw1830_2), ((HB.out.cell (World.block_lt_of_cell? w _ hw1830_3)).trans hw1830_3), ((HB.out.cell (World.block_lt_of_cell? w _ hw1831_0)).trans hw1831_0), ((HB.out.cell (World.block_lt_of_cell? w _ hw1831_1)).trans hw1831_1), ((HB.out.cell (World.block_lt_of_cell? w _ hw1831_2)).trans hw1831_2), ((HB.out.cell (World.block_lt_of_cell? w _ hw1831_3)).trans hw1831_3)⟩ (fun hHeld => ?_)
        clear hK K
        refine norm_ (a' := ?_) ?_ ?_
        rotate_left
        ·
         show Act.put _ (some 25) _ = _
         simp only [fr_]
         rfl
        refine pu_ 9 26 ?_ (b_ 10 0) rfl rfl (any_of HT_.out (by kernel_rfl)) (fun _ _ _ h => h) (by rfl) ?_ ?_ ?_ ?_; rotate_left; intro w'; go_simp; with_reducible rfl; rotate_left; simp only [fr_]; rfl
        refine done_ (done_of HT_.out (by kernel_rfl)) ?_
        try go_wp2
        go_roundg k1
        case measure => have := HK1.out; omega
        case rel => exact ⟨(wrap64 (x5_1 + 1)), (by first | rfl | (simp; done) | (simp [*]; done)), H', ⟨by have := HK1.out; omega⟩, ⟨by repeat (first | (with_reducible first | exact HB.out | apply below_alloc | apply pw_below_drewN | apply below_drew1) | exact HB.out)⟩⟩
       replace c8 := Bool.eq_false_iff.mpr c8
       subst c8
       have H1 : (some false) = some r := by rw [if_neg (show ¬ (false = true) by decide)] at H; exact H
       clear H
       have H := H1
       clear H1
       obtain rfl := Option.some.inj H
       try go_wp2
       have n0_ := Aside0.mk (below_drew1 HB.out)
       clear HB
       have HB := n0_
       clear n0_
       have p1830 : 0 ≤ (x5_1 : Int) := of_decide_eq_true (by first | (with_reducible assumption) | assumption)
       have q1830 : x5_1 < (l0.length : Int) := of_decide_eq_true (by first | (with_reducible assumption) | assumption)
       obtain ⟨ad1830, A1830_0, c1830_0, e1830, hx1830_0, hx1830_1, hx1830_2, hx1830_3, hl1830_0, hi1830_0⟩ := at_T44 HR0.out x5_1 p1830 q1830
       have hw1830_3 := hx1830_3
       have hw1830_2 := hx1830_2
       have hw1830_1 := hx1830_1
       have hw1830_0 := hx1830_0
       cases e1830
       replace hx1830_0 := (HB.out.cell (World.block_lt_of_cell? w _ hx1830_0)).trans hx1830_0
       replace hx1830_1 := (HB.out.cell (World.block_lt_of_cell? w _ hx1830_1)).trans hx1830_1
       replace hx1830_2 := (HB.out.cell (World.block_lt_of_cell? w _ hx1830_2)).trans hx1830_2
       replace hx1830_3 := (HB.out.cell (World.block_lt_of_cell? w _ hx1830_3)).trans hx1830_3
       have HR1830_0 := Aside0.mk hi1830_0
       have HC1830_0 := Aside0.mk hl1830_0
       clear hi1830_0 hl1830_0
       replace p1830 := eq_true p1830
       replace q1830 := eq_true q1830
       have p1831 : 0 ≤ (x5_1 : Int) := of_decide_eq_true (by first | (with_reducible assumption) | assumption)
       have q1831 : x5_1 < (l1.length : Int) := of_decide_eq_true (by first | (with_reducible assumption) | assumption)
       obtain ⟨ad1831, A1831_0, c1831_0, e1831, hx1831_0, hx1831_1, hx1831_2, hx1831_3, hl1831_0, hi1831_0⟩ := at_T44 HR1.out x5_1 p1831 q1831
       have hw1831_3 := hx1831_3
       have hw1831_2 := hx1831_2
       have hw1831_1 := hx1831_1
       have hw1831_0 := hx1831_0
       cases e1831
       replace hx1831_0 := (HB.out.cell (World.block_lt_of_cell? w _ hx1831_0)).trans hx1831_0
       replace hx1831_1 := (HB.out.cell (World.block_lt_of_cell? w _ hx1831_1)).trans hx1831_1
       replace hx1831_2 := (HB.out.cell (World.block_lt_of_cell? w _ hx1831_2)).trans hx1831_2
       replace hx1831_3 := (HB.out.cell (World.block_lt_of_cell? w _ hx1831_3)).trans hx1831_3
       have HR1831_0 := Aside0.mk hi1831_0
       have HC1831_0 := Aside0.mk hl1831_0
       clear hi1831_0 hl1831_0
       replace p1831 := eq_true p1831
       replace q1831 := eq_true q1831
       refine start_ (n := 10) (S := fun w' => w'.cell? (ad1830.add ((x5_1).toNat * 4)) = some (.slice A1830_0 ((rd_T44 l0 x5_1).f0).length c1830_0) ∧ w'.cell? ⟨(ad1830.add ((x5_1).toNat * 4)).block, (ad1830.add ((x5_1).toNat * 4)).off + 1, none⟩ = some (.int .i64 ((rd_T44 l0 x5_1).f1)) ∧ w'.cell? ⟨(ad1830.add ((x5_1).toNat * 4)).block, (ad1830.add ((x5_1).toNat * 4)).off + 2, none⟩ = some (.int .i64 ((rd_T44 l0 x5_1).f2)) ∧ w'.cell? ⟨(ad1830.add ((x5_1).toNat * 4)).block, (ad1830.add ((x5_1).toNat * 4)).off + 3, none⟩ = some (.string ((rd_T44 l0 x5_1).f3)) ∧ w'.cell? (ad1831.add ((x5_1).toNat * 4)) = some (.slice A1831_0 ((rd_T44 l1 x5_1).f0).length c1831_0) ∧ w'.cell? ⟨(ad1831.add ((x5_1).toNat * 4)).block, (ad1831.add ((x5_1).toNat * 4)).off + 1, none⟩ = some (.int .i64 ((rd_T44 l1 x5_1).f1)) ∧ w'.cell? ⟨(ad1831.add ((x5_1).toNat * 4)).block, (ad1831.add ((x5_1).toNat * 4)).off + 2, none⟩ = some (.int .i64 ((rd_T44 l1 x5_1).f2)) ∧ w'.cell? ⟨(ad1831.add ((x5_1).toNat * 4)).block, (ad1831.add ((x5_1).toNat * 4)).off + 3, none⟩ = some (.string ((rd_T44 l1 x5_1).f3))) (ds := []) #[f_,f_,f_,f_,f_,f_,f_,f_,f_,f_] (by kernel_rfl) rfl rfl ⟨((HB.out.cell (World.block_lt_of_cell? w _ hw1830_0)).trans hw1830_0), ((HB.out.cell (World.block_lt_of_cell? w _ hw1830_1)).trans hw1830_1), ((HB.out.cell (World.block_lt_of_cell? w _ hw1830_2)).trans hw1830_2), ((HB.out.cell (World.block_lt_of_cell? w _ hw1830_3)).trans hw1830_3), ((HB.out.cell (World.block_lt_of_cell? w _ hw1831_0)).trans hw1831_0), ((HB.out.cell (World.block_lt_of_cell? w _ hw1831_1)).trans hw1831_1), ((HB.out.cell (World.block_lt_of_cell? w _ hw1831_2)).trans hw1831_2), ((HB.out.cell (World.block_lt_of_cell? w _ hw1831_3)).trans hw1831_3)⟩ (fun hHeld => ?_); refine with_tabW spec_l4Same.tab6 spec_l4Same.bits6 (fun HT_ HW_ => ?_)
       generalize wr.drew = w11 at HB HR1830_0 HR1831_0 hx1830_0 hx1830_1 hx1830_2 hx1830_3 hx1831_0 hx1831_1 hx1831_2 hx1831_3 hHeld ⊢
       refine pu_ 0 17 ?_ (b_ 1 9) rfl rfl (any_of HT_.out (by kernel_rfl)) (fun _ _ _ h => h) (by rfl) ?_ ?_ ?_ ?_; rotate_left; intro w'; go_simp; with_reducible rfl; rotate_left; simp only [fr_]; rfl
       refine pu_ 1 18 ?_ (b_ 2 8) rfl rfl (any_of HT_.out (by kernel_rfl)) (fun _ _ _ h => h) (by rfl) ?_ ?_ ?_ ?_; rotate_left; intro w'; go_simp; with_reducible rfl; rotate_left; simp only [fr_]; rfl
       refine pu_ 2 19 ?_ (b_ 3 7) rfl rfl (any_of HT_.out (by kernel_rfl)) (fun _ _ _ h => h) (by rfl) ?_ ?_ ?_ ?_; rotate_left; intro w'; go_simp; with_reducible rfl; rotate_left; simp only [fr_]; rfl
       refine pu_ 4 21 ?_ #[t_,t_,t_,f_,t_,f_,f_,f_,f_,f_] rfl rfl (any_of HT_.out (by kernel_rfl)) (fun _ _ _ h => h) (by rfl) ?_ ?_ ?_ ?_; rotate_left; intro w'; go_simp; with_reducible rfl; rotate_left; simp only [fr_]; rfl
       refine pu_ 5 22 ?_ #[t_,t_,t_,f_,t_,t_,f_,f_,f_,f_] rfl rfl (any_of HT_.out (by kernel_rfl)) (fun _ _ _ h => h) (by rfl) ?_ ?_ ?_ ?_; rotate_left; intro w'; go_simp; with_reducible rfl; rotate_left; simp only [fr_]; rfl
       refine pu_ 6 23 ?_ #[t_,t_,t_,f_,t_,t_,t_,f_,f_,f_] rfl rfl (any_of HT_.out (by kernel_rfl)) (fun _ _ _ h => h) (by rfl) ?_ ?_ ?_ ?_; rotate_left; intro w'; go_simp; with_reducible rfl; rotate_left; simp only [fr_]; rfl
       refine take_ (i := 3) (N := some 20) (v := ?_) (a' := ?_) #[t_,t_,t_,t_,t_,t_,t_,f_,f_,f_] rfl rfl (take_ofW HT_.out HW_.out (by kernel_rfl)) (fun _ _ _ h => h) (Or.inl ⟨by rfl, ?_⟩) hHeld ?_ ?_
       rotate_left
       ·
        rintro w' ⟨s0, s1, s2, s3, s4, s5, s6, s7⟩
        go_simp
        with_reducible rfl
       rotate_left
       ·
        simp only [fr_]
        rfl
       refine take_ (i := 7) (N := some 24) (v := ?_) (a' := ?_) #[t_,t_,t_,t_,t_,t_,t_,t_,f_,f_] rfl rfl (take_ofW HT_.out HW_.out (by kernel_rfl)) (fun _ _ _ h => h) (Or.inl ⟨by rfl, ?_⟩) hHeld ?_ ?_
       rotate_left
       ·
        rintro w' ⟨s0, s1, s2, s3, s4, s5, s6, s7⟩
        go_simp
        with_reducible rfl
       rotate_left
       ·
        simp only [fr_]
        rfl
       refine one_ (i := 8) (N := some 25) #[t_,t_,t_,t_,t_,t_,t_,t_,t_,f_] rfl rfl (one_of HT_.out (by kernel_rfl)) (by decide) (fun K hK => ?_)
       refine goes_ Try.func154 (by kernel_rfl) rfl #[.agg #[.slice A1830_0 ((rd_T44 l0 x5_1).f0).length c1830_0, .int .i64 ((rd_T44 l0 x5_1).f1), .int .i64 ((rd_T44 l0 x5_1).f2), .string ((rd_T44 l0 x5_1).f3)], .agg #[.slice A1831_0 ((rd_T44 l1 x5_1).f0).length c1831_0, .int .i64 ((rd_T44 l1 x5_1).f1), .int .i64 ((rd_T44 l1 x5_1).f2), .string ((rd_T44 l1 x5_1).f3)]] (by rfl) rfl rfl (by (try simp only [List.map_toArray, List.map_cons, List.map_nil]); first | done | rfl | (simp only [List.length_drop, List.length_take]; rfl)) ?_
       with_reducible refine (spec_SameAlarm.calls k1 _ _ ((rd_T44 l0 x5_1).f0) ((rd_T44 l0 x5_1).f1) ((rd_T44 l0 x5_1).f2) ((rd_T44 l0 x5_1).f3) _ _ ((rd_T44 l1 x5_1).f0) ((rd_T44 l1 x5_1).f1) ((rd_T44 l1 x5_1).f2) ((rd_T44 l1 x5_1).f3) false _ ?side1 ?side2 ?side3 ?side4 A7.out).mono ?_
       (case side1 => repeat (first | exact (Kd.C_below HR1830_0.out HB.out) | (with_reducible refine Kd.C_alloc ?_ _) | (with_reducible refine Kd.C_drewN ?_ _) | (with_reducible refine Kd.C_drew ?_)))
       (case side2 => exact HC1830_0.out)
       (case side3 => repeat (first | exact (Kd.C_below HR1831_0.out HB.out) | (with_reducible refine Kd.C_alloc ?_ _) | (with_reducible refine Kd.C_drewN ?_ _) | (with_reducible refine Kd.C_drew ?_)))
       (case side4 => exact HC1831_0.out)
       rintro e w12 ⟨rfl, hb⟩
       refine ⟨_, rfl, ?_⟩
       have n0_ := Aside0.mk (below_step (by repeat (first | (with_reducible first | exact HB.out | apply below_alloc | apply pw_below_drewN | apply below_drew1) | exact HB.out)) hb)
       clear HB
       have HB := n0_
       clear n0_
       (try clear hb)
       (try clear hb2)
       (try clear hk)
       (try clear hi)
       refine hK.out _ _ ⟨((HB.out.cell (World.block_lt_of_cell? w _ hw1830_0)).trans hw1830_0), ((HB.out.cell (World.block_lt_of_cell? w _ hw1830_1)).trans hw1830_1), ((HB.out.cell (World.block_lt_of_cell? w _ hw1830_2)).trans hw1830_2), ((HB.out.cell (World.block_lt_of_cell? w _ hw1830_3)).trans hw1830_3), ((HB.out.cell (World.block_lt_of_cell? w _ hw1831_0)).trans hw1831_0), ((HB.out.cell (World.block_lt_of_cell? w _ hw1831_1)).trans hw1831_1), ((HB.out.cell (World.block_lt_of_cell? w _ hw1831_2)).trans hw1831_2), ((HB.out.cell (World.block_lt_of_cell? w _ hw1831_3)).trans hw1831_3)⟩ (fun hHeld => ?_)
       clear hK K
       refine norm_ (a' := ?_) ?_ ?_
       rotate_left
       ·
        show Act.put _ (some 25) _ = _
        simp only [fr_]
        rfl
       refine pu_ 9 26 ?_ (b_ 10 0) rfl rfl (any_of HT_.out (by kernel_rfl)) (fun _ _ _ h => h) (by rfl) ?_ ?_ ?_ ?_; rotate_left; intro w'; go_simp; with_reducible rfl; rotate_left; simp only [fr_]; rfl
       refine done_ (done_of HT_.out (by kernel_rfl)) ?_
       try go_wp2
       go_ret
       exact ⟨by first | rfl | (simp [errW_none, errW_some] <;> rfl) | (simp [*, errW_none, errW_some] <;> rfl), by repeat (first | (with_reducible first | exact HB.out | apply below_alloc | apply pw_below_drewN | apply below_drew1) | exact HB.out)⟩
      rw [if_neg c6] at H
      exact absurd H (by simp)
     rw [if_neg c5] at H
     exact absurd H (by simp)
    rw [if_neg c4] at H
    have c4b0 : decide (x5_1 < (l0.length : Int)) = false := decide_eq_false c4
    clear c4
    obtain rfl := Option.some.inj H
    go_wp2
    go_ret
    exact ⟨by first | rfl | (simp [errW_none, errW_some] <;> rfl) | (simp [*, errW_none, errW_some] <;> rfl), by repeat (first | (with_reducible first | exact HB.out | apply below_alloc | apply pw_below_drewN | apply below_drew1) | exact HB.out)⟩
 rw [if_neg c3] at H
 have c3b0 : ((l0.length : Int) == (l1.length : Int)) = false := beq_eq_false_iff_ne.mpr c3
 have c3b1 : ((l0.length : Int) != (l1.length : Int)) = true := bne_iff_ne.mpr c3
 have c3b2 : (l0.length == l1.length) = false := by first | simpa using c3 | (simp at c3 ⊢; omega)
 obtain rfl := Option.some.inj H
 go_enter Try.func140, Try.ntmps140
 go_wp2
 go_ret
 exact ⟨by first | rfl | (simp [errW_none, errW_some] <;> rfl) | (simp [*, errW_none, errW_some] <;> rfl), by repeat (first | (with_reducible first | exact HB.out | apply below_alloc | apply pw_below_drewN | apply below_drew1) | exact HB.out)⟩

end Go.Proofs.Ytfholjcelnkleaa.Print
end
