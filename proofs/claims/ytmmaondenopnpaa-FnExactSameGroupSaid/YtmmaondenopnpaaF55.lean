-- Written by printx.py, a program of this session (wip/gen), over the kit's print.py.
import Derived.Test.YtmmaondenopnpaaF0
import Derived.Test.YtmmaondenopnpaaF26
import Derived.Test.YtmmaondenopnpaaF29
import Derived.Test.YtmmaondenopnpaaF32
import Derived.Test.YtmmaondenopnpaaF53
import Derived.Test.YtmmaondenopnpaaF54
namespace Go.Proofs.Ytmmaondenopnpaa.Print
open Go.RowKit Go.Proofs.YtmmaondenopnpaaV.PrintWords Go.Proofs.YtmmaondenopnpaaV.PrintLast Go.Proofs.YtmmaondenopnpaaV.PrintMore
attribute [local go_sem] max2_int min2_int max_two min_two max_three min_three max_four min_four   -- for this text's walks alone
set_option linter.unusedVariables false
set_option linter.unusedSimpArgs false

/-! ### laws_FnExactSameGroup: function 8 -/
def laws_FnExactSameGroup.f (k : Nat) (a0_0 : Int) (l0_1 : List (S115)) (a0_2 : Int) (a0_3 : Int) (l0_4 : List (S50)) (a1_0 : Int) (l1_1 : List (S115)) (a1_2 : Int) (a1_3 : Int) (l1_4 : List (S50)) : Option (Bool) := (laws_szGroup.f k a0_0 l0_1 a0_2 a0_3 l0_4 1048576).bind fun t528 => (if t528 < 0 then (some true) else ((laws_szGroup.f k a1_0 l1_1 a1_2 a1_3 l1_4 t528).bind fun t529 => (if t529 < 0 then (some true) else ((laws_toGroup.f k a0_0 l0_1 a0_2 a0_3 l0_4).bind fun bt530 => ((laws_toGroup.f k a1_0 l1_1 a1_2 a1_3 l1_4).bind fun bt539 => ((spec_SameGroup.f k bt530.1 bt530.2.1 bt530.2.2.1 bt530.2.2.2.1 bt530.2.2.2.2 bt539.1 bt539.2.1 bt539.2.2.1 bt539.2.2.2.1 bt539.2.2.2.2).bind fun t548 => ((laws_toGroup.f k a0_0 l0_1 a0_2 a0_3 l0_4).bind fun bt549 => ((laws_toGroup.f k a1_0 l1_1 a1_2 a1_3 l1_4).bind fun bt559 => ((impl_SameGroup.f k bt549.1 bt549.2.1 bt549.2.2.1 bt549.2.2.2.1 bt549.2.2.2.2 bt559.1 bt559.2.1 bt559.2.2.1 bt559.2.2.2.1 bt559.2.2.2.2).bind fun t569 => (if (t569 != t548) = true then (none) else ((laws_toGroup.f k a0_0 l0_1 a0_2 a0_3 l0_4).bind fun bt570 => ((laws_eqGroup.f k bt549.1 bt549.2.1 bt549.2.2.1 bt549.2.2.2.1 bt549.2.2.2.2 bt570.1 bt570.2.1 bt570.2.2.1 bt570.2.2.2.1 bt570.2.2.2.2).bind fun t579 => (if t579 = true then ((laws_toGroup.f k a1_0 l1_1 a1_2 a1_3 l1_4).bind fun bt580 => ((laws_eqGroup.f k bt559.1 bt559.2.1 bt559.2.2.1 bt559.2.2.2.1 bt559.2.2.2.2 bt580.1 bt580.2.1 bt580.2.2.1 bt580.2.2.2.1 bt580.2.2.2.2).bind fun t589 => (if t589 = true then (some true) else (none)))) else (none))))))))))))))
theorem laws_FnExactSameGroup.mono : ∀ a0 a1 a2 a3 a4 a5 a6 a7 a8 a9 k, LeO (laws_FnExactSameGroup.f k a0 a1 a2 a3 a4 a5 a6 a7 a8 a9) (laws_FnExactSameGroup.f (k + 1) a0 a1 a2 a3 a4 a5 a6 a7 a8 a9) := by
 intro a0 a1 a2 a3 a4 a5 a6 a7 a8 a9 k
 unfold laws_FnExactSameGroup.f
 repeat' first
   | (with_reducible exact impl_SameGroup.mono _ _ _ _ _ _ _ _ _ _ _)
   | (with_reducible exact laws_eqGroup.mono _ _ _ _ _ _ _ _ _ _ _)
   | (with_reducible exact laws_szGroup.mono _ _ _ _ _ _ _)
   | (with_reducible exact laws_toGroup.mono _ _ _ _ _ _)
   | (with_reducible exact spec_SameGroup.mono _ _ _ _ _ _ _ _ _ _ _)
   | (with_reducible exact LeO.refl _)
   | (with_reducible exact LeO.none _)
   | (with_reducible refine LeO.ite ?_ ?_)
   | (with_reducible refine LeO.bind ?_ (fun _ => ?_))
   | exact impl_SameGroup.mono _ _ _ _ _ _ _ _ _ _ _
   | exact laws_eqGroup.mono _ _ _ _ _ _ _ _ _ _ _
   | exact laws_szGroup.mono _ _ _ _ _ _ _
   | exact laws_toGroup.mono _ _ _ _ _ _
   | exact spec_SameGroup.mono _ _ _ _ _ _ _ _ _ _ _
   | exact LeO.none _
   | refine LeO.ite ?_ ?_
   | refine LeO.bind ?_ (fun _ => ?_)
set_option maxHeartbeats 8000000 in
set_option maxRecDepth 100000 in
theorem laws_FnExactSameGroup.calls (k : Nat) (a0_0 : Int) (A0_1 : Option Addr) (c0_1 : Nat) (l0_1 : List (S115)) (a0_2 : Int) (a0_3 : Int) (A0_4 : Option Addr) (c0_4 : Nat) (l0_4 : List (S50)) (a1_0 : Int) (A1_1 : Option Addr) (c1_1 : Nat) (l1_1 : List (S115)) (a1_2 : Int) (a1_3 : Int) (A1_4 : Option Addr) (c1_4 : Nat) (l1_4 : List (S50)) (r : Bool) (w : World) (hr0_1 : Kd.C k115 w A0_1 l0_1.length l0_1) (hc0_1 : l0_1.length ≤ c0_1) (hr0_4 : Kd.C k50 w A0_4 l0_4.length l0_4) (hc0_4 : l0_4.length ≤ c0_4) (hr1_1 : Kd.C k115 w A1_1 l1_1.length l1_1) (hc1_1 : l1_1.length ≤ c1_1) (hr1_4 : Kd.C k50 w A1_4 l1_4.length l1_4) (hc1_4 : l1_4.length ≤ c1_4) (h : laws_FnExactSameGroup.f k a0_0 l0_1 a0_2 a0_3 l0_4 a1_0 l1_1 a1_2 a1_3 l1_4 = some r) :
  Calls Try.prog 8 #[.agg #[.int .i64 a0_0, .slice A0_1 l0_1.length c0_1, .int .i64 a0_2, .int .i64 a0_3, .slice A0_4 l0_4.length c0_4], .agg #[.int .i64 a1_0, .slice A1_1 l1_1.length c1_1, .int .i64 a1_2, .int .i64 a1_3, .slice A1_4 l1_4.length c1_4]] w fun e w' => e = .returned (.bool r) ∧ Below w.heap.size w w' := by
 have hu64 := Try.underlying64
 have hu68 := Try.underlying68
 have HR0_1 := Aside0.mk hr0_1
 have HC0_1 := Aside0.mk hc0_1
 clear hr0_1 hc0_1
 have HR0_4 := Aside0.mk hr0_4
 have HC0_4 := Aside0.mk hc0_4
 clear hr0_4 hc0_4
 have HR1_1 := Aside0.mk hr1_1
 have HC1_1 := Aside0.mk hc1_1
 clear hr1_1 hc1_1
 have HR1_4 := Aside0.mk hr1_4
 have HC1_4 := Aside0.mk hc1_4
 clear hr1_4 hc1_4
 have HB := Aside0.mk (Below.refl w.heap.size w)
 have H : ((laws_szGroup.f k a0_0 l0_1 a0_2 a0_3 l0_4 1048576).bind fun t528 => (if t528 < 0 then (some true) else ((laws_szGroup.f k a1_0 l1_1 a1_2 a1_3 l1_4 t528).bind fun t529 => (if t529 < 0 then (some true) else ((laws_toGroup.f k a0_0 l0_1 a0_2 a0_3 l0_4).bind fun bt530 => ((laws_toGroup.f k a1_0 l1_1 a1_2 a1_3 l1_4).bind fun bt539 => ((spec_SameGroup.f k bt530.1 bt530.2.1 bt530.2.2.1 bt530.2.2.2.1 bt530.2.2.2.2 bt539.1 bt539.2.1 bt539.2.2.1 bt539.2.2.2.1 bt539.2.2.2.2).bind fun t548 => ((laws_toGroup.f k a0_0 l0_1 a0_2 a0_3 l0_4).bind fun bt549 => ((laws_toGroup.f k a1_0 l1_1 a1_2 a1_3 l1_4).bind fun bt559 => ((impl_SameGroup.f k bt549.1 bt549.2.1 bt549.2.2.1 bt549.2.2.2.1 bt549.2.2.2.2 bt559.1 bt559.2.1 bt559.2.2.1 bt559.2.2.2.1 bt559.2.2.2.2).bind fun t569 => (if (t569 != t548) = true then (none) else ((laws_toGroup.f k a0_0 l0_1 a0_2 a0_3 l0_4).bind fun bt570 => ((laws_eqGroup.f k bt549.1 bt549.2.1 bt549.2.2.1 bt549.2.2.2.1 bt549.2.2.2.2 bt570.1 bt570.2.1 bt570.2.2.1 bt570.2.2.2.1 bt570.2.2.2.2).bind fun t579 => (if t579 = true then ((laws_toGroup.f k a1_0 l1_1 a1_2 a1_3 l1_4).bind fun bt580 => ((laws_eqGroup.f k bt559.1 bt559.2.1 bt559.2.2.1 bt559.2.2.2.1 bt559.2.2.2.2 bt580.1 bt580.2.1 bt580.2.2.1 bt580.2.2.2.1 bt580.2.2.2.2).bind fun t589 => (if t589 = true then (some true) else (none)))) else (none))))))))))))))) = some r := h
 clear h
 replace H := Option.bind_eq_some_iff.mp H
 obtain ⟨t528, A30, H⟩ := H
 replace H : (if t528 < 0 then (some true) else ((laws_szGroup.f k a1_0 l1_1 a1_2 a1_3 l1_4 t528).bind fun t529 => (if t529 < 0 then (some true) else ((laws_toGroup.f k a0_0 l0_1 a0_2 a0_3 l0_4).bind fun bt530 => ((laws_toGroup.f k a1_0 l1_1 a1_2 a1_3 l1_4).bind fun bt539 => ((spec_SameGroup.f k bt530.1 bt530.2.1 bt530.2.2.1 bt530.2.2.2.1 bt530.2.2.2.2 bt539.1 bt539.2.1 bt539.2.2.1 bt539.2.2.2.1 bt539.2.2.2.2).bind fun t548 => ((laws_toGroup.f k a0_0 l0_1 a0_2 a0_3 l0_4).bind fun bt549 => ((laws_toGroup.f k a1_0 l1_1 a1_2 a1_3 l1_4).bind fun bt559 => ((impl_SameGroup.f k bt549.1 bt549.2.1 bt549.2.2.1 bt549.2.2.2.1 bt549.2.2.2.2 bt559.1 bt559.2.1 bt559.2.2.1 bt559.2.2.2.1 bt559.2.2.2.2).bind fun t569 => (if (t569 != t548) = true then (none) else ((laws_toGroup.f k a0_0 l0_1 a0_2 a0_3 l0_4).bind fun bt570 => ((laws_eqGroup.f k bt549.1 bt549.2.1 bt549.2.2.1 bt549.2.2.2.1 bt549.2.2.2.2 bt570.1 bt570.2.1 bt570.2.2.1 bt570.2.2.2.1 bt570.2.2.2.2).bind fun t579 => (if t579 = true then ((laws_toGroup.f k a1_0 l1_1 a1_2 a1_3 l1_4).bind fun bt580 => ((laws_eqGroup.f k bt559.1 bt559.2.1 bt559.2.2.1 bt559.2.2.2.1 bt559.2.2.2.2 bt580.1 bt580.2.1 bt580.2.2.1 bt580.2.2.2.1 bt580.2.2.2.2).bind fun t589 => (if t589 = true then (some true) else (none)))) else (none)))))))))))))) = some r := H
 have A3 := Aside0.mk A30
 clear A30
 by_cases c4 : t528 < 0
 ·
  rw [if_pos c4] at H
  have c4b0 : decide (t528 < 0) = true := decide_eq_true c4
  clear c4
  obtain rfl := Option.some.inj H
  go_enter Try.func8, Try.ntmps8
  go_wp2_with (first | ((with_reducible refine gate_dst (N := 2) rfl ?_); refine box_event ?hg (N := 2) ?hd (cs := #[.int .i64 a0_0, .slice A0_1 l0_1.length c0_1, .int .i64 a0_2, .int .i64 a0_3, .slice A0_4 l0_4.length c0_4]) (t := 64) ?hr ?_; (case hd => rfl); (case hg => rfl); (case hr => first | (go_simp; done) | (go_simp; rfl)); intro gb526 hg w5 hbox hb; have n0_ := Aside0.mk (below_step (by repeat (first | (with_reducible first | exact HB.out | apply below_alloc | apply pw_below_drewN | apply below_drew1) | exact HB.out)) hb); have n1_ := Aside0.mk (hbox); have n2_ := Aside0.mk ((by rw [hg]; exact (below_size (by repeat (first | (with_reducible first | exact HB.out | apply below_alloc | apply pw_below_drewN | apply below_drew1) | exact HB.out))) : w.heap.size ≤ gb526)); have n3_ := Aside0.mk ((by rw [hg]; exact (below_size (by repeat (first | (with_reducible first | exact HB.out | apply below_alloc | apply pw_below_drewN | apply below_drew1) | exact HB.out))) : w.heap.size ≤ gb526)); clear HB; have HB := n0_; have BK526 := n1_; have GW526 := n2_; have GE526 := n3_; clear n0_ n1_ n2_ n3_; clear hb hbox hg) | ((with_reducible refine gate_dst (N := 3) rfl ?_); refine box_event ?hg (N := 3) ?hd (cs := #[.int .i64 a1_0, .slice A1_1 l1_1.length c1_1, .int .i64 a1_2, .int .i64 a1_3, .slice A1_4 l1_4.length c1_4]) (t := 64) ?hr ?_; (case hd => rfl); (case hg => rfl); (case hr => first | (go_simp; done) | (go_simp; rfl)); intro gb527 hg w6 hbox hb; have n0_ := Aside0.mk (blk_below (g := gb526) (o := .cells #[.int .i64 a0_0, .slice A0_1 l0_1.length c0_1, .int .i64 a0_2, .int .i64 a0_3, .slice A0_4 l0_4.length c0_4] 64 (0, 0)) (by (with_reducible repeat (first | refine blk_drewN ?_ _ | refine blk_drew ?_ | refine blk_alloc ?_ _)); exact BK526.out) hb); have n1_ := Aside0.mk (below_step (by repeat (first | (with_reducible first | exact HB.out | apply below_alloc | apply pw_below_drewN | apply below_drew1 | refine below_set ?_ GE526.out) | exact HB.out)) hb); have n2_ := Aside0.mk (hbox); have n3_ := Aside0.mk ((by rw [hg]; exact (below_size (by repeat (first | (with_reducible first | exact HB.out | apply below_alloc | apply pw_below_drewN | apply below_drew1 | refine below_set ?_ GE526.out) | exact HB.out))) : w.heap.size ≤ gb527)); have n4_ := Aside0.mk ((by rw [hg]; exact (below_size (by repeat (first | (with_reducible first | exact HB.out | apply below_alloc | apply pw_below_drewN | apply below_drew1 | refine below_set ?_ GE526.out) | exact HB.out))) : w.heap.size ≤ gb527)); have n5_ := Aside0.mk ((by rw [hg]; exact Nat.ne_of_lt (blk_lt (g := gb526) (o := .cells #[.int .i64 a0_0, .slice A0_1 l0_1.length c0_1, .int .i64 a0_2, .int .i64 a0_3, .slice A0_4 l0_4.length c0_4] 64 (0, 0)) (by (with_reducible repeat (first | refine blk_drewN ?_ _ | refine blk_drew ?_ | refine blk_alloc ?_ _)); exact BK526.out)) : gb526 ≠ gb527)); have n6_ := Aside0.mk ((by rw [hg]; exact Nat.ne_of_gt (blk_lt (g := gb526) (o := .cells #[.int .i64 a0_0, .slice A0_1 l0_1.length c0_1, .int .i64 a0_2, .int .i64 a0_3, .slice A0_4 l0_4.length c0_4] 64 (0, 0)) (by (with_reducible repeat (first | refine blk_drewN ?_ _ | refine blk_drew ?_ | refine blk_alloc ?_ _)); exact BK526.out)) : gb527 ≠ gb526)); clear BK526; clear HB; have BK526 := n0_; have HB := n1_; have BK527 := n2_; have GW527 := n3_; have GE527 := n4_; have NB526_527 := n5_; have NB527_526 := n6_; clear n0_ n1_ n2_ n3_ n4_ n5_ n6_; clear hb hbox hg; have hnb7 := NB526_527.out; have hnc7 := NB527_526.out; have hcz8_0 : w6.cell? ⟨gb526, 0, none⟩ = some (.int .i64 a0_0) := (blk_cell BK526.out 0).trans rfl; have hcz8_1 : w6.cell? ⟨gb526, 1, none⟩ = some (.slice A0_1 l0_1.length c0_1) := (blk_cell BK526.out 1).trans rfl; have hcz8_2 : w6.cell? ⟨gb526, 2, none⟩ = some (.int .i64 a0_2) := (blk_cell BK526.out 2).trans rfl; have hcz8_3 : w6.cell? ⟨gb526, 3, none⟩ = some (.int .i64 a0_3) := (blk_cell BK526.out 3).trans rfl; have hcz8_4 : w6.cell? ⟨gb526, 4, none⟩ = some (.slice A0_4 l0_4.length c0_4) := (blk_cell BK526.out 4).trans rfl; have hfz8_0 := blk_frozen BK526.out 0; have hfz8_1 := blk_frozen BK526.out 1; have hfz8_2 := blk_frozen BK526.out 2; have hfz8_3 := blk_frozen BK526.out 3; have hfz8_4 := blk_frozen BK526.out 4) | ((with_reducible refine gate_callee (f := 37) rfl ?_); refine goesL_ (some 12) rfl rfl Try.func37 (by kernel_rfl) rfl #[.agg #[.int .i64 a0_0, .slice A0_1 l0_1.length c0_1, .int .i64 a0_2, .int .i64 a0_3, .slice A0_4 l0_4.length c0_4], .int .i64 1048576] rfl (by (try simp only [List.map_toArray, List.map_cons, List.map_nil]); first | done | rfl | (simp only [List.length_drop, List.length_take]; rfl)) ?_; (with_reducible refine (laws_szGroup.calls k a0_0 _ _ l0_1 a0_2 a0_3 _ _ l0_4 1048576 t528 _ ?side1 ?side2 ?side3 ?side4 A3.out).mono ?_); (case side1 => repeat (first | exact (Kd.C_below HR0_1.out HB.out) | (with_reducible refine Kd.C_alloc ?_ _) | (with_reducible refine Kd.C_drewN ?_ _) | (with_reducible refine Kd.C_drew ?_))); (case side2 => exact HC0_1.out); (case side3 => repeat (first | exact (Kd.C_below HR0_4.out HB.out) | (with_reducible refine Kd.C_alloc ?_ _) | (with_reducible refine Kd.C_drewN ?_ _) | (with_reducible refine Kd.C_drew ?_))); (case side4 => exact HC0_4.out); rintro e w9 ⟨rfl, hb⟩; refine ⟨_, rfl, ?_⟩; have n0_ := Aside0.mk (blk_below (g := gb526) (o := .cells #[.int .i64 a0_0, .slice A0_1 l0_1.length c0_1, .int .i64 a0_2, .int .i64 a0_3, .slice A0_4 l0_4.length c0_4] 64 (0, 0)) (by (with_reducible repeat (first | refine blk_drewN ?_ _ | refine blk_drew ?_ | refine blk_alloc ?_ _)); exact BK526.out) hb); have n1_ := Aside0.mk (blk_below (g := gb527) (o := .cells #[.int .i64 a1_0, .slice A1_1 l1_1.length c1_1, .int .i64 a1_2, .int .i64 a1_3, .slice A1_4 l1_4.length c1_4] 64 (0, 0)) (by (with_reducible repeat (first | refine blk_drewN ?_ _ | refine blk_drew ?_ | refine blk_alloc ?_ _)); exact BK527.out) hb); have n2_ := Aside0.mk (below_step (by repeat (first | (with_reducible first | exact HB.out | apply below_alloc | apply pw_below_drewN | apply below_drew1 | refine below_set ?_ GE526.out | refine below_set ?_ GE527.out) | exact HB.out)) hb); clear BK526; clear BK527; clear HB; have BK526 := n0_; have BK527 := n1_; have HB := n2_; clear n0_ n1_ n2_; (try clear hb); (try clear hb2); (try clear hk); (try clear hi)))
  go_ret
  exact ⟨by first | rfl | (simp [errW_none, errW_some] <;> rfl) | (simp [*, errW_none, errW_some] <;> rfl), by repeat (first | (with_reducible first | exact HB.out | apply below_alloc | apply pw_below_drewN | apply below_drew1 | refine below_set ?_ GE526.out | refine below_set ?_ GE527.out) | exact HB.out)⟩
 ·
  rw [if_neg c4] at H
  have c4b0 : decide (t528 < 0) = false := decide_eq_false c4
  clear c4
  replace H := Option.bind_eq_some_iff.mp H
  obtain ⟨t529, A100, H⟩ := H
  replace H : (if t529 < 0 then (some true) else ((laws_toGroup.f k a0_0 l0_1 a0_2 a0_3 l0_4).bind fun bt530 => ((laws_toGroup.f k a1_0 l1_1 a1_2 a1_3 l1_4).bind fun bt539 => ((spec_SameGroup.f k bt530.1 bt530.2.1 bt530.2.2.1 bt530.2.2.2.1 bt530.2.2.2.2 bt539.1 bt539.2.1 bt539.2.2.1 bt539.2.2.2.1 bt539.2.2.2.2).bind fun t548 => ((laws_toGroup.f k a0_0 l0_1 a0_2 a0_3 l0_4).bind fun bt549 => ((laws_toGroup.f k a1_0 l1_1 a1_2 a1_3 l1_4).bind fun bt559 => ((impl_SameGroup.f k bt549.1 bt549.2.1 bt549.2.2.1 bt549.2.2.2.1 bt549.2.2.2.2 bt559.1 bt559.2.1 bt559.2.2.1 bt559.2.2.2.1 bt559.2.2.2.2).bind fun t569 => (if (t569 != t548) = true then (none) else ((laws_toGroup.f k a0_0 l0_1 a0_2 a0_3 l0_4).bind fun bt570 => ((laws_eqGroup.f k bt549.1 bt549.2.1 bt549.2.2.1 bt549.2.2.2.1 bt549.2.2.2.2 bt570.1 bt570.2.1 bt570.2.2.1 bt570.2.2.2.1 bt570.2.2.2.2).bind fun t579 => (if t579 = true then ((laws_toGroup.f k a1_0 l1_1 a1_2 a1_3 l1_4).bind fun bt580 => ((laws_eqGroup.f k bt559.1 bt559.2.1 bt559.2.2.1 bt559.2.2.2.1 bt559.2.2.2.2 bt580.1 bt580.2.1 bt580.2.2.1 bt580.2.2.2.1 bt580.2.2.2.2).bind fun t589 => (if t589 = true then (some true) else (none)))) else (none)))))))))))) = some r := H
  have A10 := Aside0.mk A100
  clear A100
  by_cases c11 : t529 < 0
  ·
   rw [if_pos c11] at H
   have c11b0 : decide (t529 < 0) = true := decide_eq_true c11
   clear c11
   obtain rfl := Option.some.inj H
   go_enter Try.func8, Try.ntmps8
   go_wp2_with (first | ((with_reducible refine gate_dst (N := 2) rfl ?_); refine box_event ?hg (N := 2) ?hd (cs := #[.int .i64 a0_0, .slice A0_1 l0_1.length c0_1, .int .i64 a0_2, .int .i64 a0_3, .slice A0_4 l0_4.length c0_4]) (t := 64) ?hr ?_; (case hd => rfl); (case hg => rfl); (case hr => first | (go_simp; done) | (go_simp; rfl)); intro gb526 hg w12 hbox hb; have n0_ := Aside0.mk (below_step (by repeat (first | (with_reducible first | exact HB.out | apply below_alloc | apply pw_below_drewN | apply below_drew1) | exact HB.out)) hb); have n1_ := Aside0.mk (hbox); have n2_ := Aside0.mk ((by rw [hg]; exact (below_size (by repeat (first | (with_reducible first | exact HB.out | apply below_alloc | apply pw_below_drewN | apply below_drew1) | exact HB.out))) : w.heap.size ≤ gb526)); have n3_ := Aside0.mk ((by rw [hg]; exact (below_size (by repeat (first | (with_reducible first | exact HB.out | apply below_alloc | apply pw_below_drewN | apply below_drew1) | exact HB.out))) : w.heap.size ≤ gb526)); clear HB; have HB := n0_; have BK526 := n1_; have GW526 := n2_; have GE526 := n3_; clear n0_ n1_ n2_ n3_; clear hb hbox hg) | ((with_reducible refine gate_dst (N := 3) rfl ?_); refine box_event ?hg (N := 3) ?hd (cs := #[.int .i64 a1_0, .slice A1_1 l1_1.length c1_1, .int .i64 a1_2, .int .i64 a1_3, .slice A1_4 l1_4.length c1_4]) (t := 64) ?hr ?_; (case hd => rfl); (case hg => rfl); (case hr => first | (go_simp; done) | (go_simp; rfl)); intro gb527 hg w13 hbox hb; have n0_ := Aside0.mk (blk_below (g := gb526) (o := .cells #[.int .i64 a0_0, .slice A0_1 l0_1.length c0_1, .int .i64 a0_2, .int .i64 a0_3, .slice A0_4 l0_4.length c0_4] 64 (0, 0)) (by (with_reducible repeat (first | refine blk_drewN ?_ _ | refine blk_drew ?_ | refine blk_alloc ?_ _)); exact BK526.out) hb); have n1_ := Aside0.mk (below_step (by repeat (first | (with_reducible first | exact HB.out | apply below_alloc | apply pw_below_drewN | apply below_drew1 | refine below_set ?_ GE526.out) | exact HB.out)) hb); have n2_ := Aside0.mk (hbox); have n3_ := Aside0.mk ((by rw [hg]; exact (below_size (by repeat (first | (with_reducible first | exact HB.out | apply below_alloc | apply pw_below_drewN | apply below_drew1 | refine below_set ?_ GE526.out) | exact HB.out))) : w.heap.size ≤ gb527)); have n4_ := Aside0.mk ((by rw [hg]; exact (below_size (by repeat (first | (with_reducible first | exact HB.out | apply below_alloc | apply pw_below_drewN | apply below_drew1 | refine below_set ?_ GE526.out) | exact HB.out))) : w.heap.size ≤ gb527)); have n5_ := Aside0.mk ((by rw [hg]; exact Nat.ne_of_lt (blk_lt (g := gb526) (o := .cells #[.int .i64 a0_0, .slice A0_1 l0_1.length c0_1, .int .i64 a0_2, .int .i64 a0_3, .slice A0_4 l0_4.length c0_4] 64 (0, 0)) (by (with_reducible repeat (first | refine blk_drewN ?_ _ | refine blk_drew ?_ | refine blk_alloc ?_ _)); exact BK526.out)) : gb526 ≠ gb527)); have n6_ := Aside0.mk ((by rw [hg]; exact Nat.ne_of_gt (blk_lt (g := gb526) (o := .cells #[.int .i64 a0_0, .slice A0_1 l0_1.length c0_1, .int .i64 a0_2, .int .i64 a0_3, .slice A0_4 l0_4.length c0_4] 64 (0, 0)) (by (with_reducible repeat (first | refine blk_drewN ?_ _ | refine blk_drew ?_ | refine blk_alloc ?_ _)); exact BK526.out)) : gb527 ≠ gb526)); clear BK526; clear HB; have BK526 := n0_; have HB := n1_; have BK527 := n2_; have GW527 := n3_; have GE527 := n4_; have NB526_527 := n5_; have NB527_526 := n6_; clear n0_ n1_ n2_ n3_ n4_ n5_ n6_; clear hb hbox hg; have hnb14 := NB526_527.out; have hnc14 := NB527_526.out; have hcz15_0 : w13.cell? ⟨gb526, 0, none⟩ = some (.int .i64 a0_0) := (blk_cell BK526.out 0).trans rfl; have hcz15_1 : w13.cell? ⟨gb526, 1, none⟩ = some (.slice A0_1 l0_1.length c0_1) := (blk_cell BK526.out 1).trans rfl; have hcz15_2 : w13.cell? ⟨gb526, 2, none⟩ = some (.int .i64 a0_2) := (blk_cell BK526.out 2).trans rfl; have hcz15_3 : w13.cell? ⟨gb526, 3, none⟩ = some (.int .i64 a0_3) := (blk_cell BK526.out 3).trans rfl; have hcz15_4 : w13.cell? ⟨gb526, 4, none⟩ = some (.slice A0_4 l0_4.length c0_4) := (blk_cell BK526.out 4).trans rfl; have hfz15_0 := blk_frozen BK526.out 0; have hfz15_1 := blk_frozen BK526.out 1; have hfz15_2 := blk_frozen BK526.out 2; have hfz15_3 := blk_frozen BK526.out 3; have hfz15_4 := blk_frozen BK526.out 4) | ((with_reducible refine gate_callee (f := 37) rfl ?_); refine goesL_ (some 12) rfl rfl Try.func37 (by kernel_rfl) rfl #[.agg #[.int .i64 a0_0, .slice A0_1 l0_1.length c0_1, .int .i64 a0_2, .int .i64 a0_3, .slice A0_4 l0_4.length c0_4], .int .i64 1048576] rfl (by (try simp only [List.map_toArray, List.map_cons, List.map_nil]); first | done | rfl | (simp only [List.length_drop, List.length_take]; rfl)) ?_; (with_reducible refine (laws_szGroup.calls k a0_0 _ _ l0_1 a0_2 a0_3 _ _ l0_4 1048576 t528 _ ?side1 ?side2 ?side3 ?side4 A3.out).mono ?_); (case side1 => repeat (first | exact (Kd.C_below HR0_1.out HB.out) | (with_reducible refine Kd.C_alloc ?_ _) | (with_reducible refine Kd.C_drewN ?_ _) | (with_reducible refine Kd.C_drew ?_))); (case side2 => exact HC0_1.out); (case side3 => repeat (first | exact (Kd.C_below HR0_4.out HB.out) | (with_reducible refine Kd.C_alloc ?_ _) | (with_reducible refine Kd.C_drewN ?_ _) | (with_reducible refine Kd.C_drew ?_))); (case side4 => exact HC0_4.out); rintro e w16 ⟨rfl, hb⟩; refine ⟨_, rfl, ?_⟩; have n0_ := Aside0.mk (blk_below (g := gb526) (o := .cells #[.int .i64 a0_0, .slice A0_1 l0_1.length c0_1, .int .i64 a0_2, .int .i64 a0_3, .slice A0_4 l0_4.length c0_4] 64 (0, 0)) (by (with_reducible repeat (first | refine blk_drewN ?_ _ | refine blk_drew ?_ | refine blk_alloc ?_ _)); exact BK526.out) hb); have n1_ := Aside0.mk (blk_below (g := gb527) (o := .cells #[.int .i64 a1_0, .slice A1_1 l1_1.length c1_1, .int .i64 a1_2, .int .i64 a1_3, .slice A1_4 l1_4.length c1_4] 64 (0, 0)) (by (with_reducible repeat (first | refine blk_drewN ?_ _ | refine blk_drew ?_ | refine blk_alloc ?_ _)); exact BK527.out) hb); have n2_ := Aside0.mk (below_step (by repeat (first | (with_reducible first | exact HB.out | apply below_alloc | apply pw_below_drewN | apply below_drew1 | refine below_set ?_ GE526.out | refine below_set ?_ GE527.out) | exact HB.out)) hb); clear BK526; clear BK527; clear HB; have BK526 := n0_; have BK527 := n1_; have HB := n2_; clear n0_ n1_ n2_; (try clear hb); (try clear hb2); (try clear hk); (try clear hi); have hcz17_0 : w16.cell? ⟨gb527, 0, none⟩ = some (.int .i64 a1_0) := (blk_cell BK527.out 0).trans rfl; have hcz17_1 : w16.cell? ⟨gb527, 1, none⟩ = some (.slice A1_1 l1_1.length c1_1) := (blk_cell BK527.out 1).trans rfl; have hcz17_2 : w16.cell? ⟨gb527, 2, none⟩ = some (.int .i64 a1_2) := (blk_cell BK527.out 2).trans rfl; have hcz17_3 : w16.cell? ⟨gb527, 3, none⟩ = some (.int .i64 a1_3) := (blk_cell BK527.out 3).trans rfl; have hcz17_4 : w16.cell? ⟨gb527, 4, none⟩ = some (.slice A1_4 l1_4.length c1_4) := (blk_cell BK527.out 4).trans rfl; have hfz17_0 := blk_frozen BK527.out 0; have hfz17_1 := blk_frozen BK527.out 1; have hfz17_2 := blk_frozen BK527.out 2; have hfz17_3 := blk_frozen BK527.out 3; have hfz17_4 := blk_frozen BK527.out 4) | ((with_reducible refine gate_callee (f := 37) rfl ?_); refine goesL_ (some 17) rfl rfl Try.func37 (by kernel_rfl) rfl #[.agg #[.int .i64 a1_0, .slice A1_1 l1_1.length c1_1, .int .i64 a1_2, .int .i64 a1_3, .slice A1_4 l1_4.length c1_4], .int .i64 t528] rfl (by (try simp only [List.map_toArray, List.map_cons, List.map_nil]); first | done | rfl | (simp only [List.length_drop, List.length_take]; rfl)) ?_; (with_reducible refine (laws_szGroup.calls k a1_0 _ _ l1_1 a1_2 a1_3 _ _ l1_4 t528 t529 _ ?side1 ?side2 ?side3 ?side4 A10.out).mono ?_); (case side1 => repeat (first | exact (Kd.C_below HR1_1.out HB.out) | (with_reducible refine Kd.C_alloc ?_ _) | (with_reducible refine Kd.C_drewN ?_ _) | (with_reducible refine Kd.C_drew ?_))); (case side2 => exact HC1_1.out); (case side3 => repeat (first | exact (Kd.C_below HR1_4.out HB.out) | (with_reducible refine Kd.C_alloc ?_ _) | (with_reducible refine Kd.C_drewN ?_ _) | (with_reducible refine Kd.C_drew ?_))); (case side4 => exact HC1_4.out); rintro e w18 ⟨rfl, hb⟩; refine ⟨_, rfl, ?_⟩; have n0_ := Aside0.mk (blk_below (g := gb526) (o := .cells #[.int .i64 a0_0, .slice A0_1 l0_1.length c0_1, .int .i64 a0_2, .int .i64 a0_3, .slice A0_4 l0_4.length c0_4] 64 (0, 0)) (by (with_reducible repeat (first | refine blk_drewN ?_ _ | refine blk_drew ?_ | refine blk_alloc ?_ _)); exact BK526.out) hb); have n1_ := Aside0.mk (blk_below (g := gb527) (o := .cells #[.int .i64 a1_0, .slice A1_1 l1_1.length c1_1, .int .i64 a1_2, .int .i64 a1_3, .slice A1_4 l1_4.length c1_4] 64 (0, 0)) (by (with_reducible repeat (first | refine blk_drewN ?_ _ | refine blk_drew ?_ | refine blk_alloc ?_ _)); exact BK527.out) hb); have n2_ := Aside0.mk (below_step (by repeat (first | (with_reducible first | exact HB.out | apply below_alloc | apply pw_below_drewN | apply below_drew1 | refine below_set ?_ GE526.out | refine below_set ?_ GE527.out) | exact HB.out)) hb); clear BK526; clear BK527; clear HB; have BK526 := n0_; have BK527 := n1_; have HB := n2_; clear n0_ n1_ n2_; (try clear hb); (try clear hb2); (try clear hk); (try clear hi)))
   go_ret
   exact ⟨by first | rfl | (simp [errW_none, errW_some] <;> rfl) | (simp [*, errW_none, errW_some] <;> rfl), by repeat (first | (with_reducible first | exact HB.out | apply below_alloc | apply pw_below_drewN | apply below_drew1 | refine below_set ?_ GE526.out | refine below_set ?_ GE527.out) | exact HB.out)⟩
  ·
   rw [if_neg c11] at H
   have c11b0 : decide (t529 < 0) = false := decide_eq_false c11
   clear c11
   replace H := Option.bind_eq_some_iff.mp H
   obtain ⟨⟨t530, t531, t534, t535, t536⟩, A190, H⟩ := H
   replace H : ((laws_toGroup.f k a1_0 l1_1 a1_2 a1_3 l1_4).bind fun bt539 => ((spec_SameGroup.f k t530 t531 t534 t535 t536 bt539.1 bt539.2.1 bt539.2.2.1 bt539.2.2.2.1 bt539.2.2.2.2).bind fun t548 => ((laws_toGroup.f k a0_0 l0_1 a0_2 a0_3 l0_4).bind fun bt549 => ((laws_toGroup.f k a1_0 l1_1 a1_2 a1_3 l1_4).bind fun bt559 => ((impl_SameGroup.f k bt549.1 bt549.2.1 bt549.2.2.1 bt549.2.2.2.1 bt549.2.2.2.2 bt559.1 bt559.2.1 bt559.2.2.1 bt559.2.2.2.1 bt559.2.2.2.2).bind fun t569 => (if (t569 != t548) = true then (none) else ((laws_toGroup.f k a0_0 l0_1 a0_2 a0_3 l0_4).bind fun bt570 => ((laws_eqGroup.f k bt549.1 bt549.2.1 bt549.2.2.1 bt549.2.2.2.1 bt549.2.2.2.2 bt570.1 bt570.2.1 bt570.2.2.1 bt570.2.2.2.1 bt570.2.2.2.2).bind fun t579 => (if t579 = true then ((laws_toGroup.f k a1_0 l1_1 a1_2 a1_3 l1_4).bind fun bt580 => ((laws_eqGroup.f k bt559.1 bt559.2.1 bt559.2.2.1 bt559.2.2.2.1 bt559.2.2.2.2 bt580.1 bt580.2.1 bt580.2.2.1 bt580.2.2.2.1 bt580.2.2.2.2).bind fun t589 => (if t589 = true then (some true) else (none)))) else (none)))))))))) = some r := H
   have A19 := Aside0.mk A190
   clear A190
   replace H := Option.bind_eq_some_iff.mp H
   obtain ⟨⟨t539, t540, t543, t544, t545⟩, A200, H⟩ := H
   replace H : ((spec_SameGroup.f k t530 t531 t534 t535 t536 t539 t540 t543 t544 t545).bind fun t548 => ((laws_toGroup.f k a0_0 l0_1 a0_2 a0_3 l0_4).bind fun bt549 => ((laws_toGroup.f k a1_0 l1_1 a1_2 a1_3 l1_4).bind fun bt559 => ((impl_SameGroup.f k bt549.1 bt549.2.1 bt549.2.2.1 bt549.2.2.2.1 bt549.2.2.2.2 bt559.1 bt559.2.1 bt559.2.2.1 bt559.2.2.2.1 bt559.2.2.2.2).bind fun t569 => (if (t569 != t548) = true then (none) else ((laws_toGroup.f k a0_0 l0_1 a0_2 a0_3 l0_4).bind fun bt570 => ((laws_eqGroup.f k bt549.1 bt549.2.1 bt549.2.2.1 bt549.2.2.2.1 bt549.2.2.2.2 bt570.1 bt570.2.1 bt570.2.2.1 bt570.2.2.2.1 bt570.2.2.2.2).bind fun t579 => (if t579 = true then ((laws_toGroup.f k a1_0 l1_1 a1_2 a1_3 l1_4).bind fun bt580 => ((laws_eqGroup.f k bt559.1 bt559.2.1 bt559.2.2.1 bt559.2.2.2.1 bt559.2.2.2.2 bt580.1 bt580.2.1 bt580.2.2.1 bt580.2.2.2.1 bt580.2.2.2.2).bind fun t589 => (if t589 = true then (some true) else (none)))) else (none))))))))) = some r := H
   have A20 := Aside0.mk A200
   clear A200
   replace H := Option.bind_eq_some_iff.mp H
   obtain ⟨t548, A210, H⟩ := H
   replace H : ((laws_toGroup.f k a0_0 l0_1 a0_2 a0_3 l0_4).bind fun bt549 => ((laws_toGroup.f k a1_0 l1_1 a1_2 a1_3 l1_4).bind fun bt559 => ((impl_SameGroup.f k bt549.1 bt549.2.1 bt549.2.2.1 bt549.2.2.2.1 bt549.2.2.2.2 bt559.1 bt559.2.1 bt559.2.2.1 bt559.2.2.2.1 bt559.2.2.2.2).bind fun t569 => (if (t569 != t548) = true then (none) else ((laws_toGroup.f k a0_0 l0_1 a0_2 a0_3 l0_4).bind fun bt570 => ((laws_eqGroup.f k bt549.1 bt549.2.1 bt549.2.2.1 bt549.2.2.2.1 bt549.2.2.2.2 bt570.1 bt570.2.1 bt570.2.2.1 bt570.2.2.2.1 bt570.2.2.2.2).bind fun t579 => (if t579 = true then ((laws_toGroup.f k a1_0 l1_1 a1_2 a1_3 l1_4).bind fun bt580 => ((laws_eqGroup.f k bt559.1 bt559.2.1 bt559.2.2.1 bt559.2.2.2.1 bt559.2.2.2.2 bt580.1 bt580.2.1 bt580.2.2.1 bt580.2.2.2.1 bt580.2.2.2.2).bind fun t589 => (if t589 = true then (some true) else (none)))) else (none)))))))) = some r := H
   have A21 := Aside0.mk A210
   clear A210
   replace H := Option.bind_eq_some_iff.mp H
   obtain ⟨⟨t549, t550, t553, t554, t555⟩, A220, H⟩ := H
   replace H : ((laws_toGroup.f k a1_0 l1_1 a1_2 a1_3 l1_4).bind fun bt559 => ((impl_SameGroup.f k t549 t550 t553 t554 t555 bt559.1 bt559.2.1 bt559.2.2.1 bt559.2.2.2.1 bt559.2.2.2.2).bind fun t569 => (if (t569 != t548) = true then (none) else ((laws_toGroup.f k a0_0 l0_1 a0_2 a0_3 l0_4).bind fun bt570 => ((laws_eqGroup.f k t549 t550 t553 t554 t555 bt570.1 bt570.2.1 bt570.2.2.1 bt570.2.2.2.1 bt570.2.2.2.2).bind fun t579 => (if t579 = true then ((laws_toGroup.f k a1_0 l1_1 a1_2 a1_3 l1_4).bind fun bt580 => ((laws_eqGroup.f k bt559.1 bt559.2.1 bt559.2.2.1 bt559.2.2.2.1 bt559.2.2.2.2 bt580.1 bt580.2.1 bt580.2.2.1 bt580.2.2.2.1 bt580.2.2.2.2).bind fun t589 => (if t589 = true then (some true) else (none)))) else (none))))))) = some r := H
   have A22 := Aside0.mk A220
   clear A220
   replace H := Option.bind_eq_some_iff.mp H
   obtain ⟨⟨t559, t560, t563, t564, t565⟩, A230, H⟩ := H
   replace H : ((impl_SameGroup.f k t549 t550 t553 t554 t555 t559 t560 t563 t564 t565).bind fun t569 => (if (t569 != t548) = true then (none) else ((laws_toGroup.f k a0_0 l0_1 a0_2 a0_3 l0_4).bind fun bt570 => ((laws_eqGroup.f k t549 t550 t553 t554 t555 bt570.1 bt570.2.1 bt570.2.2.1 bt570.2.2.2.1 bt570.2.2.2.2).bind fun t579 => (if t579 = true then ((laws_toGroup.f k a1_0 l1_1 a1_2 a1_3 l1_4).bind fun bt580 => ((laws_eqGroup.f k t559 t560 t563 t564 t565 bt580.1 bt580.2.1 bt580.2.2.1 bt580.2.2.2.1 bt580.2.2.2.2).bind fun t589 => (if t589 = true then (some true) else (none)))) else (none)))))) = some r := H
   have A23 := Aside0.mk A230
   clear A230
   replace H := Option.bind_eq_some_iff.mp H
   obtain ⟨t569, A240, H⟩ := H
   replace H : (if (t569 != t548) = true then (none) else ((laws_toGroup.f k a0_0 l0_1 a0_2 a0_3 l0_4).bind fun bt570 => ((laws_eqGroup.f k t549 t550 t553 t554 t555 bt570.1 bt570.2.1 bt570.2.2.1 bt570.2.2.2.1 bt570.2.2.2.2).bind fun t579 => (if t579 = true then ((laws_toGroup.f k a1_0 l1_1 a1_2 a1_3 l1_4).bind fun bt580 => ((laws_eqGroup.f k t559 t560 t563 t564 t565 bt580.1 bt580.2.1 bt580.2.2.1 bt580.2.2.2.1 bt580.2.2.2.2).bind fun t589 => (if t589 = true then (some true) else (none)))) else (none))))) = some r := H
   have A24 := Aside0.mk A240
   clear A240
   by_cases c25 : (t569 != t548) = true
   ·
    rw [if_pos c25] at H
    exact absurd H (by simp)
   ·
    rw [if_neg c25] at H
    have c25b0 : (t569 != t548) = false := by simpa using c25
    (try (have c25b1 : decide (t569 = t548) = true := by simpa using c25))
    (try (have c25b2 : (t569 == t548) = true := by simpa using c25))
    clear c25
    replace H := Option.bind_eq_some_iff.mp H
    obtain ⟨⟨t570, t571, t574, t575, t576⟩, A260, H⟩ := H
    replace H : ((laws_eqGroup.f k t549 t550 t553 t554 t555 t570 t571 t574 t575 t576).bind fun t579 => (if t579 = true then ((laws_toGroup.f k a1_0 l1_1 a1_2 a1_3 l1_4).bind fun bt580 => ((laws_eqGroup.f k t559 t560 t563 t564 t565 bt580.1 bt580.2.1 bt580.2.2.1 bt580.2.2.2.1 bt580.2.2.2.2).bind fun t589 => (if t589 = true then (some true) else (none)))) else (none))) = some r := H
    have A26 := Aside0.mk A260
    clear A260
    replace H := Option.bind_eq_some_iff.mp H
    obtain ⟨t579, A270, H⟩ := H
    replace H : (if t579 = true then ((laws_toGroup.f k a1_0 l1_1 a1_2 a1_3 l1_4).bind fun bt580 => ((laws_eqGroup.f k t559 t560 t563 t564 t565 bt580.1 bt580.2.1 bt580.2.2.1 bt580.2.2.2.1 bt580.2.2.2.2).bind fun t589 => (if t589 = true then (some true) else (none)))) else (none)) = some r := H
    have A27 := Aside0.mk A270
    clear A270
    by_cases c28 : t579 = true
    ·
     subst c28
     have H1 : ((laws_toGroup.f k a1_0 l1_1 a1_2 a1_3 l1_4).bind fun bt580 => ((laws_eqGroup.f k t559 t560 t563 t564 t565 bt580.1 bt580.2.1 bt580.2.2.1 bt580.2.2.2.1 bt580.2.2.2.2).bind fun t589 => (if t589 = true then (some true) else (none)))) = some r := by rw [if_pos rfl] at H; exact H
     clear H
     have H := H1
     clear H1
     replace H := Option.bind_eq_some_iff.mp H
     obtain ⟨⟨t580, t581, t584, t585, t586⟩, A290, H⟩ := H
     replace H : ((laws_eqGroup.f k t559 t560 t563 t564 t565 t580 t581 t584 t585 t586).bind fun t589 => (if t589 = true then (some true) else (none))) = some r := H
     have A29 := Aside0.mk A290
     clear A290
     replace H := Option.bind_eq_some_iff.mp H
     obtain ⟨t589, A300, H⟩ := H
     replace H : (if t589 = true then (some true) else (none)) = some r := H
     have A30 := Aside0.mk A300
     clear A300
     by_cases c31 : t589 = true
     ·
      subst c31
      have H1 : (some true) = some r := by rw [if_pos rfl] at H; exact H
      clear H
      have H := H1
      clear H1
      obtain rfl := Option.some.inj H
      go_enter Try.func8, Try.ntmps8
      try go_wp2_with (first | ((with_reducible refine gate_dst (N := 2) rfl ?_); refine box_event ?hg (N := 2) ?hd (cs := #[.int .i64 a0_0, .slice A0_1 l0_1.length c0_1, .int .i64 a0_2, .int .i64 a0_3, .slice A0_4 l0_4.length c0_4]) (t := 64) ?hr ?_; (case hd => rfl); (case hg => rfl); (case hr => first | (go_simp; done) | (go_simp; rfl)); intro gb526 hg w32 hbox hb; have n0_ := Aside0.mk (below_step (by repeat (first | (with_reducible first | exact HB.out | apply below_alloc | apply pw_below_drewN | apply below_drew1) | exact HB.out)) hb); have n1_ := Aside0.mk (hbox); have n2_ := Aside0.mk ((by rw [hg]; exact (below_size (by repeat (first | (with_reducible first | exact HB.out | apply below_alloc | apply pw_below_drewN | apply below_drew1) | exact HB.out))) : w.heap.size ≤ gb526)); have n3_ := Aside0.mk ((by rw [hg]; exact (below_size (by repeat (first | (with_reducible first | exact HB.out | apply below_alloc | apply pw_below_drewN | apply below_drew1) | exact HB.out))) : w.heap.size ≤ gb526)); clear HB; have HB := n0_; have BK526 := n1_; have GW526 := n2_; have GE526 := n3_; clear n0_ n1_ n2_ n3_; clear hb hbox hg) | ((with_reducible refine gate_dst (N := 3) rfl ?_); refine box_event ?hg (N := 3) ?hd (cs := #[.int .i64 a1_0, .slice A1_1 l1_1.length c1_1, .int .i64 a1_2, .int .i64 a1_3, .slice A1_4 l1_4.length c1_4]) (t := 64) ?hr ?_; (case hd => rfl); (case hg => rfl); (case hr => first | (go_simp; done) | (go_simp; rfl)); intro gb527 hg w33 hbox hb; have n0_ := Aside0.mk (blk_below (g := gb526) (o := .cells #[.int .i64 a0_0, .slice A0_1 l0_1.length c0_1, .int .i64 a0_2, .int .i64 a0_3, .slice A0_4 l0_4.length c0_4] 64 (0, 0)) (by (with_reducible repeat (first | refine blk_drewN ?_ _ | refine blk_drew ?_ | refine blk_alloc ?_ _)); exact BK526.out) hb); have n1_ := Aside0.mk (below_step (by repeat (first | (with_reducible first | exact HB.out | apply below_alloc | apply pw_below_drewN | apply below_drew1 | refine below_set ?_ GE526.out) | exact HB.out)) hb); have n2_ := Aside0.mk (hbox); have n3_ := Aside0.mk ((by rw [hg]; exact (below_size (by repeat (first | (with_reducible first | exact HB.out | apply below_alloc | apply pw_below_drewN | apply below_drew1 | refine below_set ?_ GE526.out) | exact HB.out))) : w.heap.size ≤ gb527)); have n4_ := Aside0.mk ((by rw [hg]; exact (below_size (by repeat (first | (with_reducible first | exact HB.out | apply below_alloc | apply pw_below_drewN | apply below_drew1 | refine below_set ?_ GE526.out) | exact HB.out))) : w.heap.size ≤ gb527)); have n5_ := Aside0.mk ((by rw [hg]; exact Nat.ne_of_lt (blk_lt (g := gb526) (o := .cells #[.int .i64 a0_0, .slice A0_1 l0_1.length c0_1, .int .i64 a0_2, .int .i64 a0_3, .slice A0_4 l0_4.length c0_4] 64 (0, 0)) (by (with_reducible repeat (first | refine blk_drewN ?_ _ | refine blk_drew ?_ | refine blk_alloc ?_ _)); exact BK526.out)) : gb526 ≠ gb527)); have n6_ := Aside0.mk ((by rw [hg]; exact Nat.ne_of_gt (blk_lt (g := gb526) (o := .cells #[.int .i64 a0_0, .slice A0_1 l0_1.length c0_1, .int .i64 a0_2, .int .i64 a0_3, .slice A0_4 l0_4.length c0_4] 64 (0, 0)) (by (with_reducible repeat (first | refine blk_drewN ?_ _ | refine blk_drew ?_ | refine blk_alloc ?_ _)); exact BK526.out)) : gb527 ≠ gb526)); clear BK526; clear HB; have BK526 := n0_; have HB := n1_; have BK527 := n2_; have GW527 := n3_; have GE527 := n4_; have NB526_527 := n5_; have NB527_526 := n6_; clear n0_ n1_ n2_ n3_ n4_ n5_ n6_; clear hb hbox hg; have hnb34 := NB526_527.out; have hnc34 := NB527_526.out; have hcz35_0 : w33.cell? ⟨gb526, 0, none⟩ = some (.int .i64 a0_0) := (blk_cell BK526.out 0).trans rfl; have hcz35_1 : w33.cell? ⟨gb526, 1, none⟩ = some (.slice A0_1 l0_1.length c0_1) := (blk_cell BK526.out 1).trans rfl; have hcz35_2 : w33.cell? ⟨gb526, 2, none⟩ = some (.int .i64 a0_2) := (blk_cell BK526.out 2).trans rfl; have hcz35_3 : w33.cell? ⟨gb526, 3, none⟩ = some (.int .i64 a0_3) := (blk_cell BK526.out 3).trans rfl; have hcz35_4 : w33.cell? ⟨gb526, 4, none⟩ = some (.slice A0_4 l0_4.length c0_4) := (blk_cell BK526.out 4).trans rfl; have hfz35_0 := blk_frozen BK526.out 0; have hfz35_1 := blk_frozen BK526.out 1; have hfz35_2 := blk_frozen BK526.out 2; have hfz35_3 := blk_frozen BK526.out 3; have hfz35_4 := blk_frozen BK526.out 4) | ((with_reducible refine gate_callee (f := 37) rfl ?_); refine goesL_ (some 12) rfl rfl Try.func37 (by kernel_rfl) rfl #[.agg #[.int .i64 a0_0, .slice A0_1 l0_1.length c0_1, .int .i64 a0_2, .int .i64 a0_3, .slice A0_4 l0_4.length c0_4], .int .i64 1048576] rfl (by (try simp only [List.map_toArray, List.map_cons, List.map_nil]); first | done | rfl | (simp only [List.length_drop, List.length_take]; rfl)) ?_; (with_reducible refine (laws_szGroup.calls k a0_0 _ _ l0_1 a0_2 a0_3 _ _ l0_4 1048576 t528 _ ?side1 ?side2 ?side3 ?side4 A3.out).mono ?_); (case side1 => repeat (first | exact (Kd.C_below HR0_1.out HB.out) | (with_reducible refine Kd.C_alloc ?_ _) | (with_reducible refine Kd.C_drewN ?_ _) | (with_reducible refine Kd.C_drew ?_))); (case side2 => exact HC0_1.out); (case side3 => repeat (first | exact (Kd.C_below HR0_4.out HB.out) | (with_reducible refine Kd.C_alloc ?_ _) | (with_reducible refine Kd.C_drewN ?_ _) | (with_reducible refine Kd.C_drew ?_))); (case side4 => exact HC0_4.out); rintro e w36 ⟨rfl, hb⟩; refine ⟨_, rfl, ?_⟩; have n0_ := Aside0.mk (blk_below (g := gb526) (o := .cells #[.int .i64 a0_0, .slice A0_1 l0_1.length c0_1, .int .i64 a0_2, .int .i64 a0_3, .slice A0_4 l0_4.length c0_4] 64 (0, 0)) (by (with_reducible repeat (first | refine blk_drewN ?_ _ | refine blk_drew ?_ | refine blk_alloc ?_ _)); exact BK526.out) hb); have n1_ := Aside0.mk (blk_below (g := gb527) (o := .cells #[.int .i64 a1_0, .slice A1_1 l1_1.length c1_1, .int .i64 a1_2, .int .i64 a1_3, .slice A1_4 l1_4.length c1_4] 64 (0, 0)) (by (with_reducible repeat (first | refine blk_drewN ?_ _ | refine blk_drew ?_ | refine blk_alloc ?_ _)); exact BK527.out) hb); have n2_ := Aside0.mk (below_step (by repeat (first | (with_reducible first | exact HB.out | apply below_alloc | apply pw_below_drewN | apply below_drew1 | refine below_set ?_ GE526.out | refine below_set ?_ GE527.out) | exact HB.out)) hb); clear BK526; clear BK527; clear HB; have BK526 := n0_; have BK527 := n1_; have HB := n2_; clear n0_ n1_ n2_; (try clear hb); (try clear hb2); (try clear hk); (try clear hi); have hcz37_0 : w36.cell? ⟨gb527, 0, none⟩ = some (.int .i64 a1_0) := (blk_cell BK527.out 0).trans rfl; have hcz37_1 : w36.cell? ⟨gb527, 1, none⟩ = some (.slice A1_1 l1_1.length c1_1) := (blk_cell BK527.out 1).trans rfl; have hcz37_2 : w36.cell? ⟨gb527, 2, none⟩ = some (.int .i64 a1_2) := (blk_cell BK527.out 2).trans rfl; have hcz37_3 : w36.cell? ⟨gb527, 3, none⟩ = some (.int .i64 a1_3) := (blk_cell BK527.out 3).trans rfl; have hcz37_4 : w36.cell? ⟨gb527, 4, none⟩ = some (.slice A1_4 l1_4.length c1_4) := (blk_cell BK527.out 4).trans rfl; have hfz37_0 := blk_frozen BK527.out 0; have hfz37_1 := blk_frozen BK527.out 1; have hfz37_2 := blk_frozen BK527.out 2; have hfz37_3 := blk_frozen BK527.out 3; have hfz37_4 := blk_frozen BK527.out 4) | ((with_reducible refine gate_callee (f := 37) rfl ?_); refine goesL_ (some 17) rfl rfl Try.func37 (by kernel_rfl) rfl #[.agg #[.int .i64 a1_0, .slice A1_1 l1_1.length c1_1, .int .i64 a1_2, .int .i64 a1_3, .slice A1_4 l1_4.length c1_4], .int .i64 t528] rfl (by (try simp only [List.map_toArray, List.map_cons, List.map_nil]); first | done | rfl | (simp only [List.length_drop, List.length_take]; rfl)) ?_; (with_reducible refine (laws_szGroup.calls k a1_0 _ _ l1_1 a1_2 a1_3 _ _ l1_4 t528 t529 _ ?side1 ?side2 ?side3 ?side4 A10.out).mono ?_); (case side1 => repeat (first | exact (Kd.C_below HR1_1.out HB.out) | (with_reducible refine Kd.C_alloc ?_ _) | (with_reducible refine Kd.C_drewN ?_ _) | (with_reducible refine Kd.C_drew ?_))); (case side2 => exact HC1_1.out); (case side3 => repeat (first | exact (Kd.C_below HR1_4.out HB.out) | (with_reducible refine Kd.C_alloc ?_ _) | (with_reducible refine Kd.C_drewN ?_ _) | (with_reducible refine Kd.C_drew ?_))); (case side4 => exact HC1_4.out); rintro e w38 ⟨rfl, hb⟩; refine ⟨_, rfl, ?_⟩; have n0_ := Aside0.mk (blk_below (g := gb526) (o := .cells #[.int .i64 a0_0, .slice A0_1 l0_1.length c0_1, .int .i64 a0_2, .int .i64 a0_3, .slice A0_4 l0_4.length c0_4] 64 (0, 0)) (by (with_reducible repeat (first | refine blk_drewN ?_ _ | refine blk_drew ?_ | refine blk_alloc ?_ _)); exact BK526.out) hb); have n1_ := Aside0.mk (blk_below (g := gb527) (o := .cells #[.int .i64 a1_0, .slice A1_1 l1_1.length c1_1, .int .i64 a1_2, .int .i64 a1_3, .slice A1_4 l1_4.length c1_4] 64 (0, 0)) (by (with_reducible repeat (first | refine blk_drewN ?_ _ | refine blk_drew ?_ | refine blk_alloc ?_ _)); exact BK527.out) hb); have n2_ := Aside0.mk (below_step (by repeat (first | (with_reducible first | exact HB.out | apply below_alloc | apply pw_below_drewN | apply below_drew1 | refine below_set ?_ GE526.out | refine below_set ?_ GE527.out) | exact HB.out)) hb); clear BK526; clear BK527; clear HB; have BK526 := n0_; have BK527 := n1_; have HB := n2_; clear n0_ n1_ n2_; (try clear hb); (try clear hb2); (try clear hk); (try clear hi)))
      have n0_ := Aside0.mk (blk_drew BK526.out)
      have n1_ := Aside0.mk (blk_drew BK527.out)
      have n2_ := Aside0.mk (below_drew1 HB.out)
      clear BK526
      clear BK527
      clear HB
      have BK526 := n0_
      have BK527 := n1_
      have HB := n2_
      clear n0_ n1_ n2_
      refine start_ (n := 6) (S := fun w' => w'.cell? ⟨gb526, 0, none⟩ = some (.int .i64 a0_0) ∧ w'.cell? ⟨gb526, 1, none⟩ = some (.slice A0_1 l0_1.length c0_1) ∧ w'.cell? ⟨gb526, 2, none⟩ = some (.int .i64 a0_2) ∧ w'.cell? ⟨gb526, 3, none⟩ = some (.int .i64 a0_3) ∧ w'.cell? ⟨gb526, 4, none⟩ = some (.slice A0_4 l0_4.length c0_4) ∧ w'.cell? ⟨gb527, 0, none⟩ = some (.int .i64 a1_0) ∧ w'.cell? ⟨gb527, 1, none⟩ = some (.slice A1_1 l1_1.length c1_1) ∧ w'.cell? ⟨gb527, 2, none⟩ = some (.int .i64 a1_2) ∧ w'.cell? ⟨gb527, 3, none⟩ = some (.int .i64 a1_3) ∧ w'.cell? ⟨gb527, 4, none⟩ = some (.slice A1_4 l1_4.length c1_4)) (ds := []) #[false, false, false, false, false, false] (by kernel_rfl) rfl rfl ⟨(blk_cell BK526.out 0).trans rfl, (blk_cell BK526.out 1).trans rfl, (blk_cell BK526.out 2).trans rfl, (blk_cell BK526.out 3).trans rfl, (blk_cell BK526.out 4).trans rfl, (blk_cell BK527.out 0).trans rfl, (blk_cell BK527.out 1).trans rfl, (blk_cell BK527.out 2).trans rfl, (blk_cell BK527.out 3).trans rfl, (blk_cell BK527.out 4).trans rfl⟩ (fun hHeld => ?_)
      generalize w38.drew = w39 at BK526 BK527 HB hHeld ⊢
      refine take_ (i := 0) (N := some 20) (v := ?_) (a' := ?_) #[true, false, false, false, false, false] rfl rfl (by kernel_rfl) (fun _ _ _ h => h) (Or.inl ⟨by rfl, ?_⟩) hHeld ?_ ?_
      rotate_left
      ·
       rintro w' ⟨s0, s1, s2, s3, s4, s5, s6, s7, s8, s9⟩
       go_simp
       with_reducible rfl
      rotate_left
      ·
       simp only [Act.put, List.setIfInBounds_toArray, List.set_cons_zero, List.set_cons_succ, i64_w, i32_w]
       rfl
      refine take_ (i := 2) (N := some 22) (v := ?_) (a' := ?_) #[true, false, true, false, false, false] rfl rfl (by kernel_rfl) (fun _ _ _ h => h) (Or.inl ⟨by rfl, ?_⟩) hHeld ?_ ?_
      rotate_left
      ·
       rintro w' ⟨s0, s1, s2, s3, s4, s5, s6, s7, s8, s9⟩
       go_simp
       with_reducible rfl
      rotate_left
      ·
       simp only [Act.put, List.setIfInBounds_toArray, List.set_cons_zero, List.set_cons_succ, i64_w, i32_w]
       rfl
      refine one_ (i := 1) (N := some 21) #[true, true, true, false, false, false] rfl rfl (by kernel_rfl) (by decide) (fun K hK => ?_)
      refine goes_ Try.func39 (by kernel_rfl) rfl #[.agg #[.int .i64 a0_0, .slice A0_1 l0_1.length c0_1, .int .i64 a0_2, .int .i64 a0_3, .slice A0_4 l0_4.length c0_4]] (by rfl) rfl rfl (by (try simp only [List.map_toArray, List.map_cons, List.map_nil]); first | done | rfl | (simp only [List.length_drop, List.length_take]; rfl)) ?_
      with_reducible refine (laws_toGroup.calls k a0_0 _ _ l0_1 a0_2 a0_3 _ _ l0_4 t530 t531 t534 t535 t536 _ ?side1 ?side2 ?side3 ?side4 A19.out).mono ?_
      (case side1 => repeat (first | exact (Kd.C_below HR0_1.out HB.out) | (with_reducible refine Kd.C_alloc ?_ _) | (with_reducible refine Kd.C_drewN ?_ _) | (with_reducible refine Kd.C_drew ?_)))
      (case side2 => exact HC0_1.out)
      (case side3 => repeat (first | exact (Kd.C_below HR0_4.out HB.out) | (with_reducible refine Kd.C_alloc ?_ _) | (with_reducible refine Kd.C_drewN ?_ _) | (with_reducible refine Kd.C_drew ?_)))
      (case side4 => exact HC0_4.out)
      rintro e w40 ⟨v532, v537, rfl, ho0, ho1, hb⟩
      refine ⟨_, rfl, ?_⟩
      have n0_ := Aside0.mk (Kd.R_lower ho0 (below_size (by repeat (first | (with_reducible first | exact HB.out | apply below_alloc | apply pw_below_drewN | apply below_drew1 | refine below_set ?_ GE526.out | refine below_set ?_ GE527.out) | exact HB.out))))
      have n1_ := Aside0.mk (Kd.S_lower ho1 (below_size (by repeat (first | (with_reducible first | exact HB.out | apply below_alloc | apply pw_below_drewN | apply below_drew1 | refine below_set ?_ GE526.out | refine below_set ?_ GE527.out) | exact HB.out))))
      have n2_ := Aside0.mk (blk_below (g := gb526) (o := .cells #[.int .i64 a0_0, .slice A0_1 l0_1.length c0_1, .int .i64 a0_2, .int .i64 a0_3, .slice A0_4 l0_4.length c0_4] 64 (0, 0)) (by (with_reducible repeat (first | refine blk_drewN ?_ _ | refine blk_drew ?_ | refine blk_alloc ?_ _)); exact BK526.out) hb)
      have n3_ := Aside0.mk (blk_below (g := gb527) (o := .cells #[.int .i64 a1_0, .slice A1_1 l1_1.length c1_1, .int .i64 a1_2, .int .i64 a1_3, .slice A1_4 l1_4.length c1_4] 64 (0, 0)) (by (with_reducible repeat (first | refine blk_drewN ?_ _ | refine blk_drew ?_ | refine blk_alloc ?_ _)); exact BK527.out) hb)
      have n4_ := Aside0.mk (below_step (by repeat (first | (with_reducible first | exact HB.out | apply below_alloc | apply pw_below_drewN | apply below_drew1 | refine below_set ?_ GE526.out | refine below_set ?_ GE527.out) | exact HB.out)) hb)
      clear BK526
      clear BK527
      clear HB
      have HO533 := n0_
      have HO538 := n1_
      have BK526 := n2_
      have BK527 := n3_
      have HB := n4_
      clear n0_ n1_ n2_ n3_ n4_
      (try clear hb)
      (try clear hb2)
      (try clear hk)
      (try clear hi)
      (try clear ho0)
      (try clear ho1)
      refine hK.out _ _ ⟨(blk_cell BK526.out 0).trans rfl, (blk_cell BK526.out 1).trans rfl, (blk_cell BK526.out 2).trans rfl, (blk_cell BK526.out 3).trans rfl, (blk_cell BK526.out 4).trans rfl, (blk_cell BK527.out 0).trans rfl, (blk_cell BK527.out 1).trans rfl, (blk_cell BK527.out 2).trans rfl, (blk_cell BK527.out 3).trans rfl, (blk_cell BK527.out 4).trans rfl⟩ (fun hHeld => ?_)
      clear hK K
      refine norm_ (a' := ?_) ?_ ?_
      rotate_left
      ·
       show Act.put _ (some 21) _ = _
       simp only [Act.put, List.setIfInBounds_toArray, List.set_cons_zero, List.set_cons_succ, i64_w, i32_w]
       rfl
      refine one_ (i := 3) (N := some 23) #[true, true, true, true, false, false] rfl rfl (by kernel_rfl) (by decide) (fun K hK => ?_)
      refine goes_ Try.func39 (by kernel_rfl) rfl #[.agg #[.int .i64 a1_0, .slice A1_1 l1_1.length c1_1, .int .i64 a1_2, .int .i64 a1_3, .slice A1_4 l1_4.length c1_4]] (by rfl) rfl rfl (by (try simp only [List.map_toArray, List.map_cons, List.map_nil]); first | done | rfl | (simp only [List.length_drop, List.length_take]; rfl)) ?_
      with_reducible refine (laws_toGroup.calls k a1_0 _ _ l1_1 a1_2 a1_3 _ _ l1_4 t539 t540 t543 t544 t545 _ ?side1 ?side2 ?side3 ?side4 A20.out).mono ?_
      (case side1 => repeat (first | exact (Kd.C_below HR1_1.out HB.out) | (with_reducible refine Kd.C_alloc ?_ _) | (with_reducible refine Kd.C_drewN ?_ _) | (with_reducible refine Kd.C_drew ?_)))
      (case side2 => exact HC1_1.out)
      (case side3 => repeat (first | exact (Kd.C_below HR1_4.out HB.out) | (with_reducible refine Kd.C_alloc ?_ _) | (with_reducible refine Kd.C_drewN ?_ _) | (with_reducible refine Kd.C_drew ?_)))
      (case side4 => exact HC1_4.out)
      rintro e w41 ⟨v541, v546, rfl, ho0, ho1, hb⟩
      refine ⟨_, rfl, ?_⟩
      have n0_ := Aside0.mk (Kd.R_elder' (by (with_reducible repeat (first | apply Kd.R_alloc | apply Kd.R_drewN | apply Kd.R_drew)); exact HO533.out) (Kd.R_base ho0) hb)
      have n1_ := Aside0.mk (Kd.S_mono (Kd.S_told (Kd.S_told (Kd.S_old (by (with_reducible repeat (first | apply Kd.S_alloc | apply Kd.S_drewN | apply Kd.S_drew)); exact HO538.out) hb) (Kd.R_base ho0)) (Kd.S_base ho1)) (fun _ h_ => h_.1))
      have n2_ := Aside0.mk (Kd.R_lower (Kd.R_new' ho0 (Kd.R_lt (by (with_reducible repeat (first | apply Kd.R_alloc | apply Kd.R_drewN | apply Kd.R_drew)); exact HO533.out))) (below_size (by repeat (first | (with_reducible first | exact HB.out | apply below_alloc | apply pw_below_drewN | apply below_drew1 | refine below_set ?_ GE526.out | refine below_set ?_ GE527.out) | exact HB.out))))
      have n3_ := Aside0.mk (Kd.S_lower (Kd.S_new' (Kd.S_new' ho1 (Kd.R_lt (by (with_reducible repeat (first | apply Kd.R_alloc | apply Kd.R_drewN | apply Kd.R_drew)); exact HO533.out))) (Kd.S_lt (by (with_reducible repeat (first | apply Kd.S_alloc | apply Kd.S_drewN | apply Kd.S_drew)); exact HO538.out))) (below_size (by repeat (first | (with_reducible first | exact HB.out | apply below_alloc | apply pw_below_drewN | apply below_drew1 | refine below_set ?_ GE526.out | refine below_set ?_ GE527.out) | exact HB.out))))
      have n4_ := Aside0.mk (blk_below (g := gb526) (o := .cells #[.int .i64 a0_0, .slice A0_1 l0_1.length c0_1, .int .i64 a0_2, .int .i64 a0_3, .slice A0_4 l0_4.length c0_4] 64 (0, 0)) (by (with_reducible repeat (first | refine blk_drewN ?_ _ | refine blk_drew ?_ | refine blk_alloc ?_ _)); exact BK526.out) hb)
      have n5_ := Aside0.mk (blk_below (g := gb527) (o := .cells #[.int .i64 a1_0, .slice A1_1 l1_1.length c1_1, .int .i64 a1_2, .int .i64 a1_3, .slice A1_4 l1_4.length c1_4] 64 (0, 0)) (by (with_reducible repeat (first | refine blk_drewN ?_ _ | refine blk_drew ?_ | refine blk_alloc ?_ _)); exact BK527.out) hb)
      have n6_ := Aside0.mk (below_step (by repeat (first | (with_reducible first | exact HB.out | apply below_alloc | apply pw_below_drewN | apply below_drew1 | refine below_set ?_ GE526.out | refine below_set ?_ GE527.out) | exact HB.out)) hb)
      clear HO533
      clear HO538
      clear BK526
      clear BK527
      clear HB
      have HO533 := n0_
      have HO538 := n1_
      have HO542 := n2_
      have HO547 := n3_
      have BK526 := n4_
      have BK527 := n5_
      have HB := n6_
      clear n0_ n1_ n2_ n3_ n4_ n5_ n6_
      (try clear hb)
      (try clear hb2)
      (try clear hk)
      (try clear hi)
      (try clear ho0)
      (try clear ho1)
      obtain ⟨Ao42, co42, eo42⟩ := Kd.R_slice HO533.out
      (first | subst eo42 | (injection eo42 with f1_ f2_ f3_; have f4_ := f1_.symm; have f5_ := f3_.symm; clear f1_ f2_ f3_; subst f4_; subst f5_))
      obtain ⟨Ao43, co43, eo43⟩ := Kd.S_slice HO538.out
      (first | subst eo43 | (injection eo43 with f1_ f2_ f3_; have f4_ := f1_.symm; have f5_ := f3_.symm; clear f1_ f2_ f3_; subst f4_; subst f5_))
      obtain ⟨Ao44, co44, eo44⟩ := Kd.R_slice HO542.out
      (first | subst eo44 | (injection eo44 with f1_ f2_ f3_; have f4_ := f1_.symm; have f5_ := f3_.symm; clear f1_ f2_ f3_; subst f4_; subst f5_))
      obtain ⟨Ao45, co45, eo45⟩ := Kd.S_slice HO547.out
      (first | subst eo45 | (injection eo45 with f1_ f2_ f3_; have f4_ := f1_.symm; have f5_ := f3_.symm; clear f1_ f2_ f3_; subst f4_; subst f5_))
      refine hK.out _ _ ⟨(blk_cell BK526.out 0).trans rfl, (blk_cell BK526.out 1).trans rfl, (blk_cell BK526.out 2).trans rfl, (blk_cell BK526.out 3).trans rfl, (blk_cell BK526.out 4).trans rfl, (blk_cell BK527.out 0).trans rfl, (blk_cell BK527.out 1).trans rfl, (blk_cell BK527.out 2).trans rfl, (blk_cell BK527.out 3).trans rfl, (blk_cell BK527.out 4).trans rfl⟩ (fun hHeld => ?_)
      clear hK K
      refine norm_ (a' := ?_) ?_ ?_
      rotate_left
      ·
       show Act.put _ (some 23) _ = _
       simp only [Act.put, List.setIfInBounds_toArray, List.set_cons_zero, List.set_cons_succ, i64_w, i32_w]
       rfl
      refine one_ (i := 4) (N := some 24) #[true, true, true, true, true, false] rfl rfl (by kernel_rfl) (by decide) (fun K hK => ?_)
      refine goes_ Try.func38 (by kernel_rfl) rfl #[.agg #[.int .i64 t530, .slice Ao42 t531.length co42, .int .i64 t534, .int .i64 t535, .slice Ao43 t536.length co43], .agg #[.int .i64 t539, .slice Ao44 t540.length co44, .int .i64 t543, .int .i64 t544, .slice Ao45 t545.length co45]] (by rfl) rfl rfl (by (try simp only [List.map_toArray, List.map_cons, List.map_nil]); first | done | rfl | (simp only [List.length_drop, List.length_take]; rfl)) ?_
      with_reducible refine (spec_SameGroup.calls k t530 _ _ t531 t534 t535 _ _ t536 t539 _ _ t540 t543 t544 _ _ t545 t548 _ ?side1 ?side2 ?side3 ?side4 ?side5 ?side6 ?side7 ?side8 A21.out).mono ?_
      (case side1 => repeat (first | exact (Kd.R_reads' HO533.out).2.2 | (with_reducible refine Kd.C_alloc ?_ _) | (with_reducible refine Kd.C_drewN ?_ _) | (with_reducible refine Kd.C_drew ?_)))
      (case side2 => exact (Kd.R_reads' HO533.out).2.1)
      (case side3 => repeat (first | exact (Kd.S_reads' HO538.out).2.2 | (with_reducible refine Kd.C_alloc ?_ _) | (with_reducible refine Kd.C_drewN ?_ _) | (with_reducible refine Kd.C_drew ?_)))
      (case side4 => exact (Kd.S_reads' HO538.out).2.1)
      (case side5 => repeat (first | exact (Kd.R_reads' HO542.out).2.2 | (with_reducible refine Kd.C_alloc ?_ _) | (with_reducible refine Kd.C_drewN ?_ _) | (with_reducible refine Kd.C_drew ?_)))
      (case side6 => exact (Kd.R_reads' HO542.out).2.1)
      (case side7 => repeat (first | exact (Kd.S_reads' HO547.out).2.2 | (with_reducible refine Kd.C_alloc ?_ _) | (with_reducible refine Kd.C_drewN ?_ _) | (with_reducible refine Kd.C_drew ?_)))
      (case side8 => exact (Kd.S_reads' HO547.out).2.1)
      rintro e w46 ⟨rfl, hb⟩
      refine ⟨_, rfl, ?_⟩
      have n0_ := Aside0.mk (Kd.R_below (by (with_reducible repeat (first | apply Kd.R_alloc | apply Kd.R_drewN | apply Kd.R_drew)); exact HO533.out) hb)
      have n1_ := Aside0.mk (Kd.S_below (by (with_reducible repeat (first | apply Kd.S_alloc | apply Kd.S_drewN | apply Kd.S_drew)); exact HO538.out) hb)
      have n2_ := Aside0.mk (Kd.R_below (by (with_reducible repeat (first | apply Kd.R_alloc | apply Kd.R_drewN | apply Kd.R_drew)); exact HO542.out) hb)
      have n3_ := Aside0.mk (Kd.S_below (by (with_reducible repeat (first | apply Kd.S_alloc | apply Kd.S_drewN | apply Kd.S_drew)); exact HO547.out) hb)
      have n4_ := Aside0.mk (blk_below (g := gb526) (o := .cells #[.int .i64 a0_0, .slice A0_1 l0_1.length c0_1, .int .i64 a0_2, .int .i64 a0_3, .slice A0_4 l0_4.length c0_4] 64 (0, 0)) (by (with_reducible repeat (first | refine blk_drewN ?_ _ | refine blk_drew ?_ | refine blk_alloc ?_ _)); exact BK526.out) hb)
      have n5_ := Aside0.mk (blk_below (g := gb527) (o := .cells #[.int .i64 a1_0, .slice A1_1 l1_1.length c1_1, .int .i64 a1_2, .int .i64 a1_3, .slice A1_4 l1_4.length c1_4] 64 (0, 0)) (by (with_reducible repeat (first | refine blk_drewN ?_ _ | refine blk_drew ?_ | refine blk_alloc ?_ _)); exact BK527.out) hb)
      have n6_ := Aside0.mk (below_step (by repeat (first | (with_reducible first | exact HB.out | apply below_alloc | apply pw_below_drewN | apply below_drew1 | refine below_set ?_ GE526.out | refine below_set ?_ GE527.out) | exact HB.out)) hb)
      clear HO533
      clear HO538
      clear HO542
      clear HO547
      clear BK526
      clear BK527
      clear HB
      have HO533 := n0_
      have HO538 := n1_
      have HO542 := n2_
      have HO547 := n3_
      have BK526 := n4_
      have BK527 := n5_
      have HB := n6_
      clear n0_ n1_ n2_ n3_ n4_ n5_ n6_
      (try clear hb)
      (try clear hb2)
      (try clear hk)
      (try clear hi)
      refine hK.out _ _ ⟨(blk_cell BK526.out 0).trans rfl, (blk_cell BK526.out 1).trans rfl, (blk_cell BK526.out 2).trans rfl, (blk_cell BK526.out 3).trans rfl, (blk_cell BK526.out 4).trans rfl, (blk_cell BK527.out 0).trans rfl, (blk_cell BK527.out 1).trans rfl, (blk_cell BK527.out 2).trans rfl, (blk_cell BK527.out 3).trans rfl, (blk_cell BK527.out 4).trans rfl⟩ (fun hHeld => ?_)
      clear hK K
      refine norm_ (a' := ?_) ?_ ?_
      rotate_left
      ·
       show Act.put _ (some 24) _ = _
       simp only [Act.put, List.setIfInBounds_toArray, List.set_cons_zero, List.set_cons_succ, i64_w, i32_w]
       rfl
      refine pure_ (i := 5) (N := some 6) (v := ?_) (a' := ?_) #[true, true, true, true, true, true] rfl rfl (by kernel_rfl) (fun _ _ _ h => h) (Or.inl ⟨by rfl, ?_⟩) ?_ ?_
      rotate_left
      ·
       intro w'
       go_simp
       with_reducible rfl
      rotate_left
      ·
       simp only [Act.put, List.setIfInBounds_toArray, List.set_cons_zero, List.set_cons_succ, i64_w, i32_w]
       rfl
      refine done_ (by kernel_rfl) ?_
      have hcz47_0 : w46.cell? ⟨gb526, 0, none⟩ = some (.int .i64 a0_0) := (blk_cell BK526.out 0).trans rfl
      have hcz47_1 : w46.cell? ⟨gb526, 1, none⟩ = some (.slice A0_1 l0_1.length c0_1) := (blk_cell BK526.out 1).trans rfl
      have hcz47_2 : w46.cell? ⟨gb526, 2, none⟩ = some (.int .i64 a0_2) := (blk_cell BK526.out 2).trans rfl
      have hcz47_3 : w46.cell? ⟨gb526, 3, none⟩ = some (.int .i64 a0_3) := (blk_cell BK526.out 3).trans rfl
      have hcz47_4 : w46.cell? ⟨gb526, 4, none⟩ = some (.slice A0_4 l0_4.length c0_4) := (blk_cell BK526.out 4).trans rfl
      have hfz47_0 := blk_frozen BK526.out 0
      have hfz47_1 := blk_frozen BK526.out 1
      have hfz47_2 := blk_frozen BK526.out 2
      have hfz47_3 := blk_frozen BK526.out 3
      have hfz47_4 := blk_frozen BK526.out 4
      try go_wp2_with (first | ((with_reducible refine gate_callee (f := 39) rfl ?_); refine goesL_ (some 26) rfl rfl Try.func39 (by kernel_rfl) rfl #[.agg #[.int .i64 a0_0, .slice A0_1 l0_1.length c0_1, .int .i64 a0_2, .int .i64 a0_3, .slice A0_4 l0_4.length c0_4]] rfl (by (try simp only [List.map_toArray, List.map_cons, List.map_nil]); first | done | rfl | (simp only [List.length_drop, List.length_take]; rfl)) ?_; (with_reducible refine (laws_toGroup.calls k a0_0 _ _ l0_1 a0_2 a0_3 _ _ l0_4 t549 t550 t553 t554 t555 _ ?side1 ?side2 ?side3 ?side4 A22.out).mono ?_); (case side1 => repeat (first | exact (Kd.C_below HR0_1.out HB.out) | (with_reducible refine Kd.C_alloc ?_ _) | (with_reducible refine Kd.C_drewN ?_ _) | (with_reducible refine Kd.C_drew ?_))); (case side2 => exact HC0_1.out); (case side3 => repeat (first | exact (Kd.C_below HR0_4.out HB.out) | (with_reducible refine Kd.C_alloc ?_ _) | (with_reducible refine Kd.C_drewN ?_ _) | (with_reducible refine Kd.C_drew ?_))); (case side4 => exact HC0_4.out); rintro e w48 ⟨v551, v556, rfl, ho0, ho1, hb⟩; refine ⟨_, rfl, ?_⟩; have n0_ := Aside0.mk (Kd.R_elder' (by (with_reducible repeat (first | apply Kd.R_alloc | apply Kd.R_drewN | apply Kd.R_drew)); exact HO533.out) (Kd.R_base ho0) hb); have n1_ := Aside0.mk (Kd.S_mono (Kd.S_told (Kd.S_told (Kd.S_old (by (with_reducible repeat (first | apply Kd.S_alloc | apply Kd.S_drewN | apply Kd.S_drew)); exact HO538.out) hb) (Kd.R_base ho0)) (Kd.S_base ho1)) (fun _ h_ => h_.1)); have n2_ := Aside0.mk (Kd.R_elder' (by (with_reducible repeat (first | apply Kd.R_alloc | apply Kd.R_drewN | apply Kd.R_drew)); exact HO542.out) (Kd.R_base ho0) hb); have n3_ := Aside0.mk (Kd.S_mono (Kd.S_told (Kd.S_told (Kd.S_old (by (with_reducible repeat (first | apply Kd.S_alloc | apply Kd.S_drewN | apply Kd.S_drew)); exact HO547.out) hb) (Kd.R_base ho0)) (Kd.S_base ho1)) (fun _ h_ => h_.1)); have n4_ := Aside0.mk (Kd.R_lower (Kd.R_new' (Kd.R_new' ho0 (Kd.R_lt (by (with_reducible repeat (first | apply Kd.R_alloc | apply Kd.R_drewN | apply Kd.R_drew)); exact HO533.out))) (Kd.R_lt (by (with_reducible repeat (first | apply Kd.R_alloc | apply Kd.R_drewN | apply Kd.R_drew)); exact HO542.out))) (below_size (by repeat (first | (with_reducible first | exact HB.out | apply below_alloc | apply pw_below_drewN | apply below_drew1 | refine below_set ?_ GE526.out | refine below_set ?_ GE527.out) | exact HB.out)))); have n5_ := Aside0.mk (Kd.S_lower (Kd.S_new' (Kd.S_new' (Kd.S_new' (Kd.S_new' ho1 (Kd.R_lt (by (with_reducible repeat (first | apply Kd.R_alloc | apply Kd.R_drewN | apply Kd.R_drew)); exact HO533.out))) (Kd.S_lt (by (with_reducible repeat (first | apply Kd.S_alloc | apply Kd.S_drewN | apply Kd.S_drew)); exact HO538.out))) (Kd.R_lt (by (with_reducible repeat (first | apply Kd.R_alloc | apply Kd.R_drewN | apply Kd.R_drew)); exact HO542.out))) (Kd.S_lt (by (with_reducible repeat (first | apply Kd.S_alloc | apply Kd.S_drewN | apply Kd.S_drew)); exact HO547.out))) (below_size (by repeat (first | (with_reducible first | exact HB.out | apply below_alloc | apply pw_below_drewN | apply below_drew1 | refine below_set ?_ GE526.out | refine below_set ?_ GE527.out) | exact HB.out)))); have n6_ := Aside0.mk (blk_below (g := gb526) (o := .cells #[.int .i64 a0_0, .slice A0_1 l0_1.length c0_1, .int .i64 a0_2, .int .i64 a0_3, .slice A0_4 l0_4.length c0_4] 64 (0, 0)) (by (with_reducible repeat (first | refine blk_drewN ?_ _ | refine blk_drew ?_ | refine blk_alloc ?_ _)); exact BK526.out) hb); have n7_ := Aside0.mk (blk_below (g := gb527) (o := .cells #[.int .i64 a1_0, .slice A1_1 l1_1.length c1_1, .int .i64 a1_2, .int .i64 a1_3, .slice A1_4 l1_4.length c1_4] 64 (0, 0)) (by (with_reducible repeat (first | refine blk_drewN ?_ _ | refine blk_drew ?_ | refine blk_alloc ?_ _)); exact BK527.out) hb); have n8_ := Aside0.mk (below_step (by repeat (first | (with_reducible first | exact HB.out | apply below_alloc | apply pw_below_drewN | apply below_drew1 | refine below_set ?_ GE526.out | refine below_set ?_ GE527.out) | exact HB.out)) hb); clear HO533; clear HO538; clear HO542; clear HO547; clear BK526; clear BK527; clear HB; have HO533 := n0_; have HO538 := n1_; have HO542 := n2_; have HO547 := n3_; have HO552 := n4_; have HO557 := n5_; have BK526 := n6_; have BK527 := n7_; have HB := n8_; clear n0_ n1_ n2_ n3_ n4_ n5_ n6_ n7_ n8_; (try clear hb); (try clear hb2); (try clear hk); (try clear hi); (try clear ho0); (try clear ho1)) | ((with_reducible refine gate_dst (N := 7) rfl ?_); refine box_event ?hg (N := 7) ?hd (cs := #[.int .i64 0, .slice none 0 0, .int .i64 0, .int .i64 0, .slice none 0 0]) (t := 68) ?hr ?_; (case hd => rfl); (case hg => rfl); (case hr => first | (go_simp; done) | (go_simp; rfl)); intro gb558 hg w49 hbox hb; have n0_ := Aside0.mk (Kd.R_below (by (with_reducible repeat (first | apply Kd.R_alloc | apply Kd.R_drewN | apply Kd.R_drew)); exact HO533.out) hb); have n1_ := Aside0.mk (Kd.S_below (by (with_reducible repeat (first | apply Kd.S_alloc | apply Kd.S_drewN | apply Kd.S_drew)); exact HO538.out) hb); have n2_ := Aside0.mk (Kd.R_below (by (with_reducible repeat (first | apply Kd.R_alloc | apply Kd.R_drewN | apply Kd.R_drew)); exact HO542.out) hb); have n3_ := Aside0.mk (Kd.S_below (by (with_reducible repeat (first | apply Kd.S_alloc | apply Kd.S_drewN | apply Kd.S_drew)); exact HO547.out) hb); have n4_ := Aside0.mk (Kd.R_below (by (with_reducible repeat (first | apply Kd.R_alloc | apply Kd.R_drewN | apply Kd.R_drew)); exact HO552.out) hb); have n5_ := Aside0.mk (Kd.S_below (by (with_reducible repeat (first | apply Kd.S_alloc | apply Kd.S_drewN | apply Kd.S_drew)); exact HO557.out) hb); have n6_ := Aside0.mk (blk_below (g := gb526) (o := .cells #[.int .i64 a0_0, .slice A0_1 l0_1.length c0_1, .int .i64 a0_2, .int .i64 a0_3, .slice A0_4 l0_4.length c0_4] 64 (0, 0)) (by (with_reducible repeat (first | refine blk_drewN ?_ _ | refine blk_drew ?_ | refine blk_alloc ?_ _)); exact BK526.out) hb); have n7_ := Aside0.mk (blk_below (g := gb527) (o := .cells #[.int .i64 a1_0, .slice A1_1 l1_1.length c1_1, .int .i64 a1_2, .int .i64 a1_3, .slice A1_4 l1_4.length c1_4] 64 (0, 0)) (by (with_reducible repeat (first | refine blk_drewN ?_ _ | refine blk_drew ?_ | refine blk_alloc ?_ _)); exact BK527.out) hb); have n8_ := Aside0.mk (below_step (by repeat (first | (with_reducible first | exact HB.out | apply below_alloc | apply pw_below_drewN | apply below_drew1 | refine below_set ?_ GE526.out | refine below_set ?_ GE527.out) | exact HB.out)) hb); have n9_ := Aside0.mk (hbox); have n10_ := Aside0.mk ((by rw [hg]; exact (below_size (by repeat (first | (with_reducible first | exact HB.out | apply below_alloc | apply pw_below_drewN | apply below_drew1 | refine below_set ?_ GE526.out | refine below_set ?_ GE527.out) | exact HB.out))) : w.heap.size ≤ gb558)); have n11_ := Aside0.mk ((by rw [hg]; exact (below_size (by repeat (first | (with_reducible first | exact HB.out | apply below_alloc | apply pw_below_drewN | apply below_drew1 | refine below_set ?_ GE526.out | refine below_set ?_ GE527.out) | exact HB.out))) : w.heap.size ≤ gb558)); have n12_ := Aside0.mk ((by rw [hg]; exact Nat.ne_of_lt (blk_lt (g := gb526) (o := .cells #[.int .i64 a0_0, .slice A0_1 l0_1.length c0_1, .int .i64 a0_2, .int .i64 a0_3, .slice A0_4 l0_4.length c0_4] 64 (0, 0)) (by (with_reducible repeat (first | refine blk_drewN ?_ _ | refine blk_drew ?_ | refine blk_alloc ?_ _)); exact BK526.out)) : gb526 ≠ gb558)); have n13_ := Aside0.mk ((by rw [hg]; exact Nat.ne_of_gt (blk_lt (g := gb526) (o := .cells #[.int .i64 a0_0, .slice A0_1 l0_1.length c0_1, .int .i64 a0_2, .int .i64 a0_3, .slice A0_4 l0_4.length c0_4] 64 (0, 0)) (by (with_reducible repeat (first | refine blk_drewN ?_ _ | refine blk_drew ?_ | refine blk_alloc ?_ _)); exact BK526.out)) : gb558 ≠ gb526)); have n14_ := Aside0.mk ((by rw [hg]; exact Nat.ne_of_lt (blk_lt (g := gb527) (o := .cells #[.int .i64 a1_0, .slice A1_1 l1_1.length c1_1, .int .i64 a1_2, .int .i64 a1_3, .slice A1_4 l1_4.length c1_4] 64 (0, 0)) (by (with_reducible repeat (first | refine blk_drewN ?_ _ | refine blk_drew ?_ | refine blk_alloc ?_ _)); exact BK527.out)) : gb527 ≠ gb558)); have n15_ := Aside0.mk ((by rw [hg]; exact Nat.ne_of_gt (blk_lt (g := gb527) (o := .cells #[.int .i64 a1_0, .slice A1_1 l1_1.length c1_1, .int .i64 a1_2, .int .i64 a1_3, .slice A1_4 l1_4.length c1_4] 64 (0, 0)) (by (with_reducible repeat (first | refine blk_drewN ?_ _ | refine blk_drew ?_ | refine blk_alloc ?_ _)); exact BK527.out)) : gb558 ≠ gb527)); clear HO533; clear HO538; clear HO542; clear HO547; clear HO552; clear HO557; clear BK526; clear BK527; clear HB; have HO533 := n0_; have HO538 := n1_; have HO542 := n2_; have HO547 := n3_; have HO552 := n4_; have HO557 := n5_; have BK526 := n6_; have BK527 := n7_; have HB := n8_; have BK558 := n9_; have GW558 := n10_; have GE558 := n11_; have NB526_558 := n12_; have NB558_526 := n13_; have NB527_558 := n14_; have NB558_527 := n15_; clear n0_ n1_ n2_ n3_ n4_ n5_ n6_ n7_ n8_ n9_ n10_ n11_ n12_ n13_ n14_ n15_; clear hb hbox hg; have hnb50 := NB558_526.out; have hnc50 := NB526_558.out; have hnb51 := NB558_527.out; have hnc51 := NB527_558.out; have hcz52_0 : w49.cell? ⟨gb558, 0, none⟩ = some (.int .i64 0) := (blk_cell BK558.out 0).trans rfl; have hcz52_1 : w49.cell? ⟨gb558, 1, none⟩ = some (.slice none 0 0) := (blk_cell BK558.out 1).trans rfl; have hcz52_2 : w49.cell? ⟨gb558, 2, none⟩ = some (.int .i64 0) := (blk_cell BK558.out 2).trans rfl; have hcz52_3 : w49.cell? ⟨gb558, 3, none⟩ = some (.int .i64 0) := (blk_cell BK558.out 3).trans rfl; have hcz52_4 : w49.cell? ⟨gb558, 4, none⟩ = some (.slice none 0 0) := (blk_cell BK558.out 4).trans rfl; have hfz52_0 := blk_frozen BK558.out 0; have hfz52_1 := blk_frozen BK558.out 1; have hfz52_2 := blk_frozen BK558.out 2; have hfz52_3 := blk_frozen BK558.out 3; have hfz52_4 := blk_frozen BK558.out 4; obtain ⟨Ao53, co53, eo53⟩ := Kd.R_slice HO552.out; subst eo53; obtain ⟨Ao54, co54, eo54⟩ := Kd.S_slice HO557.out; subst eo54; have hcz55_0 : w49.cell? ⟨gb527, 0, none⟩ = some (.int .i64 a1_0) := (blk_cell BK527.out 0).trans rfl; have hcz55_1 : w49.cell? ⟨gb527, 1, none⟩ = some (.slice A1_1 l1_1.length c1_1) := (blk_cell BK527.out 1).trans rfl; have hcz55_2 : w49.cell? ⟨gb527, 2, none⟩ = some (.int .i64 a1_2) := (blk_cell BK527.out 2).trans rfl; have hcz55_3 : w49.cell? ⟨gb527, 3, none⟩ = some (.int .i64 a1_3) := (blk_cell BK527.out 3).trans rfl; have hcz55_4 : w49.cell? ⟨gb527, 4, none⟩ = some (.slice A1_4 l1_4.length c1_4) := (blk_cell BK527.out 4).trans rfl; have hfz55_0 := blk_frozen BK527.out 0; have hfz55_1 := blk_frozen BK527.out 1; have hfz55_2 := blk_frozen BK527.out 2; have hfz55_3 := blk_frozen BK527.out 3; have hfz55_4 := blk_frozen BK527.out 4) | ((with_reducible refine gate_callee (f := 39) rfl ?_); refine goesL_ (some 28) rfl rfl Try.func39 (by kernel_rfl) rfl #[.agg #[.int .i64 a1_0, .slice A1_1 l1_1.length c1_1, .int .i64 a1_2, .int .i64 a1_3, .slice A1_4 l1_4.length c1_4]] rfl (by (try simp only [List.map_toArray, List.map_cons, List.map_nil]); first | done | rfl | (simp only [List.length_drop, List.length_take]; rfl)) ?_; (with_reducible refine (laws_toGroup.calls k a1_0 _ _ l1_1 a1_2 a1_3 _ _ l1_4 t559 t560 t563 t564 t565 _ ?side1 ?side2 ?side3 ?side4 A23.out).mono ?_); (case side1 => exact Kd.C_below HR1_1.out (by repeat (first | (with_reducible first | exact HB.out | apply below_alloc | apply pw_below_drewN | apply below_drew1 | refine below_set ?_ GE526.out | refine below_set ?_ GE527.out | refine below_set ?_ GE558.out) | exact HB.out))); (case side2 => exact HC1_1.out); (case side3 => exact Kd.C_below HR1_4.out (by repeat (first | (with_reducible first | exact HB.out | apply below_alloc | apply pw_below_drewN | apply below_drew1 | refine below_set ?_ GE526.out | refine below_set ?_ GE527.out | refine below_set ?_ GE558.out) | exact HB.out))); (case side4 => exact HC1_4.out); rintro e w56 ⟨v561, v566, rfl, ho0, ho1, hb⟩; refine ⟨_, rfl, ?_⟩; have n0_ := Aside0.mk (Kd.R_elder' (by (with_reducible repeat (first | apply Kd.R_alloc | apply Kd.R_drewN | apply Kd.R_drew)); exact (Kd.R_mono (Kd.R_far (p := ⟨gb558, 4, none⟩) (Kd.R_far (p := ⟨gb558, 3, none⟩) (Kd.R_far (p := ⟨gb558, 2, none⟩) (Kd.R_far (p := ⟨gb558, 1, none⟩) (Kd.R_far (p := ⟨gb558, 0, none⟩) (Kd.R_types HO533.out BK558.out (by decide)) (fun _ hk => hk.2) (.int .i64 t549)) (fun _ hk => hk.2) (.slice Ao53 t550.length co53)) (fun _ hk => hk.2) (.int .i64 t553)) (fun _ hk => hk.2) (.int .i64 t554)) (fun _ hk => hk.2) (.slice Ao54 t555.length co54)) (fun _ h_ => h_.1))) (Kd.R_base ho0) hb); have n1_ := Aside0.mk (Kd.S_mono (Kd.S_told (Kd.S_told (Kd.S_old (by (with_reducible repeat (first | apply Kd.S_alloc | apply Kd.S_drewN | apply Kd.S_drew)); exact (Kd.S_mono (Kd.S_far (p := ⟨gb558, 4, none⟩) (Kd.S_far (p := ⟨gb558, 3, none⟩) (Kd.S_far (p := ⟨gb558, 2, none⟩) (Kd.S_far (p := ⟨gb558, 1, none⟩) (Kd.S_far (p := ⟨gb558, 0, none⟩) (Kd.S_types HO538.out BK558.out (by decide)) (fun _ hk => hk.2) (.int .i64 t549)) (fun _ hk => hk.2) (.slice Ao53 t550.length co53)) (fun _ hk => hk.2) (.int .i64 t553)) (fun _ hk => hk.2) (.int .i64 t554)) (fun _ hk => hk.2) (.slice Ao54 t555.length co54)) (fun _ h_ => h_.1))) hb) (Kd.R_base ho0)) (Kd.S_base ho1)) (fun _ h_ => h_.1)); have n2_ := Aside0.mk (Kd.R_elder' (by (with_reducible repeat (first | apply Kd.R_alloc | apply Kd.R_drewN | apply Kd.R_drew)); exact (Kd.R_mono (Kd.R_far (p := ⟨gb558, 4, none⟩) (Kd.R_far (p := ⟨gb558, 3, none⟩) (Kd.R_far (p := ⟨gb558, 2, none⟩) (Kd.R_far (p := ⟨gb558, 1, none⟩) (Kd.R_far (p := ⟨gb558, 0, none⟩) (Kd.R_types HO542.out BK558.out (by decide)) (fun _ hk => hk.2) (.int .i64 t549)) (fun _ hk => hk.2) (.slice Ao53 t550.length co53)) (fun _ hk => hk.2) (.int .i64 t553)) (fun _ hk => hk.2) (.int .i64 t554)) (fun _ hk => hk.2) (.slice Ao54 t555.length co54)) (fun _ h_ => h_.1))) (Kd.R_base ho0) hb); have n3_ := Aside0.mk (Kd.S_mono (Kd.S_told (Kd.S_told (Kd.S_old (by (with_reducible repeat (first | apply Kd.S_alloc | apply Kd.S_drewN | apply Kd.S_drew)); exact (Kd.S_mono (Kd.S_far (p := ⟨gb558, 4, none⟩) (Kd.S_far (p := ⟨gb558, 3, none⟩) (Kd.S_far (p := ⟨gb558, 2, none⟩) (Kd.S_far (p := ⟨gb558, 1, none⟩) (Kd.S_far (p := ⟨gb558, 0, none⟩) (Kd.S_types HO547.out BK558.out (by decide)) (fun _ hk => hk.2) (.int .i64 t549)) (fun _ hk => hk.2) (.slice Ao53 t550.length co53)) (fun _ hk => hk.2) (.int .i64 t553)) (fun _ hk => hk.2) (.int .i64 t554)) (fun _ hk => hk.2) (.slice Ao54 t555.length co54)) (fun _ h_ => h_.1))) hb) (Kd.R_base ho0)) (Kd.S_base ho1)) (fun _ h_ => h_.1)); have n4_ := Aside0.mk (Kd.R_elder' (by (with_reducible repeat (first | apply Kd.R_alloc | apply Kd.R_drewN | apply Kd.R_drew)); exact (Kd.R_mono (Kd.R_far (p := ⟨gb558, 4, none⟩) (Kd.R_far (p := ⟨gb558, 3, none⟩) (Kd.R_far (p := ⟨gb558, 2, none⟩) (Kd.R_far (p := ⟨gb558, 1, none⟩) (Kd.R_far (p := ⟨gb558, 0, none⟩) (Kd.R_types HO552.out BK558.out (by decide)) (fun _ hk => hk.2) (.int .i64 t549)) (fun _ hk => hk.2) (.slice Ao53 t550.length co53)) (fun _ hk => hk.2) (.int .i64 t553)) (fun _ hk => hk.2) (.int .i64 t554)) (fun _ hk => hk.2) (.slice Ao54 t555.length co54)) (fun _ h_ => h_.1))) (Kd.R_base ho0) hb); have n5_ := Aside0.mk (Kd.S_mono (Kd.S_told (Kd.S_told (Kd.S_old (by (with_reducible repeat (first | apply Kd.S_alloc | apply Kd.S_drewN | apply Kd.S_drew)); exact (Kd.S_mono (Kd.S_far (p := ⟨gb558, 4, none⟩) (Kd.S_far (p := ⟨gb558, 3, none⟩) (Kd.S_far (p := ⟨gb558, 2, none⟩) (Kd.S_far (p := ⟨gb558, 1, none⟩) (Kd.S_far (p := ⟨gb558, 0, none⟩) (Kd.S_types HO557.out BK558.out (by decide)) (fun _ hk => hk.2) (.int .i64 t549)) (fun _ hk => hk.2) (.slice Ao53 t550.length co53)) (fun _ hk => hk.2) (.int .i64 t553)) (fun _ hk => hk.2) (.int .i64 t554)) (fun _ hk => hk.2) (.slice Ao54 t555.length co54)) (fun _ h_ => h_.1))) hb) (Kd.R_base ho0)) (Kd.S_base ho1)) (fun _ h_ => h_.1)); have n6_ := Aside0.mk (Kd.R_lower (Kd.R_new' (Kd.R_new' (Kd.R_new' ho0 (Kd.R_lt (by (with_reducible repeat (first | apply Kd.R_alloc | apply Kd.R_drewN | apply Kd.R_drew)); exact (Kd.R_mono (Kd.R_far (p := ⟨gb558, 4, none⟩) (Kd.R_far (p := ⟨gb558, 3, none⟩) (Kd.R_far (p := ⟨gb558, 2, none⟩) (Kd.R_far (p := ⟨gb558, 1, none⟩) (Kd.R_far (p := ⟨gb558, 0, none⟩) (Kd.R_types HO533.out BK558.out (by decide)) (fun _ hk => hk.2) (.int .i64 t549)) (fun _ hk => hk.2) (.slice Ao53 t550.length co53)) (fun _ hk => hk.2) (.int .i64 t553)) (fun _ hk => hk.2) (.int .i64 t554)) (fun _ hk => hk.2) (.slice Ao54 t555.length co54)) (fun _ h_ => h_.1))))) (Kd.R_lt (by (with_reducible repeat (first | apply Kd.R_alloc | apply Kd.R_drewN | apply Kd.R_drew)); exact (Kd.R_mono (Kd.R_far (p := ⟨gb558, 4, none⟩) (Kd.R_far (p := ⟨gb558, 3, none⟩) (Kd.R_far (p := ⟨gb558, 2, none⟩) (Kd.R_far (p := ⟨gb558, 1, none⟩) (Kd.R_far (p := ⟨gb558, 0, none⟩) (Kd.R_types HO542.out BK558.out (by decide)) (fun _ hk => hk.2) (.int .i64 t549)) (fun _ hk => hk.2) (.slice Ao53 t550.length co53)) (fun _ hk => hk.2) (.int .i64 t553)) (fun _ hk => hk.2) (.int .i64 t554)) (fun _ hk => hk.2) (.slice Ao54 t555.length co54)) (fun _ h_ => h_.1))))) (Kd.R_lt (by (with_reducible repeat (first | apply Kd.R_alloc | apply Kd.R_drewN | apply Kd.R_drew)); exact (Kd.R_mono (Kd.R_far (p := ⟨gb558, 4, none⟩) (Kd.R_far (p := ⟨gb558, 3, none⟩) (Kd.R_far (p := ⟨gb558, 2, none⟩) (Kd.R_far (p := ⟨gb558, 1, none⟩) (Kd.R_far (p := ⟨gb558, 0, none⟩) (Kd.R_types HO552.out BK558.out (by decide)) (fun _ hk => hk.2) (.int .i64 t549)) (fun _ hk => hk.2) (.slice Ao53 t550.length co53)) (fun _ hk => hk.2) (.int .i64 t553)) (fun _ hk => hk.2) (.int .i64 t554)) (fun _ hk => hk.2) (.slice Ao54 t555.length co54)) (fun _ h_ => h_.1))))) (below_size (by repeat (first | (with_reducible first | exact HB.out | apply below_alloc | apply pw_below_drewN | apply below_drew1 | refine below_set ?_ GE526.out | refine below_set ?_ GE527.out | refine below_set ?_ GE558.out) | exact HB.out)))); have n7_ := Aside0.mk (Kd.S_lower (Kd.S_new' (Kd.S_new' (Kd.S_new' (Kd.S_new' (Kd.S_new' (Kd.S_new' ho1 (Kd.R_lt (by (with_reducible repeat (first | apply Kd.R_alloc | apply Kd.R_drewN | apply Kd.R_drew)); exact (Kd.R_mono (Kd.R_far (p := ⟨gb558, 4, none⟩) (Kd.R_far (p := ⟨gb558, 3, none⟩) (Kd.R_far (p := ⟨gb558, 2, none⟩) (Kd.R_far (p := ⟨gb558, 1, none⟩) (Kd.R_far (p := ⟨gb558, 0, none⟩) (Kd.R_types HO533.out BK558.out (by decide)) (fun _ hk => hk.2) (.int .i64 t549)) (fun _ hk => hk.2) (.slice Ao53 t550.length co53)) (fun _ hk => hk.2) (.int .i64 t553)) (fun _ hk => hk.2) (.int .i64 t554)) (fun _ hk => hk.2) (.slice Ao54 t555.length co54)) (fun _ h_ => h_.1))))) (Kd.S_lt (by (with_reducible repeat (first | apply Kd.S_alloc | apply Kd.S_drewN | apply Kd.S_drew)); exact (Kd.S_mono (Kd.S_far (p := ⟨gb558, 4, none⟩) (Kd.S_far (p := ⟨gb558, 3, none⟩) (Kd.S_far (p := ⟨gb558, 2, none⟩) (Kd.S_far (p := ⟨gb558, 1, none⟩) (Kd.S_far (p := ⟨gb558, 0, none⟩) (Kd.S_types HO538.out BK558.out (by decide)) (fun _ hk => hk.2) (.int .i64 t549)) (fun _ hk => hk.2) (.slice Ao53 t550.length co53)) (fun _ hk => hk.2) (.int .i64 t553)) (fun _ hk => hk.2) (.int .i64 t554)) (fun _ hk => hk.2) (.slice Ao54 t555.length co54)) (fun _ h_ => h_.1))))) (Kd.R_lt (by (with_reducible repeat (first | apply Kd.R_alloc | apply Kd.R_drewN | apply Kd.R_drew)); exact (Kd.R_mono (Kd.R_far (p := ⟨gb558, 4, none⟩) (Kd.R_far (p := ⟨gb558, 3, none⟩) (Kd.R_far (p := ⟨gb558, 2, none⟩) (Kd.R_far (p := ⟨gb558, 1, none⟩) (Kd.R_far (p := ⟨gb558, 0, none⟩) (Kd.R_types HO542.out BK558.out (by decide)) (fun _ hk => hk.2) (.int .i64 t549)) (fun _ hk => hk.2) (.slice Ao53 t550.length co53)) (fun _ hk => hk.2) (.int .i64 t553)) (fun _ hk => hk.2) (.int .i64 t554)) (fun _ hk => hk.2) (.slice Ao54 t555.length co54)) (fun _ h_ => h_.1))))) (Kd.S_lt (by (with_reducible repeat (first | apply Kd.S_alloc | apply Kd.S_drewN | apply Kd.S_drew)); exact (Kd.S_mono (Kd.S_far (p := ⟨gb558, 4, none⟩) (Kd.S_far (p := ⟨gb558, 3, none⟩) (Kd.S_far (p := ⟨gb558, 2, none⟩) (Kd.S_far (p := ⟨gb558, 1, none⟩) (Kd.S_far (p := ⟨gb558, 0, none⟩) (Kd.S_types HO547.out BK558.out (by decide)) (fun _ hk => hk.2) (.int .i64 t549)) (fun _ hk => hk.2) (.slice Ao53 t550.length co53)) (fun _ hk => hk.2) (.int .i64 t553)) (fun _ hk => hk.2) (.int .i64 t554)) (fun _ hk => hk.2) (.slice Ao54 t555.length co54)) (fun _ h_ => h_.1))))) (Kd.R_lt (by (with_reducible repeat (first | apply Kd.R_alloc | apply Kd.R_drewN | apply Kd.R_drew)); exact (Kd.R_mono (Kd.R_far (p := ⟨gb558, 4, none⟩) (Kd.R_far (p := ⟨gb558, 3, none⟩) (Kd.R_far (p := ⟨gb558, 2, none⟩) (Kd.R_far (p := ⟨gb558, 1, none⟩) (Kd.R_far (p := ⟨gb558, 0, none⟩) (Kd.R_types HO552.out BK558.out (by decide)) (fun _ hk => hk.2) (.int .i64 t549)) (fun _ hk => hk.2) (.slice Ao53 t550.length co53)) (fun _ hk => hk.2) (.int .i64 t553)) (fun _ hk => hk.2) (.int .i64 t554)) (fun _ hk => hk.2) (.slice Ao54 t555.length co54)) (fun _ h_ => h_.1))))) (Kd.S_lt (by (with_reducible repeat (first | apply Kd.S_alloc | apply Kd.S_drewN | apply Kd.S_drew)); exact (Kd.S_mono (Kd.S_far (p := ⟨gb558, 4, none⟩) (Kd.S_far (p := ⟨gb558, 3, none⟩) (Kd.S_far (p := ⟨gb558, 2, none⟩) (Kd.S_far (p := ⟨gb558, 1, none⟩) (Kd.S_far (p := ⟨gb558, 0, none⟩) (Kd.S_types HO557.out BK558.out (by decide)) (fun _ hk => hk.2) (.int .i64 t549)) (fun _ hk => hk.2) (.slice Ao53 t550.length co53)) (fun _ hk => hk.2) (.int .i64 t553)) (fun _ hk => hk.2) (.int .i64 t554)) (fun _ hk => hk.2) (.slice Ao54 t555.length co54)) (fun _ h_ => h_.1))))) (below_size (by repeat (first | (with_reducible first | exact HB.out | apply below_alloc | apply pw_below_drewN | apply below_drew1 | refine below_set ?_ GE526.out | refine below_set ?_ GE527.out | refine below_set ?_ GE558.out) | exact HB.out)))); have n8_ := Aside0.mk (blk_below (g := gb526) (o := .cells #[.int .i64 a0_0, .slice A0_1 l0_1.length c0_1, .int .i64 a0_2, .int .i64 a0_3, .slice A0_4 l0_4.length c0_4] 64 (0, 0)) (by (with_reducible repeat (first | refine blk_drewN ?_ _ | refine blk_drew ?_ | refine blk_alloc ?_ _)); refine blk_far ?_ NB526_558.out _; (with_reducible repeat (first | refine blk_drewN ?_ _ | refine blk_drew ?_ | refine blk_alloc ?_ _)); refine blk_far ?_ NB526_558.out _; (with_reducible repeat (first | refine blk_drewN ?_ _ | refine blk_drew ?_ | refine blk_alloc ?_ _)); refine blk_far ?_ NB526_558.out _; (with_reducible repeat (first | refine blk_drewN ?_ _ | refine blk_drew ?_ | refine blk_alloc ?_ _)); refine blk_far ?_ NB526_558.out _; (with_reducible repeat (first | refine blk_drewN ?_ _ | refine blk_drew ?_ | refine blk_alloc ?_ _)); refine blk_far ?_ NB526_558.out _; (with_reducible repeat (first | refine blk_drewN ?_ _ | refine blk_drew ?_ | refine blk_alloc ?_ _)); exact BK526.out) hb); have n9_ := Aside0.mk (blk_below (g := gb527) (o := .cells #[.int .i64 a1_0, .slice A1_1 l1_1.length c1_1, .int .i64 a1_2, .int .i64 a1_3, .slice A1_4 l1_4.length c1_4] 64 (0, 0)) (by (with_reducible repeat (first | refine blk_drewN ?_ _ | refine blk_drew ?_ | refine blk_alloc ?_ _)); refine blk_far ?_ NB527_558.out _; (with_reducible repeat (first | refine blk_drewN ?_ _ | refine blk_drew ?_ | refine blk_alloc ?_ _)); refine blk_far ?_ NB527_558.out _; (with_reducible repeat (first | refine blk_drewN ?_ _ | refine blk_drew ?_ | refine blk_alloc ?_ _)); refine blk_far ?_ NB527_558.out _; (with_reducible repeat (first | refine blk_drewN ?_ _ | refine blk_drew ?_ | refine blk_alloc ?_ _)); refine blk_far ?_ NB527_558.out _; (with_reducible repeat (first | refine blk_drewN ?_ _ | refine blk_drew ?_ | refine blk_alloc ?_ _)); refine blk_far ?_ NB527_558.out _; (with_reducible repeat (first | refine blk_drewN ?_ _ | refine blk_drew ?_ | refine blk_alloc ?_ _)); exact BK527.out) hb); have n10_ := Aside0.mk (blk_below (g := gb558) (o := .cells #[.int .i64 t549, .slice Ao53 t550.length co53, .int .i64 t553, .int .i64 t554, .slice Ao54 t555.length co54] 68 (0, 0)) (by (with_reducible repeat (first | refine blk_drewN ?_ _ | refine blk_drew ?_ | refine blk_alloc ?_ _)); refine blk_put (cs := #[.int .i64 t549, .slice Ao53 t550.length co53, .int .i64 t553, .int .i64 t554, .slice none 0 0]) ?_ 4 _ rfl; (with_reducible repeat (first | refine blk_drewN ?_ _ | refine blk_drew ?_ | refine blk_alloc ?_ _)); refine blk_put (cs := #[.int .i64 t549, .slice Ao53 t550.length co53, .int .i64 t553, .int .i64 0, .slice none 0 0]) ?_ 3 _ rfl; (with_reducible repeat (first | refine blk_drewN ?_ _ | refine blk_drew ?_ | refine blk_alloc ?_ _)); refine blk_put (cs := #[.int .i64 t549, .slice Ao53 t550.length co53, .int .i64 0, .int .i64 0, .slice none 0 0]) ?_ 2 _ rfl; (with_reducible repeat (first | refine blk_drewN ?_ _ | refine blk_drew ?_ | refine blk_alloc ?_ _)); refine blk_put (cs := #[.int .i64 t549, .slice none 0 0, .int .i64 0, .int .i64 0, .slice none 0 0]) ?_ 1 _ rfl; (with_reducible repeat (first | refine blk_drewN ?_ _ | refine blk_drew ?_ | refine blk_alloc ?_ _)); refine blk_put (cs := #[.int .i64 0, .slice none 0 0, .int .i64 0, .int .i64 0, .slice none 0 0]) ?_ 0 _ rfl; (with_reducible repeat (first | refine blk_drewN ?_ _ | refine blk_drew ?_ | refine blk_alloc ?_ _)); exact BK558.out) hb); have n11_ := Aside0.mk (below_step (by repeat (first | (with_reducible first | exact HB.out | apply below_alloc | apply pw_below_drewN | apply below_drew1 | refine below_set ?_ GE526.out | refine below_set ?_ GE527.out | refine below_set ?_ GE558.out) | exact HB.out)) hb); clear HO533; clear HO538; clear HO542; clear HO547; clear HO552; clear HO557; clear BK526; clear BK527; clear BK558; clear HB; have HO533 := n0_; have HO538 := n1_; have HO542 := n2_; have HO547 := n3_; have HO552 := n4_; have HO557 := n5_; have HO562 := n6_; have HO567 := n7_; have BK526 := n8_; have BK527 := n9_; have BK558 := n10_; have HB := n11_; clear n0_ n1_ n2_ n3_ n4_ n5_ n6_ n7_ n8_ n9_ n10_ n11_; (try clear hb); (try clear hb2); (try clear hk); (try clear hi); (try clear ho0); (try clear ho1)) | ((with_reducible refine gate_dst (N := 8) rfl ?_); refine box_event ?hg (N := 8) ?hd (cs := #[.int .i64 0, .slice none 0 0, .int .i64 0, .int .i64 0, .slice none 0 0]) (t := 68) ?hr ?_; (case hd => rfl); (case hg => rfl); (case hr => first | (go_simp; done) | (go_simp; rfl)); intro gb568 hg w57 hbox hb; have n0_ := Aside0.mk (Kd.R_below (by (with_reducible repeat (first | apply Kd.R_alloc | apply Kd.R_drewN | apply Kd.R_drew)); exact HO533.out) hb); have n1_ := Aside0.mk (Kd.S_below (by (with_reducible repeat (first | apply Kd.S_alloc | apply Kd.S_drewN | apply Kd.S_drew)); exact HO538.out) hb); have n2_ := Aside0.mk (Kd.R_below (by (with_reducible repeat (first | apply Kd.R_alloc | apply Kd.R_drewN | apply Kd.R_drew)); exact HO542.out) hb); have n3_ := Aside0.mk (Kd.S_below (by (with_reducible repeat (first | apply Kd.S_alloc | apply Kd.S_drewN | apply Kd.S_drew)); exact HO547.out) hb); have n4_ := Aside0.mk (Kd.R_below (by (with_reducible repeat (first | apply Kd.R_alloc | apply Kd.R_drewN | apply Kd.R_drew)); exact HO552.out) hb); have n5_ := Aside0.mk (Kd.S_below (by (with_reducible repeat (first | apply Kd.S_alloc | apply Kd.S_drewN | apply Kd.S_drew)); exact HO557.out) hb); have n6_ := Aside0.mk (Kd.R_below (by (with_reducible repeat (first | apply Kd.R_alloc | apply Kd.R_drewN | apply Kd.R_drew)); exact HO562.out) hb); have n7_ := Aside0.mk (Kd.S_below (by (with_reducible repeat (first | apply Kd.S_alloc | apply Kd.S_drewN | apply Kd.S_drew)); exact HO567.out) hb); have n8_ := Aside0.mk (blk_below (g := gb526) (o := .cells #[.int .i64 a0_0, .slice A0_1 l0_1.length c0_1, .int .i64 a0_2, .int .i64 a0_3, .slice A0_4 l0_4.length c0_4] 64 (0, 0)) (by (with_reducible repeat (first | refine blk_drewN ?_ _ | refine blk_drew ?_ | refine blk_alloc ?_ _)); exact BK526.out) hb); have n9_ := Aside0.mk (blk_below (g := gb527) (o := .cells #[.int .i64 a1_0, .slice A1_1 l1_1.length c1_1, .int .i64 a1_2, .int .i64 a1_3, .slice A1_4 l1_4.length c1_4] 64 (0, 0)) (by (with_reducible repeat (first | refine blk_drewN ?_ _ | refine blk_drew ?_ | refine blk_alloc ?_ _)); exact BK527.out) hb); have n10_ := Aside0.mk (blk_below (g := gb558) (o := .cells #[.int .i64 t549, .slice Ao53 t550.length co53, .int .i64 t553, .int .i64 t554, .slice Ao54 t555.length co54] 68 (0, 0)) (by (with_reducible repeat (first | refine blk_drewN ?_ _ | refine blk_drew ?_ | refine blk_alloc ?_ _)); exact BK558.out) hb); have n11_ := Aside0.mk (below_step (by repeat (first | (with_reducible first | exact HB.out | apply below_alloc | apply pw_below_drewN | apply below_drew1 | refine below_set ?_ GE526.out | refine below_set ?_ GE527.out | refine below_set ?_ GE558.out) | exact HB.out)) hb); have n12_ := Aside0.mk (hbox); have n13_ := Aside0.mk ((by rw [hg]; exact (below_size (by repeat (first | (with_reducible first | exact HB.out | apply below_alloc | apply pw_below_drewN | apply below_drew1 | refine below_set ?_ GE526.out | refine below_set ?_ GE527.out | refine below_set ?_ GE558.out) | exact HB.out))) : w.heap.size ≤ gb568)); have n14_ := Aside0.mk ((by rw [hg]; exact (below_size (by repeat (first | (with_reducible first | exact HB.out | apply below_alloc | apply pw_below_drewN | apply below_drew1 | refine below_set ?_ GE526.out | refine below_set ?_ GE527.out | refine below_set ?_ GE558.out) | exact HB.out))) : w.heap.size ≤ gb568)); have n15_ := Aside0.mk ((by rw [hg]; exact Nat.ne_of_lt (blk_lt (g := gb526) (o := .cells #[.int .i64 a0_0, .slice A0_1 l0_1.length c0_1, .int .i64 a0_2, .int .i64 a0_3, .slice A0_4 l0_4.length c0_4] 64 (0, 0)) (by (with_reducible repeat (first | refine blk_drewN ?_ _ | refine blk_drew ?_ | refine blk_alloc ?_ _)); exact BK526.out)) : gb526 ≠ gb568)); have n16_ := Aside0.mk ((by rw [hg]; exact Nat.ne_of_gt (blk_lt (g := gb526) (o := .cells #[.int .i64 a0_0, .slice A0_1 l0_1.length c0_1, .int .i64 a0_2, .int .i64 a0_3, .slice A0_4 l0_4.length c0_4] 64 (0, 0)) (by (with_reducible repeat (first | refine blk_drewN ?_ _ | refine blk_drew ?_ | refine blk_alloc ?_ _)); exact BK526.out)) : gb568 ≠ gb526)); have n17_ := Aside0.mk ((by rw [hg]; exact Nat.ne_of_lt (blk_lt (g := gb527) (o := .cells #[.int .i64 a1_0, .slice A1_1 l1_1.length c1_1, .int .i64 a1_2, .int .i64 a1_3, .slice A1_4 l1_4.length c1_4] 64 (0, 0)) (by (with_reducible repeat (first | refine blk_drewN ?_ _ | refine blk_drew ?_ | refine blk_alloc ?_ _)); exact BK527.out)) : gb527 ≠ gb568)); have n18_ := Aside0.mk ((by rw [hg]; exact Nat.ne_of_gt (blk_lt (g := gb527) (o := .cells #[.int .i64 a1_0, .slice A1_1 l1_1.length c1_1, .int .i64 a1_2, .int .i64 a1_3, .slice A1_4 l1_4.length c1_4] 64 (0, 0)) (by (with_reducible repeat (first | refine blk_drewN ?_ _ | refine blk_drew ?_ | refine blk_alloc ?_ _)); exact BK527.out)) : gb568 ≠ gb527)); have n19_ := Aside0.mk ((by rw [hg]; exact Nat.ne_of_lt (blk_lt (g := gb558) (o := .cells #[.int .i64 t549, .slice Ao53 t550.length co53, .int .i64 t553, .int .i64 t554, .slice Ao54 t555.length co54] 68 (0, 0)) (by (with_reducible repeat (first | refine blk_drewN ?_ _ | refine blk_drew ?_ | refine blk_alloc ?_ _)); exact BK558.out)) : gb558 ≠ gb568)); have n20_ := Aside0.mk ((by rw [hg]; exact Nat.ne_of_gt (blk_lt (g := gb558) (o := .cells #[.int .i64 t549, .slice Ao53 t550.length co53, .int .i64 t553, .int .i64 t554, .slice Ao54 t555.length co54] 68 (0, 0)) (by (with_reducible repeat (first | refine blk_drewN ?_ _ | refine blk_drew ?_ | refine blk_alloc ?_ _)); exact BK558.out)) : gb568 ≠ gb558)); clear HO533; clear HO538; clear HO542; clear HO547; clear HO552; clear HO557; clear HO562; clear HO567; clear BK526; clear BK527; clear BK558; clear HB; have HO533 := n0_; have HO538 := n1_; have HO542 := n2_; have HO547 := n3_; have HO552 := n4_; have HO557 := n5_; have HO562 := n6_; have HO567 := n7_; have BK526 := n8_; have BK527 := n9_; have BK558 := n10_; have HB := n11_; have BK568 := n12_; have GW568 := n13_; have GE568 := n14_; have NB526_568 := n15_; have NB568_526 := n16_; have NB527_568 := n17_; have NB568_527 := n18_; have NB558_568 := n19_; have NB568_558 := n20_; clear n0_ n1_ n2_ n3_ n4_ n5_ n6_ n7_ n8_ n9_ n10_ n11_ n12_ n13_ n14_ n15_ n16_ n17_ n18_ n19_ n20_; clear hb hbox hg; have hnb58 := NB568_526.out; have hnc58 := NB526_568.out; have hnb59 := NB568_527.out; have hnc59 := NB527_568.out; have hnb60 := NB568_558.out; have hnc60 := NB558_568.out; have hcz61_0 : w57.cell? ⟨gb568, 0, none⟩ = some (.int .i64 0) := (blk_cell BK568.out 0).trans rfl; have hcz61_1 : w57.cell? ⟨gb568, 1, none⟩ = some (.slice none 0 0) := (blk_cell BK568.out 1).trans rfl; have hcz61_2 : w57.cell? ⟨gb568, 2, none⟩ = some (.int .i64 0) := (blk_cell BK568.out 2).trans rfl; have hcz61_3 : w57.cell? ⟨gb568, 3, none⟩ = some (.int .i64 0) := (blk_cell BK568.out 3).trans rfl; have hcz61_4 : w57.cell? ⟨gb568, 4, none⟩ = some (.slice none 0 0) := (blk_cell BK568.out 4).trans rfl; have hfz61_0 := blk_frozen BK568.out 0; have hfz61_1 := blk_frozen BK568.out 1; have hfz61_2 := blk_frozen BK568.out 2; have hfz61_3 := blk_frozen BK568.out 3; have hfz61_4 := blk_frozen BK568.out 4; obtain ⟨Ao62, co62, eo62⟩ := Kd.R_slice HO562.out; subst eo62; obtain ⟨Ao63, co63, eo63⟩ := Kd.S_slice HO567.out; subst eo63; have hcz64_0 : w57.cell? ⟨gb558, 0, none⟩ = some (.int .i64 t549) := (blk_cell BK558.out 0).trans rfl; have hcz64_1 : w57.cell? ⟨gb558, 1, none⟩ = some (.slice Ao53 t550.length co53) := (blk_cell BK558.out 1).trans rfl; have hcz64_2 : w57.cell? ⟨gb558, 2, none⟩ = some (.int .i64 t553) := (blk_cell BK558.out 2).trans rfl; have hcz64_3 : w57.cell? ⟨gb558, 3, none⟩ = some (.int .i64 t554) := (blk_cell BK558.out 3).trans rfl; have hcz64_4 : w57.cell? ⟨gb558, 4, none⟩ = some (.slice Ao54 t555.length co54) := (blk_cell BK558.out 4).trans rfl; have hfz64_0 := blk_frozen BK558.out 0; have hfz64_1 := blk_frozen BK558.out 1; have hfz64_2 := blk_frozen BK558.out 2; have hfz64_3 := blk_frozen BK558.out 3; have hfz64_4 := blk_frozen BK558.out 4) | ((with_reducible refine gate_callee (f := 40) rfl ?_); refine goesL_ (some 31) rfl rfl Try.func40 (by kernel_rfl) rfl #[.agg #[.int .i64 t549, .slice Ao53 t550.length co53, .int .i64 t553, .int .i64 t554, .slice Ao54 t555.length co54], .agg #[.int .i64 t559, .slice Ao62 t560.length co62, .int .i64 t563, .int .i64 t564, .slice Ao63 t565.length co63]] rfl (by (try simp only [List.map_toArray, List.map_cons, List.map_nil]); first | done | rfl | (simp only [List.length_drop, List.length_take]; rfl)) ?_; (with_reducible refine (impl_SameGroup.calls k t549 _ _ t550 t553 t554 _ _ t555 t559 _ _ t560 t563 t564 _ _ t565 t569 _ ?side1 ?side2 ?side3 ?side4 ?side5 ?side6 ?side7 ?side8 A24.out).mono ?_); (case side1 => refine (Kd.R_reads' (e := 116) (base := w.heap.size) (ok := fun k_ => (((True ∧ some k_ ≠ (.slice Ao42 t531.length co42 : Value).ownBlock) ∧ some k_ ≠ (.slice Ao44 t540.length co44 : Value).ownBlock) ∧ some k_ ≠ (.slice Ao62 t560.length co62 : Value).ownBlock)) (n := t550.length) (c := co53) ?_).2.2; exact (by (with_reducible repeat (first | apply Kd.R_alloc | apply Kd.R_drewN | apply Kd.R_drew)); exact (Kd.R_mono (Kd.R_far (p := ⟨gb568, 4, none⟩) (Kd.R_far (p := ⟨gb568, 3, none⟩) (Kd.R_far (p := ⟨gb568, 2, none⟩) (Kd.R_far (p := ⟨gb568, 1, none⟩) (Kd.R_far (p := ⟨gb568, 0, none⟩) (Kd.R_types HO552.out BK568.out (by decide)) (fun _ hk => hk.2) (.int .i64 t559)) (fun _ hk => hk.2) (.slice Ao62 t560.length co62)) (fun _ hk => hk.2) (.int .i64 t563)) (fun _ hk => hk.2) (.int .i64 t564)) (fun _ hk => hk.2) (.slice Ao63 t565.length co63)) (fun _ h_ => h_.1)))); (case side2 => exact (Kd.R_reads' HO552.out).2.1); (case side3 => refine (Kd.S_reads' (e := 57) (base := w.heap.size) (ok := fun k_ => ((((((some k_ ≠ (.slice Ao53 t550.length co53 : Value).ownBlock ∧ some k_ ≠ (.slice Ao42 t531.length co42 : Value).ownBlock) ∧ some k_ ≠ (.slice Ao43 t536.length co43 : Value).ownBlock) ∧ some k_ ≠ (.slice Ao44 t540.length co44 : Value).ownBlock) ∧ some k_ ≠ (.slice Ao45 t545.length co45 : Value).ownBlock) ∧ some k_ ≠ (.slice Ao62 t560.length co62 : Value).ownBlock) ∧ some k_ ≠ (.slice Ao63 t565.length co63 : Value).ownBlock)) (n := t555.length) (c := co54) ?_).2.2; exact (by (with_reducible repeat (first | apply Kd.S_alloc | apply Kd.S_drewN | apply Kd.S_drew)); exact (Kd.S_mono (Kd.S_far (p := ⟨gb568, 4, none⟩) (Kd.S_far (p := ⟨gb568, 3, none⟩) (Kd.S_far (p := ⟨gb568, 2, none⟩) (Kd.S_far (p := ⟨gb568, 1, none⟩) (Kd.S_far (p := ⟨gb568, 0, none⟩) (Kd.S_types HO557.out BK568.out (by decide)) (fun _ hk => hk.2) (.int .i64 t559)) (fun _ hk => hk.2) (.slice Ao62 t560.length co62)) (fun _ hk => hk.2) (.int .i64 t563)) (fun _ hk => hk.2) (.int .i64 t564)) (fun _ hk => hk.2) (.slice Ao63 t565.length co63)) (fun _ h_ => h_.1)))); (case side4 => exact (Kd.S_reads' HO557.out).2.1); (case side5 => refine (Kd.R_reads' (e := 116) (base := w.heap.size) (ok := fun k_ => (((True ∧ some k_ ≠ (.slice Ao42 t531.length co42 : Value).ownBlock) ∧ some k_ ≠ (.slice Ao44 t540.length co44 : Value).ownBlock) ∧ some k_ ≠ (.slice Ao53 t550.length co53 : Value).ownBlock)) (n := t560.length) (c := co62) ?_).2.2; exact (by (with_reducible repeat (first | apply Kd.R_alloc | apply Kd.R_drewN | apply Kd.R_drew)); exact (Kd.R_mono (Kd.R_far (p := ⟨gb568, 4, none⟩) (Kd.R_far (p := ⟨gb568, 3, none⟩) (Kd.R_far (p := ⟨gb568, 2, none⟩) (Kd.R_far (p := ⟨gb568, 1, none⟩) (Kd.R_far (p := ⟨gb568, 0, none⟩) (Kd.R_types HO562.out BK568.out (by decide)) (fun _ hk => hk.2) (.int .i64 t559)) (fun _ hk => hk.2) (.slice Ao62 t560.length co62)) (fun _ hk => hk.2) (.int .i64 t563)) (fun _ hk => hk.2) (.int .i64 t564)) (fun _ hk => hk.2) (.slice Ao63 t565.length co63)) (fun _ h_ => h_.1)))); (case side6 => exact (Kd.R_reads' HO562.out).2.1); (case side7 => refine (Kd.S_reads' (e := 57) (base := w.heap.size) (ok := fun k_ => ((((((some k_ ≠ (.slice Ao62 t560.length co62 : Value).ownBlock ∧ some k_ ≠ (.slice Ao42 t531.length co42 : Value).ownBlock) ∧ some k_ ≠ (.slice Ao43 t536.length co43 : Value).ownBlock) ∧ some k_ ≠ (.slice Ao44 t540.length co44 : Value).ownBlock) ∧ some k_ ≠ (.slice Ao45 t545.length co45 : Value).ownBlock) ∧ some k_ ≠ (.slice Ao53 t550.length co53 : Value).ownBlock) ∧ some k_ ≠ (.slice Ao54 t555.length co54 : Value).ownBlock)) (n := t565.length) (c := co63) ?_).2.2; exact (by (with_reducible repeat (first | apply Kd.S_alloc | apply Kd.S_drewN | apply Kd.S_drew)); exact (Kd.S_mono (Kd.S_far (p := ⟨gb568, 4, none⟩) (Kd.S_far (p := ⟨gb568, 3, none⟩) (Kd.S_far (p := ⟨gb568, 2, none⟩) (Kd.S_far (p := ⟨gb568, 1, none⟩) (Kd.S_far (p := ⟨gb568, 0, none⟩) (Kd.S_types HO567.out BK568.out (by decide)) (fun _ hk => hk.2) (.int .i64 t559)) (fun _ hk => hk.2) (.slice Ao62 t560.length co62)) (fun _ hk => hk.2) (.int .i64 t563)) (fun _ hk => hk.2) (.int .i64 t564)) (fun _ hk => hk.2) (.slice Ao63 t565.length co63)) (fun _ h_ => h_.1)))); (case side8 => exact (Kd.S_reads' HO567.out).2.1); rintro e w65 ⟨rfl, hb⟩; refine ⟨_, rfl, ?_⟩; have n0_ := Aside0.mk (Kd.R_below (by (with_reducible repeat (first | apply Kd.R_alloc | apply Kd.R_drewN | apply Kd.R_drew)); exact (Kd.R_mono (Kd.R_far (p := ⟨gb568, 4, none⟩) (Kd.R_far (p := ⟨gb568, 3, none⟩) (Kd.R_far (p := ⟨gb568, 2, none⟩) (Kd.R_far (p := ⟨gb568, 1, none⟩) (Kd.R_far (p := ⟨gb568, 0, none⟩) (Kd.R_types HO533.out BK568.out (by decide)) (fun _ hk => hk.2) (.int .i64 t559)) (fun _ hk => hk.2) (.slice Ao62 t560.length co62)) (fun _ hk => hk.2) (.int .i64 t563)) (fun _ hk => hk.2) (.int .i64 t564)) (fun _ hk => hk.2) (.slice Ao63 t565.length co63)) (fun _ h_ => h_.1))) hb); have n1_ := Aside0.mk (Kd.S_below (by (with_reducible repeat (first | apply Kd.S_alloc | apply Kd.S_drewN | apply Kd.S_drew)); exact (Kd.S_mono (Kd.S_far (p := ⟨gb568, 4, none⟩) (Kd.S_far (p := ⟨gb568, 3, none⟩) (Kd.S_far (p := ⟨gb568, 2, none⟩) (Kd.S_far (p := ⟨gb568, 1, none⟩) (Kd.S_far (p := ⟨gb568, 0, none⟩) (Kd.S_types HO538.out BK568.out (by decide)) (fun _ hk => hk.2) (.int .i64 t559)) (fun _ hk => hk.2) (.slice Ao62 t560.length co62)) (fun _ hk => hk.2) (.int .i64 t563)) (fun _ hk => hk.2) (.int .i64 t564)) (fun _ hk => hk.2) (.slice Ao63 t565.length co63)) (fun _ h_ => h_.1))) hb); have n2_ := Aside0.mk (Kd.R_below (by (with_reducible repeat (first | apply Kd.R_alloc | apply Kd.R_drewN | apply Kd.R_drew)); exact (Kd.R_mono (Kd.R_far (p := ⟨gb568, 4, none⟩) (Kd.R_far (p := ⟨gb568, 3, none⟩) (Kd.R_far (p := ⟨gb568, 2, none⟩) (Kd.R_far (p := ⟨gb568, 1, none⟩) (Kd.R_far (p := ⟨gb568, 0, none⟩) (Kd.R_types HO542.out BK568.out (by decide)) (fun _ hk => hk.2) (.int .i64 t559)) (fun _ hk => hk.2) (.slice Ao62 t560.length co62)) (fun _ hk => hk.2) (.int .i64 t563)) (fun _ hk => hk.2) (.int .i64 t564)) (fun _ hk => hk.2) (.slice Ao63 t565.length co63)) (fun _ h_ => h_.1))) hb); have n3_ := Aside0.mk (Kd.S_below (by (with_reducible repeat (first | apply Kd.S_alloc | apply Kd.S_drewN | apply Kd.S_drew)); exact (Kd.S_mono (Kd.S_far (p := ⟨gb568, 4, none⟩) (Kd.S_far (p := ⟨gb568, 3, none⟩) (Kd.S_far (p := ⟨gb568, 2, none⟩) (Kd.S_far (p := ⟨gb568, 1, none⟩) (Kd.S_far (p := ⟨gb568, 0, none⟩) (Kd.S_types HO547.out BK568.out (by decide)) (fun _ hk => hk.2) (.int .i64 t559)) (fun _ hk => hk.2) (.slice Ao62 t560.length co62)) (fun _ hk => hk.2) (.int .i64 t563)) (fun _ hk => hk.2) (.int .i64 t564)) (fun _ hk => hk.2) (.slice Ao63 t565.length co63)) (fun _ h_ => h_.1))) hb); have n4_ := Aside0.mk (Kd.R_below (by (with_reducible repeat (first | apply Kd.R_alloc | apply Kd.R_drewN | apply Kd.R_drew)); exact (Kd.R_mono (Kd.R_far (p := ⟨gb568, 4, none⟩) (Kd.R_far (p := ⟨gb568, 3, none⟩) (Kd.R_far (p := ⟨gb568, 2, none⟩) (Kd.R_far (p := ⟨gb568, 1, none⟩) (Kd.R_far (p := ⟨gb568, 0, none⟩) (Kd.R_types HO552.out BK568.out (by decide)) (fun _ hk => hk.2) (.int .i64 t559)) (fun _ hk => hk.2) (.slice Ao62 t560.length co62)) (fun _ hk => hk.2) (.int .i64 t563)) (fun _ hk => hk.2) (.int .i64 t564)) (fun _ hk => hk.2) (.slice Ao63 t565.length co63)) (fun _ h_ => h_.1))) hb); have n5_ := Aside0.mk (Kd.S_below (by (with_reducible repeat (first | apply Kd.S_alloc | apply Kd.S_drewN | apply Kd.S_drew)); exact (Kd.S_mono (Kd.S_far (p := ⟨gb568, 4, none⟩) (Kd.S_far (p := ⟨gb568, 3, none⟩) (Kd.S_far (p := ⟨gb568, 2, none⟩) (Kd.S_far (p := ⟨gb568, 1, none⟩) (Kd.S_far (p := ⟨gb568, 0, none⟩) (Kd.S_types HO557.out BK568.out (by decide)) (fun _ hk => hk.2) (.int .i64 t559)) (fun _ hk => hk.2) (.slice Ao62 t560.length co62)) (fun _ hk => hk.2) (.int .i64 t563)) (fun _ hk => hk.2) (.int .i64 t564)) (fun _ hk => hk.2) (.slice Ao63 t565.length co63)) (fun _ h_ => h_.1))) hb); have n6_ := Aside0.mk (Kd.R_below (by (with_reducible repeat (first | apply Kd.R_alloc | apply Kd.R_drewN | apply Kd.R_drew)); exact (Kd.R_mono (Kd.R_far (p := ⟨gb568, 4, none⟩) (Kd.R_far (p := ⟨gb568, 3, none⟩) (Kd.R_far (p := ⟨gb568, 2, none⟩) (Kd.R_far (p := ⟨gb568, 1, none⟩) (Kd.R_far (p := ⟨gb568, 0, none⟩) (Kd.R_types HO562.out BK568.out (by decide)) (fun _ hk => hk.2) (.int .i64 t559)) (fun _ hk => hk.2) (.slice Ao62 t560.length co62)) (fun _ hk => hk.2) (.int .i64 t563)) (fun _ hk => hk.2) (.int .i64 t564)) (fun _ hk => hk.2) (.slice Ao63 t565.length co63)) (fun _ h_ => h_.1))) hb); have n7_ := Aside0.mk (Kd.S_below (by (with_reducible repeat (first | apply Kd.S_alloc | apply Kd.S_drewN | apply Kd.S_drew)); exact (Kd.S_mono (Kd.S_far (p := ⟨gb568, 4, none⟩) (Kd.S_far (p := ⟨gb568, 3, none⟩) (Kd.S_far (p := ⟨gb568, 2, none⟩) (Kd.S_far (p := ⟨gb568, 1, none⟩) (Kd.S_far (p := ⟨gb568, 0, none⟩) (Kd.S_types HO567.out BK568.out (by decide)) (fun _ hk => hk.2) (.int .i64 t559)) (fun _ hk => hk.2) (.slice Ao62 t560.length co62)) (fun _ hk => hk.2) (.int .i64 t563)) (fun _ hk => hk.2) (.int .i64 t564)) (fun _ hk => hk.2) (.slice Ao63 t565.length co63)) (fun _ h_ => h_.1))) hb); have n8_ := Aside0.mk (blk_below (g := gb526) (o := .cells #[.int .i64 a0_0, .slice A0_1 l0_1.length c0_1, .int .i64 a0_2, .int .i64 a0_3, .slice A0_4 l0_4.length c0_4] 64 (0, 0)) (by (with_reducible repeat (first | refine blk_drewN ?_ _ | refine blk_drew ?_ | refine blk_alloc ?_ _)); refine blk_far ?_ NB526_568.out _; (with_reducible repeat (first | refine blk_drewN ?_ _ | refine blk_drew ?_ | refine blk_alloc ?_ _)); refine blk_far ?_ NB526_568.out _; (with_reducible repeat (first | refine blk_drewN ?_ _ | refine blk_drew ?_ | refine blk_alloc ?_ _)); refine blk_far ?_ NB526_568.out _; (with_reducible repeat (first | refine blk_drewN ?_ _ | refine blk_drew ?_ | refine blk_alloc ?_ _)); refine blk_far ?_ NB526_568.out _; (with_reducible repeat (first | refine blk_drewN ?_ _ | refine blk_drew ?_ | refine blk_alloc ?_ _)); refine blk_far ?_ NB526_568.out _; (with_reducible repeat (first | refine blk_drewN ?_ _ | refine blk_drew ?_ | refine blk_alloc ?_ _)); exact BK526.out) hb); have n9_ := Aside0.mk (blk_below (g := gb527) (o := .cells #[.int .i64 a1_0, .slice A1_1 l1_1.length c1_1, .int .i64 a1_2, .int .i64 a1_3, .slice A1_4 l1_4.length c1_4] 64 (0, 0)) (by (with_reducible repeat (first | refine blk_drewN ?_ _ | refine blk_drew ?_ | refine blk_alloc ?_ _)); refine blk_far ?_ NB527_568.out _; (with_reducible repeat (first | refine blk_drewN ?_ _ | refine blk_drew ?_ | refine blk_alloc ?_ _)); refine blk_far ?_ NB527_568.out _; (with_reducible repeat (first | refine blk_drewN ?_ _ | refine blk_drew ?_ | refine blk_alloc ?_ _)); refine blk_far ?_ NB527_568.out _; (with_reducible repeat (first | refine blk_drewN ?_ _ | refine blk_drew ?_ | refine blk_alloc ?_ _)); refine blk_far ?_ NB527_568.out _; (with_reducible repeat (first | refine blk_drewN ?_ _ | refine blk_drew ?_ | refine blk_alloc ?_ _)); refine blk_far ?_ NB527_568.out _; (with_reducible repeat (first | refine blk_drewN ?_ _ | refine blk_drew ?_ | refine blk_alloc ?_ _)); exact BK527.out) hb); have n10_ := Aside0.mk (blk_below (g := gb558) (o := .cells #[.int .i64 t549, .slice Ao53 t550.length co53, .int .i64 t553, .int .i64 t554, .slice Ao54 t555.length co54] 68 (0, 0)) (by (with_reducible repeat (first | refine blk_drewN ?_ _ | refine blk_drew ?_ | refine blk_alloc ?_ _)); refine blk_far ?_ NB558_568.out _; (with_reducible repeat (first | refine blk_drewN ?_ _ | refine blk_drew ?_ | refine blk_alloc ?_ _)); refine blk_far ?_ NB558_568.out _; (with_reducible repeat (first | refine blk_drewN ?_ _ | refine blk_drew ?_ | refine blk_alloc ?_ _)); refine blk_far ?_ NB558_568.out _; (with_reducible repeat (first | refine blk_drewN ?_ _ | refine blk_drew ?_ | refine blk_alloc ?_ _)); refine blk_far ?_ NB558_568.out _; (with_reducible repeat (first | refine blk_drewN ?_ _ | refine blk_drew ?_ | refine blk_alloc ?_ _)); refine blk_far ?_ NB558_568.out _; (with_reducible repeat (first | refine blk_drewN ?_ _ | refine blk_drew ?_ | refine blk_alloc ?_ _)); exact BK558.out) hb); have n11_ := Aside0.mk (blk_below (g := gb568) (o := .cells #[.int .i64 t559, .slice Ao62 t560.length co62, .int .i64 t563, .int .i64 t564, .slice Ao63 t565.length co63] 68 (0, 0)) (by (with_reducible repeat (first | refine blk_drewN ?_ _ | refine blk_drew ?_ | refine blk_alloc ?_ _)); refine blk_put (cs := #[.int .i64 t559, .slice Ao62 t560.length co62, .int .i64 t563, .int .i64 t564, .slice none 0 0]) ?_ 4 _ rfl; (with_reducible repeat (first | refine blk_drewN ?_ _ | refine blk_drew ?_ | refine blk_alloc ?_ _)); refine blk_put (cs := #[.int .i64 t559, .slice Ao62 t560.length co62, .int .i64 t563, .int .i64 0, .slice none 0 0]) ?_ 3 _ rfl; (with_reducible repeat (first | refine blk_drewN ?_ _ | refine blk_drew ?_ | refine blk_alloc ?_ _)); refine blk_put (cs := #[.int .i64 t559, .slice Ao62 t560.length co62, .int .i64 0, .int .i64 0, .slice none 0 0]) ?_ 2 _ rfl; (with_reducible repeat (first | refine blk_drewN ?_ _ | refine blk_drew ?_ | refine blk_alloc ?_ _)); refine blk_put (cs := #[.int .i64 t559, .slice none 0 0, .int .i64 0, .int .i64 0, .slice none 0 0]) ?_ 1 _ rfl; (with_reducible repeat (first | refine blk_drewN ?_ _ | refine blk_drew ?_ | refine blk_alloc ?_ _)); refine blk_put (cs := #[.int .i64 0, .slice none 0 0, .int .i64 0, .int .i64 0, .slice none 0 0]) ?_ 0 _ rfl; (with_reducible repeat (first | refine blk_drewN ?_ _ | refine blk_drew ?_ | refine blk_alloc ?_ _)); exact BK568.out) hb); have n12_ := Aside0.mk (below_step (by repeat (first | (with_reducible first | exact HB.out | apply below_alloc | apply pw_below_drewN | apply below_drew1 | refine below_set ?_ GE526.out | refine below_set ?_ GE527.out | refine below_set ?_ GE558.out | refine below_set ?_ GE568.out) | exact HB.out)) hb); clear HO533; clear HO538; clear HO542; clear HO547; clear HO552; clear HO557; clear HO562; clear HO567; clear BK526; clear BK527; clear BK558; clear BK568; clear HB; have HO533 := n0_; have HO538 := n1_; have HO542 := n2_; have HO547 := n3_; have HO552 := n4_; have HO557 := n5_; have HO562 := n6_; have HO567 := n7_; have BK526 := n8_; have BK527 := n9_; have BK558 := n10_; have BK568 := n11_; have HB := n12_; clear n0_ n1_ n2_ n3_ n4_ n5_ n6_ n7_ n8_ n9_ n10_ n11_ n12_; (try clear hb); (try clear hb2); (try clear hk); (try clear hi)))
      have n0_ := Aside0.mk (Kd.R_drew HO533.out)
      have n1_ := Aside0.mk (Kd.S_drew HO538.out)
      have n2_ := Aside0.mk (Kd.R_drew HO542.out)
      have n3_ := Aside0.mk (Kd.S_drew HO547.out)
      have n4_ := Aside0.mk (Kd.R_drew HO552.out)
      have n5_ := Aside0.mk (Kd.S_drew HO557.out)
      have n6_ := Aside0.mk (Kd.R_drew HO562.out)
      have n7_ := Aside0.mk (Kd.S_drew HO567.out)
      have n8_ := Aside0.mk (blk_drew BK526.out)
      have n9_ := Aside0.mk (blk_drew BK527.out)
      have n10_ := Aside0.mk (blk_drew BK558.out)
      have n11_ := Aside0.mk (blk_drew BK568.out)
      have n12_ := Aside0.mk (below_drew1 HB.out)
      clear HO533
      clear HO538
      clear HO542
      clear HO547
      clear HO552
      clear HO557
      clear HO562
      clear HO567
      clear BK526
      clear BK527
      clear BK558
      clear BK568
      clear HB
      have HO533 := n0_
      have HO538 := n1_
      have HO542 := n2_
      have HO547 := n3_
      have HO552 := n4_
      have HO557 := n5_
      have HO562 := n6_
      have HO567 := n7_
      have BK526 := n8_
      have BK527 := n9_
      have BK558 := n10_
      have BK568 := n11_
      have HB := n12_
      clear n0_ n1_ n2_ n3_ n4_ n5_ n6_ n7_ n8_ n9_ n10_ n11_ n12_
      refine start_ (n := 5) (S := fun w' => w'.cell? ⟨gb558, 0, none⟩ = some (.int .i64 t549) ∧ w'.cell? ⟨gb558, 1, none⟩ = some (.slice Ao53 t550.length co53) ∧ w'.cell? ⟨gb558, 2, none⟩ = some (.int .i64 t553) ∧ w'.cell? ⟨gb558, 3, none⟩ = some (.int .i64 t554) ∧ w'.cell? ⟨gb558, 4, none⟩ = some (.slice Ao54 t555.length co54) ∧ w'.cell? ⟨gb526, 0, none⟩ = some (.int .i64 a0_0) ∧ w'.cell? ⟨gb526, 1, none⟩ = some (.slice A0_1 l0_1.length c0_1) ∧ w'.cell? ⟨gb526, 2, none⟩ = some (.int .i64 a0_2) ∧ w'.cell? ⟨gb526, 3, none⟩ = some (.int .i64 a0_3) ∧ w'.cell? ⟨gb526, 4, none⟩ = some (.slice A0_4 l0_4.length c0_4)) (ds := []) #[false, false, false, false, false] (by kernel_rfl) rfl rfl ⟨(blk_cell BK558.out 0).trans rfl, (blk_cell BK558.out 1).trans rfl, (blk_cell BK558.out 2).trans rfl, (blk_cell BK558.out 3).trans rfl, (blk_cell BK558.out 4).trans rfl, (blk_cell BK526.out 0).trans rfl, (blk_cell BK526.out 1).trans rfl, (blk_cell BK526.out 2).trans rfl, (blk_cell BK526.out 3).trans rfl, (blk_cell BK526.out 4).trans rfl⟩ (fun hHeld => ?_)
      generalize w65.drew = w66 at HO533 HO538 HO542 HO547 HO552 HO557 HO562 HO567 BK526 BK527 BK558 BK568 HB hHeld ⊢
      refine take_ (i := 0) (N := some 35) (v := ?_) (a' := ?_) #[true, false, false, false, false] rfl rfl (by kernel_rfl) (fun _ _ _ h => h) (Or.inl ⟨by rfl, ?_⟩) hHeld ?_ ?_
      rotate_left
      ·
       rintro w' ⟨s0, s1, s2, s3, s4, s5, s6, s7, s8, s9⟩
       go_simp
       with_reducible rfl
      rotate_left
      ·
       simp only [Act.put, List.setIfInBounds_toArray, List.set_cons_zero, List.set_cons_succ, i64_w, i32_w]
       rfl
      refine take_ (i := 1) (N := some 36) (v := ?_) (a' := ?_) #[true, true, false, false, false] rfl rfl (by kernel_rfl) (fun _ _ _ h => h) (Or.inl ⟨by rfl, ?_⟩) hHeld ?_ ?_
      rotate_left
      ·
       rintro w' ⟨s0, s1, s2, s3, s4, s5, s6, s7, s8, s9⟩
       go_simp
       with_reducible rfl
      rotate_left
      ·
       simp only [Act.put, List.setIfInBounds_toArray, List.set_cons_zero, List.set_cons_succ, i64_w, i32_w]
       rfl
      refine one_ (i := 2) (N := some 37) #[true, true, true, false, false] rfl rfl (by kernel_rfl) (by decide) (fun K hK => ?_)
      refine goes_ Try.func39 (by kernel_rfl) rfl #[.agg #[.int .i64 a0_0, .slice A0_1 l0_1.length c0_1, .int .i64 a0_2, .int .i64 a0_3, .slice A0_4 l0_4.length c0_4]] (by rfl) rfl rfl (by (try simp only [List.map_toArray, List.map_cons, List.map_nil]); first | done | rfl | (simp only [List.length_drop, List.length_take]; rfl)) ?_
      with_reducible refine (laws_toGroup.calls k a0_0 _ _ l0_1 a0_2 a0_3 _ _ l0_4 t570 t571 t574 t575 t576 _ ?side1 ?side2 ?side3 ?side4 A26.out).mono ?_
      (case side1 => repeat (first | exact (Kd.C_below HR0_1.out HB.out) | (with_reducible refine Kd.C_alloc ?_ _) | (with_reducible refine Kd.C_drewN ?_ _) | (with_reducible refine Kd.C_drew ?_)))
      (case side2 => exact HC0_1.out)
      (case side3 => repeat (first | exact (Kd.C_below HR0_4.out HB.out) | (with_reducible refine Kd.C_alloc ?_ _) | (with_reducible refine Kd.C_drewN ?_ _) | (with_reducible refine Kd.C_drew ?_)))
      (case side4 => exact HC0_4.out)
      rintro e w67 ⟨v572, v577, rfl, ho0, ho1, hb⟩
      refine ⟨_, rfl, ?_⟩
      have n0_ := Aside0.mk (Kd.R_elder' (by (with_reducible repeat (first | apply Kd.R_alloc | apply Kd.R_drewN | apply Kd.R_drew)); exact HO533.out) (Kd.R_base ho0) hb)
      have n1_ := Aside0.mk (Kd.S_mono (Kd.S_told (Kd.S_told (Kd.S_old (by (with_reducible repeat (first | apply Kd.S_alloc | apply Kd.S_drewN | apply Kd.S_drew)); exact HO538.out) hb) (Kd.R_base ho0)) (Kd.S_base ho1)) (fun _ h_ => h_.1))
      have n2_ := Aside0.mk (Kd.R_elder' (by (with_reducible repeat (first | apply Kd.R_alloc | apply Kd.R_drewN | apply Kd.R_drew)); exact HO542.out) (Kd.R_base ho0) hb)
      have n3_ := Aside0.mk (Kd.S_mono (Kd.S_told (Kd.S_told (Kd.S_old (by (with_reducible repeat (first | apply Kd.S_alloc | apply Kd.S_drewN | apply Kd.S_drew)); exact HO547.out) hb) (Kd.R_base ho0)) (Kd.S_base ho1)) (fun _ h_ => h_.1))
      have n4_ := Aside0.mk (Kd.R_elder' (by (with_reducible repeat (first | apply Kd.R_alloc | apply Kd.R_drewN | apply Kd.R_drew)); exact HO552.out) (Kd.R_base ho0) hb)
      have n5_ := Aside0.mk (Kd.S_mono (Kd.S_told (Kd.S_told (Kd.S_old (by (with_reducible repeat (first | apply Kd.S_alloc | apply Kd.S_drewN | apply Kd.S_drew)); exact HO557.out) hb) (Kd.R_base ho0)) (Kd.S_base ho1)) (fun _ h_ => h_.1))
      have n6_ := Aside0.mk (Kd.R_elder' (by (with_reducible repeat (first | apply Kd.R_alloc | apply Kd.R_drewN | apply Kd.R_drew)); exact HO562.out) (Kd.R_base ho0) hb)
      have n7_ := Aside0.mk (Kd.S_mono (Kd.S_told (Kd.S_told (Kd.S_old (by (with_reducible repeat (first | apply Kd.S_alloc | apply Kd.S_drewN | apply Kd.S_drew)); exact HO567.out) hb) (Kd.R_base ho0)) (Kd.S_base ho1)) (fun _ h_ => h_.1))
      have n8_ := Aside0.mk (Kd.R_lower (Kd.R_new' (Kd.R_new' (Kd.R_new' (Kd.R_new' ho0 (Kd.R_lt (by (with_reducible repeat (first | apply Kd.R_alloc | apply Kd.R_drewN | apply Kd.R_drew)); exact HO533.out))) (Kd.R_lt (by (with_reducible repeat (first | apply Kd.R_alloc | apply Kd.R_drewN | apply Kd.R_drew)); exact HO542.out))) (Kd.R_lt (by (with_reducible repeat (first | apply Kd.R_alloc | apply Kd.R_drewN | apply Kd.R_drew)); exact HO552.out))) (Kd.R_lt (by (with_reducible repeat (first | apply Kd.R_alloc | apply Kd.R_drewN | apply Kd.R_drew)); exact HO562.out))) (below_size (by repeat (first | (with_reducible first | exact HB.out | apply below_alloc | apply pw_below_drewN | apply below_drew1 | refine below_set ?_ GE526.out | refine below_set ?_ GE527.out | refine below_set ?_ GE558.out | refine below_set ?_ GE568.out) | exact HB.out))))
      have n9_ := Aside0.mk (Kd.S_lower (Kd.S_new' (Kd.S_new' (Kd.S_new' (Kd.S_new' (Kd.S_new' (Kd.S_new' (Kd.S_new' (Kd.S_new' ho1 (Kd.R_lt (by (with_reducible repeat (first | apply Kd.R_alloc | apply Kd.R_drewN | apply Kd.R_drew)); exact HO533.out))) (Kd.S_lt (by (with_reducible repeat (first | apply Kd.S_alloc | apply Kd.S_drewN | apply Kd.S_drew)); exact HO538.out))) (Kd.R_lt (by (with_reducible repeat (first | apply Kd.R_alloc | apply Kd.R_drewN | apply Kd.R_drew)); exact HO542.out))) (Kd.S_lt (by (with_reducible repeat (first | apply Kd.S_alloc | apply Kd.S_drewN | apply Kd.S_drew)); exact HO547.out))) (Kd.R_lt (by (with_reducible repeat (first | apply Kd.R_alloc | apply Kd.R_drewN | apply Kd.R_drew)); exact HO552.out))) (Kd.S_lt (by (with_reducible repeat (first | apply Kd.S_alloc | apply Kd.S_drewN | apply Kd.S_drew)); exact HO557.out))) (Kd.R_lt (by (with_reducible repeat (first | apply Kd.R_alloc | apply Kd.R_drewN | apply Kd.R_drew)); exact HO562.out))) (Kd.S_lt (by (with_reducible repeat (first | apply Kd.S_alloc | apply Kd.S_drewN | apply Kd.S_drew)); exact HO567.out))) (below_size (by repeat (first | (with_reducible first | exact HB.out | apply below_alloc | apply pw_below_drewN | apply below_drew1 | refine below_set ?_ GE526.out | refine below_set ?_ GE527.out | refine below_set ?_ GE558.out | refine below_set ?_ GE568.out) | exact HB.out))))
      have n10_ := Aside0.mk (blk_below (g := gb526) (o := .cells #[.int .i64 a0_0, .slice A0_1 l0_1.length c0_1, .int .i64 a0_2, .int .i64 a0_3, .slice A0_4 l0_4.length c0_4] 64 (0, 0)) (by (with_reducible repeat (first | refine blk_drewN ?_ _ | refine blk_drew ?_ | refine blk_alloc ?_ _)); exact BK526.out) hb)
      have n11_ := Aside0.mk (blk_below (g := gb527) (o := .cells #[.int .i64 a1_0, .slice A1_1 l1_1.length c1_1, .int .i64 a1_2, .int .i64 a1_3, .slice A1_4 l1_4.length c1_4] 64 (0, 0)) (by (with_reducible repeat (first | refine blk_drewN ?_ _ | refine blk_drew ?_ | refine blk_alloc ?_ _)); exact BK527.out) hb)
      have n12_ := Aside0.mk (blk_below (g := gb558) (o := .cells #[.int .i64 t549, .slice Ao53 t550.length co53, .int .i64 t553, .int .i64 t554, .slice Ao54 t555.length co54] 68 (0, 0)) (by (with_reducible repeat (first | refine blk_drewN ?_ _ | refine blk_drew ?_ | refine blk_alloc ?_ _)); exact BK558.out) hb)
      have n13_ := Aside0.mk (blk_below (g := gb568) (o := .cells #[.int .i64 t559, .slice Ao62 t560.length co62, .int .i64 t563, .int .i64 t564, .slice Ao63 t565.length co63] 68 (0, 0)) (by (with_reducible repeat (first | refine blk_drewN ?_ _ | refine blk_drew ?_ | refine blk_alloc ?_ _)); exact BK568.out) hb)
      have n14_ := Aside0.mk (below_step (by repeat (first | (with_reducible first | exact HB.out | apply below_alloc | apply pw_below_drewN | apply below_drew1 | refine below_set ?_ GE526.out | refine below_set ?_ GE527.out | refine below_set ?_ GE558.out | refine below_set ?_ GE568.out) | exact HB.out)) hb)
      clear HO533
      clear HO538
      clear HO542
      clear HO547
      clear HO552
      clear HO557
      clear HO562
      clear HO567
      clear BK526
      clear BK527
      clear BK558
      clear BK568
      clear HB
      have HO533 := n0_
      have HO538 := n1_
      have HO542 := n2_
      have HO547 := n3_
      have HO552 := n4_
      have HO557 := n5_
      have HO562 := n6_
      have HO567 := n7_
      have HO573 := n8_
      have HO578 := n9_
      have BK526 := n10_
      have BK527 := n11_
      have BK558 := n12_
      have BK568 := n13_
      have HB := n14_
      clear n0_ n1_ n2_ n3_ n4_ n5_ n6_ n7_ n8_ n9_ n10_ n11_ n12_ n13_ n14_
      (try clear hb)
      (try clear hb2)
      (try clear hk)
      (try clear hi)
      (try clear ho0)
      (try clear ho1)
      obtain ⟨Ao68, co68, eo68⟩ := Kd.R_slice HO573.out
      (first | subst eo68 | (injection eo68 with f1_ f2_ f3_; have f4_ := f1_.symm; have f5_ := f3_.symm; clear f1_ f2_ f3_; subst f4_; subst f5_))
      obtain ⟨Ao69, co69, eo69⟩ := Kd.S_slice HO578.out
      (first | subst eo69 | (injection eo69 with f1_ f2_ f3_; have f4_ := f1_.symm; have f5_ := f3_.symm; clear f1_ f2_ f3_; subst f4_; subst f5_))
      refine hK.out _ _ ⟨(blk_cell BK558.out 0).trans rfl, (blk_cell BK558.out 1).trans rfl, (blk_cell BK558.out 2).trans rfl, (blk_cell BK558.out 3).trans rfl, (blk_cell BK558.out 4).trans rfl, (blk_cell BK526.out 0).trans rfl, (blk_cell BK526.out 1).trans rfl, (blk_cell BK526.out 2).trans rfl, (blk_cell BK526.out 3).trans rfl, (blk_cell BK526.out 4).trans rfl⟩ (fun hHeld => ?_)
      clear hK K
      refine norm_ (a' := ?_) ?_ ?_
      rotate_left
      ·
       show Act.put _ (some 37) _ = _
       simp only [Act.put, List.setIfInBounds_toArray, List.set_cons_zero, List.set_cons_succ, i64_w, i32_w]
       rfl
      refine one_ (i := 3) (N := some 38) #[true, true, true, true, false] rfl rfl (by kernel_rfl) (by decide) (fun K hK => ?_)
      refine goes_ Try.func41 (by kernel_rfl) rfl #[.agg #[.int .i64 t549, .slice Ao53 t550.length co53, .int .i64 t553, .int .i64 t554, .slice Ao54 t555.length co54], .agg #[.int .i64 t570, .slice Ao68 t571.length co68, .int .i64 t574, .int .i64 t575, .slice Ao69 t576.length co69]] (by rfl) rfl rfl (by (try simp only [List.map_toArray, List.map_cons, List.map_nil]); first | done | rfl | (simp only [List.length_drop, List.length_take]; rfl)) ?_
      with_reducible refine (laws_eqGroup.calls k t549 _ _ t550 t553 t554 _ _ t555 t570 _ _ t571 t574 t575 _ _ t576 true _ ?side1 ?side2 ?side3 ?side4 ?side5 ?side6 ?side7 ?side8 A27.out).mono ?_
      (case side1 => repeat (first | exact (Kd.R_reads' HO552.out).2.2 | (with_reducible refine Kd.C_alloc ?_ _) | (with_reducible refine Kd.C_drewN ?_ _) | (with_reducible refine Kd.C_drew ?_)))
      (case side2 => exact (Kd.R_reads' HO552.out).2.1)
      (case side3 => repeat (first | exact (Kd.S_reads' HO557.out).2.2 | (with_reducible refine Kd.C_alloc ?_ _) | (with_reducible refine Kd.C_drewN ?_ _) | (with_reducible refine Kd.C_drew ?_)))
      (case side4 => exact (Kd.S_reads' HO557.out).2.1)
      (case side5 => repeat (first | exact (Kd.R_reads' HO573.out).2.2 | (with_reducible refine Kd.C_alloc ?_ _) | (with_reducible refine Kd.C_drewN ?_ _) | (with_reducible refine Kd.C_drew ?_)))
      (case side6 => exact (Kd.R_reads' HO573.out).2.1)
      (case side7 => repeat (first | exact (Kd.S_reads' HO578.out).2.2 | (with_reducible refine Kd.C_alloc ?_ _) | (with_reducible refine Kd.C_drewN ?_ _) | (with_reducible refine Kd.C_drew ?_)))
      (case side8 => exact (Kd.S_reads' HO578.out).2.1)
      rintro e w70 ⟨rfl, hb⟩
      refine ⟨_, rfl, ?_⟩
      have n0_ := Aside0.mk (Kd.R_below (by (with_reducible repeat (first | apply Kd.R_alloc | apply Kd.R_drewN | apply Kd.R_drew)); exact HO533.out) hb)
      have n1_ := Aside0.mk (Kd.S_below (by (with_reducible repeat (first | apply Kd.S_alloc | apply Kd.S_drewN | apply Kd.S_drew)); exact HO538.out) hb)
      have n2_ := Aside0.mk (Kd.R_below (by (with_reducible repeat (first | apply Kd.R_alloc | apply Kd.R_drewN | apply Kd.R_drew)); exact HO542.out) hb)
      have n3_ := Aside0.mk (Kd.S_below (by (with_reducible repeat (first | apply Kd.S_alloc | apply Kd.S_drewN | apply Kd.S_drew)); exact HO547.out) hb)
      have n4_ := Aside0.mk (Kd.R_below (by (with_reducible repeat (first | apply Kd.R_alloc | apply Kd.R_drewN | apply Kd.R_drew)); exact HO552.out) hb)
      have n5_ := Aside0.mk (Kd.S_below (by (with_reducible repeat (first | apply Kd.S_alloc | apply Kd.S_drewN | apply Kd.S_drew)); exact HO557.out) hb)
      have n6_ := Aside0.mk (Kd.R_below (by (with_reducible repeat (first | apply Kd.R_alloc | apply Kd.R_drewN | apply Kd.R_drew)); exact HO562.out) hb)
      have n7_ := Aside0.mk (Kd.S_below (by (with_reducible repeat (first | apply Kd.S_alloc | apply Kd.S_drewN | apply Kd.S_drew)); exact HO567.out) hb)
      have n8_ := Aside0.mk (Kd.R_below (by (with_reducible repeat (first | apply Kd.R_alloc | apply Kd.R_drewN | apply Kd.R_drew)); exact HO573.out) hb)
      have n9_ := Aside0.mk (Kd.S_below (by (with_reducible repeat (first | apply Kd.S_alloc | apply Kd.S_drewN | apply Kd.S_drew)); exact HO578.out) hb)
      have n10_ := Aside0.mk (blk_below (g := gb526) (o := .cells #[.int .i64 a0_0, .slice A0_1 l0_1.length c0_1, .int .i64 a0_2, .int .i64 a0_3, .slice A0_4 l0_4.length c0_4] 64 (0, 0)) (by (with_reducible repeat (first | refine blk_drewN ?_ _ | refine blk_drew ?_ | refine blk_alloc ?_ _)); exact BK526.out) hb)
      have n11_ := Aside0.mk (blk_below (g := gb527) (o := .cells #[.int .i64 a1_0, .slice A1_1 l1_1.length c1_1, .int .i64 a1_2, .int .i64 a1_3, .slice A1_4 l1_4.length c1_4] 64 (0, 0)) (by (with_reducible repeat (first | refine blk_drewN ?_ _ | refine blk_drew ?_ | refine blk_alloc ?_ _)); exact BK527.out) hb)
      have n12_ := Aside0.mk (blk_below (g := gb558) (o := .cells #[.int .i64 t549, .slice Ao53 t550.length co53, .int .i64 t553, .int .i64 t554, .slice Ao54 t555.length co54] 68 (0, 0)) (by (with_reducible repeat (first | refine blk_drewN ?_ _ | refine blk_drew ?_ | refine blk_alloc ?_ _)); exact BK558.out) hb)
      have n13_ := Aside0.mk (blk_below (g := gb568) (o := .cells #[.int .i64 t559, .slice Ao62 t560.length co62, .int .i64 t563, .int .i64 t564, .slice Ao63 t565.length co63] 68 (0, 0)) (by (with_reducible repeat (first | refine blk_drewN ?_ _ | refine blk_drew ?_ | refine blk_alloc ?_ _)); exact BK568.out) hb)
      have n14_ := Aside0.mk (below_step (by repeat (first | (with_reducible first | exact HB.out | apply below_alloc | apply pw_below_drewN | apply below_drew1 | refine below_set ?_ GE526.out | refine below_set ?_ GE527.out | refine below_set ?_ GE558.out | refine below_set ?_ GE568.out) | exact HB.out)) hb)
      clear HO533
      clear HO538
      clear HO542
      clear HO547
      clear HO552
      clear HO557
      clear HO562
      clear HO567
      clear HO573
      clear HO578
      clear BK526
      clear BK527
      clear BK558
      clear BK568
      clear HB
      have HO533 := n0_
      have HO538 := n1_
      have HO542 := n2_
      have HO547 := n3_
      have HO552 := n4_
      have HO557 := n5_
      have HO562 := n6_
      have HO567 := n7_
      have HO573 := n8_
      have HO578 := n9_
      have BK526 := n10_
      have BK527 := n11_
      have BK558 := n12_
      have BK568 := n13_
      have HB := n14_
      clear n0_ n1_ n2_ n3_ n4_ n5_ n6_ n7_ n8_ n9_ n10_ n11_ n12_ n13_ n14_
      (try clear hb)
      (try clear hb2)
      (try clear hk)
      (try clear hi)
      refine hK.out _ _ ⟨(blk_cell BK558.out 0).trans rfl, (blk_cell BK558.out 1).trans rfl, (blk_cell BK558.out 2).trans rfl, (blk_cell BK558.out 3).trans rfl, (blk_cell BK558.out 4).trans rfl, (blk_cell BK526.out 0).trans rfl, (blk_cell BK526.out 1).trans rfl, (blk_cell BK526.out 2).trans rfl, (blk_cell BK526.out 3).trans rfl, (blk_cell BK526.out 4).trans rfl⟩ (fun hHeld => ?_)
      clear hK K
      refine norm_ (a' := ?_) ?_ ?_
      rotate_left
      ·
       show Act.put _ (some 38) _ = _
       simp only [Act.put, List.setIfInBounds_toArray, List.set_cons_zero, List.set_cons_succ, i64_w, i32_w]
       rfl
      refine pure_ (i := 4) (N := some 39) (v := ?_) (a' := ?_) #[true, true, true, true, true] rfl rfl (by kernel_rfl) (fun _ _ _ h => h) (Or.inl ⟨by rfl, ?_⟩) ?_ ?_
      rotate_left
      ·
       intro w'
       go_simp
       with_reducible rfl
      rotate_left
      ·
       simp only [Act.put, List.setIfInBounds_toArray, List.set_cons_zero, List.set_cons_succ, i64_w, i32_w]
       rfl
      refine done_ (by kernel_rfl) ?_
      try go_wp2
      have n0_ := Aside0.mk (Kd.R_drew HO533.out)
      have n1_ := Aside0.mk (Kd.S_drew HO538.out)
      have n2_ := Aside0.mk (Kd.R_drew HO542.out)
      have n3_ := Aside0.mk (Kd.S_drew HO547.out)
      have n4_ := Aside0.mk (Kd.R_drew HO552.out)
      have n5_ := Aside0.mk (Kd.S_drew HO557.out)
      have n6_ := Aside0.mk (Kd.R_drew HO562.out)
      have n7_ := Aside0.mk (Kd.S_drew HO567.out)
      have n8_ := Aside0.mk (Kd.R_drew HO573.out)
      have n9_ := Aside0.mk (Kd.S_drew HO578.out)
      have n10_ := Aside0.mk (blk_drew BK526.out)
      have n11_ := Aside0.mk (blk_drew BK527.out)
      have n12_ := Aside0.mk (blk_drew BK558.out)
      have n13_ := Aside0.mk (blk_drew BK568.out)
      have n14_ := Aside0.mk (below_drew1 HB.out)
      clear HO533
      clear HO538
      clear HO542
      clear HO547
      clear HO552
      clear HO557
      clear HO562
      clear HO567
      clear HO573
      clear HO578
      clear BK526
      clear BK527
      clear BK558
      clear BK568
      clear HB
      have HO533 := n0_
      have HO538 := n1_
      have HO542 := n2_
      have HO547 := n3_
      have HO552 := n4_
      have HO557 := n5_
      have HO562 := n6_
      have HO567 := n7_
      have HO573 := n8_
      have HO578 := n9_
      have BK526 := n10_
      have BK527 := n11_
      have BK558 := n12_
      have BK568 := n13_
      have HB := n14_
      clear n0_ n1_ n2_ n3_ n4_ n5_ n6_ n7_ n8_ n9_ n10_ n11_ n12_ n13_ n14_
      refine start_ (n := 5) (S := fun w' => w'.cell? ⟨gb568, 0, none⟩ = some (.int .i64 t559) ∧ w'.cell? ⟨gb568, 1, none⟩ = some (.slice Ao62 t560.length co62) ∧ w'.cell? ⟨gb568, 2, none⟩ = some (.int .i64 t563) ∧ w'.cell? ⟨gb568, 3, none⟩ = some (.int .i64 t564) ∧ w'.cell? ⟨gb568, 4, none⟩ = some (.slice Ao63 t565.length co63) ∧ w'.cell? ⟨gb527, 0, none⟩ = some (.int .i64 a1_0) ∧ w'.cell? ⟨gb527, 1, none⟩ = some (.slice A1_1 l1_1.length c1_1) ∧ w'.cell? ⟨gb527, 2, none⟩ = some (.int .i64 a1_2) ∧ w'.cell? ⟨gb527, 3, none⟩ = some (.int .i64 a1_3) ∧ w'.cell? ⟨gb527, 4, none⟩ = some (.slice A1_4 l1_4.length c1_4)) (ds := []) #[false, false, false, false, false] (by kernel_rfl) rfl rfl ⟨(blk_cell BK568.out 0).trans rfl, (blk_cell BK568.out 1).trans rfl, (blk_cell BK568.out 2).trans rfl, (blk_cell BK568.out 3).trans rfl, (blk_cell BK568.out 4).trans rfl, (blk_cell BK527.out 0).trans rfl, (blk_cell BK527.out 1).trans rfl, (blk_cell BK527.out 2).trans rfl, (blk_cell BK527.out 3).trans rfl, (blk_cell BK527.out 4).trans rfl⟩ (fun hHeld => ?_)
      generalize w70.drew = w71 at HO533 HO538 HO542 HO547 HO552 HO557 HO562 HO567 HO573 HO578 BK526 BK527 BK558 BK568 HB hHeld ⊢
      refine take_ (i := 0) (N := some 40) (v := ?_) (a' := ?_) #[true, false, false, false, false] rfl rfl (by kernel_rfl) (fun _ _ _ h => h) (Or.inl ⟨by rfl, ?_⟩) hHeld ?_ ?_
      rotate_left
      ·
       rintro w' ⟨s0, s1, s2, s3, s4, s5, s6, s7, s8, s9⟩
       go_simp
       with_reducible rfl
      rotate_left
      ·
       simp only [Act.put, List.setIfInBounds_toArray, List.set_cons_zero, List.set_cons_succ, i64_w, i32_w]
       rfl
      refine take_ (i := 1) (N := some 41) (v := ?_) (a' := ?_) #[true, true, false, false, false] rfl rfl (by kernel_rfl) (fun _ _ _ h => h) (Or.inl ⟨by rfl, ?_⟩) hHeld ?_ ?_
      rotate_left
      ·
       rintro w' ⟨s0, s1, s2, s3, s4, s5, s6, s7, s8, s9⟩
       go_simp
       with_reducible rfl
      rotate_left
      ·
       simp only [Act.put, List.setIfInBounds_toArray, List.set_cons_zero, List.set_cons_succ, i64_w, i32_w]
       rfl
      refine one_ (i := 2) (N := some 42) #[true, true, true, false, false] rfl rfl (by kernel_rfl) (by decide) (fun K hK => ?_)
      refine goes_ Try.func39 (by kernel_rfl) rfl #[.agg #[.int .i64 a1_0, .slice A1_1 l1_1.length c1_1, .int .i64 a1_2, .int .i64 a1_3, .slice A1_4 l1_4.length c1_4]] (by rfl) rfl rfl (by (try simp only [List.map_toArray, List.map_cons, List.map_nil]); first | done | rfl | (simp only [List.length_drop, List.length_take]; rfl)) ?_
      with_reducible refine (laws_toGroup.calls k a1_0 _ _ l1_1 a1_2 a1_3 _ _ l1_4 t580 t581 t584 t585 t586 _ ?side1 ?side2 ?side3 ?side4 A29.out).mono ?_
      (case side1 => repeat (first | exact (Kd.C_below HR1_1.out HB.out) | (with_reducible refine Kd.C_alloc ?_ _) | (with_reducible refine Kd.C_drewN ?_ _) | (with_reducible refine Kd.C_drew ?_)))
      (case side2 => exact HC1_1.out)
      (case side3 => repeat (first | exact (Kd.C_below HR1_4.out HB.out) | (with_reducible refine Kd.C_alloc ?_ _) | (with_reducible refine Kd.C_drewN ?_ _) | (with_reducible refine Kd.C_drew ?_)))
      (case side4 => exact HC1_4.out)
      rintro e w72 ⟨v582, v587, rfl, ho0, ho1, hb⟩
      refine ⟨_, rfl, ?_⟩
      have n0_ := Aside0.mk (Kd.R_elder' (by (with_reducible repeat (first | apply Kd.R_alloc | apply Kd.R_drewN | apply Kd.R_drew)); exact HO533.out) (Kd.R_base ho0) hb)
      have n1_ := Aside0.mk (Kd.S_mono (Kd.S_told (Kd.S_told (Kd.S_old (by (with_reducible repeat (first | apply Kd.S_alloc | apply Kd.S_drewN | apply Kd.S_drew)); exact HO538.out) hb) (Kd.R_base ho0)) (Kd.S_base ho1)) (fun _ h_ => h_.1))
      have n2_ := Aside0.mk (Kd.R_elder' (by (with_reducible repeat (first | apply Kd.R_alloc | apply Kd.R_drewN | apply Kd.R_drew)); exact HO542.out) (Kd.R_base ho0) hb)
      have n3_ := Aside0.mk (Kd.S_mono (Kd.S_told (Kd.S_told (Kd.S_old (by (with_reducible repeat (first | apply Kd.S_alloc | apply Kd.S_drewN | apply Kd.S_drew)); exact HO547.out) hb) (Kd.R_base ho0)) (Kd.S_base ho1)) (fun _ h_ => h_.1))
      have n4_ := Aside0.mk (Kd.R_elder' (by (with_reducible repeat (first | apply Kd.R_alloc | apply Kd.R_drewN | apply Kd.R_drew)); exact HO552.out) (Kd.R_base ho0) hb)
      have n5_ := Aside0.mk (Kd.S_mono (Kd.S_told (Kd.S_told (Kd.S_old (by (with_reducible repeat (first | apply Kd.S_alloc | apply Kd.S_drewN | apply Kd.S_drew)); exact HO557.out) hb) (Kd.R_base ho0)) (Kd.S_base ho1)) (fun _ h_ => h_.1))
      have n6_ := Aside0.mk (Kd.R_elder' (by (with_reducible repeat (first | apply Kd.R_alloc | apply Kd.R_drewN | apply Kd.R_drew)); exact HO562.out) (Kd.R_base ho0) hb)
      have n7_ := Aside0.mk (Kd.S_mono (Kd.S_told (Kd.S_told (Kd.S_old (by (with_reducible repeat (first | apply Kd.S_alloc | apply Kd.S_drewN | apply Kd.S_drew)); exact HO567.out) hb) (Kd.R_base ho0)) (Kd.S_base ho1)) (fun _ h_ => h_.1))
      have n8_ := Aside0.mk (Kd.R_elder' (by (with_reducible repeat (first | apply Kd.R_alloc | apply Kd.R_drewN | apply Kd.R_drew)); exact HO573.out) (Kd.R_base ho0) hb)
      have n9_ := Aside0.mk (Kd.S_mono (Kd.S_told (Kd.S_told (Kd.S_old (by (with_reducible repeat (first | apply Kd.S_alloc | apply Kd.S_drewN | apply Kd.S_drew)); exact HO578.out) hb) (Kd.R_base ho0)) (Kd.S_base ho1)) (fun _ h_ => h_.1))
      have n10_ := Aside0.mk (Kd.R_lower (Kd.R_new' (Kd.R_new' (Kd.R_new' (Kd.R_new' (Kd.R_new' ho0 (Kd.R_lt (by (with_reducible repeat (first | apply Kd.R_alloc | apply Kd.R_drewN | apply Kd.R_drew)); exact HO533.out))) (Kd.R_lt (by (with_reducible repeat (first | apply Kd.R_alloc | apply Kd.R_drewN | apply Kd.R_drew)); exact HO542.out))) (Kd.R_lt (by (with_reducible repeat (first | apply Kd.R_alloc | apply Kd.R_drewN | apply Kd.R_drew)); exact HO552.out))) (Kd.R_lt (by (with_reducible repeat (first | apply Kd.R_alloc | apply Kd.R_drewN | apply Kd.R_drew)); exact HO562.out))) (Kd.R_lt (by (with_reducible repeat (first | apply Kd.R_alloc | apply Kd.R_drewN | apply Kd.R_drew)); exact HO573.out))) (below_size (by repeat (first | (with_reducible first | exact HB.out | apply below_alloc | apply pw_below_drewN | apply below_drew1 | refine below_set ?_ GE526.out | refine below_set ?_ GE527.out | refine below_set ?_ GE558.out | refine below_set ?_ GE568.out) | exact HB.out))))
      have n11_ := Aside0.mk (Kd.S_lower (Kd.S_new' (Kd.S_new' (Kd.S_new' (Kd.S_new' (Kd.S_new' (Kd.S_new' (Kd.S_new' (Kd.S_new' (Kd.S_new' (Kd.S_new' ho1 (Kd.R_lt (by (with_reducible repeat (first | apply Kd.R_alloc | apply Kd.R_drewN | apply Kd.R_drew)); exact HO533.out))) (Kd.S_lt (by (with_reducible repeat (first | apply Kd.S_alloc | apply Kd.S_drewN | apply Kd.S_drew)); exact HO538.out))) (Kd.R_lt (by (with_reducible repeat (first | apply Kd.R_alloc | apply Kd.R_drewN | apply Kd.R_drew)); exact HO542.out))) (Kd.S_lt (by (with_reducible repeat (first | apply Kd.S_alloc | apply Kd.S_drewN | apply Kd.S_drew)); exact HO547.out))) (Kd.R_lt (by (with_reducible repeat (first | apply Kd.R_alloc | apply Kd.R_drewN | apply Kd.R_drew)); exact HO552.out))) (Kd.S_lt (by (with_reducible repeat (first | apply Kd.S_alloc | apply Kd.S_drewN | apply Kd.S_drew)); exact HO557.out))) (Kd.R_lt (by (with_reducible repeat (first | apply Kd.R_alloc | apply Kd.R_drewN | apply Kd.R_drew)); exact HO562.out))) (Kd.S_lt (by (with_reducible repeat (first | apply Kd.S_alloc | apply Kd.S_drewN | apply Kd.S_drew)); exact HO567.out))) (Kd.R_lt (by (with_reducible repeat (first | apply Kd.R_alloc | apply Kd.R_drewN | apply Kd.R_drew)); exact HO573.out))) (Kd.S_lt (by (with_reducible repeat (first | apply Kd.S_alloc | apply Kd.S_drewN | apply Kd.S_drew)); exact HO578.out))) (below_size (by repeat (first | (with_reducible first | exact HB.out | apply below_alloc | apply pw_below_drewN | apply below_drew1 | refine below_set ?_ GE526.out | refine below_set ?_ GE527.out | refine below_set ?_ GE558.out | refine below_set ?_ GE568.out) | exact HB.out))))
      have n12_ := Aside0.mk (blk_below (g := gb526) (o := .cells #[.int .i64 a0_0, .slice A0_1 l0_1.length c0_1, .int .i64 a0_2, .int .i64 a0_3, .slice A0_4 l0_4.length c0_4] 64 (0, 0)) (by (with_reducible repeat (first | refine blk_drewN ?_ _ | refine blk_drew ?_ | refine blk_alloc ?_ _)); exact BK526.out) hb)
      have n13_ := Aside0.mk (blk_below (g := gb527) (o := .cells #[.int .i64 a1_0, .slice A1_1 l1_1.length c1_1, .int .i64 a1_2, .int .i64 a1_3, .slice A1_4 l1_4.length c1_4] 64 (0, 0)) (by (with_reducible repeat (first | refine blk_drewN ?_ _ | refine blk_drew ?_ | refine blk_alloc ?_ _)); exact BK527.out) hb)
      have n14_ := Aside0.mk (blk_below (g := gb558) (o := .cells #[.int .i64 t549, .slice Ao53 t550.length co53, .int .i64 t553, .int .i64 t554, .slice Ao54 t555.length co54] 68 (0, 0)) (by (with_reducible repeat (first | refine blk_drewN ?_ _ | refine blk_drew ?_ | refine blk_alloc ?_ _)); exact BK558.out) hb)
      have n15_ := Aside0.mk (blk_below (g := gb568) (o := .cells #[.int .i64 t559, .slice Ao62 t560.length co62, .int .i64 t563, .int .i64 t564, .slice Ao63 t565.length co63] 68 (0, 0)) (by (with_reducible repeat (first | refine blk_drewN ?_ _ | refine blk_drew ?_ | refine blk_alloc ?_ _)); exact BK568.out) hb)
      have n16_ := Aside0.mk (below_step (by repeat (first | (with_reducible first | exact HB.out | apply below_alloc | apply pw_below_drewN | apply below_drew1 | refine below_set ?_ GE526.out | refine below_set ?_ GE527.out | refine below_set ?_ GE558.out | refine below_set ?_ GE568.out) | exact HB.out)) hb)
      clear HO533
      clear HO538
      clear HO542
      clear HO547
      clear HO552
      clear HO557
      clear HO562
      clear HO567
      clear HO573
      clear HO578
      clear BK526
      clear BK527
      clear BK558
      clear BK568
      clear HB
      have HO533 := n0_
      have HO538 := n1_
      have HO542 := n2_
      have HO547 := n3_
      have HO552 := n4_
      have HO557 := n5_
      have HO562 := n6_
      have HO567 := n7_
      have HO573 := n8_
      have HO578 := n9_
      have HO583 := n10_
      have HO588 := n11_
      have BK526 := n12_
      have BK527 := n13_
      have BK558 := n14_
      have BK568 := n15_
      have HB := n16_
      clear n0_ n1_ n2_ n3_ n4_ n5_ n6_ n7_ n8_ n9_ n10_ n11_ n12_ n13_ n14_ n15_ n16_
      (try clear hb)
      (try clear hb2)
      (try clear hk)
      (try clear hi)
      (try clear ho0)
      (try clear ho1)
      obtain ⟨Ao73, co73, eo73⟩ := Kd.R_slice HO583.out
      (first | subst eo73 | (injection eo73 with f1_ f2_ f3_; have f4_ := f1_.symm; have f5_ := f3_.symm; clear f1_ f2_ f3_; subst f4_; subst f5_))
      obtain ⟨Ao74, co74, eo74⟩ := Kd.S_slice HO588.out
      (first | subst eo74 | (injection eo74 with f1_ f2_ f3_; have f4_ := f1_.symm; have f5_ := f3_.symm; clear f1_ f2_ f3_; subst f4_; subst f5_))
      refine hK.out _ _ ⟨(blk_cell BK568.out 0).trans rfl, (blk_cell BK568.out 1).trans rfl, (blk_cell BK568.out 2).trans rfl, (blk_cell BK568.out 3).trans rfl, (blk_cell BK568.out 4).trans rfl, (blk_cell BK527.out 0).trans rfl, (blk_cell BK527.out 1).trans rfl, (blk_cell BK527.out 2).trans rfl, (blk_cell BK527.out 3).trans rfl, (blk_cell BK527.out 4).trans rfl⟩ (fun hHeld => ?_)
      clear hK K
      refine norm_ (a' := ?_) ?_ ?_
      rotate_left
      ·
       show Act.put _ (some 42) _ = _
       simp only [Act.put, List.setIfInBounds_toArray, List.set_cons_zero, List.set_cons_succ, i64_w, i32_w]
       rfl
      refine one_ (i := 3) (N := some 43) #[true, true, true, true, false] rfl rfl (by kernel_rfl) (by decide) (fun K hK => ?_)
      refine goes_ Try.func41 (by kernel_rfl) rfl #[.agg #[.int .i64 t559, .slice Ao62 t560.length co62, .int .i64 t563, .int .i64 t564, .slice Ao63 t565.length co63], .agg #[.int .i64 t580, .slice Ao73 t581.length co73, .int .i64 t584, .int .i64 t585, .slice Ao74 t586.length co74]] (by rfl) rfl rfl (by (try simp only [List.map_toArray, List.map_cons, List.map_nil]); first | done | rfl | (simp only [List.length_drop, List.length_take]; rfl)) ?_
      with_reducible refine (laws_eqGroup.calls k t559 _ _ t560 t563 t564 _ _ t565 t580 _ _ t581 t584 t585 _ _ t586 true _ ?side1 ?side2 ?side3 ?side4 ?side5 ?side6 ?side7 ?side8 A30.out).mono ?_
      (case side1 => repeat (first | exact (Kd.R_reads' HO562.out).2.2 | (with_reducible refine Kd.C_alloc ?_ _) | (with_reducible refine Kd.C_drewN ?_ _) | (with_reducible refine Kd.C_drew ?_)))
      (case side2 => exact (Kd.R_reads' HO562.out).2.1)
      (case side3 => repeat (first | exact (Kd.S_reads' HO567.out).2.2 | (with_reducible refine Kd.C_alloc ?_ _) | (with_reducible refine Kd.C_drewN ?_ _) | (with_reducible refine Kd.C_drew ?_)))
      (case side4 => exact (Kd.S_reads' HO567.out).2.1)
      (case side5 => repeat (first | exact (Kd.R_reads' HO583.out).2.2 | (with_reducible refine Kd.C_alloc ?_ _) | (with_reducible refine Kd.C_drewN ?_ _) | (with_reducible refine Kd.C_drew ?_)))
      (case side6 => exact (Kd.R_reads' HO583.out).2.1)
      (case side7 => repeat (first | exact (Kd.S_reads' HO588.out).2.2 | (with_reducible refine Kd.C_alloc ?_ _) | (with_reducible refine Kd.C_drewN ?_ _) | (with_reducible refine Kd.C_drew ?_)))
      (case side8 => exact (Kd.S_reads' HO588.out).2.1)
      rintro e w75 ⟨rfl, hb⟩
      refine ⟨_, rfl, ?_⟩
      have n0_ := Aside0.mk (Kd.R_below (by (with_reducible repeat (first | apply Kd.R_alloc | apply Kd.R_drewN | apply Kd.R_drew)); exact HO533.out) hb)
      have n1_ := Aside0.mk (Kd.S_below (by (with_reducible repeat (first | apply Kd.S_alloc | apply Kd.S_drewN | apply Kd.S_drew)); exact HO538.out) hb)
      have n2_ := Aside0.mk (Kd.R_below (by (with_reducible repeat (first | apply Kd.R_alloc | apply Kd.R_drewN | apply Kd.R_drew)); exact HO542.out) hb)
      have n3_ := Aside0.mk (Kd.S_below (by (with_reducible repeat (first | apply Kd.S_alloc | apply Kd.S_drewN | apply Kd.S_drew)); exact HO547.out) hb)
      have n4_ := Aside0.mk (Kd.R_below (by (with_reducible repeat (first | apply Kd.R_alloc | apply Kd.R_drewN | apply Kd.R_drew)); exact HO552.out) hb)
      have n5_ := Aside0.mk (Kd.S_below (by (with_reducible repeat (first | apply Kd.S_alloc | apply Kd.S_drewN | apply Kd.S_drew)); exact HO557.out) hb)
      have n6_ := Aside0.mk (Kd.R_below (by (with_reducible repeat (first | apply Kd.R_alloc | apply Kd.R_drewN | apply Kd.R_drew)); exact HO562.out) hb)
      have n7_ := Aside0.mk (Kd.S_below (by (with_reducible repeat (first | apply Kd.S_alloc | apply Kd.S_drewN | apply Kd.S_drew)); exact HO567.out) hb)
      have n8_ := Aside0.mk (Kd.R_below (by (with_reducible repeat (first | apply Kd.R_alloc | apply Kd.R_drewN | apply Kd.R_drew)); exact HO573.out) hb)
      have n9_ := Aside0.mk (Kd.S_below (by (with_reducible repeat (first | apply Kd.S_alloc | apply Kd.S_drewN | apply Kd.S_drew)); exact HO578.out) hb)
      have n10_ := Aside0.mk (Kd.R_below (by (with_reducible repeat (first | apply Kd.R_alloc | apply Kd.R_drewN | apply Kd.R_drew)); exact HO583.out) hb)
      have n11_ := Aside0.mk (Kd.S_below (by (with_reducible repeat (first | apply Kd.S_alloc | apply Kd.S_drewN | apply Kd.S_drew)); exact HO588.out) hb)
      have n12_ := Aside0.mk (blk_below (g := gb526) (o := .cells #[.int .i64 a0_0, .slice A0_1 l0_1.length c0_1, .int .i64 a0_2, .int .i64 a0_3, .slice A0_4 l0_4.length c0_4] 64 (0, 0)) (by (with_reducible repeat (first | refine blk_drewN ?_ _ | refine blk_drew ?_ | refine blk_alloc ?_ _)); exact BK526.out) hb)
      have n13_ := Aside0.mk (blk_below (g := gb527) (o := .cells #[.int .i64 a1_0, .slice A1_1 l1_1.length c1_1, .int .i64 a1_2, .int .i64 a1_3, .slice A1_4 l1_4.length c1_4] 64 (0, 0)) (by (with_reducible repeat (first | refine blk_drewN ?_ _ | refine blk_drew ?_ | refine blk_alloc ?_ _)); exact BK527.out) hb)
      have n14_ := Aside0.mk (blk_below (g := gb558) (o := .cells #[.int .i64 t549, .slice Ao53 t550.length co53, .int .i64 t553, .int .i64 t554, .slice Ao54 t555.length co54] 68 (0, 0)) (by (with_reducible repeat (first | refine blk_drewN ?_ _ | refine blk_drew ?_ | refine blk_alloc ?_ _)); exact BK558.out) hb)
      have n15_ := Aside0.mk (blk_below (g := gb568) (o := .cells #[.int .i64 t559, .slice Ao62 t560.length co62, .int .i64 t563, .int .i64 t564, .slice Ao63 t565.length co63] 68 (0, 0)) (by (with_reducible repeat (first | refine blk_drewN ?_ _ | refine blk_drew ?_ | refine blk_alloc ?_ _)); exact BK568.out) hb)
      have n16_ := Aside0.mk (below_step (by repeat (first | (with_reducible first | exact HB.out | apply below_alloc | apply pw_below_drewN | apply below_drew1 | refine below_set ?_ GE526.out | refine below_set ?_ GE527.out | refine below_set ?_ GE558.out | refine below_set ?_ GE568.out) | exact HB.out)) hb)
      clear HO533
      clear HO538
      clear HO542
      clear HO547
      clear HO552
      clear HO557
      clear HO562
      clear HO567
      clear HO573
      clear HO578
      clear HO583
      clear HO588
      clear BK526
      clear BK527
      clear BK558
      clear BK568
      clear HB
      have HO533 := n0_
      have HO538 := n1_
      have HO542 := n2_
      have HO547 := n3_
      have HO552 := n4_
      have HO557 := n5_
      have HO562 := n6_
      have HO567 := n7_
      have HO573 := n8_
      have HO578 := n9_
      have HO583 := n10_
      have HO588 := n11_
      have BK526 := n12_
      have BK527 := n13_
      have BK558 := n14_
      have BK568 := n15_
      have HB := n16_
      clear n0_ n1_ n2_ n3_ n4_ n5_ n6_ n7_ n8_ n9_ n10_ n11_ n12_ n13_ n14_ n15_ n16_
      (try clear hb)
      (try clear hb2)
      (try clear hk)
      (try clear hi)
      refine hK.out _ _ ⟨(blk_cell BK568.out 0).trans rfl, (blk_cell BK568.out 1).trans rfl, (blk_cell BK568.out 2).trans rfl, (blk_cell BK568.out 3).trans rfl, (blk_cell BK568.out 4).trans rfl, (blk_cell BK527.out 0).trans rfl, (blk_cell BK527.out 1).trans rfl, (blk_cell BK527.out 2).trans rfl, (blk_cell BK527.out 3).trans rfl, (blk_cell BK527.out 4).trans rfl⟩ (fun hHeld => ?_)
      clear hK K
      refine norm_ (a' := ?_) ?_ ?_
      rotate_left
      ·
       show Act.put _ (some 43) _ = _
       simp only [Act.put, List.setIfInBounds_toArray, List.set_cons_zero, List.set_cons_succ, i64_w, i32_w]
       rfl
      refine pure_ (i := 4) (N := some 44) (v := ?_) (a' := ?_) #[true, true, true, true, true] rfl rfl (by kernel_rfl) (fun _ _ _ h => h) (Or.inl ⟨by rfl, ?_⟩) ?_ ?_
      rotate_left
      ·
       intro w'
       go_simp
       with_reducible rfl
      rotate_left
      ·
       simp only [Act.put, List.setIfInBounds_toArray, List.set_cons_zero, List.set_cons_succ, i64_w, i32_w]
       rfl
      refine done_ (by kernel_rfl) ?_
      try go_wp2
      go_ret
      exact ⟨by first | rfl | (simp [errW_none, errW_some] <;> rfl) | (simp [*, errW_none, errW_some] <;> rfl), by repeat (first | (with_reducible first | exact HB.out | apply below_alloc | apply pw_below_drewN | apply below_drew1 | refine below_set ?_ GE526.out | refine below_set ?_ GE527.out | refine below_set ?_ GE558.out | refine below_set ?_ GE568.out) | exact HB.out)⟩
     ·
      replace c31 := Bool.eq_false_iff.mpr c31
      subst c31
      have H1 : (none) = some r := by rw [if_neg (show ¬ (false = true) by decide)] at H; exact H
      clear H
      have H := H1
      clear H1
      exact absurd H (by simp)
    ·
     replace c28 := Bool.eq_false_iff.mpr c28
     subst c28
     have H1 : (none) = some r := by rw [if_neg (show ¬ (false = true) by decide)] at H; exact H
     clear H
     have H := H1
     clear H1
     exact absurd H (by simp)

end Go.Proofs.Ytmmaondenopnpaa.Print
