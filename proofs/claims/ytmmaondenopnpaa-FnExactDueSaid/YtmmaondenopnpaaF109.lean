-- Written by printx.py, a program of this session (wip/gen), over the kit's print.py.
import Derived.Test.YtmmaondenopnpaaF0
import Derived.Test.YtmmaondenopnpaaF26
import Derived.Test.YtmmaondenopnpaaF29
import Derived.Test.YtmmaondenopnpaaF32
import Derived.Test.YtmmaondenopnpaaF74
import Derived.Test.YtmmaondenopnpaaF84
import Derived.Test.YtmmaondenopnpaaF92
import Derived.Test.YtmmaondenopnpaaF106
import Derived.Test.YtmmaondenopnpaaF108
namespace Go.Proofs.Ytmmaondenopnpaa.Print
open Go.RowKit Go.Proofs.YtmmaondenopnpaaV.PrintWords Go.Proofs.YtmmaondenopnpaaV.PrintLast Go.Proofs.YtmmaondenopnpaaV.PrintMore
attribute [local go_sem] max2_int min2_int max_two min_two max_three min_three max_four min_four   -- for this text's walks alone
set_option linter.unusedVariables false
set_option linter.unusedSimpArgs false

/-! ### laws_FnExactDue: function 14 -/
def laws_FnExactDue.f (k : Nat) (a0_0 : Int) (a0_1 : Int) (a0_2 : Int) (a0_3 : Int) (a0_4 : Int) (l0_5 : List ByteArray) (a1_0 : Int) (l1_1 : List (S115)) (a1_2 : Int) (a1_3 : Int) (l1_4 : List (S50)) : Option (Bool) := (laws_szConf.f k a0_0 a0_1 a0_2 a0_3 a0_4 l0_5 1048576).bind fun t848 => (if t848 < 0 then (some true) else ((laws_szGroup.f k a1_0 l1_1 a1_2 a1_3 l1_4 t848).bind fun t849 => (if t849 < 0 then (some true) else ((laws_toConf.f k a0_0 a0_1 a0_2 a0_3 a0_4 l0_5).bind fun bt850 => ((laws_toGroup.f k a1_0 l1_1 a1_2 a1_3 l1_4).bind fun bt858 => ((spec_Due.f bt850.1 bt850.2.1 bt850.2.2.1 bt850.2.2.2.1 bt850.2.2.2.2.1 bt850.2.2.2.2.2 bt858.1 bt858.2.1 bt858.2.2.1 bt858.2.2.2.1 bt858.2.2.2.2).bind fun t867 => ((laws_toConf.f k a0_0 a0_1 a0_2 a0_3 a0_4 l0_5).bind fun bt868 => ((laws_toGroup.f k a1_0 l1_1 a1_2 a1_3 l1_4).bind fun bt877 => ((impl_Due.f bt868.1 bt868.2.1 bt868.2.2.1 bt868.2.2.2.1 bt868.2.2.2.2.1 bt868.2.2.2.2.2 bt877.1 bt877.2.1 bt877.2.2.1 bt877.2.2.2.1 bt877.2.2.2.2).bind fun t887 => (if t887 = t867 then ((laws_toConf.f k a0_0 a0_1 a0_2 a0_3 a0_4 l0_5).bind fun bt888 => ((laws_eqConf.f k bt868.1 bt868.2.1 bt868.2.2.1 bt868.2.2.2.1 bt868.2.2.2.2.1 bt868.2.2.2.2.2 bt888.1 bt888.2.1 bt888.2.2.1 bt888.2.2.2.1 bt888.2.2.2.2.1 bt888.2.2.2.2.2).bind fun t896 => (if t896 = true then ((laws_toGroup.f k a1_0 l1_1 a1_2 a1_3 l1_4).bind fun bt897 => ((laws_eqGroup.f k bt877.1 bt877.2.1 bt877.2.2.1 bt877.2.2.2.1 bt877.2.2.2.2 bt897.1 bt897.2.1 bt897.2.2.1 bt897.2.2.2.1 bt897.2.2.2.2).bind fun t906 => (if t906 = true then (some true) else (none)))) else (none)))) else (none)))))))))))
theorem laws_FnExactDue.mono : ∀ a0 a1 a2 a3 a4 a5 a6 a7 a8 a9 a10 k, LeO (laws_FnExactDue.f k a0 a1 a2 a3 a4 a5 a6 a7 a8 a9 a10) (laws_FnExactDue.f (k + 1) a0 a1 a2 a3 a4 a5 a6 a7 a8 a9 a10) := by
 intro a0 a1 a2 a3 a4 a5 a6 a7 a8 a9 a10 k
 unfold laws_FnExactDue.f
 repeat' first
   | (with_reducible exact laws_eqConf.mono _ _ _ _ _ _ _ _ _ _ _ _ _)
   | (with_reducible exact laws_eqGroup.mono _ _ _ _ _ _ _ _ _ _ _)
   | (with_reducible exact laws_szConf.mono _ _ _ _ _ _ _ _)
   | (with_reducible exact laws_szGroup.mono _ _ _ _ _ _ _)
   | (with_reducible exact laws_toConf.mono _ _ _ _ _ _ _)
   | (with_reducible exact laws_toGroup.mono _ _ _ _ _ _)
   | (with_reducible exact LeO.refl _)
   | (with_reducible exact LeO.none _)
   | (with_reducible refine LeO.ite ?_ ?_)
   | (with_reducible refine LeO.bind ?_ (fun _ => ?_))
   | exact laws_eqConf.mono _ _ _ _ _ _ _ _ _ _ _ _ _
   | exact laws_eqGroup.mono _ _ _ _ _ _ _ _ _ _ _
   | exact laws_szConf.mono _ _ _ _ _ _ _ _
   | exact laws_szGroup.mono _ _ _ _ _ _ _
   | exact laws_toConf.mono _ _ _ _ _ _ _
   | exact laws_toGroup.mono _ _ _ _ _ _
   | exact LeO.none _
   | refine LeO.ite ?_ ?_
   | refine LeO.bind ?_ (fun _ => ?_)
set_option maxHeartbeats 8000000 in
set_option maxRecDepth 100000 in
theorem laws_FnExactDue.calls (k : Nat) (a0_0 : Int) (a0_1 : Int) (a0_2 : Int) (a0_3 : Int) (a0_4 : Int) (A0_5 : Option Addr) (c0_5 : Nat) (l0_5 : List ByteArray) (a1_0 : Int) (A1_1 : Option Addr) (c1_1 : Nat) (l1_1 : List (S115)) (a1_2 : Int) (a1_3 : Int) (A1_4 : Option Addr) (c1_4 : Nat) (l1_4 : List (S50)) (r : Bool) (w : World) (hr0_5 : Kd.C Kd.string w A0_5 l0_5.length l0_5) (hc0_5 : l0_5.length ≤ c0_5) (hr1_1 : Kd.C k115 w A1_1 l1_1.length l1_1) (hc1_1 : l1_1.length ≤ c1_1) (hr1_4 : Kd.C k50 w A1_4 l1_4.length l1_4) (hc1_4 : l1_4.length ≤ c1_4) (h : laws_FnExactDue.f k a0_0 a0_1 a0_2 a0_3 a0_4 l0_5 a1_0 l1_1 a1_2 a1_3 l1_4 = some r) :
  Calls Try.prog 14 #[.agg #[.int .i64 a0_0, .int .i64 a0_1, .int .i64 a0_2, .int .i64 a0_3, .int .i64 a0_4, .slice A0_5 l0_5.length c0_5], .agg #[.int .i64 a1_0, .slice A1_1 l1_1.length c1_1, .int .i64 a1_2, .int .i64 a1_3, .slice A1_4 l1_4.length c1_4]] w fun e w' => e = .returned (.bool r) ∧ Below w.heap.size w w' := by
 have hu78 := Try.underlying78
 have hu64 := Try.underlying64
 have hu82 := Try.underlying82
 have hu68 := Try.underlying68
 have HR0_5 := Aside0.mk hr0_5
 have HC0_5 := Aside0.mk hc0_5
 clear hr0_5 hc0_5
 have HR1_1 := Aside0.mk hr1_1
 have HC1_1 := Aside0.mk hc1_1
 clear hr1_1 hc1_1
 have HR1_4 := Aside0.mk hr1_4
 have HC1_4 := Aside0.mk hc1_4
 clear hr1_4 hc1_4
 have HB := Aside0.mk (Below.refl w.heap.size w)
 have H : ((laws_szConf.f k a0_0 a0_1 a0_2 a0_3 a0_4 l0_5 1048576).bind fun t848 => (if t848 < 0 then (some true) else ((laws_szGroup.f k a1_0 l1_1 a1_2 a1_3 l1_4 t848).bind fun t849 => (if t849 < 0 then (some true) else ((laws_toConf.f k a0_0 a0_1 a0_2 a0_3 a0_4 l0_5).bind fun bt850 => ((laws_toGroup.f k a1_0 l1_1 a1_2 a1_3 l1_4).bind fun bt858 => ((spec_Due.f bt850.1 bt850.2.1 bt850.2.2.1 bt850.2.2.2.1 bt850.2.2.2.2.1 bt850.2.2.2.2.2 bt858.1 bt858.2.1 bt858.2.2.1 bt858.2.2.2.1 bt858.2.2.2.2).bind fun t867 => ((laws_toConf.f k a0_0 a0_1 a0_2 a0_3 a0_4 l0_5).bind fun bt868 => ((laws_toGroup.f k a1_0 l1_1 a1_2 a1_3 l1_4).bind fun bt877 => ((impl_Due.f bt868.1 bt868.2.1 bt868.2.2.1 bt868.2.2.2.1 bt868.2.2.2.2.1 bt868.2.2.2.2.2 bt877.1 bt877.2.1 bt877.2.2.1 bt877.2.2.2.1 bt877.2.2.2.2).bind fun t887 => (if t887 = t867 then ((laws_toConf.f k a0_0 a0_1 a0_2 a0_3 a0_4 l0_5).bind fun bt888 => ((laws_eqConf.f k bt868.1 bt868.2.1 bt868.2.2.1 bt868.2.2.2.1 bt868.2.2.2.2.1 bt868.2.2.2.2.2 bt888.1 bt888.2.1 bt888.2.2.1 bt888.2.2.2.1 bt888.2.2.2.2.1 bt888.2.2.2.2.2).bind fun t896 => (if t896 = true then ((laws_toGroup.f k a1_0 l1_1 a1_2 a1_3 l1_4).bind fun bt897 => ((laws_eqGroup.f k bt877.1 bt877.2.1 bt877.2.2.1 bt877.2.2.2.1 bt877.2.2.2.2 bt897.1 bt897.2.1 bt897.2.2.1 bt897.2.2.2.1 bt897.2.2.2.2).bind fun t906 => (if t906 = true then (some true) else (none)))) else (none)))) else (none)))))))))))) = some r := h
 clear h
 replace H := Option.bind_eq_some_iff.mp H
 obtain ⟨t848, A30, H⟩ := H
 replace H : (if t848 < 0 then (some true) else ((laws_szGroup.f k a1_0 l1_1 a1_2 a1_3 l1_4 t848).bind fun t849 => (if t849 < 0 then (some true) else ((laws_toConf.f k a0_0 a0_1 a0_2 a0_3 a0_4 l0_5).bind fun bt850 => ((laws_toGroup.f k a1_0 l1_1 a1_2 a1_3 l1_4).bind fun bt858 => ((spec_Due.f bt850.1 bt850.2.1 bt850.2.2.1 bt850.2.2.2.1 bt850.2.2.2.2.1 bt850.2.2.2.2.2 bt858.1 bt858.2.1 bt858.2.2.1 bt858.2.2.2.1 bt858.2.2.2.2).bind fun t867 => ((laws_toConf.f k a0_0 a0_1 a0_2 a0_3 a0_4 l0_5).bind fun bt868 => ((laws_toGroup.f k a1_0 l1_1 a1_2 a1_3 l1_4).bind fun bt877 => ((impl_Due.f bt868.1 bt868.2.1 bt868.2.2.1 bt868.2.2.2.1 bt868.2.2.2.2.1 bt868.2.2.2.2.2 bt877.1 bt877.2.1 bt877.2.2.1 bt877.2.2.2.1 bt877.2.2.2.2).bind fun t887 => (if t887 = t867 then ((laws_toConf.f k a0_0 a0_1 a0_2 a0_3 a0_4 l0_5).bind fun bt888 => ((laws_eqConf.f k bt868.1 bt868.2.1 bt868.2.2.1 bt868.2.2.2.1 bt868.2.2.2.2.1 bt868.2.2.2.2.2 bt888.1 bt888.2.1 bt888.2.2.1 bt888.2.2.2.1 bt888.2.2.2.2.1 bt888.2.2.2.2.2).bind fun t896 => (if t896 = true then ((laws_toGroup.f k a1_0 l1_1 a1_2 a1_3 l1_4).bind fun bt897 => ((laws_eqGroup.f k bt877.1 bt877.2.1 bt877.2.2.1 bt877.2.2.2.1 bt877.2.2.2.2 bt897.1 bt897.2.1 bt897.2.2.1 bt897.2.2.2.1 bt897.2.2.2.2).bind fun t906 => (if t906 = true then (some true) else (none)))) else (none)))) else (none))))))))))) = some r := H
 have A3 := Aside0.mk A30
 clear A30
 by_cases c4 : t848 < 0
 ·
  rw [if_pos c4] at H
  have c4b0 : decide (t848 < 0) = true := decide_eq_true c4
  clear c4
  obtain rfl := Option.some.inj H
  go_enter Try.func14, Try.ntmps14
  go_wp2_with (first | ((with_reducible refine gate_dst (N := 2) rfl ?_); refine box_event ?hg (N := 2) ?hd (cs := #[.int .i64 a0_0, .int .i64 a0_1, .int .i64 a0_2, .int .i64 a0_3, .int .i64 a0_4, .slice A0_5 l0_5.length c0_5]) (t := 78) ?hr ?_; (case hd => rfl); (case hg => rfl); (case hr => first | (go_simp; done) | (go_simp; rfl)); intro gb846 hg w5 hbox hb; have n0_ := Aside0.mk (below_step (by repeat (first | (with_reducible first | exact HB.out | apply below_alloc | apply pw_below_drewN | apply below_drew1) | exact HB.out)) hb); have n1_ := Aside0.mk (hbox); have n2_ := Aside0.mk ((by rw [hg]; exact (below_size (by repeat (first | (with_reducible first | exact HB.out | apply below_alloc | apply pw_below_drewN | apply below_drew1) | exact HB.out))) : w.heap.size ≤ gb846)); have n3_ := Aside0.mk ((by rw [hg]; exact (below_size (by repeat (first | (with_reducible first | exact HB.out | apply below_alloc | apply pw_below_drewN | apply below_drew1) | exact HB.out))) : w.heap.size ≤ gb846)); clear HB; have HB := n0_; have BK846 := n1_; have GW846 := n2_; have GE846 := n3_; clear n0_ n1_ n2_ n3_; clear hb hbox hg) | ((with_reducible refine gate_dst (N := 3) rfl ?_); refine box_event ?hg (N := 3) ?hd (cs := #[.int .i64 a1_0, .slice A1_1 l1_1.length c1_1, .int .i64 a1_2, .int .i64 a1_3, .slice A1_4 l1_4.length c1_4]) (t := 64) ?hr ?_; (case hd => rfl); (case hg => rfl); (case hr => first | (go_simp; done) | (go_simp; rfl)); intro gb847 hg w6 hbox hb; have n0_ := Aside0.mk (blk_below (g := gb846) (o := .cells #[.int .i64 a0_0, .int .i64 a0_1, .int .i64 a0_2, .int .i64 a0_3, .int .i64 a0_4, .slice A0_5 l0_5.length c0_5] 78 (0, 0)) (by (with_reducible repeat (first | refine blk_drewN ?_ _ | refine blk_drew ?_ | refine blk_alloc ?_ _)); exact BK846.out) hb); have n1_ := Aside0.mk (below_step (by repeat (first | (with_reducible first | exact HB.out | apply below_alloc | apply pw_below_drewN | apply below_drew1 | refine below_set ?_ GE846.out) | exact HB.out)) hb); have n2_ := Aside0.mk (hbox); have n3_ := Aside0.mk ((by rw [hg]; exact (below_size (by repeat (first | (with_reducible first | exact HB.out | apply below_alloc | apply pw_below_drewN | apply below_drew1 | refine below_set ?_ GE846.out) | exact HB.out))) : w.heap.size ≤ gb847)); have n4_ := Aside0.mk ((by rw [hg]; exact (below_size (by repeat (first | (with_reducible first | exact HB.out | apply below_alloc | apply pw_below_drewN | apply below_drew1 | refine below_set ?_ GE846.out) | exact HB.out))) : w.heap.size ≤ gb847)); have n5_ := Aside0.mk ((by rw [hg]; exact Nat.ne_of_lt (blk_lt (g := gb846) (o := .cells #[.int .i64 a0_0, .int .i64 a0_1, .int .i64 a0_2, .int .i64 a0_3, .int .i64 a0_4, .slice A0_5 l0_5.length c0_5] 78 (0, 0)) (by (with_reducible repeat (first | refine blk_drewN ?_ _ | refine blk_drew ?_ | refine blk_alloc ?_ _)); exact BK846.out)) : gb846 ≠ gb847)); have n6_ := Aside0.mk ((by rw [hg]; exact Nat.ne_of_gt (blk_lt (g := gb846) (o := .cells #[.int .i64 a0_0, .int .i64 a0_1, .int .i64 a0_2, .int .i64 a0_3, .int .i64 a0_4, .slice A0_5 l0_5.length c0_5] 78 (0, 0)) (by (with_reducible repeat (first | refine blk_drewN ?_ _ | refine blk_drew ?_ | refine blk_alloc ?_ _)); exact BK846.out)) : gb847 ≠ gb846)); clear BK846; clear HB; have BK846 := n0_; have HB := n1_; have BK847 := n2_; have GW847 := n3_; have GE847 := n4_; have NB846_847 := n5_; have NB847_846 := n6_; clear n0_ n1_ n2_ n3_ n4_ n5_ n6_; clear hb hbox hg; have hnb7 := NB846_847.out; have hnc7 := NB847_846.out; have hcz8_0 : w6.cell? ⟨gb846, 0, none⟩ = some (.int .i64 a0_0) := (blk_cell BK846.out 0).trans rfl; have hcz8_1 : w6.cell? ⟨gb846, 1, none⟩ = some (.int .i64 a0_1) := (blk_cell BK846.out 1).trans rfl; have hcz8_2 : w6.cell? ⟨gb846, 2, none⟩ = some (.int .i64 a0_2) := (blk_cell BK846.out 2).trans rfl; have hcz8_3 : w6.cell? ⟨gb846, 3, none⟩ = some (.int .i64 a0_3) := (blk_cell BK846.out 3).trans rfl; have hcz8_4 : w6.cell? ⟨gb846, 4, none⟩ = some (.int .i64 a0_4) := (blk_cell BK846.out 4).trans rfl; have hcz8_5 : w6.cell? ⟨gb846, 5, none⟩ = some (.slice A0_5 l0_5.length c0_5) := (blk_cell BK846.out 5).trans rfl; have hfz8_0 := blk_frozen BK846.out 0; have hfz8_1 := blk_frozen BK846.out 1; have hfz8_2 := blk_frozen BK846.out 2; have hfz8_3 := blk_frozen BK846.out 3; have hfz8_4 := blk_frozen BK846.out 4; have hfz8_5 := blk_frozen BK846.out 5) | ((with_reducible refine gate_callee (f := 47) rfl ?_); refine goesL_ (some 12) rfl rfl Try.func47 (by kernel_rfl) rfl #[.agg #[.int .i64 a0_0, .int .i64 a0_1, .int .i64 a0_2, .int .i64 a0_3, .int .i64 a0_4, .slice A0_5 l0_5.length c0_5], .int .i64 1048576] rfl (by (try simp only [List.map_toArray, List.map_cons, List.map_nil]); first | done | rfl | (simp only [List.length_drop, List.length_take]; rfl)) ?_; (with_reducible refine (laws_szConf.calls k a0_0 a0_1 a0_2 a0_3 a0_4 _ _ l0_5 1048576 t848 _ ?side1 ?side2 A3.out).mono ?_); (case side1 => repeat (first | exact (Kd.C_below HR0_5.out HB.out) | (with_reducible refine Kd.C_alloc ?_ _) | (with_reducible refine Kd.C_drewN ?_ _) | (with_reducible refine Kd.C_drew ?_))); (case side2 => exact HC0_5.out); rintro e w9 ⟨rfl, hb⟩; refine ⟨_, rfl, ?_⟩; have n0_ := Aside0.mk (blk_below (g := gb846) (o := .cells #[.int .i64 a0_0, .int .i64 a0_1, .int .i64 a0_2, .int .i64 a0_3, .int .i64 a0_4, .slice A0_5 l0_5.length c0_5] 78 (0, 0)) (by (with_reducible repeat (first | refine blk_drewN ?_ _ | refine blk_drew ?_ | refine blk_alloc ?_ _)); exact BK846.out) hb); have n1_ := Aside0.mk (blk_below (g := gb847) (o := .cells #[.int .i64 a1_0, .slice A1_1 l1_1.length c1_1, .int .i64 a1_2, .int .i64 a1_3, .slice A1_4 l1_4.length c1_4] 64 (0, 0)) (by (with_reducible repeat (first | refine blk_drewN ?_ _ | refine blk_drew ?_ | refine blk_alloc ?_ _)); exact BK847.out) hb); have n2_ := Aside0.mk (below_step (by repeat (first | (with_reducible first | exact HB.out | apply below_alloc | apply pw_below_drewN | apply below_drew1 | refine below_set ?_ GE846.out | refine below_set ?_ GE847.out) | exact HB.out)) hb); clear BK846; clear BK847; clear HB; have BK846 := n0_; have BK847 := n1_; have HB := n2_; clear n0_ n1_ n2_; (try clear hb); (try clear hb2); (try clear hk); (try clear hi)))
  go_ret
  exact ⟨by first | rfl | (simp [errW_none, errW_some] <;> rfl) | (simp [*, errW_none, errW_some] <;> rfl), by repeat (first | (with_reducible first | exact HB.out | apply below_alloc | apply pw_below_drewN | apply below_drew1 | refine below_set ?_ GE846.out | refine below_set ?_ GE847.out) | exact HB.out)⟩
 ·
  rw [if_neg c4] at H
  have c4b0 : decide (t848 < 0) = false := decide_eq_false c4
  clear c4
  replace H := Option.bind_eq_some_iff.mp H
  obtain ⟨t849, A100, H⟩ := H
  replace H : (if t849 < 0 then (some true) else ((laws_toConf.f k a0_0 a0_1 a0_2 a0_3 a0_4 l0_5).bind fun bt850 => ((laws_toGroup.f k a1_0 l1_1 a1_2 a1_3 l1_4).bind fun bt858 => ((spec_Due.f bt850.1 bt850.2.1 bt850.2.2.1 bt850.2.2.2.1 bt850.2.2.2.2.1 bt850.2.2.2.2.2 bt858.1 bt858.2.1 bt858.2.2.1 bt858.2.2.2.1 bt858.2.2.2.2).bind fun t867 => ((laws_toConf.f k a0_0 a0_1 a0_2 a0_3 a0_4 l0_5).bind fun bt868 => ((laws_toGroup.f k a1_0 l1_1 a1_2 a1_3 l1_4).bind fun bt877 => ((impl_Due.f bt868.1 bt868.2.1 bt868.2.2.1 bt868.2.2.2.1 bt868.2.2.2.2.1 bt868.2.2.2.2.2 bt877.1 bt877.2.1 bt877.2.2.1 bt877.2.2.2.1 bt877.2.2.2.2).bind fun t887 => (if t887 = t867 then ((laws_toConf.f k a0_0 a0_1 a0_2 a0_3 a0_4 l0_5).bind fun bt888 => ((laws_eqConf.f k bt868.1 bt868.2.1 bt868.2.2.1 bt868.2.2.2.1 bt868.2.2.2.2.1 bt868.2.2.2.2.2 bt888.1 bt888.2.1 bt888.2.2.1 bt888.2.2.2.1 bt888.2.2.2.2.1 bt888.2.2.2.2.2).bind fun t896 => (if t896 = true then ((laws_toGroup.f k a1_0 l1_1 a1_2 a1_3 l1_4).bind fun bt897 => ((laws_eqGroup.f k bt877.1 bt877.2.1 bt877.2.2.1 bt877.2.2.2.1 bt877.2.2.2.2 bt897.1 bt897.2.1 bt897.2.2.1 bt897.2.2.2.1 bt897.2.2.2.2).bind fun t906 => (if t906 = true then (some true) else (none)))) else (none)))) else (none))))))))) = some r := H
  have A10 := Aside0.mk A100
  clear A100
  by_cases c11 : t849 < 0
  ·
   rw [if_pos c11] at H
   have c11b0 : decide (t849 < 0) = true := decide_eq_true c11
   clear c11
   obtain rfl := Option.some.inj H
   go_enter Try.func14, Try.ntmps14
   go_wp2_with (first | ((with_reducible refine gate_dst (N := 2) rfl ?_); refine box_event ?hg (N := 2) ?hd (cs := #[.int .i64 a0_0, .int .i64 a0_1, .int .i64 a0_2, .int .i64 a0_3, .int .i64 a0_4, .slice A0_5 l0_5.length c0_5]) (t := 78) ?hr ?_; (case hd => rfl); (case hg => rfl); (case hr => first | (go_simp; done) | (go_simp; rfl)); intro gb846 hg w12 hbox hb; have n0_ := Aside0.mk (below_step (by repeat (first | (with_reducible first | exact HB.out | apply below_alloc | apply pw_below_drewN | apply below_drew1) | exact HB.out)) hb); have n1_ := Aside0.mk (hbox); have n2_ := Aside0.mk ((by rw [hg]; exact (below_size (by repeat (first | (with_reducible first | exact HB.out | apply below_alloc | apply pw_below_drewN | apply below_drew1) | exact HB.out))) : w.heap.size ≤ gb846)); have n3_ := Aside0.mk ((by rw [hg]; exact (below_size (by repeat (first | (with_reducible first | exact HB.out | apply below_alloc | apply pw_below_drewN | apply below_drew1) | exact HB.out))) : w.heap.size ≤ gb846)); clear HB; have HB := n0_; have BK846 := n1_; have GW846 := n2_; have GE846 := n3_; clear n0_ n1_ n2_ n3_; clear hb hbox hg) | ((with_reducible refine gate_dst (N := 3) rfl ?_); refine box_event ?hg (N := 3) ?hd (cs := #[.int .i64 a1_0, .slice A1_1 l1_1.length c1_1, .int .i64 a1_2, .int .i64 a1_3, .slice A1_4 l1_4.length c1_4]) (t := 64) ?hr ?_; (case hd => rfl); (case hg => rfl); (case hr => first | (go_simp; done) | (go_simp; rfl)); intro gb847 hg w13 hbox hb; have n0_ := Aside0.mk (blk_below (g := gb846) (o := .cells #[.int .i64 a0_0, .int .i64 a0_1, .int .i64 a0_2, .int .i64 a0_3, .int .i64 a0_4, .slice A0_5 l0_5.length c0_5] 78 (0, 0)) (by (with_reducible repeat (first | refine blk_drewN ?_ _ | refine blk_drew ?_ | refine blk_alloc ?_ _)); exact BK846.out) hb); have n1_ := Aside0.mk (below_step (by repeat (first | (with_reducible first | exact HB.out | apply below_alloc | apply pw_below_drewN | apply below_drew1 | refine below_set ?_ GE846.out) | exact HB.out)) hb); have n2_ := Aside0.mk (hbox); have n3_ := Aside0.mk ((by rw [hg]; exact (below_size (by repeat (first | (with_reducible first | exact HB.out | apply below_alloc | apply pw_below_drewN | apply below_drew1 | refine below_set ?_ GE846.out) | exact HB.out))) : w.heap.size ≤ gb847)); have n4_ := Aside0.mk ((by rw [hg]; exact (below_size (by repeat (first | (with_reducible first | exact HB.out | apply below_alloc | apply pw_below_drewN | apply below_drew1 | refine below_set ?_ GE846.out) | exact HB.out))) : w.heap.size ≤ gb847)); have n5_ := Aside0.mk ((by rw [hg]; exact Nat.ne_of_lt (blk_lt (g := gb846) (o := .cells #[.int .i64 a0_0, .int .i64 a0_1, .int .i64 a0_2, .int .i64 a0_3, .int .i64 a0_4, .slice A0_5 l0_5.length c0_5] 78 (0, 0)) (by (with_reducible repeat (first | refine blk_drewN ?_ _ | refine blk_drew ?_ | refine blk_alloc ?_ _)); exact BK846.out)) : gb846 ≠ gb847)); have n6_ := Aside0.mk ((by rw [hg]; exact Nat.ne_of_gt (blk_lt (g := gb846) (o := .cells #[.int .i64 a0_0, .int .i64 a0_1, .int .i64 a0_2, .int .i64 a0_3, .int .i64 a0_4, .slice A0_5 l0_5.length c0_5] 78 (0, 0)) (by (with_reducible repeat (first | refine blk_drewN ?_ _ | refine blk_drew ?_ | refine blk_alloc ?_ _)); exact BK846.out)) : gb847 ≠ gb846)); clear BK846; clear HB; have BK846 := n0_; have HB := n1_; have BK847 := n2_; have GW847 := n3_; have GE847 := n4_; have NB846_847 := n5_; have NB847_846 := n6_; clear n0_ n1_ n2_ n3_ n4_ n5_ n6_; clear hb hbox hg; have hnb14 := NB846_847.out; have hnc14 := NB847_846.out; have hcz15_0 : w13.cell? ⟨gb846, 0, none⟩ = some (.int .i64 a0_0) := (blk_cell BK846.out 0).trans rfl; have hcz15_1 : w13.cell? ⟨gb846, 1, none⟩ = some (.int .i64 a0_1) := (blk_cell BK846.out 1).trans rfl; have hcz15_2 : w13.cell? ⟨gb846, 2, none⟩ = some (.int .i64 a0_2) := (blk_cell BK846.out 2).trans rfl; have hcz15_3 : w13.cell? ⟨gb846, 3, none⟩ = some (.int .i64 a0_3) := (blk_cell BK846.out 3).trans rfl; have hcz15_4 : w13.cell? ⟨gb846, 4, none⟩ = some (.int .i64 a0_4) := (blk_cell BK846.out 4).trans rfl; have hcz15_5 : w13.cell? ⟨gb846, 5, none⟩ = some (.slice A0_5 l0_5.length c0_5) := (blk_cell BK846.out 5).trans rfl; have hfz15_0 := blk_frozen BK846.out 0; have hfz15_1 := blk_frozen BK846.out 1; have hfz15_2 := blk_frozen BK846.out 2; have hfz15_3 := blk_frozen BK846.out 3; have hfz15_4 := blk_frozen BK846.out 4; have hfz15_5 := blk_frozen BK846.out 5) | ((with_reducible refine gate_callee (f := 47) rfl ?_); refine goesL_ (some 12) rfl rfl Try.func47 (by kernel_rfl) rfl #[.agg #[.int .i64 a0_0, .int .i64 a0_1, .int .i64 a0_2, .int .i64 a0_3, .int .i64 a0_4, .slice A0_5 l0_5.length c0_5], .int .i64 1048576] rfl (by (try simp only [List.map_toArray, List.map_cons, List.map_nil]); first | done | rfl | (simp only [List.length_drop, List.length_take]; rfl)) ?_; (with_reducible refine (laws_szConf.calls k a0_0 a0_1 a0_2 a0_3 a0_4 _ _ l0_5 1048576 t848 _ ?side1 ?side2 A3.out).mono ?_); (case side1 => repeat (first | exact (Kd.C_below HR0_5.out HB.out) | (with_reducible refine Kd.C_alloc ?_ _) | (with_reducible refine Kd.C_drewN ?_ _) | (with_reducible refine Kd.C_drew ?_))); (case side2 => exact HC0_5.out); rintro e w16 ⟨rfl, hb⟩; refine ⟨_, rfl, ?_⟩; have n0_ := Aside0.mk (blk_below (g := gb846) (o := .cells #[.int .i64 a0_0, .int .i64 a0_1, .int .i64 a0_2, .int .i64 a0_3, .int .i64 a0_4, .slice A0_5 l0_5.length c0_5] 78 (0, 0)) (by (with_reducible repeat (first | refine blk_drewN ?_ _ | refine blk_drew ?_ | refine blk_alloc ?_ _)); exact BK846.out) hb); have n1_ := Aside0.mk (blk_below (g := gb847) (o := .cells #[.int .i64 a1_0, .slice A1_1 l1_1.length c1_1, .int .i64 a1_2, .int .i64 a1_3, .slice A1_4 l1_4.length c1_4] 64 (0, 0)) (by (with_reducible repeat (first | refine blk_drewN ?_ _ | refine blk_drew ?_ | refine blk_alloc ?_ _)); exact BK847.out) hb); have n2_ := Aside0.mk (below_step (by repeat (first | (with_reducible first | exact HB.out | apply below_alloc | apply pw_below_drewN | apply below_drew1 | refine below_set ?_ GE846.out | refine below_set ?_ GE847.out) | exact HB.out)) hb); clear BK846; clear BK847; clear HB; have BK846 := n0_; have BK847 := n1_; have HB := n2_; clear n0_ n1_ n2_; (try clear hb); (try clear hb2); (try clear hk); (try clear hi); have hcz17_0 : w16.cell? ⟨gb847, 0, none⟩ = some (.int .i64 a1_0) := (blk_cell BK847.out 0).trans rfl; have hcz17_1 : w16.cell? ⟨gb847, 1, none⟩ = some (.slice A1_1 l1_1.length c1_1) := (blk_cell BK847.out 1).trans rfl; have hcz17_2 : w16.cell? ⟨gb847, 2, none⟩ = some (.int .i64 a1_2) := (blk_cell BK847.out 2).trans rfl; have hcz17_3 : w16.cell? ⟨gb847, 3, none⟩ = some (.int .i64 a1_3) := (blk_cell BK847.out 3).trans rfl; have hcz17_4 : w16.cell? ⟨gb847, 4, none⟩ = some (.slice A1_4 l1_4.length c1_4) := (blk_cell BK847.out 4).trans rfl; have hfz17_0 := blk_frozen BK847.out 0; have hfz17_1 := blk_frozen BK847.out 1; have hfz17_2 := blk_frozen BK847.out 2; have hfz17_3 := blk_frozen BK847.out 3; have hfz17_4 := blk_frozen BK847.out 4) | ((with_reducible refine gate_callee (f := 37) rfl ?_); refine goesL_ (some 17) rfl rfl Try.func37 (by kernel_rfl) rfl #[.agg #[.int .i64 a1_0, .slice A1_1 l1_1.length c1_1, .int .i64 a1_2, .int .i64 a1_3, .slice A1_4 l1_4.length c1_4], .int .i64 t848] rfl (by (try simp only [List.map_toArray, List.map_cons, List.map_nil]); first | done | rfl | (simp only [List.length_drop, List.length_take]; rfl)) ?_; (with_reducible refine (laws_szGroup.calls k a1_0 _ _ l1_1 a1_2 a1_3 _ _ l1_4 t848 t849 _ ?side1 ?side2 ?side3 ?side4 A10.out).mono ?_); (case side1 => repeat (first | exact (Kd.C_below HR1_1.out HB.out) | (with_reducible refine Kd.C_alloc ?_ _) | (with_reducible refine Kd.C_drewN ?_ _) | (with_reducible refine Kd.C_drew ?_))); (case side2 => exact HC1_1.out); (case side3 => repeat (first | exact (Kd.C_below HR1_4.out HB.out) | (with_reducible refine Kd.C_alloc ?_ _) | (with_reducible refine Kd.C_drewN ?_ _) | (with_reducible refine Kd.C_drew ?_))); (case side4 => exact HC1_4.out); rintro e w18 ⟨rfl, hb⟩; refine ⟨_, rfl, ?_⟩; have n0_ := Aside0.mk (blk_below (g := gb846) (o := .cells #[.int .i64 a0_0, .int .i64 a0_1, .int .i64 a0_2, .int .i64 a0_3, .int .i64 a0_4, .slice A0_5 l0_5.length c0_5] 78 (0, 0)) (by (with_reducible repeat (first | refine blk_drewN ?_ _ | refine blk_drew ?_ | refine blk_alloc ?_ _)); exact BK846.out) hb); have n1_ := Aside0.mk (blk_below (g := gb847) (o := .cells #[.int .i64 a1_0, .slice A1_1 l1_1.length c1_1, .int .i64 a1_2, .int .i64 a1_3, .slice A1_4 l1_4.length c1_4] 64 (0, 0)) (by (with_reducible repeat (first | refine blk_drewN ?_ _ | refine blk_drew ?_ | refine blk_alloc ?_ _)); exact BK847.out) hb); have n2_ := Aside0.mk (below_step (by repeat (first | (with_reducible first | exact HB.out | apply below_alloc | apply pw_below_drewN | apply below_drew1 | refine below_set ?_ GE846.out | refine below_set ?_ GE847.out) | exact HB.out)) hb); clear BK846; clear BK847; clear HB; have BK846 := n0_; have BK847 := n1_; have HB := n2_; clear n0_ n1_ n2_; (try clear hb); (try clear hb2); (try clear hk); (try clear hi)))
   go_ret
   exact ⟨by first | rfl | (simp [errW_none, errW_some] <;> rfl) | (simp [*, errW_none, errW_some] <;> rfl), by repeat (first | (with_reducible first | exact HB.out | apply below_alloc | apply pw_below_drewN | apply below_drew1 | refine below_set ?_ GE846.out | refine below_set ?_ GE847.out) | exact HB.out)⟩
  ·
   rw [if_neg c11] at H
   have c11b0 : decide (t849 < 0) = false := decide_eq_false c11
   clear c11
   replace H := Option.bind_eq_some_iff.mp H
   obtain ⟨⟨t850, t851, t852, t853, t854, t855⟩, A190, H⟩ := H
   replace H : ((laws_toGroup.f k a1_0 l1_1 a1_2 a1_3 l1_4).bind fun bt858 => ((spec_Due.f t850 t851 t852 t853 t854 t855 bt858.1 bt858.2.1 bt858.2.2.1 bt858.2.2.2.1 bt858.2.2.2.2).bind fun t867 => ((laws_toConf.f k a0_0 a0_1 a0_2 a0_3 a0_4 l0_5).bind fun bt868 => ((laws_toGroup.f k a1_0 l1_1 a1_2 a1_3 l1_4).bind fun bt877 => ((impl_Due.f bt868.1 bt868.2.1 bt868.2.2.1 bt868.2.2.2.1 bt868.2.2.2.2.1 bt868.2.2.2.2.2 bt877.1 bt877.2.1 bt877.2.2.1 bt877.2.2.2.1 bt877.2.2.2.2).bind fun t887 => (if t887 = t867 then ((laws_toConf.f k a0_0 a0_1 a0_2 a0_3 a0_4 l0_5).bind fun bt888 => ((laws_eqConf.f k bt868.1 bt868.2.1 bt868.2.2.1 bt868.2.2.2.1 bt868.2.2.2.2.1 bt868.2.2.2.2.2 bt888.1 bt888.2.1 bt888.2.2.1 bt888.2.2.2.1 bt888.2.2.2.2.1 bt888.2.2.2.2.2).bind fun t896 => (if t896 = true then ((laws_toGroup.f k a1_0 l1_1 a1_2 a1_3 l1_4).bind fun bt897 => ((laws_eqGroup.f k bt877.1 bt877.2.1 bt877.2.2.1 bt877.2.2.2.1 bt877.2.2.2.2 bt897.1 bt897.2.1 bt897.2.2.1 bt897.2.2.2.1 bt897.2.2.2.2).bind fun t906 => (if t906 = true then (some true) else (none)))) else (none)))) else (none))))))) = some r := H
   have A19 := Aside0.mk A190
   clear A190
   replace H := Option.bind_eq_some_iff.mp H
   obtain ⟨⟨t858, t859, t862, t863, t864⟩, A200, H⟩ := H
   replace H : ((spec_Due.f t850 t851 t852 t853 t854 t855 t858 t859 t862 t863 t864).bind fun t867 => ((laws_toConf.f k a0_0 a0_1 a0_2 a0_3 a0_4 l0_5).bind fun bt868 => ((laws_toGroup.f k a1_0 l1_1 a1_2 a1_3 l1_4).bind fun bt877 => ((impl_Due.f bt868.1 bt868.2.1 bt868.2.2.1 bt868.2.2.2.1 bt868.2.2.2.2.1 bt868.2.2.2.2.2 bt877.1 bt877.2.1 bt877.2.2.1 bt877.2.2.2.1 bt877.2.2.2.2).bind fun t887 => (if t887 = t867 then ((laws_toConf.f k a0_0 a0_1 a0_2 a0_3 a0_4 l0_5).bind fun bt888 => ((laws_eqConf.f k bt868.1 bt868.2.1 bt868.2.2.1 bt868.2.2.2.1 bt868.2.2.2.2.1 bt868.2.2.2.2.2 bt888.1 bt888.2.1 bt888.2.2.1 bt888.2.2.2.1 bt888.2.2.2.2.1 bt888.2.2.2.2.2).bind fun t896 => (if t896 = true then ((laws_toGroup.f k a1_0 l1_1 a1_2 a1_3 l1_4).bind fun bt897 => ((laws_eqGroup.f k bt877.1 bt877.2.1 bt877.2.2.1 bt877.2.2.2.1 bt877.2.2.2.2 bt897.1 bt897.2.1 bt897.2.2.1 bt897.2.2.2.1 bt897.2.2.2.2).bind fun t906 => (if t906 = true then (some true) else (none)))) else (none)))) else (none)))))) = some r := H
   have A20 := Aside0.mk A200
   clear A200
   replace H := Option.bind_eq_some_iff.mp H
   obtain ⟨t867, A210, H⟩ := H
   replace H : ((laws_toConf.f k a0_0 a0_1 a0_2 a0_3 a0_4 l0_5).bind fun bt868 => ((laws_toGroup.f k a1_0 l1_1 a1_2 a1_3 l1_4).bind fun bt877 => ((impl_Due.f bt868.1 bt868.2.1 bt868.2.2.1 bt868.2.2.2.1 bt868.2.2.2.2.1 bt868.2.2.2.2.2 bt877.1 bt877.2.1 bt877.2.2.1 bt877.2.2.2.1 bt877.2.2.2.2).bind fun t887 => (if t887 = t867 then ((laws_toConf.f k a0_0 a0_1 a0_2 a0_3 a0_4 l0_5).bind fun bt888 => ((laws_eqConf.f k bt868.1 bt868.2.1 bt868.2.2.1 bt868.2.2.2.1 bt868.2.2.2.2.1 bt868.2.2.2.2.2 bt888.1 bt888.2.1 bt888.2.2.1 bt888.2.2.2.1 bt888.2.2.2.2.1 bt888.2.2.2.2.2).bind fun t896 => (if t896 = true then ((laws_toGroup.f k a1_0 l1_1 a1_2 a1_3 l1_4).bind fun bt897 => ((laws_eqGroup.f k bt877.1 bt877.2.1 bt877.2.2.1 bt877.2.2.2.1 bt877.2.2.2.2 bt897.1 bt897.2.1 bt897.2.2.1 bt897.2.2.2.1 bt897.2.2.2.2).bind fun t906 => (if t906 = true then (some true) else (none)))) else (none)))) else (none))))) = some r := H
   have A21 := Aside0.mk A210
   clear A210
   replace H := Option.bind_eq_some_iff.mp H
   obtain ⟨⟨t868, t869, t870, t871, t872, t873⟩, A220, H⟩ := H
   replace H : ((laws_toGroup.f k a1_0 l1_1 a1_2 a1_3 l1_4).bind fun bt877 => ((impl_Due.f t868 t869 t870 t871 t872 t873 bt877.1 bt877.2.1 bt877.2.2.1 bt877.2.2.2.1 bt877.2.2.2.2).bind fun t887 => (if t887 = t867 then ((laws_toConf.f k a0_0 a0_1 a0_2 a0_3 a0_4 l0_5).bind fun bt888 => ((laws_eqConf.f k t868 t869 t870 t871 t872 t873 bt888.1 bt888.2.1 bt888.2.2.1 bt888.2.2.2.1 bt888.2.2.2.2.1 bt888.2.2.2.2.2).bind fun t896 => (if t896 = true then ((laws_toGroup.f k a1_0 l1_1 a1_2 a1_3 l1_4).bind fun bt897 => ((laws_eqGroup.f k bt877.1 bt877.2.1 bt877.2.2.1 bt877.2.2.2.1 bt877.2.2.2.2 bt897.1 bt897.2.1 bt897.2.2.1 bt897.2.2.2.1 bt897.2.2.2.2).bind fun t906 => (if t906 = true then (some true) else (none)))) else (none)))) else (none)))) = some r := H
   have A22 := Aside0.mk A220
   clear A220
   replace H := Option.bind_eq_some_iff.mp H
   obtain ⟨⟨t877, t878, t881, t882, t883⟩, A230, H⟩ := H
   replace H : ((impl_Due.f t868 t869 t870 t871 t872 t873 t877 t878 t881 t882 t883).bind fun t887 => (if t887 = t867 then ((laws_toConf.f k a0_0 a0_1 a0_2 a0_3 a0_4 l0_5).bind fun bt888 => ((laws_eqConf.f k t868 t869 t870 t871 t872 t873 bt888.1 bt888.2.1 bt888.2.2.1 bt888.2.2.2.1 bt888.2.2.2.2.1 bt888.2.2.2.2.2).bind fun t896 => (if t896 = true then ((laws_toGroup.f k a1_0 l1_1 a1_2 a1_3 l1_4).bind fun bt897 => ((laws_eqGroup.f k t877 t878 t881 t882 t883 bt897.1 bt897.2.1 bt897.2.2.1 bt897.2.2.2.1 bt897.2.2.2.2).bind fun t906 => (if t906 = true then (some true) else (none)))) else (none)))) else (none))) = some r := H
   have A23 := Aside0.mk A230
   clear A230
   replace H := Option.bind_eq_some_iff.mp H
   obtain ⟨t887, A240, H⟩ := H
   replace H : (if t887 = t867 then ((laws_toConf.f k a0_0 a0_1 a0_2 a0_3 a0_4 l0_5).bind fun bt888 => ((laws_eqConf.f k t868 t869 t870 t871 t872 t873 bt888.1 bt888.2.1 bt888.2.2.1 bt888.2.2.2.1 bt888.2.2.2.2.1 bt888.2.2.2.2.2).bind fun t896 => (if t896 = true then ((laws_toGroup.f k a1_0 l1_1 a1_2 a1_3 l1_4).bind fun bt897 => ((laws_eqGroup.f k t877 t878 t881 t882 t883 bt897.1 bt897.2.1 bt897.2.2.1 bt897.2.2.2.1 bt897.2.2.2.2).bind fun t906 => (if t906 = true then (some true) else (none)))) else (none)))) else (none)) = some r := H
   have A24 := Aside0.mk A240
   clear A240
   by_cases c25 : t887 = t867
   ·
    rw [if_pos c25] at H
    have c25b0 : (t887 == t867) = true := beq_iff_eq.mpr c25
    have c25b1 : (t887 != t867) = false := bne_eq_false_iff_eq.mpr c25
    clear c25
    replace H := Option.bind_eq_some_iff.mp H
    obtain ⟨⟨t888, t889, t890, t891, t892, t893⟩, A260, H⟩ := H
    replace H : ((laws_eqConf.f k t868 t869 t870 t871 t872 t873 t888 t889 t890 t891 t892 t893).bind fun t896 => (if t896 = true then ((laws_toGroup.f k a1_0 l1_1 a1_2 a1_3 l1_4).bind fun bt897 => ((laws_eqGroup.f k t877 t878 t881 t882 t883 bt897.1 bt897.2.1 bt897.2.2.1 bt897.2.2.2.1 bt897.2.2.2.2).bind fun t906 => (if t906 = true then (some true) else (none)))) else (none))) = some r := H
    have A26 := Aside0.mk A260
    clear A260
    replace H := Option.bind_eq_some_iff.mp H
    obtain ⟨t896, A270, H⟩ := H
    replace H : (if t896 = true then ((laws_toGroup.f k a1_0 l1_1 a1_2 a1_3 l1_4).bind fun bt897 => ((laws_eqGroup.f k t877 t878 t881 t882 t883 bt897.1 bt897.2.1 bt897.2.2.1 bt897.2.2.2.1 bt897.2.2.2.2).bind fun t906 => (if t906 = true then (some true) else (none)))) else (none)) = some r := H
    have A27 := Aside0.mk A270
    clear A270
    by_cases c28 : t896 = true
    ·
     subst c28
     have H1 : ((laws_toGroup.f k a1_0 l1_1 a1_2 a1_3 l1_4).bind fun bt897 => ((laws_eqGroup.f k t877 t878 t881 t882 t883 bt897.1 bt897.2.1 bt897.2.2.1 bt897.2.2.2.1 bt897.2.2.2.2).bind fun t906 => (if t906 = true then (some true) else (none)))) = some r := by rw [if_pos rfl] at H; exact H
     clear H
     have H := H1
     clear H1
     replace H := Option.bind_eq_some_iff.mp H
     obtain ⟨⟨t897, t898, t901, t902, t903⟩, A290, H⟩ := H
     replace H : ((laws_eqGroup.f k t877 t878 t881 t882 t883 t897 t898 t901 t902 t903).bind fun t906 => (if t906 = true then (some true) else (none))) = some r := H
     have A29 := Aside0.mk A290
     clear A290
     replace H := Option.bind_eq_some_iff.mp H
     obtain ⟨t906, A300, H⟩ := H
     replace H : (if t906 = true then (some true) else (none)) = some r := H
     have A30 := Aside0.mk A300
     clear A300
     by_cases c31 : t906 = true
     ·
      subst c31
      have H1 : (some true) = some r := by rw [if_pos rfl] at H; exact H
      clear H
      have H := H1
      clear H1
      obtain rfl := Option.some.inj H
      go_enter Try.func14, Try.ntmps14
      try go_wp2_with (first | ((with_reducible refine gate_dst (N := 2) rfl ?_); refine box_event ?hg (N := 2) ?hd (cs := #[.int .i64 a0_0, .int .i64 a0_1, .int .i64 a0_2, .int .i64 a0_3, .int .i64 a0_4, .slice A0_5 l0_5.length c0_5]) (t := 78) ?hr ?_; (case hd => rfl); (case hg => rfl); (case hr => first | (go_simp; done) | (go_simp; rfl)); intro gb846 hg w32 hbox hb; have n0_ := Aside0.mk (below_step (by repeat (first | (with_reducible first | exact HB.out | apply below_alloc | apply pw_below_drewN | apply below_drew1) | exact HB.out)) hb); have n1_ := Aside0.mk (hbox); have n2_ := Aside0.mk ((by rw [hg]; exact (below_size (by repeat (first | (with_reducible first | exact HB.out | apply below_alloc | apply pw_below_drewN | apply below_drew1) | exact HB.out))) : w.heap.size ≤ gb846)); have n3_ := Aside0.mk ((by rw [hg]; exact (below_size (by repeat (first | (with_reducible first | exact HB.out | apply below_alloc | apply pw_below_drewN | apply below_drew1) | exact HB.out))) : w.heap.size ≤ gb846)); clear HB; have HB := n0_; have BK846 := n1_; have GW846 := n2_; have GE846 := n3_; clear n0_ n1_ n2_ n3_; clear hb hbox hg) | ((with_reducible refine gate_dst (N := 3) rfl ?_); refine box_event ?hg (N := 3) ?hd (cs := #[.int .i64 a1_0, .slice A1_1 l1_1.length c1_1, .int .i64 a1_2, .int .i64 a1_3, .slice A1_4 l1_4.length c1_4]) (t := 64) ?hr ?_; (case hd => rfl); (case hg => rfl); (case hr => first | (go_simp; done) | (go_simp; rfl)); intro gb847 hg w33 hbox hb; have n0_ := Aside0.mk (blk_below (g := gb846) (o := .cells #[.int .i64 a0_0, .int .i64 a0_1, .int .i64 a0_2, .int .i64 a0_3, .int .i64 a0_4, .slice A0_5 l0_5.length c0_5] 78 (0, 0)) (by (with_reducible repeat (first | refine blk_drewN ?_ _ | refine blk_drew ?_ | refine blk_alloc ?_ _)); exact BK846.out) hb); have n1_ := Aside0.mk (below_step (by repeat (first | (with_reducible first | exact HB.out | apply below_alloc | apply pw_below_drewN | apply below_drew1 | refine below_set ?_ GE846.out) | exact HB.out)) hb); have n2_ := Aside0.mk (hbox); have n3_ := Aside0.mk ((by rw [hg]; exact (below_size (by repeat (first | (with_reducible first | exact HB.out | apply below_alloc | apply pw_below_drewN | apply below_drew1 | refine below_set ?_ GE846.out) | exact HB.out))) : w.heap.size ≤ gb847)); have n4_ := Aside0.mk ((by rw [hg]; exact (below_size (by repeat (first | (with_reducible first | exact HB.out | apply below_alloc | apply pw_below_drewN | apply below_drew1 | refine below_set ?_ GE846.out) | exact HB.out))) : w.heap.size ≤ gb847)); have n5_ := Aside0.mk ((by rw [hg]; exact Nat.ne_of_lt (blk_lt (g := gb846) (o := .cells #[.int .i64 a0_0, .int .i64 a0_1, .int .i64 a0_2, .int .i64 a0_3, .int .i64 a0_4, .slice A0_5 l0_5.length c0_5] 78 (0, 0)) (by (with_reducible repeat (first | refine blk_drewN ?_ _ | refine blk_drew ?_ | refine blk_alloc ?_ _)); exact BK846.out)) : gb846 ≠ gb847)); have n6_ := Aside0.mk ((by rw [hg]; exact Nat.ne_of_gt (blk_lt (g := gb846) (o := .cells #[.int .i64 a0_0, .int .i64 a0_1, .int .i64 a0_2, .int .i64 a0_3, .int .i64 a0_4, .slice A0_5 l0_5.length c0_5] 78 (0, 0)) (by (with_reducible repeat (first | refine blk_drewN ?_ _ | refine blk_drew ?_ | refine blk_alloc ?_ _)); exact BK846.out)) : gb847 ≠ gb846)); clear BK846; clear HB; have BK846 := n0_; have HB := n1_; have BK847 := n2_; have GW847 := n3_; have GE847 := n4_; have NB846_847 := n5_; have NB847_846 := n6_; clear n0_ n1_ n2_ n3_ n4_ n5_ n6_; clear hb hbox hg; have hnb34 := NB846_847.out; have hnc34 := NB847_846.out; have hcz35_0 : w33.cell? ⟨gb846, 0, none⟩ = some (.int .i64 a0_0) := (blk_cell BK846.out 0).trans rfl; have hcz35_1 : w33.cell? ⟨gb846, 1, none⟩ = some (.int .i64 a0_1) := (blk_cell BK846.out 1).trans rfl; have hcz35_2 : w33.cell? ⟨gb846, 2, none⟩ = some (.int .i64 a0_2) := (blk_cell BK846.out 2).trans rfl; have hcz35_3 : w33.cell? ⟨gb846, 3, none⟩ = some (.int .i64 a0_3) := (blk_cell BK846.out 3).trans rfl; have hcz35_4 : w33.cell? ⟨gb846, 4, none⟩ = some (.int .i64 a0_4) := (blk_cell BK846.out 4).trans rfl; have hcz35_5 : w33.cell? ⟨gb846, 5, none⟩ = some (.slice A0_5 l0_5.length c0_5) := (blk_cell BK846.out 5).trans rfl; have hfz35_0 := blk_frozen BK846.out 0; have hfz35_1 := blk_frozen BK846.out 1; have hfz35_2 := blk_frozen BK846.out 2; have hfz35_3 := blk_frozen BK846.out 3; have hfz35_4 := blk_frozen BK846.out 4; have hfz35_5 := blk_frozen BK846.out 5) | ((with_reducible refine gate_callee (f := 47) rfl ?_); refine goesL_ (some 12) rfl rfl Try.func47 (by kernel_rfl) rfl #[.agg #[.int .i64 a0_0, .int .i64 a0_1, .int .i64 a0_2, .int .i64 a0_3, .int .i64 a0_4, .slice A0_5 l0_5.length c0_5], .int .i64 1048576] rfl (by (try simp only [List.map_toArray, List.map_cons, List.map_nil]); first | done | rfl | (simp only [List.length_drop, List.length_take]; rfl)) ?_; (with_reducible refine (laws_szConf.calls k a0_0 a0_1 a0_2 a0_3 a0_4 _ _ l0_5 1048576 t848 _ ?side1 ?side2 A3.out).mono ?_); (case side1 => repeat (first | exact (Kd.C_below HR0_5.out HB.out) | (with_reducible refine Kd.C_alloc ?_ _) | (with_reducible refine Kd.C_drewN ?_ _) | (with_reducible refine Kd.C_drew ?_))); (case side2 => exact HC0_5.out); rintro e w36 ⟨rfl, hb⟩; refine ⟨_, rfl, ?_⟩; have n0_ := Aside0.mk (blk_below (g := gb846) (o := .cells #[.int .i64 a0_0, .int .i64 a0_1, .int .i64 a0_2, .int .i64 a0_3, .int .i64 a0_4, .slice A0_5 l0_5.length c0_5] 78 (0, 0)) (by (with_reducible repeat (first | refine blk_drewN ?_ _ | refine blk_drew ?_ | refine blk_alloc ?_ _)); exact BK846.out) hb); have n1_ := Aside0.mk (blk_below (g := gb847) (o := .cells #[.int .i64 a1_0, .slice A1_1 l1_1.length c1_1, .int .i64 a1_2, .int .i64 a1_3, .slice A1_4 l1_4.length c1_4] 64 (0, 0)) (by (with_reducible repeat (first | refine blk_drewN ?_ _ | refine blk_drew ?_ | refine blk_alloc ?_ _)); exact BK847.out) hb); have n2_ := Aside0.mk (below_step (by repeat (first | (with_reducible first | exact HB.out | apply below_alloc | apply pw_below_drewN | apply below_drew1 | refine below_set ?_ GE846.out | refine below_set ?_ GE847.out) | exact HB.out)) hb); clear BK846; clear BK847; clear HB; have BK846 := n0_; have BK847 := n1_; have HB := n2_; clear n0_ n1_ n2_; (try clear hb); (try clear hb2); (try clear hk); (try clear hi); have hcz37_0 : w36.cell? ⟨gb847, 0, none⟩ = some (.int .i64 a1_0) := (blk_cell BK847.out 0).trans rfl; have hcz37_1 : w36.cell? ⟨gb847, 1, none⟩ = some (.slice A1_1 l1_1.length c1_1) := (blk_cell BK847.out 1).trans rfl; have hcz37_2 : w36.cell? ⟨gb847, 2, none⟩ = some (.int .i64 a1_2) := (blk_cell BK847.out 2).trans rfl; have hcz37_3 : w36.cell? ⟨gb847, 3, none⟩ = some (.int .i64 a1_3) := (blk_cell BK847.out 3).trans rfl; have hcz37_4 : w36.cell? ⟨gb847, 4, none⟩ = some (.slice A1_4 l1_4.length c1_4) := (blk_cell BK847.out 4).trans rfl; have hfz37_0 := blk_frozen BK847.out 0; have hfz37_1 := blk_frozen BK847.out 1; have hfz37_2 := blk_frozen BK847.out 2; have hfz37_3 := blk_frozen BK847.out 3; have hfz37_4 := blk_frozen BK847.out 4) | ((with_reducible refine gate_callee (f := 37) rfl ?_); refine goesL_ (some 17) rfl rfl Try.func37 (by kernel_rfl) rfl #[.agg #[.int .i64 a1_0, .slice A1_1 l1_1.length c1_1, .int .i64 a1_2, .int .i64 a1_3, .slice A1_4 l1_4.length c1_4], .int .i64 t848] rfl (by (try simp only [List.map_toArray, List.map_cons, List.map_nil]); first | done | rfl | (simp only [List.length_drop, List.length_take]; rfl)) ?_; (with_reducible refine (laws_szGroup.calls k a1_0 _ _ l1_1 a1_2 a1_3 _ _ l1_4 t848 t849 _ ?side1 ?side2 ?side3 ?side4 A10.out).mono ?_); (case side1 => repeat (first | exact (Kd.C_below HR1_1.out HB.out) | (with_reducible refine Kd.C_alloc ?_ _) | (with_reducible refine Kd.C_drewN ?_ _) | (with_reducible refine Kd.C_drew ?_))); (case side2 => exact HC1_1.out); (case side3 => repeat (first | exact (Kd.C_below HR1_4.out HB.out) | (with_reducible refine Kd.C_alloc ?_ _) | (with_reducible refine Kd.C_drewN ?_ _) | (with_reducible refine Kd.C_drew ?_))); (case side4 => exact HC1_4.out); rintro e w38 ⟨rfl, hb⟩; refine ⟨_, rfl, ?_⟩; have n0_ := Aside0.mk (blk_below (g := gb846) (o := .cells #[.int .i64 a0_0, .int .i64 a0_1, .int .i64 a0_2, .int .i64 a0_3, .int .i64 a0_4, .slice A0_5 l0_5.length c0_5] 78 (0, 0)) (by (with_reducible repeat (first | refine blk_drewN ?_ _ | refine blk_drew ?_ | refine blk_alloc ?_ _)); exact BK846.out) hb); have n1_ := Aside0.mk (blk_below (g := gb847) (o := .cells #[.int .i64 a1_0, .slice A1_1 l1_1.length c1_1, .int .i64 a1_2, .int .i64 a1_3, .slice A1_4 l1_4.length c1_4] 64 (0, 0)) (by (with_reducible repeat (first | refine blk_drewN ?_ _ | refine blk_drew ?_ | refine blk_alloc ?_ _)); exact BK847.out) hb); have n2_ := Aside0.mk (below_step (by repeat (first | (with_reducible first | exact HB.out | apply below_alloc | apply pw_below_drewN | apply below_drew1 | refine below_set ?_ GE846.out | refine below_set ?_ GE847.out) | exact HB.out)) hb); clear BK846; clear BK847; clear HB; have BK846 := n0_; have BK847 := n1_; have HB := n2_; clear n0_ n1_ n2_; (try clear hb); (try clear hb2); (try clear hk); (try clear hi)))
      have n0_ := Aside0.mk (blk_drew BK846.out)
      have n1_ := Aside0.mk (blk_drew BK847.out)
      have n2_ := Aside0.mk (below_drew1 HB.out)
      clear BK846
      clear BK847
      clear HB
      have BK846 := n0_
      have BK847 := n1_
      have HB := n2_
      clear n0_ n1_ n2_
      refine start_ (n := 6) (S := fun w' => w'.cell? ⟨gb846, 0, none⟩ = some (.int .i64 a0_0) ∧ w'.cell? ⟨gb846, 1, none⟩ = some (.int .i64 a0_1) ∧ w'.cell? ⟨gb846, 2, none⟩ = some (.int .i64 a0_2) ∧ w'.cell? ⟨gb846, 3, none⟩ = some (.int .i64 a0_3) ∧ w'.cell? ⟨gb846, 4, none⟩ = some (.int .i64 a0_4) ∧ w'.cell? ⟨gb846, 5, none⟩ = some (.slice A0_5 l0_5.length c0_5) ∧ w'.cell? ⟨gb847, 0, none⟩ = some (.int .i64 a1_0) ∧ w'.cell? ⟨gb847, 1, none⟩ = some (.slice A1_1 l1_1.length c1_1) ∧ w'.cell? ⟨gb847, 2, none⟩ = some (.int .i64 a1_2) ∧ w'.cell? ⟨gb847, 3, none⟩ = some (.int .i64 a1_3) ∧ w'.cell? ⟨gb847, 4, none⟩ = some (.slice A1_4 l1_4.length c1_4)) (ds := []) #[false, false, false, false, false, false] (by kernel_rfl) rfl rfl ⟨(blk_cell BK846.out 0).trans rfl, (blk_cell BK846.out 1).trans rfl, (blk_cell BK846.out 2).trans rfl, (blk_cell BK846.out 3).trans rfl, (blk_cell BK846.out 4).trans rfl, (blk_cell BK846.out 5).trans rfl, (blk_cell BK847.out 0).trans rfl, (blk_cell BK847.out 1).trans rfl, (blk_cell BK847.out 2).trans rfl, (blk_cell BK847.out 3).trans rfl, (blk_cell BK847.out 4).trans rfl⟩ (fun hHeld => ?_)
      generalize w38.drew = w39 at BK846 BK847 HB hHeld ⊢
      refine take_ (i := 0) (N := some 20) (v := ?_) (a' := ?_) #[true, false, false, false, false, false] rfl rfl (by kernel_rfl) (fun _ _ _ h => h) (Or.inl ⟨by rfl, ?_⟩) hHeld ?_ ?_
      rotate_left
      ·
       rintro w' ⟨s0, s1, s2, s3, s4, s5, s6, s7, s8, s9, s10⟩
       go_simp
       with_reducible rfl
      rotate_left
      ·
       simp only [Act.put, List.setIfInBounds_toArray, List.set_cons_zero, List.set_cons_succ, i64_w, i32_w]
       rfl
      refine take_ (i := 2) (N := some 22) (v := ?_) (a' := ?_) #[true, false, true, false, false, false] rfl rfl (by kernel_rfl) (fun _ _ _ h => h) (Or.inl ⟨by rfl, ?_⟩) hHeld ?_ ?_
      rotate_left
      ·
       rintro w' ⟨s0, s1, s2, s3, s4, s5, s6, s7, s8, s9, s10⟩
       go_simp
       with_reducible rfl
      rotate_left
      ·
       simp only [Act.put, List.setIfInBounds_toArray, List.set_cons_zero, List.set_cons_succ, i64_w, i32_w]
       rfl
      refine one_ (i := 1) (N := some 21) #[true, true, true, false, false, false] rfl rfl (by kernel_rfl) (by decide) (fun K hK => ?_)
      refine goes_ Try.func50 (by kernel_rfl) rfl #[.agg #[.int .i64 a0_0, .int .i64 a0_1, .int .i64 a0_2, .int .i64 a0_3, .int .i64 a0_4, .slice A0_5 l0_5.length c0_5]] (by rfl) rfl rfl (by (try simp only [List.map_toArray, List.map_cons, List.map_nil]); first | done | rfl | (simp only [List.length_drop, List.length_take]; rfl)) ?_
      with_reducible refine (laws_toConf.calls k a0_0 a0_1 a0_2 a0_3 a0_4 _ _ l0_5 t850 t851 t852 t853 t854 t855 _ ?side1 ?side2 A19.out).mono ?_
      (case side1 => repeat (first | exact (Kd.C_below HR0_5.out HB.out) | (with_reducible refine Kd.C_alloc ?_ _) | (with_reducible refine Kd.C_drewN ?_ _) | (with_reducible refine Kd.C_drew ?_)))
      (case side2 => exact HC0_5.out)
      rintro e w40 ⟨v856, rfl, ho0, hb⟩
      refine ⟨_, rfl, ?_⟩
      have n0_ := Aside0.mk (Kd.R_lower ho0 (below_size (by repeat (first | (with_reducible first | exact HB.out | apply below_alloc | apply pw_below_drewN | apply below_drew1 | refine below_set ?_ GE846.out | refine below_set ?_ GE847.out) | exact HB.out))))
      have n1_ := Aside0.mk (blk_below (g := gb846) (o := .cells #[.int .i64 a0_0, .int .i64 a0_1, .int .i64 a0_2, .int .i64 a0_3, .int .i64 a0_4, .slice A0_5 l0_5.length c0_5] 78 (0, 0)) (by (with_reducible repeat (first | refine blk_drewN ?_ _ | refine blk_drew ?_ | refine blk_alloc ?_ _)); exact BK846.out) hb)
      have n2_ := Aside0.mk (blk_below (g := gb847) (o := .cells #[.int .i64 a1_0, .slice A1_1 l1_1.length c1_1, .int .i64 a1_2, .int .i64 a1_3, .slice A1_4 l1_4.length c1_4] 64 (0, 0)) (by (with_reducible repeat (first | refine blk_drewN ?_ _ | refine blk_drew ?_ | refine blk_alloc ?_ _)); exact BK847.out) hb)
      have n3_ := Aside0.mk (below_step (by repeat (first | (with_reducible first | exact HB.out | apply below_alloc | apply pw_below_drewN | apply below_drew1 | refine below_set ?_ GE846.out | refine below_set ?_ GE847.out) | exact HB.out)) hb)
      clear BK846
      clear BK847
      clear HB
      have HO857 := n0_
      have BK846 := n1_
      have BK847 := n2_
      have HB := n3_
      clear n0_ n1_ n2_ n3_
      (try clear hb)
      (try clear hb2)
      (try clear hk)
      (try clear hi)
      (try clear ho0)
      refine hK.out _ _ ⟨(blk_cell BK846.out 0).trans rfl, (blk_cell BK846.out 1).trans rfl, (blk_cell BK846.out 2).trans rfl, (blk_cell BK846.out 3).trans rfl, (blk_cell BK846.out 4).trans rfl, (blk_cell BK846.out 5).trans rfl, (blk_cell BK847.out 0).trans rfl, (blk_cell BK847.out 1).trans rfl, (blk_cell BK847.out 2).trans rfl, (blk_cell BK847.out 3).trans rfl, (blk_cell BK847.out 4).trans rfl⟩ (fun hHeld => ?_)
      clear hK K
      refine norm_ (a' := ?_) ?_ ?_
      rotate_left
      ·
       show Act.put _ (some 21) _ = _
       simp only [Act.put, List.setIfInBounds_toArray, List.set_cons_zero, List.set_cons_succ, i64_w, i32_w]
       rfl
      refine one_ (i := 3) (N := some 23) #[true, true, true, true, false, false] rfl rfl (by kernel_rfl) (by decide) (fun K hK => ?_)
      refine goes_ Try.func39 (by kernel_rfl) rfl #[.agg #[.int .i64 a1_0, .slice A1_1 l1_1.length c1_1, .int .i64 a1_2, .int .i64 a1_3, .slice A1_4 l1_4.length c1_4]] (by rfl) rfl rfl (by (try simp only [List.map_toArray, List.map_cons, List.map_nil]); first | done | rfl | (simp only [List.length_drop, List.length_take]; rfl)) ?_
      with_reducible refine (laws_toGroup.calls k a1_0 _ _ l1_1 a1_2 a1_3 _ _ l1_4 t858 t859 t862 t863 t864 _ ?side1 ?side2 ?side3 ?side4 A20.out).mono ?_
      (case side1 => repeat (first | exact (Kd.C_below HR1_1.out HB.out) | (with_reducible refine Kd.C_alloc ?_ _) | (with_reducible refine Kd.C_drewN ?_ _) | (with_reducible refine Kd.C_drew ?_)))
      (case side2 => exact HC1_1.out)
      (case side3 => repeat (first | exact (Kd.C_below HR1_4.out HB.out) | (with_reducible refine Kd.C_alloc ?_ _) | (with_reducible refine Kd.C_drewN ?_ _) | (with_reducible refine Kd.C_drew ?_)))
      (case side4 => exact HC1_4.out)
      rintro e w41 ⟨v860, v865, rfl, ho0, ho1, hb⟩
      refine ⟨_, rfl, ?_⟩
      have n0_ := Aside0.mk (Kd.R_below (by (with_reducible repeat (first | apply Kd.R_alloc | apply Kd.R_drewN | apply Kd.R_drew)); exact HO857.out) hb)
      have n1_ := Aside0.mk (Kd.R_lower ho0 (below_size (by repeat (first | (with_reducible first | exact HB.out | apply below_alloc | apply pw_below_drewN | apply below_drew1 | refine below_set ?_ GE846.out | refine below_set ?_ GE847.out) | exact HB.out))))
      have n2_ := Aside0.mk (Kd.S_lower ho1 (below_size (by repeat (first | (with_reducible first | exact HB.out | apply below_alloc | apply pw_below_drewN | apply below_drew1 | refine below_set ?_ GE846.out | refine below_set ?_ GE847.out) | exact HB.out))))
      have n3_ := Aside0.mk (blk_below (g := gb846) (o := .cells #[.int .i64 a0_0, .int .i64 a0_1, .int .i64 a0_2, .int .i64 a0_3, .int .i64 a0_4, .slice A0_5 l0_5.length c0_5] 78 (0, 0)) (by (with_reducible repeat (first | refine blk_drewN ?_ _ | refine blk_drew ?_ | refine blk_alloc ?_ _)); exact BK846.out) hb)
      have n4_ := Aside0.mk (blk_below (g := gb847) (o := .cells #[.int .i64 a1_0, .slice A1_1 l1_1.length c1_1, .int .i64 a1_2, .int .i64 a1_3, .slice A1_4 l1_4.length c1_4] 64 (0, 0)) (by (with_reducible repeat (first | refine blk_drewN ?_ _ | refine blk_drew ?_ | refine blk_alloc ?_ _)); exact BK847.out) hb)
      have n5_ := Aside0.mk (below_step (by repeat (first | (with_reducible first | exact HB.out | apply below_alloc | apply pw_below_drewN | apply below_drew1 | refine below_set ?_ GE846.out | refine below_set ?_ GE847.out) | exact HB.out)) hb)
      clear HO857
      clear BK846
      clear BK847
      clear HB
      have HO857 := n0_
      have HO861 := n1_
      have HO866 := n2_
      have BK846 := n3_
      have BK847 := n4_
      have HB := n5_
      clear n0_ n1_ n2_ n3_ n4_ n5_
      (try clear hb)
      (try clear hb2)
      (try clear hk)
      (try clear hi)
      (try clear ho0)
      (try clear ho1)
      obtain ⟨Ao42, co42, eo42⟩ := Kd.R_slice HO857.out
      (first | subst eo42 | (injection eo42 with f1_ f2_ f3_; have f4_ := f1_.symm; have f5_ := f3_.symm; clear f1_ f2_ f3_; subst f4_; subst f5_))
      obtain ⟨Ao43, co43, eo43⟩ := Kd.R_slice HO861.out
      (first | subst eo43 | (injection eo43 with f1_ f2_ f3_; have f4_ := f1_.symm; have f5_ := f3_.symm; clear f1_ f2_ f3_; subst f4_; subst f5_))
      obtain ⟨Ao44, co44, eo44⟩ := Kd.S_slice HO866.out
      (first | subst eo44 | (injection eo44 with f1_ f2_ f3_; have f4_ := f1_.symm; have f5_ := f3_.symm; clear f1_ f2_ f3_; subst f4_; subst f5_))
      refine hK.out _ _ ⟨(blk_cell BK846.out 0).trans rfl, (blk_cell BK846.out 1).trans rfl, (blk_cell BK846.out 2).trans rfl, (blk_cell BK846.out 3).trans rfl, (blk_cell BK846.out 4).trans rfl, (blk_cell BK846.out 5).trans rfl, (blk_cell BK847.out 0).trans rfl, (blk_cell BK847.out 1).trans rfl, (blk_cell BK847.out 2).trans rfl, (blk_cell BK847.out 3).trans rfl, (blk_cell BK847.out 4).trans rfl⟩ (fun hHeld => ?_)
      clear hK K
      refine norm_ (a' := ?_) ?_ ?_
      rotate_left
      ·
       show Act.put _ (some 23) _ = _
       simp only [Act.put, List.setIfInBounds_toArray, List.set_cons_zero, List.set_cons_succ, i64_w, i32_w]
       rfl
      refine one_ (i := 4) (N := some 24) #[true, true, true, true, true, false] rfl rfl (by kernel_rfl) (by decide) (fun K hK => ?_)
      refine goes_ Try.func64 (by kernel_rfl) rfl #[.agg #[.int .i64 t850, .int .i64 t851, .int .i64 t852, .int .i64 t853, .int .i64 t854, .slice Ao42 t855.length co42], .agg #[.int .i64 t858, .slice Ao43 t859.length co43, .int .i64 t862, .int .i64 t863, .slice Ao44 t864.length co44]] (by rfl) rfl rfl (by (try simp only [List.map_toArray, List.map_cons, List.map_nil]); first | done | rfl | (simp only [List.length_drop, List.length_take]; rfl)) ?_
      with_reducible refine (spec_Due.calls t850 t851 t852 t853 t854 _ _ t855 t858 _ _ t859 t862 t863 _ _ t864 t867 _ ?side1 ?side2 ?side3 ?side4 ?side5 ?side6 A21.out).mono ?_
      (case side1 => repeat (first | exact (Kd.R_reads' HO857.out).2.2 | (with_reducible refine Kd.C_alloc ?_ _) | (with_reducible refine Kd.C_drewN ?_ _) | (with_reducible refine Kd.C_drew ?_)))
      (case side2 => exact (Kd.R_reads' HO857.out).2.1)
      (case side3 => repeat (first | exact (Kd.R_reads' HO861.out).2.2 | (with_reducible refine Kd.C_alloc ?_ _) | (with_reducible refine Kd.C_drewN ?_ _) | (with_reducible refine Kd.C_drew ?_)))
      (case side4 => exact (Kd.R_reads' HO861.out).2.1)
      (case side5 => repeat (first | exact (Kd.S_reads' HO866.out).2.2 | (with_reducible refine Kd.C_alloc ?_ _) | (with_reducible refine Kd.C_drewN ?_ _) | (with_reducible refine Kd.C_drew ?_)))
      (case side6 => exact (Kd.S_reads' HO866.out).2.1)
      rintro e w45 ⟨rfl, hb⟩
      refine ⟨_, rfl, ?_⟩
      have n0_ := Aside0.mk (Kd.R_below (by (with_reducible repeat (first | apply Kd.R_alloc | apply Kd.R_drewN | apply Kd.R_drew)); exact HO857.out) hb)
      have n1_ := Aside0.mk (Kd.R_below (by (with_reducible repeat (first | apply Kd.R_alloc | apply Kd.R_drewN | apply Kd.R_drew)); exact HO861.out) hb)
      have n2_ := Aside0.mk (Kd.S_below (by (with_reducible repeat (first | apply Kd.S_alloc | apply Kd.S_drewN | apply Kd.S_drew)); exact HO866.out) hb)
      have n3_ := Aside0.mk (blk_below (g := gb846) (o := .cells #[.int .i64 a0_0, .int .i64 a0_1, .int .i64 a0_2, .int .i64 a0_3, .int .i64 a0_4, .slice A0_5 l0_5.length c0_5] 78 (0, 0)) (by (with_reducible repeat (first | refine blk_drewN ?_ _ | refine blk_drew ?_ | refine blk_alloc ?_ _)); exact BK846.out) hb)
      have n4_ := Aside0.mk (blk_below (g := gb847) (o := .cells #[.int .i64 a1_0, .slice A1_1 l1_1.length c1_1, .int .i64 a1_2, .int .i64 a1_3, .slice A1_4 l1_4.length c1_4] 64 (0, 0)) (by (with_reducible repeat (first | refine blk_drewN ?_ _ | refine blk_drew ?_ | refine blk_alloc ?_ _)); exact BK847.out) hb)
      have n5_ := Aside0.mk (below_step (by repeat (first | (with_reducible first | exact HB.out | apply below_alloc | apply pw_below_drewN | apply below_drew1 | refine below_set ?_ GE846.out | refine below_set ?_ GE847.out) | exact HB.out)) hb)
      clear HO857
      clear HO861
      clear HO866
      clear BK846
      clear BK847
      clear HB
      have HO857 := n0_
      have HO861 := n1_
      have HO866 := n2_
      have BK846 := n3_
      have BK847 := n4_
      have HB := n5_
      clear n0_ n1_ n2_ n3_ n4_ n5_
      (try clear hb)
      (try clear hb2)
      (try clear hk)
      (try clear hi)
      refine hK.out _ _ ⟨(blk_cell BK846.out 0).trans rfl, (blk_cell BK846.out 1).trans rfl, (blk_cell BK846.out 2).trans rfl, (blk_cell BK846.out 3).trans rfl, (blk_cell BK846.out 4).trans rfl, (blk_cell BK846.out 5).trans rfl, (blk_cell BK847.out 0).trans rfl, (blk_cell BK847.out 1).trans rfl, (blk_cell BK847.out 2).trans rfl, (blk_cell BK847.out 3).trans rfl, (blk_cell BK847.out 4).trans rfl⟩ (fun hHeld => ?_)
      clear hK K
      refine norm_ (a' := ?_) ?_ ?_
      rotate_left
      ·
       show Act.put _ (some 24) _ = _
       simp only [Act.put, List.setIfInBounds_toArray, List.set_cons_zero, List.set_cons_succ, i64_w, i32_w]
       rfl
      refine pure_ (i := 5) (N := some 6) (v := ?_) (a' := ?_) #[true, true, true, true, true, true] rfl rfl (by kernel_rfl) (fun _ _ _ h => h) (Or.inl ⟨by rfl, ?_⟩) ?_ ?_
      rotate_left
      ·
       intro w'
       go_simp
       with_reducible rfl
      rotate_left
      ·
       simp only [Act.put, List.setIfInBounds_toArray, List.set_cons_zero, List.set_cons_succ, i64_w, i32_w]
       rfl
      refine done_ (by kernel_rfl) ?_
      have hcz46_0 : w45.cell? ⟨gb846, 0, none⟩ = some (.int .i64 a0_0) := (blk_cell BK846.out 0).trans rfl
      have hcz46_1 : w45.cell? ⟨gb846, 1, none⟩ = some (.int .i64 a0_1) := (blk_cell BK846.out 1).trans rfl
      have hcz46_2 : w45.cell? ⟨gb846, 2, none⟩ = some (.int .i64 a0_2) := (blk_cell BK846.out 2).trans rfl
      have hcz46_3 : w45.cell? ⟨gb846, 3, none⟩ = some (.int .i64 a0_3) := (blk_cell BK846.out 3).trans rfl
      have hcz46_4 : w45.cell? ⟨gb846, 4, none⟩ = some (.int .i64 a0_4) := (blk_cell BK846.out 4).trans rfl
      have hcz46_5 : w45.cell? ⟨gb846, 5, none⟩ = some (.slice A0_5 l0_5.length c0_5) := (blk_cell BK846.out 5).trans rfl
      have hfz46_0 := blk_frozen BK846.out 0
      have hfz46_1 := blk_frozen BK846.out 1
      have hfz46_2 := blk_frozen BK846.out 2
      have hfz46_3 := blk_frozen BK846.out 3
      have hfz46_4 := blk_frozen BK846.out 4
      have hfz46_5 := blk_frozen BK846.out 5
      try go_wp2_with (first | ((with_reducible refine gate_callee (f := 50) rfl ?_); refine goesL_ (some 26) rfl rfl Try.func50 (by kernel_rfl) rfl #[.agg #[.int .i64 a0_0, .int .i64 a0_1, .int .i64 a0_2, .int .i64 a0_3, .int .i64 a0_4, .slice A0_5 l0_5.length c0_5]] rfl (by (try simp only [List.map_toArray, List.map_cons, List.map_nil]); first | done | rfl | (simp only [List.length_drop, List.length_take]; rfl)) ?_; (with_reducible refine (laws_toConf.calls k a0_0 a0_1 a0_2 a0_3 a0_4 _ _ l0_5 t868 t869 t870 t871 t872 t873 _ ?side1 ?side2 A22.out).mono ?_); (case side1 => repeat (first | exact (Kd.C_below HR0_5.out HB.out) | (with_reducible refine Kd.C_alloc ?_ _) | (with_reducible refine Kd.C_drewN ?_ _) | (with_reducible refine Kd.C_drew ?_))); (case side2 => exact HC0_5.out); rintro e w47 ⟨v874, rfl, ho0, hb⟩; refine ⟨_, rfl, ?_⟩; have n0_ := Aside0.mk (Kd.R_elder' (by (with_reducible repeat (first | apply Kd.R_alloc | apply Kd.R_drewN | apply Kd.R_drew)); exact HO857.out) (Kd.R_base ho0) hb); have n1_ := Aside0.mk (Kd.R_below (by (with_reducible repeat (first | apply Kd.R_alloc | apply Kd.R_drewN | apply Kd.R_drew)); exact HO861.out) hb); have n2_ := Aside0.mk (Kd.S_below (by (with_reducible repeat (first | apply Kd.S_alloc | apply Kd.S_drewN | apply Kd.S_drew)); exact HO866.out) hb); have n3_ := Aside0.mk (Kd.R_lower (Kd.R_new' ho0 (Kd.R_lt (by (with_reducible repeat (first | apply Kd.R_alloc | apply Kd.R_drewN | apply Kd.R_drew)); exact HO857.out))) (below_size (by repeat (first | (with_reducible first | exact HB.out | apply below_alloc | apply pw_below_drewN | apply below_drew1 | refine below_set ?_ GE846.out | refine below_set ?_ GE847.out) | exact HB.out)))); have n4_ := Aside0.mk (blk_below (g := gb846) (o := .cells #[.int .i64 a0_0, .int .i64 a0_1, .int .i64 a0_2, .int .i64 a0_3, .int .i64 a0_4, .slice A0_5 l0_5.length c0_5] 78 (0, 0)) (by (with_reducible repeat (first | refine blk_drewN ?_ _ | refine blk_drew ?_ | refine blk_alloc ?_ _)); exact BK846.out) hb); have n5_ := Aside0.mk (blk_below (g := gb847) (o := .cells #[.int .i64 a1_0, .slice A1_1 l1_1.length c1_1, .int .i64 a1_2, .int .i64 a1_3, .slice A1_4 l1_4.length c1_4] 64 (0, 0)) (by (with_reducible repeat (first | refine blk_drewN ?_ _ | refine blk_drew ?_ | refine blk_alloc ?_ _)); exact BK847.out) hb); have n6_ := Aside0.mk (below_step (by repeat (first | (with_reducible first | exact HB.out | apply below_alloc | apply pw_below_drewN | apply below_drew1 | refine below_set ?_ GE846.out | refine below_set ?_ GE847.out) | exact HB.out)) hb); clear HO857; clear HO861; clear HO866; clear BK846; clear BK847; clear HB; have HO857 := n0_; have HO861 := n1_; have HO866 := n2_; have HO875 := n3_; have BK846 := n4_; have BK847 := n5_; have HB := n6_; clear n0_ n1_ n2_ n3_ n4_ n5_ n6_; (try clear hb); (try clear hb2); (try clear hk); (try clear hi); (try clear ho0)) | ((with_reducible refine gate_dst (N := 7) rfl ?_); refine box_event ?hg (N := 7) ?hd (cs := #[.int .i64 0, .int .i64 0, .int .i64 0, .int .i64 0, .int .i64 0, .slice none 0 0]) (t := 82) ?hr ?_; (case hd => rfl); (case hg => rfl); (case hr => first | (go_simp; done) | (go_simp; rfl)); intro gb876 hg w48 hbox hb; have n0_ := Aside0.mk (Kd.R_below (by (with_reducible repeat (first | apply Kd.R_alloc | apply Kd.R_drewN | apply Kd.R_drew)); exact HO857.out) hb); have n1_ := Aside0.mk (Kd.R_below (by (with_reducible repeat (first | apply Kd.R_alloc | apply Kd.R_drewN | apply Kd.R_drew)); exact HO861.out) hb); have n2_ := Aside0.mk (Kd.S_below (by (with_reducible repeat (first | apply Kd.S_alloc | apply Kd.S_drewN | apply Kd.S_drew)); exact HO866.out) hb); have n3_ := Aside0.mk (Kd.R_below (by (with_reducible repeat (first | apply Kd.R_alloc | apply Kd.R_drewN | apply Kd.R_drew)); exact HO875.out) hb); have n4_ := Aside0.mk (blk_below (g := gb846) (o := .cells #[.int .i64 a0_0, .int .i64 a0_1, .int .i64 a0_2, .int .i64 a0_3, .int .i64 a0_4, .slice A0_5 l0_5.length c0_5] 78 (0, 0)) (by (with_reducible repeat (first | refine blk_drewN ?_ _ | refine blk_drew ?_ | refine blk_alloc ?_ _)); exact BK846.out) hb); have n5_ := Aside0.mk (blk_below (g := gb847) (o := .cells #[.int .i64 a1_0, .slice A1_1 l1_1.length c1_1, .int .i64 a1_2, .int .i64 a1_3, .slice A1_4 l1_4.length c1_4] 64 (0, 0)) (by (with_reducible repeat (first | refine blk_drewN ?_ _ | refine blk_drew ?_ | refine blk_alloc ?_ _)); exact BK847.out) hb); have n6_ := Aside0.mk (below_step (by repeat (first | (with_reducible first | exact HB.out | apply below_alloc | apply pw_below_drewN | apply below_drew1 | refine below_set ?_ GE846.out | refine below_set ?_ GE847.out) | exact HB.out)) hb); have n7_ := Aside0.mk (hbox); have n8_ := Aside0.mk ((by rw [hg]; exact (below_size (by repeat (first | (with_reducible first | exact HB.out | apply below_alloc | apply pw_below_drewN | apply below_drew1 | refine below_set ?_ GE846.out | refine below_set ?_ GE847.out) | exact HB.out))) : w.heap.size ≤ gb876)); have n9_ := Aside0.mk ((by rw [hg]; exact (below_size (by repeat (first | (with_reducible first | exact HB.out | apply below_alloc | apply pw_below_drewN | apply below_drew1 | refine below_set ?_ GE846.out | refine below_set ?_ GE847.out) | exact HB.out))) : w.heap.size ≤ gb876)); have n10_ := Aside0.mk ((by rw [hg]; exact Nat.ne_of_lt (blk_lt (g := gb846) (o := .cells #[.int .i64 a0_0, .int .i64 a0_1, .int .i64 a0_2, .int .i64 a0_3, .int .i64 a0_4, .slice A0_5 l0_5.length c0_5] 78 (0, 0)) (by (with_reducible repeat (first | refine blk_drewN ?_ _ | refine blk_drew ?_ | refine blk_alloc ?_ _)); exact BK846.out)) : gb846 ≠ gb876)); have n11_ := Aside0.mk ((by rw [hg]; exact Nat.ne_of_gt (blk_lt (g := gb846) (o := .cells #[.int .i64 a0_0, .int .i64 a0_1, .int .i64 a0_2, .int .i64 a0_3, .int .i64 a0_4, .slice A0_5 l0_5.length c0_5] 78 (0, 0)) (by (with_reducible repeat (first | refine blk_drewN ?_ _ | refine blk_drew ?_ | refine blk_alloc ?_ _)); exact BK846.out)) : gb876 ≠ gb846)); have n12_ := Aside0.mk ((by rw [hg]; exact Nat.ne_of_lt (blk_lt (g := gb847) (o := .cells #[.int .i64 a1_0, .slice A1_1 l1_1.length c1_1, .int .i64 a1_2, .int .i64 a1_3, .slice A1_4 l1_4.length c1_4] 64 (0, 0)) (by (with_reducible repeat (first | refine blk_drewN ?_ _ | refine blk_drew ?_ | refine blk_alloc ?_ _)); exact BK847.out)) : gb847 ≠ gb876)); have n13_ := Aside0.mk ((by rw [hg]; exact Nat.ne_of_gt (blk_lt (g := gb847) (o := .cells #[.int .i64 a1_0, .slice A1_1 l1_1.length c1_1, .int .i64 a1_2, .int .i64 a1_3, .slice A1_4 l1_4.length c1_4] 64 (0, 0)) (by (with_reducible repeat (first | refine blk_drewN ?_ _ | refine blk_drew ?_ | refine blk_alloc ?_ _)); exact BK847.out)) : gb876 ≠ gb847)); clear HO857; clear HO861; clear HO866; clear HO875; clear BK846; clear BK847; clear HB; have HO857 := n0_; have HO861 := n1_; have HO866 := n2_; have HO875 := n3_; have BK846 := n4_; have BK847 := n5_; have HB := n6_; have BK876 := n7_; have GW876 := n8_; have GE876 := n9_; have NB846_876 := n10_; have NB876_846 := n11_; have NB847_876 := n12_; have NB876_847 := n13_; clear n0_ n1_ n2_ n3_ n4_ n5_ n6_ n7_ n8_ n9_ n10_ n11_ n12_ n13_; clear hb hbox hg; have hnb49 := NB876_846.out; have hnc49 := NB846_876.out; have hnb50 := NB876_847.out; have hnc50 := NB847_876.out; have hcz51_0 : w48.cell? ⟨gb876, 0, none⟩ = some (.int .i64 0) := (blk_cell BK876.out 0).trans rfl; have hcz51_1 : w48.cell? ⟨gb876, 1, none⟩ = some (.int .i64 0) := (blk_cell BK876.out 1).trans rfl; have hcz51_2 : w48.cell? ⟨gb876, 2, none⟩ = some (.int .i64 0) := (blk_cell BK876.out 2).trans rfl; have hcz51_3 : w48.cell? ⟨gb876, 3, none⟩ = some (.int .i64 0) := (blk_cell BK876.out 3).trans rfl; have hcz51_4 : w48.cell? ⟨gb876, 4, none⟩ = some (.int .i64 0) := (blk_cell BK876.out 4).trans rfl; have hcz51_5 : w48.cell? ⟨gb876, 5, none⟩ = some (.slice none 0 0) := (blk_cell BK876.out 5).trans rfl; have hfz51_0 := blk_frozen BK876.out 0; have hfz51_1 := blk_frozen BK876.out 1; have hfz51_2 := blk_frozen BK876.out 2; have hfz51_3 := blk_frozen BK876.out 3; have hfz51_4 := blk_frozen BK876.out 4; have hfz51_5 := blk_frozen BK876.out 5; obtain ⟨Ao52, co52, eo52⟩ := Kd.R_slice HO875.out; subst eo52; have hcz53_0 : w48.cell? ⟨gb847, 0, none⟩ = some (.int .i64 a1_0) := (blk_cell BK847.out 0).trans rfl; have hcz53_1 : w48.cell? ⟨gb847, 1, none⟩ = some (.slice A1_1 l1_1.length c1_1) := (blk_cell BK847.out 1).trans rfl; have hcz53_2 : w48.cell? ⟨gb847, 2, none⟩ = some (.int .i64 a1_2) := (blk_cell BK847.out 2).trans rfl; have hcz53_3 : w48.cell? ⟨gb847, 3, none⟩ = some (.int .i64 a1_3) := (blk_cell BK847.out 3).trans rfl; have hcz53_4 : w48.cell? ⟨gb847, 4, none⟩ = some (.slice A1_4 l1_4.length c1_4) := (blk_cell BK847.out 4).trans rfl; have hfz53_0 := blk_frozen BK847.out 0; have hfz53_1 := blk_frozen BK847.out 1; have hfz53_2 := blk_frozen BK847.out 2; have hfz53_3 := blk_frozen BK847.out 3; have hfz53_4 := blk_frozen BK847.out 4) | ((with_reducible refine gate_callee (f := 39) rfl ?_); refine goesL_ (some 28) rfl rfl Try.func39 (by kernel_rfl) rfl #[.agg #[.int .i64 a1_0, .slice A1_1 l1_1.length c1_1, .int .i64 a1_2, .int .i64 a1_3, .slice A1_4 l1_4.length c1_4]] rfl (by (try simp only [List.map_toArray, List.map_cons, List.map_nil]); first | done | rfl | (simp only [List.length_drop, List.length_take]; rfl)) ?_; (with_reducible refine (laws_toGroup.calls k a1_0 _ _ l1_1 a1_2 a1_3 _ _ l1_4 t877 t878 t881 t882 t883 _ ?side1 ?side2 ?side3 ?side4 A23.out).mono ?_); (case side1 => exact Kd.C_below HR1_1.out (by repeat (first | (with_reducible first | exact HB.out | apply below_alloc | apply pw_below_drewN | apply below_drew1 | refine below_set ?_ GE846.out | refine below_set ?_ GE847.out | refine below_set ?_ GE876.out) | exact HB.out))); (case side2 => exact HC1_1.out); (case side3 => exact Kd.C_below HR1_4.out (by repeat (first | (with_reducible first | exact HB.out | apply below_alloc | apply pw_below_drewN | apply below_drew1 | refine below_set ?_ GE846.out | refine below_set ?_ GE847.out | refine below_set ?_ GE876.out) | exact HB.out))); (case side4 => exact HC1_4.out); rintro e w54 ⟨v879, v884, rfl, ho0, ho1, hb⟩; refine ⟨_, rfl, ?_⟩; have n0_ := Aside0.mk (Kd.R_below (by (with_reducible repeat (first | apply Kd.R_alloc | apply Kd.R_drewN | apply Kd.R_drew)); exact (Kd.R_mono (Kd.R_far (p := ⟨gb876, 5, none⟩) (Kd.R_far (p := ⟨gb876, 4, none⟩) (Kd.R_far (p := ⟨gb876, 3, none⟩) (Kd.R_far (p := ⟨gb876, 2, none⟩) (Kd.R_far (p := ⟨gb876, 1, none⟩) (Kd.R_far (p := ⟨gb876, 0, none⟩) (Kd.R_types HO857.out BK876.out (by decide)) (fun _ hk => hk.2) (.int .i64 t868)) (fun _ hk => hk.2) (.int .i64 t869)) (fun _ hk => hk.2) (.int .i64 t870)) (fun _ hk => hk.2) (.int .i64 t871)) (fun _ hk => hk.2) (.int .i64 t872)) (fun _ hk => hk.2) (.slice Ao52 t873.length co52)) (fun _ h_ => h_.1))) hb); have n1_ := Aside0.mk (Kd.R_elder' (by (with_reducible repeat (first | apply Kd.R_alloc | apply Kd.R_drewN | apply Kd.R_drew)); exact (Kd.R_mono (Kd.R_far (p := ⟨gb876, 5, none⟩) (Kd.R_far (p := ⟨gb876, 4, none⟩) (Kd.R_far (p := ⟨gb876, 3, none⟩) (Kd.R_far (p := ⟨gb876, 2, none⟩) (Kd.R_far (p := ⟨gb876, 1, none⟩) (Kd.R_far (p := ⟨gb876, 0, none⟩) (Kd.R_types HO861.out BK876.out (by decide)) (fun _ hk => hk.2) (.int .i64 t868)) (fun _ hk => hk.2) (.int .i64 t869)) (fun _ hk => hk.2) (.int .i64 t870)) (fun _ hk => hk.2) (.int .i64 t871)) (fun _ hk => hk.2) (.int .i64 t872)) (fun _ hk => hk.2) (.slice Ao52 t873.length co52)) (fun _ h_ => h_.1))) (Kd.R_base ho0) hb); have n2_ := Aside0.mk (Kd.S_mono (Kd.S_told (Kd.S_told (Kd.S_old (by (with_reducible repeat (first | apply Kd.S_alloc | apply Kd.S_drewN | apply Kd.S_drew)); exact (Kd.S_mono (Kd.S_far (p := ⟨gb876, 5, none⟩) (Kd.S_far (p := ⟨gb876, 4, none⟩) (Kd.S_far (p := ⟨gb876, 3, none⟩) (Kd.S_far (p := ⟨gb876, 2, none⟩) (Kd.S_far (p := ⟨gb876, 1, none⟩) (Kd.S_far (p := ⟨gb876, 0, none⟩) (Kd.S_types HO866.out BK876.out (by decide)) (fun _ hk => hk.2) (.int .i64 t868)) (fun _ hk => hk.2) (.int .i64 t869)) (fun _ hk => hk.2) (.int .i64 t870)) (fun _ hk => hk.2) (.int .i64 t871)) (fun _ hk => hk.2) (.int .i64 t872)) (fun _ hk => hk.2) (.slice Ao52 t873.length co52)) (fun _ h_ => h_.1))) hb) (Kd.R_base ho0)) (Kd.S_base ho1)) (fun _ h_ => h_.1)); have n3_ := Aside0.mk (Kd.R_below (by (with_reducible repeat (first | apply Kd.R_alloc | apply Kd.R_drewN | apply Kd.R_drew)); exact (Kd.R_mono (Kd.R_far (p := ⟨gb876, 5, none⟩) (Kd.R_far (p := ⟨gb876, 4, none⟩) (Kd.R_far (p := ⟨gb876, 3, none⟩) (Kd.R_far (p := ⟨gb876, 2, none⟩) (Kd.R_far (p := ⟨gb876, 1, none⟩) (Kd.R_far (p := ⟨gb876, 0, none⟩) (Kd.R_types HO875.out BK876.out (by decide)) (fun _ hk => hk.2) (.int .i64 t868)) (fun _ hk => hk.2) (.int .i64 t869)) (fun _ hk => hk.2) (.int .i64 t870)) (fun _ hk => hk.2) (.int .i64 t871)) (fun _ hk => hk.2) (.int .i64 t872)) (fun _ hk => hk.2) (.slice Ao52 t873.length co52)) (fun _ h_ => h_.1))) hb); have n4_ := Aside0.mk (Kd.R_lower (Kd.R_new' ho0 (Kd.R_lt (by (with_reducible repeat (first | apply Kd.R_alloc | apply Kd.R_drewN | apply Kd.R_drew)); exact (Kd.R_mono (Kd.R_far (p := ⟨gb876, 5, none⟩) (Kd.R_far (p := ⟨gb876, 4, none⟩) (Kd.R_far (p := ⟨gb876, 3, none⟩) (Kd.R_far (p := ⟨gb876, 2, none⟩) (Kd.R_far (p := ⟨gb876, 1, none⟩) (Kd.R_far (p := ⟨gb876, 0, none⟩) (Kd.R_types HO861.out BK876.out (by decide)) (fun _ hk => hk.2) (.int .i64 t868)) (fun _ hk => hk.2) (.int .i64 t869)) (fun _ hk => hk.2) (.int .i64 t870)) (fun _ hk => hk.2) (.int .i64 t871)) (fun _ hk => hk.2) (.int .i64 t872)) (fun _ hk => hk.2) (.slice Ao52 t873.length co52)) (fun _ h_ => h_.1))))) (below_size (by repeat (first | (with_reducible first | exact HB.out | apply below_alloc | apply pw_below_drewN | apply below_drew1 | refine below_set ?_ GE846.out | refine below_set ?_ GE847.out | refine below_set ?_ GE876.out) | exact HB.out)))); have n5_ := Aside0.mk (Kd.S_lower (Kd.S_new' (Kd.S_new' ho1 (Kd.R_lt (by (with_reducible repeat (first | apply Kd.R_alloc | apply Kd.R_drewN | apply Kd.R_drew)); exact (Kd.R_mono (Kd.R_far (p := ⟨gb876, 5, none⟩) (Kd.R_far (p := ⟨gb876, 4, none⟩) (Kd.R_far (p := ⟨gb876, 3, none⟩) (Kd.R_far (p := ⟨gb876, 2, none⟩) (Kd.R_far (p := ⟨gb876, 1, none⟩) (Kd.R_far (p := ⟨gb876, 0, none⟩) (Kd.R_types HO861.out BK876.out (by decide)) (fun _ hk => hk.2) (.int .i64 t868)) (fun _ hk => hk.2) (.int .i64 t869)) (fun _ hk => hk.2) (.int .i64 t870)) (fun _ hk => hk.2) (.int .i64 t871)) (fun _ hk => hk.2) (.int .i64 t872)) (fun _ hk => hk.2) (.slice Ao52 t873.length co52)) (fun _ h_ => h_.1))))) (Kd.S_lt (by (with_reducible repeat (first | apply Kd.S_alloc | apply Kd.S_drewN | apply Kd.S_drew)); exact (Kd.S_mono (Kd.S_far (p := ⟨gb876, 5, none⟩) (Kd.S_far (p := ⟨gb876, 4, none⟩) (Kd.S_far (p := ⟨gb876, 3, none⟩) (Kd.S_far (p := ⟨gb876, 2, none⟩) (Kd.S_far (p := ⟨gb876, 1, none⟩) (Kd.S_far (p := ⟨gb876, 0, none⟩) (Kd.S_types HO866.out BK876.out (by decide)) (fun _ hk => hk.2) (.int .i64 t868)) (fun _ hk => hk.2) (.int .i64 t869)) (fun _ hk => hk.2) (.int .i64 t870)) (fun _ hk => hk.2) (.int .i64 t871)) (fun _ hk => hk.2) (.int .i64 t872)) (fun _ hk => hk.2) (.slice Ao52 t873.length co52)) (fun _ h_ => h_.1))))) (below_size (by repeat (first | (with_reducible first | exact HB.out | apply below_alloc | apply pw_below_drewN | apply below_drew1 | refine below_set ?_ GE846.out | refine below_set ?_ GE847.out | refine below_set ?_ GE876.out) | exact HB.out)))); have n6_ := Aside0.mk (blk_below (g := gb846) (o := .cells #[.int .i64 a0_0, .int .i64 a0_1, .int .i64 a0_2, .int .i64 a0_3, .int .i64 a0_4, .slice A0_5 l0_5.length c0_5] 78 (0, 0)) (by (with_reducible repeat (first | refine blk_drewN ?_ _ | refine blk_drew ?_ | refine blk_alloc ?_ _)); refine blk_far ?_ NB846_876.out _; (with_reducible repeat (first | refine blk_drewN ?_ _ | refine blk_drew ?_ | refine blk_alloc ?_ _)); refine blk_far ?_ NB846_876.out _; (with_reducible repeat (first | refine blk_drewN ?_ _ | refine blk_drew ?_ | refine blk_alloc ?_ _)); refine blk_far ?_ NB846_876.out _; (with_reducible repeat (first | refine blk_drewN ?_ _ | refine blk_drew ?_ | refine blk_alloc ?_ _)); refine blk_far ?_ NB846_876.out _; (with_reducible repeat (first | refine blk_drewN ?_ _ | refine blk_drew ?_ | refine blk_alloc ?_ _)); refine blk_far ?_ NB846_876.out _; (with_reducible repeat (first | refine blk_drewN ?_ _ | refine blk_drew ?_ | refine blk_alloc ?_ _)); refine blk_far ?_ NB846_876.out _; (with_reducible repeat (first | refine blk_drewN ?_ _ | refine blk_drew ?_ | refine blk_alloc ?_ _)); exact BK846.out) hb); have n7_ := Aside0.mk (blk_below (g := gb847) (o := .cells #[.int .i64 a1_0, .slice A1_1 l1_1.length c1_1, .int .i64 a1_2, .int .i64 a1_3, .slice A1_4 l1_4.length c1_4] 64 (0, 0)) (by (with_reducible repeat (first | refine blk_drewN ?_ _ | refine blk_drew ?_ | refine blk_alloc ?_ _)); refine blk_far ?_ NB847_876.out _; (with_reducible repeat (first | refine blk_drewN ?_ _ | refine blk_drew ?_ | refine blk_alloc ?_ _)); refine blk_far ?_ NB847_876.out _; (with_reducible repeat (first | refine blk_drewN ?_ _ | refine blk_drew ?_ | refine blk_alloc ?_ _)); refine blk_far ?_ NB847_876.out _; (with_reducible repeat (first | refine blk_drewN ?_ _ | refine blk_drew ?_ | refine blk_alloc ?_ _)); refine blk_far ?_ NB847_876.out _; (with_reducible repeat (first | refine blk_drewN ?_ _ | refine blk_drew ?_ | refine blk_alloc ?_ _)); refine blk_far ?_ NB847_876.out _; (with_reducible repeat (first | refine blk_drewN ?_ _ | refine blk_drew ?_ | refine blk_alloc ?_ _)); refine blk_far ?_ NB847_876.out _; (with_reducible repeat (first | refine blk_drewN ?_ _ | refine blk_drew ?_ | refine blk_alloc ?_ _)); exact BK847.out) hb); have n8_ := Aside0.mk (blk_below (g := gb876) (o := .cells #[.int .i64 t868, .int .i64 t869, .int .i64 t870, .int .i64 t871, .int .i64 t872, .slice Ao52 t873.length co52] 82 (0, 0)) (by (with_reducible repeat (first | refine blk_drewN ?_ _ | refine blk_drew ?_ | refine blk_alloc ?_ _)); refine blk_put (cs := #[.int .i64 t868, .int .i64 t869, .int .i64 t870, .int .i64 t871, .int .i64 t872, .slice none 0 0]) ?_ 5 _ rfl; (with_reducible repeat (first | refine blk_drewN ?_ _ | refine blk_drew ?_ | refine blk_alloc ?_ _)); refine blk_put (cs := #[.int .i64 t868, .int .i64 t869, .int .i64 t870, .int .i64 t871, .int .i64 0, .slice none 0 0]) ?_ 4 _ rfl; (with_reducible repeat (first | refine blk_drewN ?_ _ | refine blk_drew ?_ | refine blk_alloc ?_ _)); refine blk_put (cs := #[.int .i64 t868, .int .i64 t869, .int .i64 t870, .int .i64 0, .int .i64 0, .slice none 0 0]) ?_ 3 _ rfl; (with_reducible repeat (first | refine blk_drewN ?_ _ | refine blk_drew ?_ | refine blk_alloc ?_ _)); refine blk_put (cs := #[.int .i64 t868, .int .i64 t869, .int .i64 0, .int .i64 0, .int .i64 0, .slice none 0 0]) ?_ 2 _ rfl; (with_reducible repeat (first | refine blk_drewN ?_ _ | refine blk_drew ?_ | refine blk_alloc ?_ _)); refine blk_put (cs := #[.int .i64 t868, .int .i64 0, .int .i64 0, .int .i64 0, .int .i64 0, .slice none 0 0]) ?_ 1 _ rfl; (with_reducible repeat (first | refine blk_drewN ?_ _ | refine blk_drew ?_ | refine blk_alloc ?_ _)); refine blk_put (cs := #[.int .i64 0, .int .i64 0, .int .i64 0, .int .i64 0, .int .i64 0, .slice none 0 0]) ?_ 0 _ rfl; (with_reducible repeat (first | refine blk_drewN ?_ _ | refine blk_drew ?_ | refine blk_alloc ?_ _)); exact BK876.out) hb); have n9_ := Aside0.mk (below_step (by repeat (first | (with_reducible first | exact HB.out | apply below_alloc | apply pw_below_drewN | apply below_drew1 | refine below_set ?_ GE846.out | refine below_set ?_ GE847.out | refine below_set ?_ GE876.out) | exact HB.out)) hb); clear HO857; clear HO861; clear HO866; clear HO875; clear BK846; clear BK847; clear BK876; clear HB; have HO857 := n0_; have HO861 := n1_; have HO866 := n2_; have HO875 := n3_; have HO880 := n4_; have HO885 := n5_; have BK846 := n6_; have BK847 := n7_; have BK876 := n8_; have HB := n9_; clear n0_ n1_ n2_ n3_ n4_ n5_ n6_ n7_ n8_ n9_; (try clear hb); (try clear hb2); (try clear hk); (try clear hi); (try clear ho0); (try clear ho1)) | ((with_reducible refine gate_dst (N := 8) rfl ?_); refine box_event ?hg (N := 8) ?hd (cs := #[.int .i64 0, .slice none 0 0, .int .i64 0, .int .i64 0, .slice none 0 0]) (t := 68) ?hr ?_; (case hd => rfl); (case hg => rfl); (case hr => first | (go_simp; done) | (go_simp; rfl)); intro gb886 hg w55 hbox hb; have n0_ := Aside0.mk (Kd.R_below (by (with_reducible repeat (first | apply Kd.R_alloc | apply Kd.R_drewN | apply Kd.R_drew)); exact HO857.out) hb); have n1_ := Aside0.mk (Kd.R_below (by (with_reducible repeat (first | apply Kd.R_alloc | apply Kd.R_drewN | apply Kd.R_drew)); exact HO861.out) hb); have n2_ := Aside0.mk (Kd.S_below (by (with_reducible repeat (first | apply Kd.S_alloc | apply Kd.S_drewN | apply Kd.S_drew)); exact HO866.out) hb); have n3_ := Aside0.mk (Kd.R_below (by (with_reducible repeat (first | apply Kd.R_alloc | apply Kd.R_drewN | apply Kd.R_drew)); exact HO875.out) hb); have n4_ := Aside0.mk (Kd.R_below (by (with_reducible repeat (first | apply Kd.R_alloc | apply Kd.R_drewN | apply Kd.R_drew)); exact HO880.out) hb); have n5_ := Aside0.mk (Kd.S_below (by (with_reducible repeat (first | apply Kd.S_alloc | apply Kd.S_drewN | apply Kd.S_drew)); exact HO885.out) hb); have n6_ := Aside0.mk (blk_below (g := gb846) (o := .cells #[.int .i64 a0_0, .int .i64 a0_1, .int .i64 a0_2, .int .i64 a0_3, .int .i64 a0_4, .slice A0_5 l0_5.length c0_5] 78 (0, 0)) (by (with_reducible repeat (first | refine blk_drewN ?_ _ | refine blk_drew ?_ | refine blk_alloc ?_ _)); exact BK846.out) hb); have n7_ := Aside0.mk (blk_below (g := gb847) (o := .cells #[.int .i64 a1_0, .slice A1_1 l1_1.length c1_1, .int .i64 a1_2, .int .i64 a1_3, .slice A1_4 l1_4.length c1_4] 64 (0, 0)) (by (with_reducible repeat (first | refine blk_drewN ?_ _ | refine blk_drew ?_ | refine blk_alloc ?_ _)); exact BK847.out) hb); have n8_ := Aside0.mk (blk_below (g := gb876) (o := .cells #[.int .i64 t868, .int .i64 t869, .int .i64 t870, .int .i64 t871, .int .i64 t872, .slice Ao52 t873.length co52] 82 (0, 0)) (by (with_reducible repeat (first | refine blk_drewN ?_ _ | refine blk_drew ?_ | refine blk_alloc ?_ _)); exact BK876.out) hb); have n9_ := Aside0.mk (below_step (by repeat (first | (with_reducible first | exact HB.out | apply below_alloc | apply pw_below_drewN | apply below_drew1 | refine below_set ?_ GE846.out | refine below_set ?_ GE847.out | refine below_set ?_ GE876.out) | exact HB.out)) hb); have n10_ := Aside0.mk (hbox); have n11_ := Aside0.mk ((by rw [hg]; exact (below_size (by repeat (first | (with_reducible first | exact HB.out | apply below_alloc | apply pw_below_drewN | apply below_drew1 | refine below_set ?_ GE846.out | refine below_set ?_ GE847.out | refine below_set ?_ GE876.out) | exact HB.out))) : w.heap.size ≤ gb886)); have n12_ := Aside0.mk ((by rw [hg]; exact (below_size (by repeat (first | (with_reducible first | exact HB.out | apply below_alloc | apply pw_below_drewN | apply below_drew1 | refine below_set ?_ GE846.out | refine below_set ?_ GE847.out | refine below_set ?_ GE876.out) | exact HB.out))) : w.heap.size ≤ gb886)); have n13_ := Aside0.mk ((by rw [hg]; exact Nat.ne_of_lt (blk_lt (g := gb846) (o := .cells #[.int .i64 a0_0, .int .i64 a0_1, .int .i64 a0_2, .int .i64 a0_3, .int .i64 a0_4, .slice A0_5 l0_5.length c0_5] 78 (0, 0)) (by (with_reducible repeat (first | refine blk_drewN ?_ _ | refine blk_drew ?_ | refine blk_alloc ?_ _)); exact BK846.out)) : gb846 ≠ gb886)); have n14_ := Aside0.mk ((by rw [hg]; exact Nat.ne_of_gt (blk_lt (g := gb846) (o := .cells #[.int .i64 a0_0, .int .i64 a0_1, .int .i64 a0_2, .int .i64 a0_3, .int .i64 a0_4, .slice A0_5 l0_5.length c0_5] 78 (0, 0)) (by (with_reducible repeat (first | refine blk_drewN ?_ _ | refine blk_drew ?_ | refine blk_alloc ?_ _)); exact BK846.out)) : gb886 ≠ gb846)); have n15_ := Aside0.mk ((by rw [hg]; exact Nat.ne_of_lt (blk_lt (g := gb847) (o := .cells #[.int .i64 a1_0, .slice A1_1 l1_1.length c1_1, .int .i64 a1_2, .int .i64 a1_3, .slice A1_4 l1_4.length c1_4] 64 (0, 0)) (by (with_reducible repeat (first | refine blk_drewN ?_ _ | refine blk_drew ?_ | refine blk_alloc ?_ _)); exact BK847.out)) : gb847 ≠ gb886)); have n16_ := Aside0.mk ((by rw [hg]; exact Nat.ne_of_gt (blk_lt (g := gb847) (o := .cells #[.int .i64 a1_0, .slice A1_1 l1_1.length c1_1, .int .i64 a1_2, .int .i64 a1_3, .slice A1_4 l1_4.length c1_4] 64 (0, 0)) (by (with_reducible repeat (first | refine blk_drewN ?_ _ | refine blk_drew ?_ | refine blk_alloc ?_ _)); exact BK847.out)) : gb886 ≠ gb847)); have n17_ := Aside0.mk ((by rw [hg]; exact Nat.ne_of_lt (blk_lt (g := gb876) (o := .cells #[.int .i64 t868, .int .i64 t869, .int .i64 t870, .int .i64 t871, .int .i64 t872, .slice Ao52 t873.length co52] 82 (0, 0)) (by (with_reducible repeat (first | refine blk_drewN ?_ _ | refine blk_drew ?_ | refine blk_alloc ?_ _)); exact BK876.out)) : gb876 ≠ gb886)); have n18_ := Aside0.mk ((by rw [hg]; exact Nat.ne_of_gt (blk_lt (g := gb876) (o := .cells #[.int .i64 t868, .int .i64 t869, .int .i64 t870, .int .i64 t871, .int .i64 t872, .slice Ao52 t873.length co52] 82 (0, 0)) (by (with_reducible repeat (first | refine blk_drewN ?_ _ | refine blk_drew ?_ | refine blk_alloc ?_ _)); exact BK876.out)) : gb886 ≠ gb876)); clear HO857; clear HO861; clear HO866; clear HO875; clear HO880; clear HO885; clear BK846; clear BK847; clear BK876; clear HB; have HO857 := n0_; have HO861 := n1_; have HO866 := n2_; have HO875 := n3_; have HO880 := n4_; have HO885 := n5_; have BK846 := n6_; have BK847 := n7_; have BK876 := n8_; have HB := n9_; have BK886 := n10_; have GW886 := n11_; have GE886 := n12_; have NB846_886 := n13_; have NB886_846 := n14_; have NB847_886 := n15_; have NB886_847 := n16_; have NB876_886 := n17_; have NB886_876 := n18_; clear n0_ n1_ n2_ n3_ n4_ n5_ n6_ n7_ n8_ n9_ n10_ n11_ n12_ n13_ n14_ n15_ n16_ n17_ n18_; clear hb hbox hg; have hnb56 := NB886_846.out; have hnc56 := NB846_886.out; have hnb57 := NB886_847.out; have hnc57 := NB847_886.out; have hnb58 := NB886_876.out; have hnc58 := NB876_886.out; have hcz59_0 : w55.cell? ⟨gb886, 0, none⟩ = some (.int .i64 0) := (blk_cell BK886.out 0).trans rfl; have hcz59_1 : w55.cell? ⟨gb886, 1, none⟩ = some (.slice none 0 0) := (blk_cell BK886.out 1).trans rfl; have hcz59_2 : w55.cell? ⟨gb886, 2, none⟩ = some (.int .i64 0) := (blk_cell BK886.out 2).trans rfl; have hcz59_3 : w55.cell? ⟨gb886, 3, none⟩ = some (.int .i64 0) := (blk_cell BK886.out 3).trans rfl; have hcz59_4 : w55.cell? ⟨gb886, 4, none⟩ = some (.slice none 0 0) := (blk_cell BK886.out 4).trans rfl; have hfz59_0 := blk_frozen BK886.out 0; have hfz59_1 := blk_frozen BK886.out 1; have hfz59_2 := blk_frozen BK886.out 2; have hfz59_3 := blk_frozen BK886.out 3; have hfz59_4 := blk_frozen BK886.out 4; obtain ⟨Ao60, co60, eo60⟩ := Kd.R_slice HO880.out; subst eo60; obtain ⟨Ao61, co61, eo61⟩ := Kd.S_slice HO885.out; subst eo61; have hcz62_0 : w55.cell? ⟨gb876, 0, none⟩ = some (.int .i64 t868) := (blk_cell BK876.out 0).trans rfl; have hcz62_1 : w55.cell? ⟨gb876, 1, none⟩ = some (.int .i64 t869) := (blk_cell BK876.out 1).trans rfl; have hcz62_2 : w55.cell? ⟨gb876, 2, none⟩ = some (.int .i64 t870) := (blk_cell BK876.out 2).trans rfl; have hcz62_3 : w55.cell? ⟨gb876, 3, none⟩ = some (.int .i64 t871) := (blk_cell BK876.out 3).trans rfl; have hcz62_4 : w55.cell? ⟨gb876, 4, none⟩ = some (.int .i64 t872) := (blk_cell BK876.out 4).trans rfl; have hcz62_5 : w55.cell? ⟨gb876, 5, none⟩ = some (.slice Ao52 t873.length co52) := (blk_cell BK876.out 5).trans rfl; have hfz62_0 := blk_frozen BK876.out 0; have hfz62_1 := blk_frozen BK876.out 1; have hfz62_2 := blk_frozen BK876.out 2; have hfz62_3 := blk_frozen BK876.out 3; have hfz62_4 := blk_frozen BK876.out 4; have hfz62_5 := blk_frozen BK876.out 5) | ((with_reducible refine gate_callee (f := 65) rfl ?_); refine goesL_ (some 31) rfl rfl Try.func65 (by kernel_rfl) rfl #[.agg #[.int .i64 t868, .int .i64 t869, .int .i64 t870, .int .i64 t871, .int .i64 t872, .slice Ao52 t873.length co52], .agg #[.int .i64 t877, .slice Ao60 t878.length co60, .int .i64 t881, .int .i64 t882, .slice Ao61 t883.length co61]] rfl (by (try simp only [List.map_toArray, List.map_cons, List.map_nil]); first | done | rfl | (simp only [List.length_drop, List.length_take]; rfl)) ?_; (with_reducible refine (impl_Due.calls t868 t869 t870 t871 t872 _ _ t873 t877 _ _ t878 t881 t882 _ _ t883 t887 _ ?side1 ?side2 ?side3 ?side4 ?side5 ?side6 A24.out).mono ?_); (case side1 => refine (Kd.R_reads' (e := 9) (base := w.heap.size) (ok := fun k_ => (True ∧ some k_ ≠ (.slice Ao42 t855.length co42 : Value).ownBlock)) (n := t873.length) (c := co52) ?_).2.2; exact (by (with_reducible repeat (first | apply Kd.R_alloc | apply Kd.R_drewN | apply Kd.R_drew)); exact (Kd.R_mono (Kd.R_far (p := ⟨gb886, 4, none⟩) (Kd.R_far (p := ⟨gb886, 3, none⟩) (Kd.R_far (p := ⟨gb886, 2, none⟩) (Kd.R_far (p := ⟨gb886, 1, none⟩) (Kd.R_far (p := ⟨gb886, 0, none⟩) (Kd.R_types HO875.out BK886.out (by decide)) (fun _ hk => hk.2) (.int .i64 t877)) (fun _ hk => hk.2) (.slice Ao60 t878.length co60)) (fun _ hk => hk.2) (.int .i64 t881)) (fun _ hk => hk.2) (.int .i64 t882)) (fun _ hk => hk.2) (.slice Ao61 t883.length co61)) (fun _ h_ => h_.1)))); (case side2 => exact (Kd.R_reads' HO875.out).2.1); (case side3 => refine (Kd.R_reads' (e := 116) (base := w.heap.size) (ok := fun k_ => (True ∧ some k_ ≠ (.slice Ao43 t859.length co43 : Value).ownBlock)) (n := t878.length) (c := co60) ?_).2.2; exact (by (with_reducible repeat (first | apply Kd.R_alloc | apply Kd.R_drewN | apply Kd.R_drew)); exact (Kd.R_mono (Kd.R_far (p := ⟨gb886, 4, none⟩) (Kd.R_far (p := ⟨gb886, 3, none⟩) (Kd.R_far (p := ⟨gb886, 2, none⟩) (Kd.R_far (p := ⟨gb886, 1, none⟩) (Kd.R_far (p := ⟨gb886, 0, none⟩) (Kd.R_types HO880.out BK886.out (by decide)) (fun _ hk => hk.2) (.int .i64 t877)) (fun _ hk => hk.2) (.slice Ao60 t878.length co60)) (fun _ hk => hk.2) (.int .i64 t881)) (fun _ hk => hk.2) (.int .i64 t882)) (fun _ hk => hk.2) (.slice Ao61 t883.length co61)) (fun _ h_ => h_.1)))); (case side4 => exact (Kd.R_reads' HO880.out).2.1); (case side5 => refine (Kd.S_reads' (e := 57) (base := w.heap.size) (ok := fun k_ => ((some k_ ≠ (.slice Ao60 t878.length co60 : Value).ownBlock ∧ some k_ ≠ (.slice Ao43 t859.length co43 : Value).ownBlock) ∧ some k_ ≠ (.slice Ao44 t864.length co44 : Value).ownBlock)) (n := t883.length) (c := co61) ?_).2.2; exact (by (with_reducible repeat (first | apply Kd.S_alloc | apply Kd.S_drewN | apply Kd.S_drew)); exact (Kd.S_mono (Kd.S_far (p := ⟨gb886, 4, none⟩) (Kd.S_far (p := ⟨gb886, 3, none⟩) (Kd.S_far (p := ⟨gb886, 2, none⟩) (Kd.S_far (p := ⟨gb886, 1, none⟩) (Kd.S_far (p := ⟨gb886, 0, none⟩) (Kd.S_types HO885.out BK886.out (by decide)) (fun _ hk => hk.2) (.int .i64 t877)) (fun _ hk => hk.2) (.slice Ao60 t878.length co60)) (fun _ hk => hk.2) (.int .i64 t881)) (fun _ hk => hk.2) (.int .i64 t882)) (fun _ hk => hk.2) (.slice Ao61 t883.length co61)) (fun _ h_ => h_.1)))); (case side6 => exact (Kd.S_reads' HO885.out).2.1); rintro e w63 ⟨rfl, hb⟩; refine ⟨_, rfl, ?_⟩; have n0_ := Aside0.mk (Kd.R_below (by (with_reducible repeat (first | apply Kd.R_alloc | apply Kd.R_drewN | apply Kd.R_drew)); exact (Kd.R_mono (Kd.R_far (p := ⟨gb886, 4, none⟩) (Kd.R_far (p := ⟨gb886, 3, none⟩) (Kd.R_far (p := ⟨gb886, 2, none⟩) (Kd.R_far (p := ⟨gb886, 1, none⟩) (Kd.R_far (p := ⟨gb886, 0, none⟩) (Kd.R_types HO857.out BK886.out (by decide)) (fun _ hk => hk.2) (.int .i64 t877)) (fun _ hk => hk.2) (.slice Ao60 t878.length co60)) (fun _ hk => hk.2) (.int .i64 t881)) (fun _ hk => hk.2) (.int .i64 t882)) (fun _ hk => hk.2) (.slice Ao61 t883.length co61)) (fun _ h_ => h_.1))) hb); have n1_ := Aside0.mk (Kd.R_below (by (with_reducible repeat (first | apply Kd.R_alloc | apply Kd.R_drewN | apply Kd.R_drew)); exact (Kd.R_mono (Kd.R_far (p := ⟨gb886, 4, none⟩) (Kd.R_far (p := ⟨gb886, 3, none⟩) (Kd.R_far (p := ⟨gb886, 2, none⟩) (Kd.R_far (p := ⟨gb886, 1, none⟩) (Kd.R_far (p := ⟨gb886, 0, none⟩) (Kd.R_types HO861.out BK886.out (by decide)) (fun _ hk => hk.2) (.int .i64 t877)) (fun _ hk => hk.2) (.slice Ao60 t878.length co60)) (fun _ hk => hk.2) (.int .i64 t881)) (fun _ hk => hk.2) (.int .i64 t882)) (fun _ hk => hk.2) (.slice Ao61 t883.length co61)) (fun _ h_ => h_.1))) hb); have n2_ := Aside0.mk (Kd.S_below (by (with_reducible repeat (first | apply Kd.S_alloc | apply Kd.S_drewN | apply Kd.S_drew)); exact (Kd.S_mono (Kd.S_far (p := ⟨gb886, 4, none⟩) (Kd.S_far (p := ⟨gb886, 3, none⟩) (Kd.S_far (p := ⟨gb886, 2, none⟩) (Kd.S_far (p := ⟨gb886, 1, none⟩) (Kd.S_far (p := ⟨gb886, 0, none⟩) (Kd.S_types HO866.out BK886.out (by decide)) (fun _ hk => hk.2) (.int .i64 t877)) (fun _ hk => hk.2) (.slice Ao60 t878.length co60)) (fun _ hk => hk.2) (.int .i64 t881)) (fun _ hk => hk.2) (.int .i64 t882)) (fun _ hk => hk.2) (.slice Ao61 t883.length co61)) (fun _ h_ => h_.1))) hb); have n3_ := Aside0.mk (Kd.R_below (by (with_reducible repeat (first | apply Kd.R_alloc | apply Kd.R_drewN | apply Kd.R_drew)); exact (Kd.R_mono (Kd.R_far (p := ⟨gb886, 4, none⟩) (Kd.R_far (p := ⟨gb886, 3, none⟩) (Kd.R_far (p := ⟨gb886, 2, none⟩) (Kd.R_far (p := ⟨gb886, 1, none⟩) (Kd.R_far (p := ⟨gb886, 0, none⟩) (Kd.R_types HO875.out BK886.out (by decide)) (fun _ hk => hk.2) (.int .i64 t877)) (fun _ hk => hk.2) (.slice Ao60 t878.length co60)) (fun _ hk => hk.2) (.int .i64 t881)) (fun _ hk => hk.2) (.int .i64 t882)) (fun _ hk => hk.2) (.slice Ao61 t883.length co61)) (fun _ h_ => h_.1))) hb); have n4_ := Aside0.mk (Kd.R_below (by (with_reducible repeat (first | apply Kd.R_alloc | apply Kd.R_drewN | apply Kd.R_drew)); exact (Kd.R_mono (Kd.R_far (p := ⟨gb886, 4, none⟩) (Kd.R_far (p := ⟨gb886, 3, none⟩) (Kd.R_far (p := ⟨gb886, 2, none⟩) (Kd.R_far (p := ⟨gb886, 1, none⟩) (Kd.R_far (p := ⟨gb886, 0, none⟩) (Kd.R_types HO880.out BK886.out (by decide)) (fun _ hk => hk.2) (.int .i64 t877)) (fun _ hk => hk.2) (.slice Ao60 t878.length co60)) (fun _ hk => hk.2) (.int .i64 t881)) (fun _ hk => hk.2) (.int .i64 t882)) (fun _ hk => hk.2) (.slice Ao61 t883.length co61)) (fun _ h_ => h_.1))) hb); have n5_ := Aside0.mk (Kd.S_below (by (with_reducible repeat (first | apply Kd.S_alloc | apply Kd.S_drewN | apply Kd.S_drew)); exact (Kd.S_mono (Kd.S_far (p := ⟨gb886, 4, none⟩) (Kd.S_far (p := ⟨gb886, 3, none⟩) (Kd.S_far (p := ⟨gb886, 2, none⟩) (Kd.S_far (p := ⟨gb886, 1, none⟩) (Kd.S_far (p := ⟨gb886, 0, none⟩) (Kd.S_types HO885.out BK886.out (by decide)) (fun _ hk => hk.2) (.int .i64 t877)) (fun _ hk => hk.2) (.slice Ao60 t878.length co60)) (fun _ hk => hk.2) (.int .i64 t881)) (fun _ hk => hk.2) (.int .i64 t882)) (fun _ hk => hk.2) (.slice Ao61 t883.length co61)) (fun _ h_ => h_.1))) hb); have n6_ := Aside0.mk (blk_below (g := gb846) (o := .cells #[.int .i64 a0_0, .int .i64 a0_1, .int .i64 a0_2, .int .i64 a0_3, .int .i64 a0_4, .slice A0_5 l0_5.length c0_5] 78 (0, 0)) (by (with_reducible repeat (first | refine blk_drewN ?_ _ | refine blk_drew ?_ | refine blk_alloc ?_ _)); refine blk_far ?_ NB846_886.out _; (with_reducible repeat (first | refine blk_drewN ?_ _ | refine blk_drew ?_ | refine blk_alloc ?_ _)); refine blk_far ?_ NB846_886.out _; (with_reducible repeat (first | refine blk_drewN ?_ _ | refine blk_drew ?_ | refine blk_alloc ?_ _)); refine blk_far ?_ NB846_886.out _; (with_reducible repeat (first | refine blk_drewN ?_ _ | refine blk_drew ?_ | refine blk_alloc ?_ _)); refine blk_far ?_ NB846_886.out _; (with_reducible repeat (first | refine blk_drewN ?_ _ | refine blk_drew ?_ | refine blk_alloc ?_ _)); refine blk_far ?_ NB846_886.out _; (with_reducible repeat (first | refine blk_drewN ?_ _ | refine blk_drew ?_ | refine blk_alloc ?_ _)); exact BK846.out) hb); have n7_ := Aside0.mk (blk_below (g := gb847) (o := .cells #[.int .i64 a1_0, .slice A1_1 l1_1.length c1_1, .int .i64 a1_2, .int .i64 a1_3, .slice A1_4 l1_4.length c1_4] 64 (0, 0)) (by (with_reducible repeat (first | refine blk_drewN ?_ _ | refine blk_drew ?_ | refine blk_alloc ?_ _)); refine blk_far ?_ NB847_886.out _; (with_reducible repeat (first | refine blk_drewN ?_ _ | refine blk_drew ?_ | refine blk_alloc ?_ _)); refine blk_far ?_ NB847_886.out _; (with_reducible repeat (first | refine blk_drewN ?_ _ | refine blk_drew ?_ | refine blk_alloc ?_ _)); refine blk_far ?_ NB847_886.out _; (with_reducible repeat (first | refine blk_drewN ?_ _ | refine blk_drew ?_ | refine blk_alloc ?_ _)); refine blk_far ?_ NB847_886.out _; (with_reducible repeat (first | refine blk_drewN ?_ _ | refine blk_drew ?_ | refine blk_alloc ?_ _)); refine blk_far ?_ NB847_886.out _; (with_reducible repeat (first | refine blk_drewN ?_ _ | refine blk_drew ?_ | refine blk_alloc ?_ _)); exact BK847.out) hb); have n8_ := Aside0.mk (blk_below (g := gb876) (o := .cells #[.int .i64 t868, .int .i64 t869, .int .i64 t870, .int .i64 t871, .int .i64 t872, .slice Ao52 t873.length co52] 82 (0, 0)) (by (with_reducible repeat (first | refine blk_drewN ?_ _ | refine blk_drew ?_ | refine blk_alloc ?_ _)); refine blk_far ?_ NB876_886.out _; (with_reducible repeat (first | refine blk_drewN ?_ _ | refine blk_drew ?_ | refine blk_alloc ?_ _)); refine blk_far ?_ NB876_886.out _; (with_reducible repeat (first | refine blk_drewN ?_ _ | refine blk_drew ?_ | refine blk_alloc ?_ _)); refine blk_far ?_ NB876_886.out _; (with_reducible repeat (first | refine blk_drewN ?_ _ | refine blk_drew ?_ | refine blk_alloc ?_ _)); refine blk_far ?_ NB876_886.out _; (with_reducible repeat (first | refine blk_drewN ?_ _ | refine blk_drew ?_ | refine blk_alloc ?_ _)); refine blk_far ?_ NB876_886.out _; (with_reducible repeat (first | refine blk_drewN ?_ _ | refine blk_drew ?_ | refine blk_alloc ?_ _)); exact BK876.out) hb); have n9_ := Aside0.mk (blk_below (g := gb886) (o := .cells #[.int .i64 t877, .slice Ao60 t878.length co60, .int .i64 t881, .int .i64 t882, .slice Ao61 t883.length co61] 68 (0, 0)) (by (with_reducible repeat (first | refine blk_drewN ?_ _ | refine blk_drew ?_ | refine blk_alloc ?_ _)); refine blk_put (cs := #[.int .i64 t877, .slice Ao60 t878.length co60, .int .i64 t881, .int .i64 t882, .slice none 0 0]) ?_ 4 _ rfl; (with_reducible repeat (first | refine blk_drewN ?_ _ | refine blk_drew ?_ | refine blk_alloc ?_ _)); refine blk_put (cs := #[.int .i64 t877, .slice Ao60 t878.length co60, .int .i64 t881, .int .i64 0, .slice none 0 0]) ?_ 3 _ rfl; (with_reducible repeat (first | refine blk_drewN ?_ _ | refine blk_drew ?_ | refine blk_alloc ?_ _)); refine blk_put (cs := #[.int .i64 t877, .slice Ao60 t878.length co60, .int .i64 0, .int .i64 0, .slice none 0 0]) ?_ 2 _ rfl; (with_reducible repeat (first | refine blk_drewN ?_ _ | refine blk_drew ?_ | refine blk_alloc ?_ _)); refine blk_put (cs := #[.int .i64 t877, .slice none 0 0, .int .i64 0, .int .i64 0, .slice none 0 0]) ?_ 1 _ rfl; (with_reducible repeat (first | refine blk_drewN ?_ _ | refine blk_drew ?_ | refine blk_alloc ?_ _)); refine blk_put (cs := #[.int .i64 0, .slice none 0 0, .int .i64 0, .int .i64 0, .slice none 0 0]) ?_ 0 _ rfl; (with_reducible repeat (first | refine blk_drewN ?_ _ | refine blk_drew ?_ | refine blk_alloc ?_ _)); exact BK886.out) hb); have n10_ := Aside0.mk (below_step (by repeat (first | (with_reducible first | exact HB.out | apply below_alloc | apply pw_below_drewN | apply below_drew1 | refine below_set ?_ GE846.out | refine below_set ?_ GE847.out | refine below_set ?_ GE876.out | refine below_set ?_ GE886.out) | exact HB.out)) hb); clear HO857; clear HO861; clear HO866; clear HO875; clear HO880; clear HO885; clear BK846; clear BK847; clear BK876; clear BK886; clear HB; have HO857 := n0_; have HO861 := n1_; have HO866 := n2_; have HO875 := n3_; have HO880 := n4_; have HO885 := n5_; have BK846 := n6_; have BK847 := n7_; have BK876 := n8_; have BK886 := n9_; have HB := n10_; clear n0_ n1_ n2_ n3_ n4_ n5_ n6_ n7_ n8_ n9_ n10_; (try clear hb); (try clear hb2); (try clear hk); (try clear hi)))
      have n0_ := Aside0.mk (Kd.R_drew HO857.out)
      have n1_ := Aside0.mk (Kd.R_drew HO861.out)
      have n2_ := Aside0.mk (Kd.S_drew HO866.out)
      have n3_ := Aside0.mk (Kd.R_drew HO875.out)
      have n4_ := Aside0.mk (Kd.R_drew HO880.out)
      have n5_ := Aside0.mk (Kd.S_drew HO885.out)
      have n6_ := Aside0.mk (blk_drew BK846.out)
      have n7_ := Aside0.mk (blk_drew BK847.out)
      have n8_ := Aside0.mk (blk_drew BK876.out)
      have n9_ := Aside0.mk (blk_drew BK886.out)
      have n10_ := Aside0.mk (below_drew1 HB.out)
      clear HO857
      clear HO861
      clear HO866
      clear HO875
      clear HO880
      clear HO885
      clear BK846
      clear BK847
      clear BK876
      clear BK886
      clear HB
      have HO857 := n0_
      have HO861 := n1_
      have HO866 := n2_
      have HO875 := n3_
      have HO880 := n4_
      have HO885 := n5_
      have BK846 := n6_
      have BK847 := n7_
      have BK876 := n8_
      have BK886 := n9_
      have HB := n10_
      clear n0_ n1_ n2_ n3_ n4_ n5_ n6_ n7_ n8_ n9_ n10_
      refine start_ (n := 5) (S := fun w' => w'.cell? ⟨gb876, 0, none⟩ = some (.int .i64 t868) ∧ w'.cell? ⟨gb876, 1, none⟩ = some (.int .i64 t869) ∧ w'.cell? ⟨gb876, 2, none⟩ = some (.int .i64 t870) ∧ w'.cell? ⟨gb876, 3, none⟩ = some (.int .i64 t871) ∧ w'.cell? ⟨gb876, 4, none⟩ = some (.int .i64 t872) ∧ w'.cell? ⟨gb876, 5, none⟩ = some (.slice Ao52 t873.length co52) ∧ w'.cell? ⟨gb846, 0, none⟩ = some (.int .i64 a0_0) ∧ w'.cell? ⟨gb846, 1, none⟩ = some (.int .i64 a0_1) ∧ w'.cell? ⟨gb846, 2, none⟩ = some (.int .i64 a0_2) ∧ w'.cell? ⟨gb846, 3, none⟩ = some (.int .i64 a0_3) ∧ w'.cell? ⟨gb846, 4, none⟩ = some (.int .i64 a0_4) ∧ w'.cell? ⟨gb846, 5, none⟩ = some (.slice A0_5 l0_5.length c0_5)) (ds := []) #[false, false, false, false, false] (by kernel_rfl) rfl rfl ⟨(blk_cell BK876.out 0).trans rfl, (blk_cell BK876.out 1).trans rfl, (blk_cell BK876.out 2).trans rfl, (blk_cell BK876.out 3).trans rfl, (blk_cell BK876.out 4).trans rfl, (blk_cell BK876.out 5).trans rfl, (blk_cell BK846.out 0).trans rfl, (blk_cell BK846.out 1).trans rfl, (blk_cell BK846.out 2).trans rfl, (blk_cell BK846.out 3).trans rfl, (blk_cell BK846.out 4).trans rfl, (blk_cell BK846.out 5).trans rfl⟩ (fun hHeld => ?_)
      generalize w63.drew = w64 at HO857 HO861 HO866 HO875 HO880 HO885 BK846 BK847 BK876 BK886 HB hHeld ⊢
      refine take_ (i := 0) (N := some 35) (v := ?_) (a' := ?_) #[true, false, false, false, false] rfl rfl (by kernel_rfl) (fun _ _ _ h => h) (Or.inl ⟨by rfl, ?_⟩) hHeld ?_ ?_
      rotate_left
      ·
       rintro w' ⟨s0, s1, s2, s3, s4, s5, s6, s7, s8, s9, s10, s11⟩
       go_simp
       with_reducible rfl
      rotate_left
      ·
       simp only [Act.put, List.setIfInBounds_toArray, List.set_cons_zero, List.set_cons_succ, i64_w, i32_w]
       rfl
      refine take_ (i := 1) (N := some 36) (v := ?_) (a' := ?_) #[true, true, false, false, false] rfl rfl (by kernel_rfl) (fun _ _ _ h => h) (Or.inl ⟨by rfl, ?_⟩) hHeld ?_ ?_
      rotate_left
      ·
       rintro w' ⟨s0, s1, s2, s3, s4, s5, s6, s7, s8, s9, s10, s11⟩
       go_simp
       with_reducible rfl
      rotate_left
      ·
       simp only [Act.put, List.setIfInBounds_toArray, List.set_cons_zero, List.set_cons_succ, i64_w, i32_w]
       rfl
      refine one_ (i := 2) (N := some 37) #[true, true, true, false, false] rfl rfl (by kernel_rfl) (by decide) (fun K hK => ?_)
      refine goes_ Try.func50 (by kernel_rfl) rfl #[.agg #[.int .i64 a0_0, .int .i64 a0_1, .int .i64 a0_2, .int .i64 a0_3, .int .i64 a0_4, .slice A0_5 l0_5.length c0_5]] (by rfl) rfl rfl (by (try simp only [List.map_toArray, List.map_cons, List.map_nil]); first | done | rfl | (simp only [List.length_drop, List.length_take]; rfl)) ?_
      with_reducible refine (laws_toConf.calls k a0_0 a0_1 a0_2 a0_3 a0_4 _ _ l0_5 t888 t889 t890 t891 t892 t893 _ ?side1 ?side2 A26.out).mono ?_
      (case side1 => repeat (first | exact (Kd.C_below HR0_5.out HB.out) | (with_reducible refine Kd.C_alloc ?_ _) | (with_reducible refine Kd.C_drewN ?_ _) | (with_reducible refine Kd.C_drew ?_)))
      (case side2 => exact HC0_5.out)
      rintro e w65 ⟨v894, rfl, ho0, hb⟩
      refine ⟨_, rfl, ?_⟩
      have n0_ := Aside0.mk (Kd.R_elder' (by (with_reducible repeat (first | apply Kd.R_alloc | apply Kd.R_drewN | apply Kd.R_drew)); exact HO857.out) (Kd.R_base ho0) hb)
      have n1_ := Aside0.mk (Kd.R_below (by (with_reducible repeat (first | apply Kd.R_alloc | apply Kd.R_drewN | apply Kd.R_drew)); exact HO861.out) hb)
      have n2_ := Aside0.mk (Kd.S_below (by (with_reducible repeat (first | apply Kd.S_alloc | apply Kd.S_drewN | apply Kd.S_drew)); exact HO866.out) hb)
      have n3_ := Aside0.mk (Kd.R_elder' (by (with_reducible repeat (first | apply Kd.R_alloc | apply Kd.R_drewN | apply Kd.R_drew)); exact HO875.out) (Kd.R_base ho0) hb)
      have n4_ := Aside0.mk (Kd.R_below (by (with_reducible repeat (first | apply Kd.R_alloc | apply Kd.R_drewN | apply Kd.R_drew)); exact HO880.out) hb)
      have n5_ := Aside0.mk (Kd.S_below (by (with_reducible repeat (first | apply Kd.S_alloc | apply Kd.S_drewN | apply Kd.S_drew)); exact HO885.out) hb)
      have n6_ := Aside0.mk (Kd.R_lower (Kd.R_new' (Kd.R_new' ho0 (Kd.R_lt (by (with_reducible repeat (first | apply Kd.R_alloc | apply Kd.R_drewN | apply Kd.R_drew)); exact HO857.out))) (Kd.R_lt (by (with_reducible repeat (first | apply Kd.R_alloc | apply Kd.R_drewN | apply Kd.R_drew)); exact HO875.out))) (below_size (by repeat (first | (with_reducible first | exact HB.out | apply below_alloc | apply pw_below_drewN | apply below_drew1 | refine below_set ?_ GE846.out | refine below_set ?_ GE847.out | refine below_set ?_ GE876.out | refine below_set ?_ GE886.out) | exact HB.out))))
      have n7_ := Aside0.mk (blk_below (g := gb846) (o := .cells #[.int .i64 a0_0, .int .i64 a0_1, .int .i64 a0_2, .int .i64 a0_3, .int .i64 a0_4, .slice A0_5 l0_5.length c0_5] 78 (0, 0)) (by (with_reducible repeat (first | refine blk_drewN ?_ _ | refine blk_drew ?_ | refine blk_alloc ?_ _)); exact BK846.out) hb)
      have n8_ := Aside0.mk (blk_below (g := gb847) (o := .cells #[.int .i64 a1_0, .slice A1_1 l1_1.length c1_1, .int .i64 a1_2, .int .i64 a1_3, .slice A1_4 l1_4.length c1_4] 64 (0, 0)) (by (with_reducible repeat (first | refine blk_drewN ?_ _ | refine blk_drew ?_ | refine blk_alloc ?_ _)); exact BK847.out) hb)
      have n9_ := Aside0.mk (blk_below (g := gb876) (o := .cells #[.int .i64 t868, .int .i64 t869, .int .i64 t870, .int .i64 t871, .int .i64 t872, .slice Ao52 t873.length co52] 82 (0, 0)) (by (with_reducible repeat (first | refine blk_drewN ?_ _ | refine blk_drew ?_ | refine blk_alloc ?_ _)); exact BK876.out) hb)
      have n10_ := Aside0.mk (blk_below (g := gb886) (o := .cells #[.int .i64 t877, .slice Ao60 t878.length co60, .int .i64 t881, .int .i64 t882, .slice Ao61 t883.length co61] 68 (0, 0)) (by (with_reducible repeat (first | refine blk_drewN ?_ _ | refine blk_drew ?_ | refine blk_alloc ?_ _)); exact BK886.out) hb)
      have n11_ := Aside0.mk (below_step (by repeat (first | (with_reducible first | exact HB.out | apply below_alloc | apply pw_below_drewN | apply below_drew1 | refine below_set ?_ GE846.out | refine below_set ?_ GE847.out | refine below_set ?_ GE876.out | refine below_set ?_ GE886.out) | exact HB.out)) hb)
      clear HO857
      clear HO861
      clear HO866
      clear HO875
      clear HO880
      clear HO885
      clear BK846
      clear BK847
      clear BK876
      clear BK886
      clear HB
      have HO857 := n0_
      have HO861 := n1_
      have HO866 := n2_
      have HO875 := n3_
      have HO880 := n4_
      have HO885 := n5_
      have HO895 := n6_
      have BK846 := n7_
      have BK847 := n8_
      have BK876 := n9_
      have BK886 := n10_
      have HB := n11_
      clear n0_ n1_ n2_ n3_ n4_ n5_ n6_ n7_ n8_ n9_ n10_ n11_
      (try clear hb)
      (try clear hb2)
      (try clear hk)
      (try clear hi)
      (try clear ho0)
      obtain ⟨Ao66, co66, eo66⟩ := Kd.R_slice HO895.out
      (first | subst eo66 | (injection eo66 with f1_ f2_ f3_; have f4_ := f1_.symm; have f5_ := f3_.symm; clear f1_ f2_ f3_; subst f4_; subst f5_))
      refine hK.out _ _ ⟨(blk_cell BK876.out 0).trans rfl, (blk_cell BK876.out 1).trans rfl, (blk_cell BK876.out 2).trans rfl, (blk_cell BK876.out 3).trans rfl, (blk_cell BK876.out 4).trans rfl, (blk_cell BK876.out 5).trans rfl, (blk_cell BK846.out 0).trans rfl, (blk_cell BK846.out 1).trans rfl, (blk_cell BK846.out 2).trans rfl, (blk_cell BK846.out 3).trans rfl, (blk_cell BK846.out 4).trans rfl, (blk_cell BK846.out 5).trans rfl⟩ (fun hHeld => ?_)
      clear hK K
      refine norm_ (a' := ?_) ?_ ?_
      rotate_left
      ·
       show Act.put _ (some 37) _ = _
       simp only [Act.put, List.setIfInBounds_toArray, List.set_cons_zero, List.set_cons_succ, i64_w, i32_w]
       rfl
      refine one_ (i := 3) (N := some 38) #[true, true, true, true, false] rfl rfl (by kernel_rfl) (by decide) (fun K hK => ?_)
      refine goes_ Try.func53 (by kernel_rfl) rfl #[.agg #[.int .i64 t868, .int .i64 t869, .int .i64 t870, .int .i64 t871, .int .i64 t872, .slice Ao52 t873.length co52], .agg #[.int .i64 t888, .int .i64 t889, .int .i64 t890, .int .i64 t891, .int .i64 t892, .slice Ao66 t893.length co66]] (by rfl) rfl rfl (by (try simp only [List.map_toArray, List.map_cons, List.map_nil]); first | done | rfl | (simp only [List.length_drop, List.length_take]; rfl)) ?_
      with_reducible refine (laws_eqConf.calls k t868 t869 t870 t871 t872 _ _ t873 t888 t889 t890 t891 t892 _ _ t893 true _ ?side1 ?side2 ?side3 ?side4 A27.out).mono ?_
      (case side1 => repeat (first | exact (Kd.R_reads' HO875.out).2.2 | (with_reducible refine Kd.C_alloc ?_ _) | (with_reducible refine Kd.C_drewN ?_ _) | (with_reducible refine Kd.C_drew ?_)))
      (case side2 => exact (Kd.R_reads' HO875.out).2.1)
      (case side3 => repeat (first | exact (Kd.R_reads' HO895.out).2.2 | (with_reducible refine Kd.C_alloc ?_ _) | (with_reducible refine Kd.C_drewN ?_ _) | (with_reducible refine Kd.C_drew ?_)))
      (case side4 => exact (Kd.R_reads' HO895.out).2.1)
      rintro e w67 ⟨rfl, hb⟩
      refine ⟨_, rfl, ?_⟩
      have n0_ := Aside0.mk (Kd.R_below (by (with_reducible repeat (first | apply Kd.R_alloc | apply Kd.R_drewN | apply Kd.R_drew)); exact HO857.out) hb)
      have n1_ := Aside0.mk (Kd.R_below (by (with_reducible repeat (first | apply Kd.R_alloc | apply Kd.R_drewN | apply Kd.R_drew)); exact HO861.out) hb)
      have n2_ := Aside0.mk (Kd.S_below (by (with_reducible repeat (first | apply Kd.S_alloc | apply Kd.S_drewN | apply Kd.S_drew)); exact HO866.out) hb)
      have n3_ := Aside0.mk (Kd.R_below (by (with_reducible repeat (first | apply Kd.R_alloc | apply Kd.R_drewN | apply Kd.R_drew)); exact HO875.out) hb)
      have n4_ := Aside0.mk (Kd.R_below (by (with_reducible repeat (first | apply Kd.R_alloc | apply Kd.R_drewN | apply Kd.R_drew)); exact HO880.out) hb)
      have n5_ := Aside0.mk (Kd.S_below (by (with_reducible repeat (first | apply Kd.S_alloc | apply Kd.S_drewN | apply Kd.S_drew)); exact HO885.out) hb)
      have n6_ := Aside0.mk (Kd.R_below (by (with_reducible repeat (first | apply Kd.R_alloc | apply Kd.R_drewN | apply Kd.R_drew)); exact HO895.out) hb)
      have n7_ := Aside0.mk (blk_below (g := gb846) (o := .cells #[.int .i64 a0_0, .int .i64 a0_1, .int .i64 a0_2, .int .i64 a0_3, .int .i64 a0_4, .slice A0_5 l0_5.length c0_5] 78 (0, 0)) (by (with_reducible repeat (first | refine blk_drewN ?_ _ | refine blk_drew ?_ | refine blk_alloc ?_ _)); exact BK846.out) hb)
      have n8_ := Aside0.mk (blk_below (g := gb847) (o := .cells #[.int .i64 a1_0, .slice A1_1 l1_1.length c1_1, .int .i64 a1_2, .int .i64 a1_3, .slice A1_4 l1_4.length c1_4] 64 (0, 0)) (by (with_reducible repeat (first | refine blk_drewN ?_ _ | refine blk_drew ?_ | refine blk_alloc ?_ _)); exact BK847.out) hb)
      have n9_ := Aside0.mk (blk_below (g := gb876) (o := .cells #[.int .i64 t868, .int .i64 t869, .int .i64 t870, .int .i64 t871, .int .i64 t872, .slice Ao52 t873.length co52] 82 (0, 0)) (by (with_reducible repeat (first | refine blk_drewN ?_ _ | refine blk_drew ?_ | refine blk_alloc ?_ _)); exact BK876.out) hb)
      have n10_ := Aside0.mk (blk_below (g := gb886) (o := .cells #[.int .i64 t877, .slice Ao60 t878.length co60, .int .i64 t881, .int .i64 t882, .slice Ao61 t883.length co61] 68 (0, 0)) (by (with_reducible repeat (first | refine blk_drewN ?_ _ | refine blk_drew ?_ | refine blk_alloc ?_ _)); exact BK886.out) hb)
      have n11_ := Aside0.mk (below_step (by repeat (first | (with_reducible first | exact HB.out | apply below_alloc | apply pw_below_drewN | apply below_drew1 | refine below_set ?_ GE846.out | refine below_set ?_ GE847.out | refine below_set ?_ GE876.out | refine below_set ?_ GE886.out) | exact HB.out)) hb)
      clear HO857
      clear HO861
      clear HO866
      clear HO875
      clear HO880
      clear HO885
      clear HO895
      clear BK846
      clear BK847
      clear BK876
      clear BK886
      clear HB
      have HO857 := n0_
      have HO861 := n1_
      have HO866 := n2_
      have HO875 := n3_
      have HO880 := n4_
      have HO885 := n5_
      have HO895 := n6_
      have BK846 := n7_
      have BK847 := n8_
      have BK876 := n9_
      have BK886 := n10_
      have HB := n11_
      clear n0_ n1_ n2_ n3_ n4_ n5_ n6_ n7_ n8_ n9_ n10_ n11_
      (try clear hb)
      (try clear hb2)
      (try clear hk)
      (try clear hi)
      refine hK.out _ _ ⟨(blk_cell BK876.out 0).trans rfl, (blk_cell BK876.out 1).trans rfl, (blk_cell BK876.out 2).trans rfl, (blk_cell BK876.out 3).trans rfl, (blk_cell BK876.out 4).trans rfl, (blk_cell BK876.out 5).trans rfl, (blk_cell BK846.out 0).trans rfl, (blk_cell BK846.out 1).trans rfl, (blk_cell BK846.out 2).trans rfl, (blk_cell BK846.out 3).trans rfl, (blk_cell BK846.out 4).trans rfl, (blk_cell BK846.out 5).trans rfl⟩ (fun hHeld => ?_)
      clear hK K
      refine norm_ (a' := ?_) ?_ ?_
      rotate_left
      ·
       show Act.put _ (some 38) _ = _
       simp only [Act.put, List.setIfInBounds_toArray, List.set_cons_zero, List.set_cons_succ, i64_w, i32_w]
       rfl
      refine pure_ (i := 4) (N := some 39) (v := ?_) (a' := ?_) #[true, true, true, true, true] rfl rfl (by kernel_rfl) (fun _ _ _ h => h) (Or.inl ⟨by rfl, ?_⟩) ?_ ?_
      rotate_left
      ·
       intro w'
       go_simp
       with_reducible rfl
      rotate_left
      ·
       simp only [Act.put, List.setIfInBounds_toArray, List.set_cons_zero, List.set_cons_succ, i64_w, i32_w]
       rfl
      refine done_ (by kernel_rfl) ?_
      try go_wp2
      have n0_ := Aside0.mk (Kd.R_drew HO857.out)
      have n1_ := Aside0.mk (Kd.R_drew HO861.out)
      have n2_ := Aside0.mk (Kd.S_drew HO866.out)
      have n3_ := Aside0.mk (Kd.R_drew HO875.out)
      have n4_ := Aside0.mk (Kd.R_drew HO880.out)
      have n5_ := Aside0.mk (Kd.S_drew HO885.out)
      have n6_ := Aside0.mk (Kd.R_drew HO895.out)
      have n7_ := Aside0.mk (blk_drew BK846.out)
      have n8_ := Aside0.mk (blk_drew BK847.out)
      have n9_ := Aside0.mk (blk_drew BK876.out)
      have n10_ := Aside0.mk (blk_drew BK886.out)
      have n11_ := Aside0.mk (below_drew1 HB.out)
      clear HO857
      clear HO861
      clear HO866
      clear HO875
      clear HO880
      clear HO885
      clear HO895
      clear BK846
      clear BK847
      clear BK876
      clear BK886
      clear HB
      have HO857 := n0_
      have HO861 := n1_
      have HO866 := n2_
      have HO875 := n3_
      have HO880 := n4_
      have HO885 := n5_
      have HO895 := n6_
      have BK846 := n7_
      have BK847 := n8_
      have BK876 := n9_
      have BK886 := n10_
      have HB := n11_
      clear n0_ n1_ n2_ n3_ n4_ n5_ n6_ n7_ n8_ n9_ n10_ n11_
      refine start_ (n := 5) (S := fun w' => w'.cell? ⟨gb886, 0, none⟩ = some (.int .i64 t877) ∧ w'.cell? ⟨gb886, 1, none⟩ = some (.slice Ao60 t878.length co60) ∧ w'.cell? ⟨gb886, 2, none⟩ = some (.int .i64 t881) ∧ w'.cell? ⟨gb886, 3, none⟩ = some (.int .i64 t882) ∧ w'.cell? ⟨gb886, 4, none⟩ = some (.slice Ao61 t883.length co61) ∧ w'.cell? ⟨gb847, 0, none⟩ = some (.int .i64 a1_0) ∧ w'.cell? ⟨gb847, 1, none⟩ = some (.slice A1_1 l1_1.length c1_1) ∧ w'.cell? ⟨gb847, 2, none⟩ = some (.int .i64 a1_2) ∧ w'.cell? ⟨gb847, 3, none⟩ = some (.int .i64 a1_3) ∧ w'.cell? ⟨gb847, 4, none⟩ = some (.slice A1_4 l1_4.length c1_4)) (ds := []) #[false, false, false, false, false] (by kernel_rfl) rfl rfl ⟨(blk_cell BK886.out 0).trans rfl, (blk_cell BK886.out 1).trans rfl, (blk_cell BK886.out 2).trans rfl, (blk_cell BK886.out 3).trans rfl, (blk_cell BK886.out 4).trans rfl, (blk_cell BK847.out 0).trans rfl, (blk_cell BK847.out 1).trans rfl, (blk_cell BK847.out 2).trans rfl, (blk_cell BK847.out 3).trans rfl, (blk_cell BK847.out 4).trans rfl⟩ (fun hHeld => ?_)
      generalize w67.drew = w68 at HO857 HO861 HO866 HO875 HO880 HO885 HO895 BK846 BK847 BK876 BK886 HB hHeld ⊢
      refine take_ (i := 0) (N := some 40) (v := ?_) (a' := ?_) #[true, false, false, false, false] rfl rfl (by kernel_rfl) (fun _ _ _ h => h) (Or.inl ⟨by rfl, ?_⟩) hHeld ?_ ?_
      rotate_left
      ·
       rintro w' ⟨s0, s1, s2, s3, s4, s5, s6, s7, s8, s9⟩
       go_simp
       with_reducible rfl
      rotate_left
      ·
       simp only [Act.put, List.setIfInBounds_toArray, List.set_cons_zero, List.set_cons_succ, i64_w, i32_w]
       rfl
      refine take_ (i := 1) (N := some 41) (v := ?_) (a' := ?_) #[true, true, false, false, false] rfl rfl (by kernel_rfl) (fun _ _ _ h => h) (Or.inl ⟨by rfl, ?_⟩) hHeld ?_ ?_
      rotate_left
      ·
       rintro w' ⟨s0, s1, s2, s3, s4, s5, s6, s7, s8, s9⟩
       go_simp
       with_reducible rfl
      rotate_left
      ·
       simp only [Act.put, List.setIfInBounds_toArray, List.set_cons_zero, List.set_cons_succ, i64_w, i32_w]
       rfl
      refine one_ (i := 2) (N := some 42) #[true, true, true, false, false] rfl rfl (by kernel_rfl) (by decide) (fun K hK => ?_)
      refine goes_ Try.func39 (by kernel_rfl) rfl #[.agg #[.int .i64 a1_0, .slice A1_1 l1_1.length c1_1, .int .i64 a1_2, .int .i64 a1_3, .slice A1_4 l1_4.length c1_4]] (by rfl) rfl rfl (by (try simp only [List.map_toArray, List.map_cons, List.map_nil]); first | done | rfl | (simp only [List.length_drop, List.length_take]; rfl)) ?_
      with_reducible refine (laws_toGroup.calls k a1_0 _ _ l1_1 a1_2 a1_3 _ _ l1_4 t897 t898 t901 t902 t903 _ ?side1 ?side2 ?side3 ?side4 A29.out).mono ?_
      (case side1 => repeat (first | exact (Kd.C_below HR1_1.out HB.out) | (with_reducible refine Kd.C_alloc ?_ _) | (with_reducible refine Kd.C_drewN ?_ _) | (with_reducible refine Kd.C_drew ?_)))
      (case side2 => exact HC1_1.out)
      (case side3 => repeat (first | exact (Kd.C_below HR1_4.out HB.out) | (with_reducible refine Kd.C_alloc ?_ _) | (with_reducible refine Kd.C_drewN ?_ _) | (with_reducible refine Kd.C_drew ?_)))
      (case side4 => exact HC1_4.out)
      rintro e w69 ⟨v899, v904, rfl, ho0, ho1, hb⟩
      refine ⟨_, rfl, ?_⟩
      have n0_ := Aside0.mk (Kd.R_below (by (with_reducible repeat (first | apply Kd.R_alloc | apply Kd.R_drewN | apply Kd.R_drew)); exact HO857.out) hb)
      have n1_ := Aside0.mk (Kd.R_elder' (by (with_reducible repeat (first | apply Kd.R_alloc | apply Kd.R_drewN | apply Kd.R_drew)); exact HO861.out) (Kd.R_base ho0) hb)
      have n2_ := Aside0.mk (Kd.S_mono (Kd.S_told (Kd.S_told (Kd.S_old (by (with_reducible repeat (first | apply Kd.S_alloc | apply Kd.S_drewN | apply Kd.S_drew)); exact HO866.out) hb) (Kd.R_base ho0)) (Kd.S_base ho1)) (fun _ h_ => h_.1))
      have n3_ := Aside0.mk (Kd.R_below (by (with_reducible repeat (first | apply Kd.R_alloc | apply Kd.R_drewN | apply Kd.R_drew)); exact HO875.out) hb)
      have n4_ := Aside0.mk (Kd.R_elder' (by (with_reducible repeat (first | apply Kd.R_alloc | apply Kd.R_drewN | apply Kd.R_drew)); exact HO880.out) (Kd.R_base ho0) hb)
      have n5_ := Aside0.mk (Kd.S_mono (Kd.S_told (Kd.S_told (Kd.S_old (by (with_reducible repeat (first | apply Kd.S_alloc | apply Kd.S_drewN | apply Kd.S_drew)); exact HO885.out) hb) (Kd.R_base ho0)) (Kd.S_base ho1)) (fun _ h_ => h_.1))
      have n6_ := Aside0.mk (Kd.R_below (by (with_reducible repeat (first | apply Kd.R_alloc | apply Kd.R_drewN | apply Kd.R_drew)); exact HO895.out) hb)
      have n7_ := Aside0.mk (Kd.R_lower (Kd.R_new' (Kd.R_new' ho0 (Kd.R_lt (by (with_reducible repeat (first | apply Kd.R_alloc | apply Kd.R_drewN | apply Kd.R_drew)); exact HO861.out))) (Kd.R_lt (by (with_reducible repeat (first | apply Kd.R_alloc | apply Kd.R_drewN | apply Kd.R_drew)); exact HO880.out))) (below_size (by repeat (first | (with_reducible first | exact HB.out | apply below_alloc | apply pw_below_drewN | apply below_drew1 | refine below_set ?_ GE846.out | refine below_set ?_ GE847.out | refine below_set ?_ GE876.out | refine below_set ?_ GE886.out) | exact HB.out))))
      have n8_ := Aside0.mk (Kd.S_lower (Kd.S_new' (Kd.S_new' (Kd.S_new' (Kd.S_new' ho1 (Kd.R_lt (by (with_reducible repeat (first | apply Kd.R_alloc | apply Kd.R_drewN | apply Kd.R_drew)); exact HO861.out))) (Kd.S_lt (by (with_reducible repeat (first | apply Kd.S_alloc | apply Kd.S_drewN | apply Kd.S_drew)); exact HO866.out))) (Kd.R_lt (by (with_reducible repeat (first | apply Kd.R_alloc | apply Kd.R_drewN | apply Kd.R_drew)); exact HO880.out))) (Kd.S_lt (by (with_reducible repeat (first | apply Kd.S_alloc | apply Kd.S_drewN | apply Kd.S_drew)); exact HO885.out))) (below_size (by repeat (first | (with_reducible first | exact HB.out | apply below_alloc | apply pw_below_drewN | apply below_drew1 | refine below_set ?_ GE846.out | refine below_set ?_ GE847.out | refine below_set ?_ GE876.out | refine below_set ?_ GE886.out) | exact HB.out))))
      have n9_ := Aside0.mk (blk_below (g := gb846) (o := .cells #[.int .i64 a0_0, .int .i64 a0_1, .int .i64 a0_2, .int .i64 a0_3, .int .i64 a0_4, .slice A0_5 l0_5.length c0_5] 78 (0, 0)) (by (with_reducible repeat (first | refine blk_drewN ?_ _ | refine blk_drew ?_ | refine blk_alloc ?_ _)); exact BK846.out) hb)
      have n10_ := Aside0.mk (blk_below (g := gb847) (o := .cells #[.int .i64 a1_0, .slice A1_1 l1_1.length c1_1, .int .i64 a1_2, .int .i64 a1_3, .slice A1_4 l1_4.length c1_4] 64 (0, 0)) (by (with_reducible repeat (first | refine blk_drewN ?_ _ | refine blk_drew ?_ | refine blk_alloc ?_ _)); exact BK847.out) hb)
      have n11_ := Aside0.mk (blk_below (g := gb876) (o := .cells #[.int .i64 t868, .int .i64 t869, .int .i64 t870, .int .i64 t871, .int .i64 t872, .slice Ao52 t873.length co52] 82 (0, 0)) (by (with_reducible repeat (first | refine blk_drewN ?_ _ | refine blk_drew ?_ | refine blk_alloc ?_ _)); exact BK876.out) hb)
      have n12_ := Aside0.mk (blk_below (g := gb886) (o := .cells #[.int .i64 t877, .slice Ao60 t878.length co60, .int .i64 t881, .int .i64 t882, .slice Ao61 t883.length co61] 68 (0, 0)) (by (with_reducible repeat (first | refine blk_drewN ?_ _ | refine blk_drew ?_ | refine blk_alloc ?_ _)); exact BK886.out) hb)
      have n13_ := Aside0.mk (below_step (by repeat (first | (with_reducible first | exact HB.out | apply below_alloc | apply pw_below_drewN | apply below_drew1 | refine below_set ?_ GE846.out | refine below_set ?_ GE847.out | refine below_set ?_ GE876.out | refine below_set ?_ GE886.out) | exact HB.out)) hb)
      clear HO857
      clear HO861
      clear HO866
      clear HO875
      clear HO880
      clear HO885
      clear HO895
      clear BK846
      clear BK847
      clear BK876
      clear BK886
      clear HB
      have HO857 := n0_
      have HO861 := n1_
      have HO866 := n2_
      have HO875 := n3_
      have HO880 := n4_
      have HO885 := n5_
      have HO895 := n6_
      have HO900 := n7_
      have HO905 := n8_
      have BK846 := n9_
      have BK847 := n10_
      have BK876 := n11_
      have BK886 := n12_
      have HB := n13_
      clear n0_ n1_ n2_ n3_ n4_ n5_ n6_ n7_ n8_ n9_ n10_ n11_ n12_ n13_
      (try clear hb)
      (try clear hb2)
      (try clear hk)
      (try clear hi)
      (try clear ho0)
      (try clear ho1)
      obtain ⟨Ao70, co70, eo70⟩ := Kd.R_slice HO900.out
      (first | subst eo70 | (injection eo70 with f1_ f2_ f3_; have f4_ := f1_.symm; have f5_ := f3_.symm; clear f1_ f2_ f3_; subst f4_; subst f5_))
      obtain ⟨Ao71, co71, eo71⟩ := Kd.S_slice HO905.out
      (first | subst eo71 | (injection eo71 with f1_ f2_ f3_; have f4_ := f1_.symm; have f5_ := f3_.symm; clear f1_ f2_ f3_; subst f4_; subst f5_))
      refine hK.out _ _ ⟨(blk_cell BK886.out 0).trans rfl, (blk_cell BK886.out 1).trans rfl, (blk_cell BK886.out 2).trans rfl, (blk_cell BK886.out 3).trans rfl, (blk_cell BK886.out 4).trans rfl, (blk_cell BK847.out 0).trans rfl, (blk_cell BK847.out 1).trans rfl, (blk_cell BK847.out 2).trans rfl, (blk_cell BK847.out 3).trans rfl, (blk_cell BK847.out 4).trans rfl⟩ (fun hHeld => ?_)
      clear hK K
      refine norm_ (a' := ?_) ?_ ?_
      rotate_left
      ·
       show Act.put _ (some 42) _ = _
       simp only [Act.put, List.setIfInBounds_toArray, List.set_cons_zero, List.set_cons_succ, i64_w, i32_w]
       rfl
      refine one_ (i := 3) (N := some 43) #[true, true, true, true, false] rfl rfl (by kernel_rfl) (by decide) (fun K hK => ?_)
      refine goes_ Try.func41 (by kernel_rfl) rfl #[.agg #[.int .i64 t877, .slice Ao60 t878.length co60, .int .i64 t881, .int .i64 t882, .slice Ao61 t883.length co61], .agg #[.int .i64 t897, .slice Ao70 t898.length co70, .int .i64 t901, .int .i64 t902, .slice Ao71 t903.length co71]] (by rfl) rfl rfl (by (try simp only [List.map_toArray, List.map_cons, List.map_nil]); first | done | rfl | (simp only [List.length_drop, List.length_take]; rfl)) ?_
      with_reducible refine (laws_eqGroup.calls k t877 _ _ t878 t881 t882 _ _ t883 t897 _ _ t898 t901 t902 _ _ t903 true _ ?side1 ?side2 ?side3 ?side4 ?side5 ?side6 ?side7 ?side8 A30.out).mono ?_
      (case side1 => repeat (first | exact (Kd.R_reads' HO880.out).2.2 | (with_reducible refine Kd.C_alloc ?_ _) | (with_reducible refine Kd.C_drewN ?_ _) | (with_reducible refine Kd.C_drew ?_)))
      (case side2 => exact (Kd.R_reads' HO880.out).2.1)
      (case side3 => repeat (first | exact (Kd.S_reads' HO885.out).2.2 | (with_reducible refine Kd.C_alloc ?_ _) | (with_reducible refine Kd.C_drewN ?_ _) | (with_reducible refine Kd.C_drew ?_)))
      (case side4 => exact (Kd.S_reads' HO885.out).2.1)
      (case side5 => repeat (first | exact (Kd.R_reads' HO900.out).2.2 | (with_reducible refine Kd.C_alloc ?_ _) | (with_reducible refine Kd.C_drewN ?_ _) | (with_reducible refine Kd.C_drew ?_)))
      (case side6 => exact (Kd.R_reads' HO900.out).2.1)
      (case side7 => repeat (first | exact (Kd.S_reads' HO905.out).2.2 | (with_reducible refine Kd.C_alloc ?_ _) | (with_reducible refine Kd.C_drewN ?_ _) | (with_reducible refine Kd.C_drew ?_)))
      (case side8 => exact (Kd.S_reads' HO905.out).2.1)
      rintro e w72 ⟨rfl, hb⟩
      refine ⟨_, rfl, ?_⟩
      have n0_ := Aside0.mk (Kd.R_below (by (with_reducible repeat (first | apply Kd.R_alloc | apply Kd.R_drewN | apply Kd.R_drew)); exact HO857.out) hb)
      have n1_ := Aside0.mk (Kd.R_below (by (with_reducible repeat (first | apply Kd.R_alloc | apply Kd.R_drewN | apply Kd.R_drew)); exact HO861.out) hb)
      have n2_ := Aside0.mk (Kd.S_below (by (with_reducible repeat (first | apply Kd.S_alloc | apply Kd.S_drewN | apply Kd.S_drew)); exact HO866.out) hb)
      have n3_ := Aside0.mk (Kd.R_below (by (with_reducible repeat (first | apply Kd.R_alloc | apply Kd.R_drewN | apply Kd.R_drew)); exact HO875.out) hb)
      have n4_ := Aside0.mk (Kd.R_below (by (with_reducible repeat (first | apply Kd.R_alloc | apply Kd.R_drewN | apply Kd.R_drew)); exact HO880.out) hb)
      have n5_ := Aside0.mk (Kd.S_below (by (with_reducible repeat (first | apply Kd.S_alloc | apply Kd.S_drewN | apply Kd.S_drew)); exact HO885.out) hb)
      have n6_ := Aside0.mk (Kd.R_below (by (with_reducible repeat (first | apply Kd.R_alloc | apply Kd.R_drewN | apply Kd.R_drew)); exact HO895.out) hb)
      have n7_ := Aside0.mk (Kd.R_below (by (with_reducible repeat (first | apply Kd.R_alloc | apply Kd.R_drewN | apply Kd.R_drew)); exact HO900.out) hb)
      have n8_ := Aside0.mk (Kd.S_below (by (with_reducible repeat (first | apply Kd.S_alloc | apply Kd.S_drewN | apply Kd.S_drew)); exact HO905.out) hb)
      have n9_ := Aside0.mk (blk_below (g := gb846) (o := .cells #[.int .i64 a0_0, .int .i64 a0_1, .int .i64 a0_2, .int .i64 a0_3, .int .i64 a0_4, .slice A0_5 l0_5.length c0_5] 78 (0, 0)) (by (with_reducible repeat (first | refine blk_drewN ?_ _ | refine blk_drew ?_ | refine blk_alloc ?_ _)); exact BK846.out) hb)
      have n10_ := Aside0.mk (blk_below (g := gb847) (o := .cells #[.int .i64 a1_0, .slice A1_1 l1_1.length c1_1, .int .i64 a1_2, .int .i64 a1_3, .slice A1_4 l1_4.length c1_4] 64 (0, 0)) (by (with_reducible repeat (first | refine blk_drewN ?_ _ | refine blk_drew ?_ | refine blk_alloc ?_ _)); exact BK847.out) hb)
      have n11_ := Aside0.mk (blk_below (g := gb876) (o := .cells #[.int .i64 t868, .int .i64 t869, .int .i64 t870, .int .i64 t871, .int .i64 t872, .slice Ao52 t873.length co52] 82 (0, 0)) (by (with_reducible repeat (first | refine blk_drewN ?_ _ | refine blk_drew ?_ | refine blk_alloc ?_ _)); exact BK876.out) hb)
      have n12_ := Aside0.mk (blk_below (g := gb886) (o := .cells #[.int .i64 t877, .slice Ao60 t878.length co60, .int .i64 t881, .int .i64 t882, .slice Ao61 t883.length co61] 68 (0, 0)) (by (with_reducible repeat (first | refine blk_drewN ?_ _ | refine blk_drew ?_ | refine blk_alloc ?_ _)); exact BK886.out) hb)
      have n13_ := Aside0.mk (below_step (by repeat (first | (with_reducible first | exact HB.out | apply below_alloc | apply pw_below_drewN | apply below_drew1 | refine below_set ?_ GE846.out | refine below_set ?_ GE847.out | refine below_set ?_ GE876.out | refine below_set ?_ GE886.out) | exact HB.out)) hb)
      clear HO857
      clear HO861
      clear HO866
      clear HO875
      clear HO880
      clear HO885
      clear HO895
      clear HO900
      clear HO905
      clear BK846
      clear BK847
      clear BK876
      clear BK886
      clear HB
      have HO857 := n0_
      have HO861 := n1_
      have HO866 := n2_
      have HO875 := n3_
      have HO880 := n4_
      have HO885 := n5_
      have HO895 := n6_
      have HO900 := n7_
      have HO905 := n8_
      have BK846 := n9_
      have BK847 := n10_
      have BK876 := n11_
      have BK886 := n12_
      have HB := n13_
      clear n0_ n1_ n2_ n3_ n4_ n5_ n6_ n7_ n8_ n9_ n10_ n11_ n12_ n13_
      (try clear hb)
      (try clear hb2)
      (try clear hk)
      (try clear hi)
      refine hK.out _ _ ⟨(blk_cell BK886.out 0).trans rfl, (blk_cell BK886.out 1).trans rfl, (blk_cell BK886.out 2).trans rfl, (blk_cell BK886.out 3).trans rfl, (blk_cell BK886.out 4).trans rfl, (blk_cell BK847.out 0).trans rfl, (blk_cell BK847.out 1).trans rfl, (blk_cell BK847.out 2).trans rfl, (blk_cell BK847.out 3).trans rfl, (blk_cell BK847.out 4).trans rfl⟩ (fun hHeld => ?_)
      clear hK K
      refine norm_ (a' := ?_) ?_ ?_
      rotate_left
      ·
       show Act.put _ (some 43) _ = _
       simp only [Act.put, List.setIfInBounds_toArray, List.set_cons_zero, List.set_cons_succ, i64_w, i32_w]
       rfl
      refine pure_ (i := 4) (N := some 44) (v := ?_) (a' := ?_) #[true, true, true, true, true] rfl rfl (by kernel_rfl) (fun _ _ _ h => h) (Or.inl ⟨by rfl, ?_⟩) ?_ ?_
      rotate_left
      ·
       intro w'
       go_simp
       with_reducible rfl
      rotate_left
      ·
       simp only [Act.put, List.setIfInBounds_toArray, List.set_cons_zero, List.set_cons_succ, i64_w, i32_w]
       rfl
      refine done_ (by kernel_rfl) ?_
      try go_wp2
      go_ret
      exact ⟨by first | rfl | (simp [errW_none, errW_some] <;> rfl) | (simp [*, errW_none, errW_some] <;> rfl), by repeat (first | (with_reducible first | exact HB.out | apply below_alloc | apply pw_below_drewN | apply below_drew1 | refine below_set ?_ GE846.out | refine below_set ?_ GE847.out | refine below_set ?_ GE876.out | refine below_set ?_ GE886.out) | exact HB.out)⟩
     ·
      replace c31 := Bool.eq_false_iff.mpr c31
      subst c31
      have H1 : (none) = some r := by rw [if_neg (show ¬ (false = true) by decide)] at H; exact H
      clear H
      have H := H1
      clear H1
      exact absurd H (by simp)
    ·
     replace c28 := Bool.eq_false_iff.mpr c28
     subst c28
     have H1 : (none) = some r := by rw [if_neg (show ¬ (false = true) by decide)] at H; exact H
     clear H
     have H := H1
     clear H1
     exact absurd H (by simp)
   ·
    rw [if_neg c25] at H
    exact absurd H (by simp)

end Go.Proofs.Ytmmaondenopnpaa.Print
