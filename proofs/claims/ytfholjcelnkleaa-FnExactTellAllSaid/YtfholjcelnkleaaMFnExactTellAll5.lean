import Derived.Test.YtfholjcelnkleaaMFnExactTellAll1
import Derived.Test.YtfholjcelnkleaaMFnExactTellAll2
import Derived.Test.YtfholjcelnkleaaMFnExactTellAll3
import Derived.Test.YtfholjcelnkleaaMFnExactTellAll4
section
namespace Go.Proofs.Ytfholjcelnkleaa.Print
open Go.RowKit Go.Proofs.YtfholjcelnkleaaV.PrintWords Go.Proofs.YtfholjcelnkleaaV.PrintLast Go.Proofs.YtfholjcelnkleaaV.PrintMore
attribute [local go_sem] max2_int min2_int max_two min_two max_three min_three max_four min_four   -- for this text's walks alone
set_option linter.unusedVariables false
set_option linter.unusedSimpArgs false

/-! ### impl_Hear: function 32 -/
def impl_Hear.f (k : Nat) (l0_0 : List (S44)) (a0_1 : Bool) : Option ((List (S44)) × Bool × (List (S164)) × Int × Int × ByteArray × Int) := if a0_1 = true then (some (([] : List (S44)), false, ([] : List (S164)), 0, 0, (⟨#[]⟩ : ByteArray), 2)) else (if (l0_0.length : Int) = 0 then ((impl_copySub.f k l0_0 a0_1).bind fun bt430 => (some (bt430.1, bt430.2, ([] : List (S164)), 0, 0, (⟨#[]⟩ : ByteArray), 0))) else (if 1 ≤ (l0_0.length : Int) then ((impl_copyAlarms.f k (l0_0.drop 1)).bind fun t438 => (if 0 < (l0_0.length : Int) then ((impl_copyAlarm.f ((rd_T44 l0_0 0).f0) ((rd_T44 l0_0 0).f1) ((rd_T44 l0_0 0).f2) ((rd_T44 l0_0 0).f3)).bind fun bt442 => (some (t438, false, bt442.1, bt442.2.1, bt442.2.2.1, bt442.2.2.2, 1))) else (none))) else (none)))
theorem impl_Hear.mono : ∀ a0 a1 k, LeO (impl_Hear.f k a0 a1) (impl_Hear.f (k + 1) a0 a1) := by
 intro a0 a1 k
 unfold impl_Hear.f
 repeat' first
   | (with_reducible exact impl_copyAlarms.mono _ _)
   | (with_reducible exact impl_copySub.mono _ _ _)
   | (with_reducible exact LeO.refl _)
   | (with_reducible exact LeO.none _)
   | (with_reducible refine LeO.ite ?_ ?_)
   | (with_reducible refine LeO.bind ?_ (fun _ => ?_))
   | exact impl_copyAlarms.mono _ _
   | exact impl_copySub.mono _ _ _
   | exact LeO.none _
   | refine LeO.ite ?_ ?_
   | refine LeO.bind ?_ (fun _ => ?_)
def impl_Hear.T5 : Bool × List (List Nat × List Nat) := (true, [([], []), ([0], [0]), ([1], [1]), ([2], [2]), ([3], [3]), ([], []), ([5], [5]), ([6], [6]), ([7], [7]), ([8, 3], [8]), ([4, 9, 0, 1, 2, 3, 4], [4]), ([9, 10, 0, 1, 2, 3, 4, 5, 6, 7, 8, 9, 10], [9]), ([11, 0, 1, 2, 3, 4, 5, 6, 7, 8, 9, 10, 11], [])])
def impl_Hear.B5 : List Nat := [0, 1, 3, 7, 15, 0, 32, 96, 224, 495, 1023, 2047, 4095]
theorem impl_Hear.tab5 : rtab .any (opsOf Try.f32 5) = impl_Hear.T5 := by kernel_rfl
theorem impl_Hear.bits5 : waitsOk impl_Hear.T5.2 impl_Hear.B5 = true := by kernel_rfl
set_option maxHeartbeats 8000000 in
set_option maxRecDepth 100000 in
theorem impl_Hear.calls (k : Nat) (A0_0 : Option Addr) (c0_0 : Nat) (l0_0 : List (S44)) (a0_1 : Bool) (r1 : List (S44)) (r2 : Bool) (r3 : List (S164)) (r4 : Int) (r5 : Int) (r6 : ByteArray) (r7 : Int) (w : World) (hr0_0 : Kd.C k44 w A0_0 l0_0.length l0_0) (hc0_0 : l0_0.length ≤ c0_0) (h : impl_Hear.f k l0_0 a0_1 = some (r1, r2, r3, r4, r5, r6, r7)) :
  Calls Try.prog 32 #[.agg #[.slice A0_0 l0_0.length c0_0, .bool a0_1]] w fun e w' => ∃ v0_ v2_ : Value, e = .returned (.tuple #[.agg #[v0_, .bool r2], .agg #[v2_, .int .i64 r4, .int .i64 r5, .string r6], .int .i64 r7]) ∧ Kd.S k44 44 w' w.heap.size (fun k_ => some k_ ≠ (v2_ : Value).ownBlock) v0_ r1 ∧ Kd.R k164 164 w' w.heap.size (fun _ => True) v2_ r3 ∧ Below w.heap.size w w' := by
 have hu39 := Try.underlying39
 have hu44 := Try.underlying44
 have HR0_0 := Aside0.mk hr0_0
 have HC0_0 := Aside0.mk hc0_0
 clear hr0_0 hc0_0
 have HB := Aside0.mk (Below.refl w.heap.size w)
 have H : (if a0_1 = true then (some (([] : List (S44)), false, ([] : List (S164)), 0, 0, (⟨#[]⟩ : ByteArray), 2)) else (if (l0_0.length : Int) = 0 then ((impl_copySub.f k l0_0 a0_1).bind fun bt430 => (some (bt430.1, bt430.2, ([] : List (S164)), 0, 0, (⟨#[]⟩ : ByteArray), 0))) else (if 1 ≤ (l0_0.length : Int) then ((impl_copyAlarms.f k (l0_0.drop 1)).bind fun t438 => (if 0 < (l0_0.length : Int) then ((impl_copyAlarm.f ((rd_T44 l0_0 0).f0) ((rd_T44 l0_0 0).f1) ((rd_T44 l0_0 0).f2) ((rd_T44 l0_0 0).f3)).bind fun bt442 => (some (t438, false, bt442.1, bt442.2.1, bt442.2.2.1, bt442.2.2.2, 1))) else (none))) else (none)))) = some (r1, r2, r3, r4, r5, r6, r7) := h
 clear h
 by_cases c2 : a0_1 = true
 ·
  subst c2
  have H1 : (some (([] : List (S44)), false, ([] : List (S164)), 0, 0, (⟨#[]⟩ : ByteArray), 2)) = some (r1, r2, r3, r4, r5, r6, r7) := by rw [if_pos rfl] at H; exact H
  clear H
  have H := H1
  clear H1
  simp only [Option.some.injEq, Prod.mk.injEq] at H
  obtain ⟨rfl, rfl, rfl, rfl, rfl, rfl, rfl⟩ := H
  go_enter Try.func32, Try.ntmps32
  go_wp2_with (first | ((with_reducible refine gate_dst (N := 1) rfl ?_); refine box_event ?hg (N := 1) ?hd (cs := #[.slice A0_0 l0_0.length c0_0, .bool true]) (t := 39) ?hr ?_; (case hd => rfl); (case hg => rfl); (case hr => first | (go_simp; done) | (go_simp; rfl)); intro gb427 hg w3 hbox hb; have n0_ := Aside0.mk (below_step (by repeat (first | (with_reducible first | exact HB.out | apply below_alloc | apply pw_below_drewN | apply below_drew1) | exact HB.out)) hb); have n1_ := Aside0.mk (hbox); have n2_ := Aside0.mk ((by rw [hg]; exact (below_size (by repeat (first | (with_reducible first | exact HB.out | apply below_alloc | apply pw_below_drewN | apply below_drew1) | exact HB.out))) : w.heap.size ≤ gb427)); have n3_ := Aside0.mk ((by rw [hg]; exact (below_size (by repeat (first | (with_reducible first | exact HB.out | apply below_alloc | apply pw_below_drewN | apply below_drew1) | exact HB.out))) : w.heap.size ≤ gb427)); clear HB; have HB := n0_; have BK427 := n1_; have GW427 := n2_; have GE427 := n3_; clear n0_ n1_ n2_ n3_; clear hb hbox hg) | ((with_reducible refine gate_dst (N := 2) rfl ?_); refine box_event ?hg (N := 2) ?hd (cs := #[.slice none 0 0, .bool false]) (t := 39) ?hr ?_; (case hd => rfl); (case hg => rfl); (case hr => first | (go_simp; done) | (go_simp; rfl)); intro gb428 hg w4 hbox hb; have n0_ := Aside0.mk (blk_below (g := gb427) (o := .cells #[.slice A0_0 l0_0.length c0_0, .bool true] 39 (0, 0)) (by (with_reducible repeat (first | refine blk_drewN ?_ _ | refine blk_drew ?_ | refine blk_alloc ?_ _)); exact BK427.out) hb); have n1_ := Aside0.mk (below_step (by repeat (first | (with_reducible first | exact HB.out | apply below_alloc | apply pw_below_drewN | apply below_drew1 | refine below_set ?_ GE427.out) | exact HB.out)) hb); have n2_ := Aside0.mk (hbox); have n3_ := Aside0.mk ((by rw [hg]; exact (below_size (by repeat (first | (with_reducible first | exact HB.out | apply below_alloc | apply pw_below_drewN | apply below_drew1 | refine below_set ?_ GE427.out) | exact HB.out))) : w.heap.size ≤ gb428)); have n4_ := Aside0.mk ((by rw [hg]; exact (below_size (by repeat (first | (with_reducible first | exact HB.out | apply below_alloc | apply pw_below_drewN | apply below_drew1 | refine below_set ?_ GE427.out) | exact HB.out))) : w.heap.size ≤ gb428)); have n5_ := Aside0.mk ((by rw [hg]; exact Nat.ne_of_lt (blk_lt (g := gb427) (o := .cells #[.slice A0_0 l0_0.length c0_0, .bool true] 39 (0, 0)) (by (with_reducible repeat (first | refine blk_drewN ?_ _ | refine blk_drew ?_ | refine blk_alloc ?_ _)); exact BK427.out)) : gb427 ≠ gb428)); have n6_ := Aside0.mk ((by rw [hg]; exact Nat.ne_of_gt (blk_lt (g := gb427) (o := .cells #[.slice A0_0 l0_0.length c0_0, .bool true] 39 (0, 0)) (by (with_reducible repeat (first | refine blk_drewN ?_ _ | refine blk_drew ?_ | refine blk_alloc ?_ _)); exact BK427.out)) : gb428 ≠ gb427)); clear BK427; clear HB; have BK427 := n0_; have HB := n1_; have BK428 := n2_; have GW428 := n3_; have GE428 := n4_; have NB427_428 := n5_; have NB428_427 := n6_; clear n0_ n1_ n2_ n3_ n4_ n5_ n6_; clear hb hbox hg) | ((with_reducible refine gate_dst (N := 3) rfl ?_); refine box_event ?hg (N := 3) ?hd (cs := #[.slice none 0 0, .int .i64 0, .int .i64 0, .string (⟨#[]⟩ : ByteArray)]) (t := 44) ?hr ?_; (case hd => rfl); (case hg => rfl); (case hr => first | (go_simp; done) | (go_simp; rfl)); intro gb429 hg w5 hbox hb; have n0_ := Aside0.mk (blk_below (g := gb427) (o := .cells #[.slice A0_0 l0_0.length c0_0, .bool true] 39 (0, 0)) (by (with_reducible repeat (first | refine blk_drewN ?_ _ | refine blk_drew ?_ | refine blk_alloc ?_ _)); exact BK427.out) hb); have n1_ := Aside0.mk (blk_below (g := gb428) (o := .cells #[.slice none 0 0, .bool false] 39 (0, 0)) (by (with_reducible repeat (first | refine blk_drewN ?_ _ | refine blk_drew ?_ | refine blk_alloc ?_ _)); exact BK428.out) hb); have n2_ := Aside0.mk (below_step (by repeat (first | (with_reducible first | exact HB.out | apply below_alloc | apply pw_below_drewN | apply below_drew1 | refine below_set ?_ GE427.out | refine below_set ?_ GE428.out) | exact HB.out)) hb); have n3_ := Aside0.mk (hbox); have n4_ := Aside0.mk ((by rw [hg]; exact (below_size (by repeat (first | (with_reducible first | exact HB.out | apply below_alloc | apply pw_below_drewN | apply below_drew1 | refine below_set ?_ GE427.out | refine below_set ?_ GE428.out) | exact HB.out))) : w.heap.size ≤ gb429)); have n5_ := Aside0.mk ((by rw [hg]; exact (below_size (by repeat (first | (with_reducible first | exact HB.out | apply below_alloc | apply pw_below_drewN | apply below_drew1 | refine below_set ?_ GE427.out | refine below_set ?_ GE428.out) | exact HB.out))) : w.heap.size ≤ gb429)); have n6_ := Aside0.mk ((by rw [hg]; exact Nat.ne_of_lt (blk_lt (g := gb427) (o := .cells #[.slice A0_0 l0_0.length c0_0, .bool true] 39 (0, 0)) (by (with_reducible repeat (first | refine blk_drewN ?_ _ | refine blk_drew ?_ | refine blk_alloc ?_ _)); exact BK427.out)) : gb427 ≠ gb429)); have n7_ := Aside0.mk ((by rw [hg]; exact Nat.ne_of_gt (blk_lt (g := gb427) (o := .cells #[.slice A0_0 l0_0.length c0_0, .bool true] 39 (0, 0)) (by (with_reducible repeat (first | refine blk_drewN ?_ _ | refine blk_drew ?_ | refine blk_alloc ?_ _)); exact BK427.out)) : gb429 ≠ gb427)); have n8_ := Aside0.mk ((by rw [hg]; exact Nat.ne_of_lt (blk_lt (g := gb428) (o := .cells #[.slice none 0 0, .bool false] 39 (0, 0)) (by (with_reducible repeat (first | refine blk_drewN ?_ _ | refine blk_drew ?_ | refine blk_alloc ?_ _)); exact BK428.out)) : gb428 ≠ gb429)); have n9_ := Aside0.mk ((by rw [hg]; exact Nat.ne_of_gt (blk_lt (g := gb428) (o := .cells #[.slice none 0 0, .bool false] 39 (0, 0)) (by (with_reducible repeat (first | refine blk_drewN ?_ _ | refine blk_drew ?_ | refine blk_alloc ?_ _)); exact BK428.out)) : gb429 ≠ gb428)); clear BK427; clear BK428; clear HB; have BK427 := n0_; have BK428 := n1_; have HB := n2_; have BK429 := n3_; have GW429 := n4_; have GE429 := n5_; have NB427_429 := n6_; have NB429_427 := n7_; have NB428_429 := n8_; have NB429_428 := n9_; clear n0_ n1_ n2_ n3_ n4_ n5_ n6_ n7_ n8_ n9_; clear hb hbox hg; have hnb6 := NB427_428.out; have hnc6 := NB428_427.out; have hnb7 := NB427_429.out; have hnc7 := NB429_427.out; have hcz8_0 : w5.cell? ⟨gb427, 0, none⟩ = some (.slice A0_0 l0_0.length c0_0) := (blk_cell BK427.out 0).trans rfl; have hcz8_1 : w5.cell? ⟨gb427, 1, none⟩ = some (.bool true) := (blk_cell BK427.out 1).trans rfl; have hfz8_0 := blk_frozen BK427.out 0; have hfz8_1 := blk_frozen BK427.out 1; have hnb9 := NB428_429.out; have hnc9 := NB429_428.out; have hcz10_0 : w5.cell? ⟨gb428, 0, none⟩ = some (.slice none 0 0) := (blk_cell BK428.out 0).trans rfl; have hcz10_1 : w5.cell? ⟨gb428, 1, none⟩ = some (.bool false) := (blk_cell BK428.out 1).trans rfl; have hfz10_0 := blk_frozen BK428.out 0; have hfz10_1 := blk_frozen BK428.out 1; have hcz11_0 : w5.cell? ⟨gb429, 0, none⟩ = some (.slice none 0 0) := (blk_cell BK429.out 0).trans rfl; have hcz11_1 : w5.cell? ⟨gb429, 1, none⟩ = some (.int .i64 0) := (blk_cell BK429.out 1).trans rfl; have hcz11_2 : w5.cell? ⟨gb429, 2, none⟩ = some (.int .i64 0) := (blk_cell BK429.out 2).trans rfl; have hcz11_3 : w5.cell? ⟨gb429, 3, none⟩ = some (.string (⟨#[]⟩ : ByteArray)) := (blk_cell BK429.out 3).trans rfl; have hfz11_0 := blk_frozen BK429.out 0; have hfz11_1 := blk_frozen BK429.out 1; have hfz11_2 := blk_frozen BK429.out 2; have hfz11_3 := blk_frozen BK429.out 3))
  refine bodyPost_ret (results_list (rs := [.cell 2 39, .cell 3 44, .tmp 4]) rfl (by simp) (.cell gb428 39 #[.slice none 0 0, .bool false] (0, 0) _ rfl (by (with_reducible repeat (first | refine blk_drewN ?_ _ | refine blk_drew ?_ | refine blk_alloc ?_ _)); refine blk_far ?_ NB428_429.out _; (with_reducible repeat (first | refine blk_drewN ?_ _ | refine blk_drew ?_ | refine blk_alloc ?_ _)); refine blk_far ?_ NB428_429.out _; (with_reducible repeat (first | refine blk_drewN ?_ _ | refine blk_drew ?_ | refine blk_alloc ?_ _)); refine blk_far ?_ NB428_429.out _; (with_reducible repeat (first | refine blk_drewN ?_ _ | refine blk_drew ?_ | refine blk_alloc ?_ _)); refine blk_far ?_ NB428_429.out _; (with_reducible repeat (first | refine blk_drewN ?_ _ | refine blk_drew ?_ | refine blk_alloc ?_ _)); refine blk_put (cs := #[.slice none 0 0, .bool false]) ?_ 1 _ rfl; (with_reducible repeat (first | refine blk_drewN ?_ _ | refine blk_drew ?_ | refine blk_alloc ?_ _)); refine blk_put (cs := #[.slice none 0 0, .bool false]) ?_ 0 _ rfl; (with_reducible repeat (first | refine blk_drewN ?_ _ | refine blk_drew ?_ | refine blk_alloc ?_ _)); exact BK428.out) Try.underlying39 rfl (by kernel_rfl) (.cell gb429 44 #[.slice none 0 0, .int .i64 0, .int .i64 0, .string (⟨#[]⟩ : ByteArray)] (0, 0) _ rfl (by (with_reducible repeat (first | refine blk_drewN ?_ _ | refine blk_drew ?_ | refine blk_alloc ?_ _)); refine blk_put (cs := #[.slice none 0 0, .int .i64 0, .int .i64 0, .string (⟨#[]⟩ : ByteArray)]) ?_ 3 _ rfl; (with_reducible repeat (first | refine blk_drewN ?_ _ | refine blk_drew ?_ | refine blk_alloc ?_ _)); refine blk_put (cs := #[.slice none 0 0, .int .i64 0, .int .i64 0, .string (⟨#[]⟩ : ByteArray)]) ?_ 2 _ rfl; (with_reducible repeat (first | refine blk_drewN ?_ _ | refine blk_drew ?_ | refine blk_alloc ?_ _)); refine blk_put (cs := #[.slice none 0 0, .int .i64 0, .int .i64 0, .string (⟨#[]⟩ : ByteArray)]) ?_ 1 _ rfl; (with_reducible repeat (first | refine blk_drewN ?_ _ | refine blk_drew ?_ | refine blk_alloc ?_ _)); refine blk_put (cs := #[.slice none 0 0, .int .i64 0, .int .i64 0, .string (⟨#[]⟩ : ByteArray)]) ?_ 0 _ rfl; (with_reducible repeat (first | refine blk_drewN ?_ _ | refine blk_drew ?_ | refine blk_alloc ?_ _)); refine blk_far ?_ NB429_428.out _; (with_reducible repeat (first | refine blk_drewN ?_ _ | refine blk_drew ?_ | refine blk_alloc ?_ _)); refine blk_far ?_ NB429_428.out _; (with_reducible repeat (first | refine blk_drewN ?_ _ | refine blk_drew ?_ | refine blk_alloc ?_ _)); exact BK429.out) Try.underlying44 rfl (by kernel_rfl) (.tmp .nil)))) rfl ?_
  exact ⟨_, _, by first | rfl | (simp [errW_none, errW_some] <;> rfl) | (simp [*, errW_none, errW_some] <;> rfl), by first | exact Kd.S_nil _ _ _ _ _ | exact Kd.N_nil _ _ _ _ _ | exact Kd.V_nil _ _ _ _ _ | exact Kd.Q_nil _ _ _ _ _ | exact Kd.R_nil _ _ _ _ _, by first | exact Kd.R_nil _ _ _ _ _ | exact Kd.N_nil _ _ _ _ _ | exact Kd.V_nil _ _ _ _ _ | exact Kd.Q_nil _ _ _ _ _ | exact Kd.S_nil _ _ _ _ _, by repeat (first | (with_reducible first | exact HB.out | apply below_alloc | apply pw_below_drewN | apply below_drew1 | refine below_set ?_ GE427.out | refine below_set ?_ GE428.out | refine below_set ?_ GE429.out) | exact HB.out)⟩
 ·
  replace c2 := Bool.eq_false_iff.mpr c2
  subst c2
  have H1 : (if (l0_0.length : Int) = 0 then ((impl_copySub.f k l0_0 false).bind fun bt430 => (some (bt430.1, bt430.2, ([] : List (S164)), 0, 0, (⟨#[]⟩ : ByteArray), 0))) else (if 1 ≤ (l0_0.length : Int) then ((impl_copyAlarms.f k (l0_0.drop 1)).bind fun t438 => (if 0 < (l0_0.length : Int) then ((impl_copyAlarm.f ((rd_T44 l0_0 0).f0) ((rd_T44 l0_0 0).f1) ((rd_T44 l0_0 0).f2) ((rd_T44 l0_0 0).f3)).bind fun bt442 => (some (t438, false, bt442.1, bt442.2.1, bt442.2.2.1, bt442.2.2.2, 1))) else (none))) else (none))) = some (r1, r2, r3, r4, r5, r6, r7) := by rw [if_neg (show ¬ (false = true) by decide)] at H; exact H
  clear H
  have H := H1
  clear H1
  by_cases c12 : (l0_0.length : Int) = 0
  ·
   rw [if_pos c12] at H
   have c12b0 : ((l0_0.length : Int) == 0) = true := beq_iff_eq.mpr c12
   have c12b1 : ((l0_0.length : Int) != 0) = false := bne_eq_false_iff_eq.mpr c12
   clear c12
   replace H := Option.bind_eq_some_iff.mp H
   obtain ⟨⟨t430, t433⟩, A130, H⟩ := H
   replace H : (some (t430, t433, ([] : List (S164)), 0, 0, (⟨#[]⟩ : ByteArray), 0)) = some (r1, r2, r3, r4, r5, r6, r7) := H
   have A13 := Aside0.mk A130
   clear A130
   simp only [Option.some.injEq, Prod.mk.injEq] at H
   obtain ⟨rfl, rfl, rfl, rfl, rfl, rfl, rfl⟩ := H
   go_enter Try.func32, Try.ntmps32
   go_wp2_with (first | ((with_reducible refine gate_dst (N := 1) rfl ?_); refine box_event ?hg (N := 1) ?hd (cs := #[.slice A0_0 l0_0.length c0_0, .bool false]) (t := 39) ?hr ?_; (case hd => rfl); (case hg => rfl); (case hr => first | (go_simp; done) | (go_simp; rfl)); intro gb427 hg w14 hbox hb; have n0_ := Aside0.mk (below_step (by repeat (first | (with_reducible first | exact HB.out | apply below_alloc | apply pw_below_drewN | apply below_drew1) | exact HB.out)) hb); have n1_ := Aside0.mk (hbox); have n2_ := Aside0.mk ((by rw [hg]; exact (below_size (by repeat (first | (with_reducible first | exact HB.out | apply below_alloc | apply pw_below_drewN | apply below_drew1) | exact HB.out))) : w.heap.size ≤ gb427)); have n3_ := Aside0.mk ((by rw [hg]; exact (below_size (by repeat (first | (with_reducible first | exact HB.out | apply below_alloc | apply pw_below_drewN | apply below_drew1) | exact HB.out))) : w.heap.size ≤ gb427)); clear HB; have HB := n0_; have BK427 := n1_; have GW427 := n2_; have GE427 := n3_; clear n0_ n1_ n2_ n3_; clear hb hbox hg) | ((with_reducible refine gate_dst (N := 2) rfl ?_); refine box_event ?hg (N := 2) ?hd (cs := #[.slice none 0 0, .bool false]) (t := 39) ?hr ?_; (case hd => rfl); (case hg => rfl); (case hr => first | (go_simp; done) | (go_simp; rfl)); intro gb428 hg w15 hbox hb; have n0_ := Aside0.mk (blk_below (g := gb427) (o := .cells #[.slice A0_0 l0_0.length c0_0, .bool false] 39 (0, 0)) (by (with_reducible repeat (first | refine blk_drewN ?_ _ | refine blk_drew ?_ | refine blk_alloc ?_ _)); exact BK427.out) hb); have n1_ := Aside0.mk (below_step (by repeat (first | (with_reducible first | exact HB.out | apply below_alloc | apply pw_below_drewN | apply below_drew1 | refine below_set ?_ GE427.out) | exact HB.out)) hb); have n2_ := Aside0.mk (hbox); have n3_ := Aside0.mk ((by rw [hg]; exact (below_size (by repeat (first | (with_reducible first | exact HB.out | apply below_alloc | apply pw_below_drewN | apply below_drew1 | refine below_set ?_ GE427.out) | exact HB.out))) : w.heap.size ≤ gb428)); have n4_ := Aside0.mk ((by rw [hg]; exact (below_size (by repeat (first | (with_reducible first | exact HB.out | apply below_alloc | apply pw_below_drewN | apply below_drew1 | refine below_set ?_ GE427.out) | exact HB.out))) : w.heap.size ≤ gb428)); have n5_ := Aside0.mk ((by rw [hg]; exact Nat.ne_of_lt (blk_lt (g := gb427) (o := .cells #[.slice A0_0 l0_0.length c0_0, .bool false] 39 (0, 0)) (by (with_reducible repeat (first | refine blk_drewN ?_ _ | refine blk_drew ?_ | refine blk_alloc ?_ _)); exact BK427.out)) : gb427 ≠ gb428)); have n6_ := Aside0.mk ((by rw [hg]; exact Nat.ne_of_gt (blk_lt (g := gb427) (o := .cells #[.slice A0_0 l0_0.length c0_0, .bool false] 39 (0, 0)) (by (with_reducible repeat (first | refine blk_drewN ?_ _ | refine blk_drew ?_ | refine blk_alloc ?_ _)); exact BK427.out)) : gb428 ≠ gb427)); clear BK427; clear HB; have BK427 := n0_; have HB := n1_; have BK428 := n2_; have GW428 := n3_; have GE428 := n4_; have NB427_428 := n5_; have NB428_427 := n6_; clear n0_ n1_ n2_ n3_ n4_ n5_ n6_; clear hb hbox hg) | ((with_reducible refine gate_dst (N := 3) rfl ?_); refine box_event ?hg (N := 3) ?hd (cs := #[.slice none 0 0, .int .i64 0, .int .i64 0, .string (⟨#[]⟩ : ByteArray)]) (t := 44) ?hr ?_; (case hd => rfl); (case hg => rfl); (case hr => first | (go_simp; done) | (go_simp; rfl)); intro gb429 hg w16 hbox hb; have n0_ := Aside0.mk (blk_below (g := gb427) (o := .cells #[.slice A0_0 l0_0.length c0_0, .bool false] 39 (0, 0)) (by (with_reducible repeat (first | refine blk_drewN ?_ _ | refine blk_drew ?_ | refine blk_alloc ?_ _)); exact BK427.out) hb); have n1_ := Aside0.mk (blk_below (g := gb428) (o := .cells #[.slice none 0 0, .bool false] 39 (0, 0)) (by (with_reducible repeat (first | refine blk_drewN ?_ _ | refine blk_drew ?_ | refine blk_alloc ?_ _)); exact BK428.out) hb); have n2_ := Aside0.mk (below_step (by repeat (first | (with_reducible first | exact HB.out | apply below_alloc | apply pw_below_drewN | apply below_drew1 | refine below_set ?_ GE427.out | refine below_set ?_ GE428.out) | exact HB.out)) hb); have n3_ := Aside0.mk (hbox); have n4_ := Aside0.mk ((by rw [hg]; exact (below_size (by repeat (first | (with_reducible first | exact HB.out | apply below_alloc | apply pw_below_drewN | apply below_drew1 | refine below_set ?_ GE427.out | refine below_set ?_ GE428.out) | exact HB.out))) : w.heap.size ≤ gb429)); have n5_ := Aside0.mk ((by rw [hg]; exact (below_size (by repeat (first | (with_reducible first | exact HB.out | apply below_alloc | apply pw_below_drewN | apply below_drew1 | refine below_set ?_ GE427.out | refine below_set ?_ GE428.out) | exact HB.out))) : w.heap.size ≤ gb429)); have n6_ := Aside0.mk ((by rw [hg]; exact Nat.ne_of_lt (blk_lt (g := gb427) (o := .cells #[.slice A0_0 l0_0.length c0_0, .bool false] 39 (0, 0)) (by (with_reducible repeat (first | refine blk_drewN ?_ _ | refine blk_drew ?_ | refine blk_alloc ?_ _)); exact BK427.out)) : gb427 ≠ gb429)); have n7_ := Aside0.mk ((by rw [hg]; exact Nat.ne_of_gt (blk_lt (g := gb427) (o := .cells #[.slice A0_0 l0_0.length c0_0, .bool false] 39 (0, 0)) (by (with_reducible repeat (first | refine blk_drewN ?_ _ | refine blk_drew ?_ | refine blk_alloc ?_ _)); exact BK427.out)) : gb429 ≠ gb427)); have n8_ := Aside0.mk ((by rw [hg]; exact Nat.ne_of_lt (blk_lt (g := gb428) (o := .cells #[.slice none 0 0, .bool false] 39 (0, 0)) (by (with_reducible repeat (first | refine blk_drewN ?_ _ | refine blk_drew ?_ | refine blk_alloc ?_ _)); exact BK428.out)) : gb428 ≠ gb429)); have n9_ := Aside0.mk ((by rw [hg]; exact Nat.ne_of_gt (blk_lt (g := gb428) (o := .cells #[.slice none 0 0, .bool false] 39 (0, 0)) (by (with_reducible repeat (first | refine blk_drewN ?_ _ | refine blk_drew ?_ | refine blk_alloc ?_ _)); exact BK428.out)) : gb429 ≠ gb428)); clear BK427; clear BK428; clear HB; have BK427 := n0_; have BK428 := n1_; have HB := n2_; have BK429 := n3_; have GW429 := n4_; have GE429 := n5_; have NB427_429 := n6_; have NB429_427 := n7_; have NB428_429 := n8_; have NB429_428 := n9_; clear n0_ n1_ n2_ n3_ n4_ n5_ n6_ n7_ n8_ n9_; clear hb hbox hg; have hnb17 := NB427_428.out; have hnc17 := NB428_427.out; have hnb18 := NB427_429.out; have hnc18 := NB429_427.out; have hcz19_0 : w16.cell? ⟨gb427, 0, none⟩ = some (.slice A0_0 l0_0.length c0_0) := (blk_cell BK427.out 0).trans rfl; have hcz19_1 : w16.cell? ⟨gb427, 1, none⟩ = some (.bool false) := (blk_cell BK427.out 1).trans rfl; have hfz19_0 := blk_frozen BK427.out 0; have hfz19_1 := blk_frozen BK427.out 1) | ((with_reducible refine gate_callee (f := 96) rfl ?_); refine goesL_ (some 16) rfl rfl Try.func96 (by kernel_rfl) rfl #[.agg #[.slice A0_0 l0_0.length c0_0, .bool false]] rfl (by (try simp only [List.map_toArray, List.map_cons, List.map_nil]); first | done | rfl | (simp only [List.length_drop, List.length_take]; rfl)) ?_; (with_reducible refine (impl_copySub.calls k _ _ l0_0 false t430 t433 _ ?side1 ?side2 A13.out).mono ?_); (case side1 => repeat (first | exact (Kd.C_below HR0_0.out HB.out) | (with_reducible refine Kd.C_alloc ?_ _) | (with_reducible refine Kd.C_drewN ?_ _) | (with_reducible refine Kd.C_drew ?_))); (case side2 => exact HC0_0.out); rintro e w20 ⟨v431, rfl, ho0, hb⟩; refine ⟨_, rfl, ?_⟩; have n0_ := Aside0.mk (Kd.S_lower (Kd.S_newB ho0 (g := gb429) (o := .cells #[.slice none 0 0, .int .i64 0, .int .i64 0, .string (⟨#[]⟩ : ByteArray)] 44 (0, 0)) (by (with_reducible repeat (first | refine blk_drewN ?_ _ | refine blk_drew ?_ | refine blk_alloc ?_ _)); exact BK429.out)) (below_size (by repeat (first | (with_reducible first | exact HB.out | apply below_alloc | apply pw_below_drewN | apply below_drew1 | refine below_set ?_ GE427.out | refine below_set ?_ GE428.out | refine below_set ?_ GE429.out) | exact HB.out)))); have n1_ := Aside0.mk (blk_below (g := gb427) (o := .cells #[.slice A0_0 l0_0.length c0_0, .bool false] 39 (0, 0)) (by (with_reducible repeat (first | refine blk_drewN ?_ _ | refine blk_drew ?_ | refine blk_alloc ?_ _)); exact BK427.out) hb); have n2_ := Aside0.mk (blk_below (g := gb428) (o := .cells #[.slice none 0 0, .bool false] 39 (0, 0)) (by (with_reducible repeat (first | refine blk_drewN ?_ _ | refine blk_drew ?_ | refine blk_alloc ?_ _)); exact BK428.out) hb); have n3_ := Aside0.mk (blk_below (g := gb429) (o := .cells #[.slice none 0 0, .int .i64 0, .int .i64 0, .string (⟨#[]⟩ : ByteArray)] 44 (0, 0)) (by (with_reducible repeat (first | refine blk_drewN ?_ _ | refine blk_drew ?_ | refine blk_alloc ?_ _)); exact BK429.out) hb); have n4_ := Aside0.mk (below_step (by repeat (first | (with_reducible first | exact HB.out | apply below_alloc | apply pw_below_drewN | apply below_drew1 | refine below_set ?_ GE427.out | refine below_set ?_ GE428.out | refine below_set ?_ GE429.out) | exact HB.out)) hb); clear BK427; clear BK428; clear BK429; clear HB; have HO432 := n0_; have BK427 := n1_; have BK428 := n2_; have BK429 := n3_; have HB := n4_; clear n0_ n1_ n2_ n3_ n4_; (try clear hb); (try clear hb2); (try clear hk); (try clear hi); (try clear ho0); obtain ⟨Ao21, co21, eo21⟩ := Kd.S_slice HO432.out; subst eo21; have hnb22 := NB428_429.out; have hnc22 := NB429_428.out; have hcz23_0 : w20.cell? ⟨gb428, 0, none⟩ = some (.slice none 0 0) := (blk_cell BK428.out 0).trans rfl; have hcz23_1 : w20.cell? ⟨gb428, 1, none⟩ = some (.bool false) := (blk_cell BK428.out 1).trans rfl; have hfz23_0 := blk_frozen BK428.out 0; have hfz23_1 := blk_frozen BK428.out 1; have hcz24_0 : w20.cell? ⟨gb429, 0, none⟩ = some (.slice none 0 0) := (blk_cell BK429.out 0).trans rfl; have hcz24_1 : w20.cell? ⟨gb429, 1, none⟩ = some (.int .i64 0) := (blk_cell BK429.out 1).trans rfl; have hcz24_2 : w20.cell? ⟨gb429, 2, none⟩ = some (.int .i64 0) := (blk_cell BK429.out 2).trans rfl; have hcz24_3 : w20.cell? ⟨gb429, 3, none⟩ = some (.string (⟨#[]⟩ : ByteArray)) := (blk_cell BK429.out 3).trans rfl; have hfz24_0 := blk_frozen BK429.out 0; have hfz24_1 := blk_frozen BK429.out 1; have hfz24_2 := blk_frozen BK429.out 2; have hfz24_3 := blk_frozen BK429.out 3))
   refine bodyPost_ret (results_list (rs := [.cell 2 39, .cell 3 44, .tmp 4]) rfl (by simp) (.cell gb428 39 #[.slice Ao21 t430.length co21, .bool t433] (0, 0) _ rfl (by (with_reducible repeat (first | refine blk_drewN ?_ _ | refine blk_drew ?_ | refine blk_alloc ?_ _)); refine blk_far ?_ NB428_429.out _; (with_reducible repeat (first | refine blk_drewN ?_ _ | refine blk_drew ?_ | refine blk_alloc ?_ _)); refine blk_far ?_ NB428_429.out _; (with_reducible repeat (first | refine blk_drewN ?_ _ | refine blk_drew ?_ | refine blk_alloc ?_ _)); refine blk_far ?_ NB428_429.out _; (with_reducible repeat (first | refine blk_drewN ?_ _ | refine blk_drew ?_ | refine blk_alloc ?_ _)); refine blk_far ?_ NB428_429.out _; (with_reducible repeat (first | refine blk_drewN ?_ _ | refine blk_drew ?_ | refine blk_alloc ?_ _)); refine blk_put (cs := #[.slice Ao21 t430.length co21, .bool false]) ?_ 1 _ rfl; (with_reducible repeat (first | refine blk_drewN ?_ _ | refine blk_drew ?_ | refine blk_alloc ?_ _)); refine blk_put (cs := #[.slice none 0 0, .bool false]) ?_ 0 _ rfl; (with_reducible repeat (first | refine blk_drewN ?_ _ | refine blk_drew ?_ | refine blk_alloc ?_ _)); exact BK428.out) Try.underlying39 rfl (by kernel_rfl) (.cell gb429 44 #[.slice none 0 0, .int .i64 0, .int .i64 0, .string (⟨#[]⟩ : ByteArray)] (0, 0) _ rfl (by (with_reducible repeat (first | refine blk_drewN ?_ _ | refine blk_drew ?_ | refine blk_alloc ?_ _)); refine blk_put (cs := #[.slice none 0 0, .int .i64 0, .int .i64 0, .string (⟨#[]⟩ : ByteArray)]) ?_ 3 _ rfl; (with_reducible repeat (first | refine blk_drewN ?_ _ | refine blk_drew ?_ | refine blk_alloc ?_ _)); refine blk_put (cs := #[.slice none 0 0, .int .i64 0, .int .i64 0, .string (⟨#[]⟩ : ByteArray)]) ?_ 2 _ rfl; (with_reducible repeat (first | refine blk_drewN ?_ _ | refine blk_drew ?_ | refine blk_alloc ?_ _)); refine blk_put (cs := #[.slice none 0 0, .int .i64 0, .int .i64 0, .string (⟨#[]⟩ : ByteArray)]) ?_ 1 _ rfl; (with_reducible repeat (first | refine blk_drewN ?_ _ | refine blk_drew ?_ | refine blk_alloc ?_ _)); refine blk_put (cs := #[.slice none 0 0, .int .i64 0, .int .i64 0, .string (⟨#[]⟩ : ByteArray)]) ?_ 0 _ rfl; (with_reducible repeat (first | refine blk_drewN ?_ _ | refine blk_drew ?_ | refine blk_alloc ?_ _)); refine blk_far ?_ NB429_428.out _; (with_reducible repeat (first | refine blk_drewN ?_ _ | refine blk_drew ?_ | refine blk_alloc ?_ _)); refine blk_far ?_ NB429_428.out _; (with_reducible repeat (first | refine blk_drewN ?_ _ | refine blk_drew ?_ | refine blk_alloc ?_ _)); exact BK429.out) Try.underlying44 rfl (by kernel_rfl) (.tmp .nil)))) rfl ?_
   exact ⟨_, _, by first | rfl | (simp [errW_none, errW_some] <;> rfl) | (simp [*, errW_none, errW_some] <;> rfl), by (with_reducible repeat (first | apply Kd.S_alloc | apply Kd.S_drewN | apply Kd.S_drew)); exact Kd.S_mono (Kd.S_far (p := ⟨gb429, 3, none⟩) (Kd.S_far (p := ⟨gb429, 2, none⟩) (Kd.S_far (p := ⟨gb429, 1, none⟩) (Kd.S_far (p := ⟨gb429, 0, none⟩) (Kd.S_far (p := ⟨gb428, 1, none⟩) (Kd.S_far (p := ⟨gb428, 0, none⟩) (Kd.S_mono (Kd.S_types HO432.out BK428.out (by decide)) (fun k_ hk => (⟨hk, hk.1.2⟩ : _ ∧ k_ ≠ gb429))) (fun _ hk => hk.1.2) (.slice Ao21 t430.length co21)) (fun _ hk => hk.1.2) (.bool t433)) (fun _ hk => hk.2) (.slice none 0 0)) (fun _ hk => hk.2) (.int .i64 0)) (fun _ hk => hk.2) (.int .i64 0)) (fun _ hk => hk.2) (.string (⟨#[]⟩ : ByteArray))) (fun _ hk => (by simp [Value.ownBlock])), by first | exact Kd.R_nil _ _ _ _ _ | exact Kd.N_nil _ _ _ _ _ | exact Kd.V_nil _ _ _ _ _ | exact Kd.Q_nil _ _ _ _ _ | exact Kd.S_nil _ _ _ _ _, by repeat (first | (with_reducible first | exact HB.out | apply below_alloc | apply pw_below_drewN | apply below_drew1 | refine below_set ?_ GE427.out | refine below_set ?_ GE428.out | refine below_set ?_ GE429.out) | exact HB.out)⟩
  ·
   rw [if_neg c12] at H
   have c12b0 : ((l0_0.length : Int) == 0) = false := beq_eq_false_iff_ne.mpr c12
   have c12b1 : ((l0_0.length : Int) != 0) = true := bne_iff_ne.mpr c12
   have c12b2 : ¬ (l0_0 = []) := fun h_ => c12 (by rw [h_]; rfl)
   by_cases c25 : 1 ≤ (l0_0.length : Int)
   ·
    rw [if_pos c25] at H
    have c25b0 := eq_true c25
    have c25b1 : decide (1 ≤ (l0_0.length : Int)) = true := decide_eq_true c25
    clear c25
    obtain ⟨y434, hy434⟩ : ∃ y_ : List (S44), y_ = (l0_0.drop 1) := ⟨_, rfl⟩
    replace H : ((impl_copyAlarms.f k y434).bind fun t438 => (if 0 < (l0_0.length : Int) then ((impl_copyAlarm.f ((rd_T44 l0_0 0).f0) ((rd_T44 l0_0 0).f1) ((rd_T44 l0_0 0).f2) ((rd_T44 l0_0 0).f3)).bind fun bt442 => (some (t438, false, bt442.1, bt442.2.1, bt442.2.2.1, bt442.2.2.2, 1))) else (none))) = some (r1, r2, r3, r4, r5, r6, r7) := by first | (rw [hy434]; with_reducible exact H) | (have H2_ := (Option.bind_some _ _).symm.trans H; rw [hy434]; with_reducible exact H2_) | (have H2_ := (Option.bind_some _ _).symm.trans H; with_reducible exact H2_) | with_reducible exact H | (rw [hy434]; exact H) | exact H
    have Ny434 := Aside0.mk hy434
    clear hy434
    replace H := Option.bind_eq_some_iff.mp H
    obtain ⟨t438, A260, H⟩ := H
    replace H : (if 0 < (l0_0.length : Int) then ((impl_copyAlarm.f ((rd_T44 l0_0 0).f0) ((rd_T44 l0_0 0).f1) ((rd_T44 l0_0 0).f2) ((rd_T44 l0_0 0).f3)).bind fun bt442 => (some (t438, false, bt442.1, bt442.2.1, bt442.2.2.1, bt442.2.2.2, 1))) else (none)) = some (r1, r2, r3, r4, r5, r6, r7) := H
    have A26 := Aside0.mk A260
    clear A260
    by_cases c27 : 0 < (l0_0.length : Int)
    ·
     rw [if_pos c27] at H
     have c27b0 : decide (0 < (l0_0.length : Int)) = true := decide_eq_true c27
     have c27b1 : decide (0 < l0_0.length) = true := decide_eq_true (by omega)
     clear c27
     replace H := Option.bind_eq_some_iff.mp H
     obtain ⟨⟨t442, t445, t446, t447⟩, A280, H⟩ := H
     replace H : (some (t438, false, t442, t445, t446, t447, 1)) = some (r1, r2, r3, r4, r5, r6, r7) := H
     have A28 := Aside0.mk A280
     clear A280
     simp only [Option.some.injEq, Prod.mk.injEq] at H
     obtain ⟨rfl, rfl, rfl, rfl, rfl, rfl, rfl⟩ := H
     go_enter Try.func32, Try.ntmps32
     try go_wp2_with (first | ((with_reducible refine gate_dst (N := 1) rfl ?_); refine box_event ?hg (N := 1) ?hd (cs := #[.slice A0_0 l0_0.length c0_0, .bool false]) (t := 39) ?hr ?_; (case hd => rfl); (case hg => rfl); (case hr => first | (go_simp; done) | (go_simp; rfl)); intro gb427 hg w29 hbox hb; have n0_ := Aside0.mk (below_step (by repeat (first | (with_reducible first | exact HB.out | apply below_alloc | apply pw_below_drewN | apply below_drew1) | exact HB.out)) hb); have n1_ := Aside0.mk (hbox); have n2_ := Aside0.mk ((by rw [hg]; exact (below_size (by repeat (first | (with_reducible first | exact HB.out | apply below_alloc | apply pw_below_drewN | apply below_drew1) | exact HB.out))) : w.heap.size ≤ gb427)); have n3_ := Aside0.mk ((by rw [hg]; exact (below_size (by repeat (first | (with_reducible first | exact HB.out | apply below_alloc | apply pw_below_drewN | apply below_drew1) | exact HB.out))) : w.heap.size ≤ gb427)); clear HB; have HB := n0_; have BK427 := n1_; have GW427 := n2_; have GE427 := n3_; clear n0_ n1_ n2_ n3_; clear hb hbox hg) | ((with_reducible refine gate_dst (N := 2) rfl ?_); refine box_event ?hg (N := 2) ?hd (cs := #[.slice none 0 0, .bool false]) (t := 39) ?hr ?_; (case hd => rfl); (case hg => rfl); (case hr => first | (go_simp; done) | (go_simp; rfl)); intro gb428 hg w30 hbox hb; have n0_ := Aside0.mk (blk_below (g := gb427) (o := .cells #[.slice A0_0 l0_0.length c0_0, .bool false] 39 (0, 0)) (by (with_reducible repeat (first | refine blk_drewN ?_ _ | refine blk_drew ?_ | refine blk_alloc ?_ _)); exact BK427.out) hb); have n1_ := Aside0.mk (below_step (by repeat (first | (with_reducible first | exact HB.out | apply below_alloc | apply pw_below_drewN | apply below_drew1 | refine below_set ?_ GE427.out) | exact HB.out)) hb); have n2_ := Aside0.mk (hbox); have n3_ := Aside0.mk ((by rw [hg]; exact (below_size (by repeat (first | (with_reducible first | exact HB.out | apply below_alloc | apply pw_below_drewN | apply below_drew1 | refine below_set ?_ GE427.out) | exact HB.out))) : w.heap.size ≤ gb428)); have n4_ := Aside0.mk ((by rw [hg]; exact (below_size (by repeat (first | (with_reducible first | exact HB.out | apply below_alloc | apply pw_below_drewN | apply below_drew1 | refine below_set ?_ GE427.out) | exact HB.out))) : w.heap.size ≤ gb428)); have n5_ := Aside0.mk ((by rw [hg]; exact Nat.ne_of_lt (blk_lt (g := gb427) (o := .cells #[.slice A0_0 l0_0.length c0_0, .bool false] 39 (0, 0)) (by (with_reducible repeat (first | refine blk_drewN ?_ _ | refine blk_drew ?_ | refine blk_alloc ?_ _)); exact BK427.out)) : gb427 ≠ gb428)); have n6_ := Aside0.mk ((by rw [hg]; exact Nat.ne_of_gt (blk_lt (g := gb427) (o := .cells #[.slice A0_0 l0_0.length c0_0, .bool false] 39 (0, 0)) (by (with_reducible repeat (first | refine blk_drewN ?_ _ | refine blk_drew ?_ | refine blk_alloc ?_ _)); exact BK427.out)) : gb428 ≠ gb427)); clear BK427; clear HB; have BK427 := n0_; have HB := n1_; have BK428 := n2_; have GW428 := n3_; have GE428 := n4_; have NB427_428 := n5_; have NB428_427 := n6_; clear n0_ n1_ n2_ n3_ n4_ n5_ n6_; clear hb hbox hg) | ((with_reducible refine gate_dst (N := 3) rfl ?_); refine box_event ?hg (N := 3) ?hd (cs := #[.slice none 0 0, .int .i64 0, .int .i64 0, .string (⟨#[]⟩ : ByteArray)]) (t := 44) ?hr ?_; (case hd => rfl); (case hg => rfl); (case hr => first | (go_simp; done) | (go_simp; rfl)); intro gb429 hg w31 hbox hb; have n0_ := Aside0.mk (blk_below (g := gb427) (o := .cells #[.slice A0_0 l0_0.length c0_0, .bool false] 39 (0, 0)) (by (with_reducible repeat (first | refine blk_drewN ?_ _ | refine blk_drew ?_ | refine blk_alloc ?_ _)); exact BK427.out) hb); have n1_ := Aside0.mk (blk_below (g := gb428) (o := .cells #[.slice none 0 0, .bool false] 39 (0, 0)) (by (with_reducible repeat (first | refine blk_drewN ?_ _ | refine blk_drew ?_ | refine blk_alloc ?_ _)); exact BK428.out) hb); have n2_ := Aside0.mk (below_step (by repeat (first | (with_reducible first | exact HB.out | apply below_alloc | apply pw_below_drewN | apply below_drew1 | refine below_set ?_ GE427.out | refine below_set ?_ GE428.out) | exact HB.out)) hb); have n3_ := Aside0.mk (hbox); have n4_ := Aside0.mk ((by rw [hg]; exact (below_size (by repeat (first | (with_reducible first | exact HB.out | apply below_alloc | apply pw_below_drewN | apply below_drew1 | refine below_set ?_ GE427.out | refine below_set ?_ GE428.out) | exact HB.out))) : w.heap.size ≤ gb429)); have n5_ := Aside0.mk ((by rw [hg]; exact (below_size (by repeat (first | (with_reducible first | exact HB.out | apply below_alloc | apply pw_below_drewN | apply below_drew1 | refine below_set ?_ GE427.out | refine below_set ?_ GE428.out) | exact HB.out))) : w.heap.size ≤ gb429)); have n6_ := Aside0.mk ((by rw [hg]; exact Nat.ne_of_lt (blk_lt (g := gb427) (o := .cells #[.slice A0_0 l0_0.length c0_0, .bool false] 39 (0, 0)) (by (with_reducible repeat (first | refine blk_drewN ?_ _ | refine blk_drew ?_ | refine blk_alloc ?_ _)); exact BK427.out)) : gb427 ≠ gb429)); have n7_ := Aside0.mk ((by rw [hg]; exact Nat.ne_of_gt (blk_lt (g := gb427) (o := .cells #[.slice A0_0 l0_0.length c0_0, .bool false] 39 (0, 0)) (by (with_reducible repeat (first | refine blk_drewN ?_ _ | refine blk_drew ?_ | refine blk_alloc ?_ _)); exact BK427.out)) : gb429 ≠ gb427)); have n8_ := Aside0.mk ((by rw [hg]; exact Nat.ne_of_lt (blk_lt (g := gb428) (o := .cells #[.slice none 0 0, .bool false] 39 (0, 0)) (by (with_reducible repeat (first | refine blk_drewN ?_ _ | refine blk_drew ?_ | refine blk_alloc ?_ _)); exact BK428.out)) : gb428 ≠ gb429)); have n9_ := Aside0.mk ((by rw [hg]; exact Nat.ne_of_gt (blk_lt (g := gb428) (o := .cells #[.slice none 0 0, .bool false] 39 (0, 0)) (by (with_reducible repeat (first | refine blk_drewN ?_ _ | refine blk_drew ?_ | refine blk_alloc ?_ _)); exact BK428.out)) : gb429 ≠ gb428)); clear BK427; clear BK428; clear HB; have BK427 := n0_; have BK428 := n1_; have HB := n2_; have BK429 := n3_; have GW429 := n4_; have GE429 := n5_; have NB427_429 := n6_; have NB429_427 := n7_; have NB428_429 := n8_; have NB429_428 := n9_; clear n0_ n1_ n2_ n3_ n4_ n5_ n6_ n7_ n8_ n9_; clear hb hbox hg; have hnb32 := NB427_428.out; have hnc32 := NB428_427.out; have hnb33 := NB427_429.out; have hnc33 := NB429_427.out; have hcz34_0 : w31.cell? ⟨gb427, 0, none⟩ = some (.slice A0_0 l0_0.length c0_0) := (blk_cell BK427.out 0).trans rfl; have hcz34_1 : w31.cell? ⟨gb427, 1, none⟩ = some (.bool false) := (blk_cell BK427.out 1).trans rfl; have hfz34_0 := blk_frozen BK427.out 0; have hfz34_1 := blk_frozen BK427.out 1))
     have n0_ := Aside0.mk (blk_drew BK427.out)
     have n1_ := Aside0.mk (blk_drew BK428.out)
     have n2_ := Aside0.mk (blk_drew BK429.out)
     have n3_ := Aside0.mk (below_drew1 HB.out)
     clear BK427
     clear BK428
     clear BK429
     clear HB
     have BK427 := n0_
     have BK428 := n1_
     have BK429 := n2_
     have HB := n3_
     clear n0_ n1_ n2_ n3_
     have q36 : (1 : Int) ≤ ((l0_0.length : Int) : Int) := of_decide_eq_true (by first | (with_reducible assumption) | assumption)
     obtain ⟨i036, hi036, _, hsz36, _⟩ := info_parts info44
     have hroom36 : l0_0.length ≤ c0_0 := HC0_0.out
     have hC36 : Kd.C k44 _ A0_0 l0_0.length l0_0 := HR0_0.out
     have hcut36 := cut_from (P := Try.prog) 37 44 .i64 Try.underlying37 hi036 4 hsz36 A0_0 l0_0.length c0_0 1 (by omega) q36
     have hr36 := Kd.C_drop (m := (1 : Int).toNat) (c := c0_0) hC36 (by omega) hroom36
     obtain ⟨A36, hA36⟩ : ∃ A1, A1 = (if c0_0 = (1 : Int).toNat then A0_0 else (A0_0 : Option Addr).map (·.add ((1 : Int).toNat * 4))) := ⟨_, rfl⟩
     obtain ⟨c36, hc36⟩ : ∃ c1, c1 = c0_0 - (1 : Int).toNat := ⟨_, rfl⟩
     have hy36 : y434.length = l0_0.length - (1 : Int).toNat := (by rw [Ny434.out, List.length_drop] <;> omega)
     rw [show (l0_0).drop (1 : Int).toNat = y434 from Ny434.out.symm] at hr36
     replace hr36 : Kd.C k44 _ A36 y434.length y434 := (by rw [hA36]; exact hr36)
     rw [← hy36, ← hA36, ← hc36] at hcut36
     have HR437 := Aside0.mk hr36
     have HC437 := Aside0.mk (show y434.length ≤ c36 from by rw [hy36, hc36]; exact Nat.sub_le_sub_right hroom36 _)
     clear hr36 hC36 hroom36 hi036 hsz36 hc36
     have KY36 := Aside0.mk hy36
     have KA36 := Aside0.mk hA36
     clear hy36 hA36
     replace q36 := eq_true q36
     have p441 : 0 ≤ (0 : Int) := (by omega)
     have q441 : 0 < (l0_0.length : Int) := of_decide_eq_true (by first | (with_reducible assumption) | assumption)
     obtain ⟨ad441, A441_0, c441_0, e441, hx441_0, hx441_1, hx441_2, hx441_3, hl441_0, hi441_0⟩ := at_T44 HR0_0.out 0 p441 q441
     have hw441_3 := hx441_3
     (try rw [show ((0 : Int)).toNat = 0 from rfl] at hw441_3)
     (try rw [show 0 * 4 = 0 from rfl] at hw441_3)
     (try rw [Addr.add_zero'] at hw441_3)
     have hw441_2 := hx441_2
     (try rw [show ((0 : Int)).toNat = 0 from rfl] at hw441_2)
     (try rw [show 0 * 4 = 0 from rfl] at hw441_2)
     (try rw [Addr.add_zero'] at hw441_2)
     have hw441_1 := hx441_1
     (try rw [show ((0 : Int)).toNat = 0 from rfl] at hw441_1)
     (try rw [show 0 * 4 = 0 from rfl] at hw441_1)
     (try rw [Addr.add_zero'] at hw441_1)
     have hw441_0 := hx441_0
     (try rw [show ((0 : Int)).toNat = 0 from rfl] at hw441_0)
     (try rw [show 0 * 4 = 0 from rfl] at hw441_0)
     (try rw [Addr.add_zero'] at hw441_0)
     cases e441
     have qi441 : (0 < l0_0.length) = True := eq_true (by omega)
     (try rw [show ((0 : Int)).toNat = 0 from rfl] at hx441_0)
     (try rw [show 0 * 4 = 0 from rfl] at hx441_0)
     (try rw [Addr.add_zero'] at hx441_0)
     (try rw [show ((0 : Int)).toNat = 0 from rfl] at hx441_1)
     (try rw [show 0 * 4 = 0 from rfl] at hx441_1)
     (try rw [Addr.add_zero'] at hx441_1)
     (try rw [show ((0 : Int)).toNat = 0 from rfl] at hx441_2)
     (try rw [show 0 * 4 = 0 from rfl] at hx441_2)
     (try rw [Addr.add_zero'] at hx441_2)
     (try rw [show ((0 : Int)).toNat = 0 from rfl] at hx441_3)
     (try rw [show 0 * 4 = 0 from rfl] at hx441_3)
     (try rw [Addr.add_zero'] at hx441_3)
     replace hx441_0 := (HB.out.cell (World.block_lt_of_cell? w _ hx441_0)).trans hx441_0
     replace hx441_1 := (HB.out.cell (World.block_lt_of_cell? w _ hx441_1)).trans hx441_1
     replace hx441_2 := (HB.out.cell (World.block_lt_of_cell? w _ hx441_2)).trans hx441_2
     replace hx441_3 := (HB.out.cell (World.block_lt_of_cell? w _ hx441_3)).trans hx441_3
     have HR441_0 := Aside0.mk hi441_0
     have HC441_0 := Aside0.mk hl441_0
     clear hi441_0 hl441_0
     replace p441 := eq_true p441
     replace q441 := eq_true q441
     refine start_ (n := 13) (S := fun w' => w'.cell? ⟨gb427, 0, none⟩ = some (.slice (some ad441) l0_0.length c0_0) ∧ w'.cell? ⟨gb427, 1, none⟩ = some (.bool false) ∧ w'.cell? ad441 = some (.slice A441_0 ((rd_T44 l0_0 0).f0).length c441_0) ∧ w'.cell? ⟨ad441.block, ad441.off + 1, none⟩ = some (.int .i64 ((rd_T44 l0_0 0).f1)) ∧ w'.cell? ⟨ad441.block, ad441.off + 2, none⟩ = some (.int .i64 ((rd_T44 l0_0 0).f2)) ∧ w'.cell? ⟨ad441.block, ad441.off + 3, none⟩ = some (.string ((rd_T44 l0_0 0).f3))) (ds := []) #[false, false, false, false, false, false, false, false, false, false, false, false, false] (by kernel_rfl) rfl rfl ⟨(blk_cell BK427.out 0).trans rfl, (blk_cell BK427.out 1).trans rfl, ((HB.out.cell (World.block_lt_of_cell? w _ hw441_0)).trans hw441_0), ((HB.out.cell (World.block_lt_of_cell? w _ hw441_1)).trans hw441_1), ((HB.out.cell (World.block_lt_of_cell? w _ hw441_2)).trans hw441_2), ((HB.out.cell (World.block_lt_of_cell? w _ hw441_3)).trans hw441_3)⟩ (fun hHeld => ?_); refine with_tabW impl_Hear.tab5 impl_Hear.bits5 (fun HT_ HW_ => ?_)
     generalize w31.drew = w35 at BK427 BK428 BK429 HB HR437 HR441_0 hx441_0 hx441_1 hx441_2 hx441_3 hHeld ⊢
     refine pure_ (i := 0) (N := some 18) (v := ?_) (a' := ?_) #[true, false, false, false, false, false, false, false, false, false, false, false, false] rfl rfl (any_of HT_.out (by kernel_rfl)) (fun _ _ _ h => h) (Or.inl ⟨by rfl, ?_⟩) ?_ ?_
     rotate_left
     ·
      intro w'
      go_simp
      with_reducible rfl
     rotate_left
     ·
      simp only [Act.put, List.setIfInBounds_toArray, List.set_cons_zero, List.set_cons_succ, i64_w, i32_w]
      rfl
     refine pure_ (i := 5) (N := some 23) (v := ?_) (a' := ?_) #[true, false, false, false, false, true, false, false, false, false, false, false, false] rfl rfl (any_of HT_.out (by kernel_rfl)) (fun _ _ _ h => h) (Or.inl ⟨by rfl, ?_⟩) ?_ ?_
     rotate_left
     ·
      intro w'
      go_simp
      with_reducible rfl
     rotate_left
     ·
      simp only [Act.put, List.setIfInBounds_toArray, List.set_cons_zero, List.set_cons_succ, i64_w, i32_w]
      rfl
     refine take_ (i := 1) (N := some 19) (v := ?_) (a' := ?_) #[true, true, false, false, false, true, false, false, false, false, false, false, false] rfl rfl (take_ofW HT_.out HW_.out (by kernel_rfl)) (fun _ _ _ h => h) (Or.inl ⟨by rfl, ?_⟩) hHeld ?_ ?_
     rotate_left
     ·
      rintro w' ⟨s0, s1, s2, s3, s4, s5⟩
      go_simp
      with_reducible rfl
     rotate_left
     ·
      simp only [Act.put, List.setIfInBounds_toArray, List.set_cons_zero, List.set_cons_succ, i64_w, i32_w]
      rfl
     refine pure_ (i := 2) (N := some 20) (v := ?_) (a' := ?_) #[true, true, true, false, false, true, false, false, false, false, false, false, false] rfl rfl (any_of HT_.out (by kernel_rfl)) (fun _ _ _ h => h) (Or.inl ⟨by rfl, ?_⟩) ?_ ?_
     rotate_left
     ·
      intro w'
      go_simp
      with_reducible rfl
     rotate_left
     ·
      simp only [Act.put, List.setIfInBounds_toArray, List.set_cons_zero, List.set_cons_succ, i64_w, i32_w]
      rfl
     refine take_ (i := 6) (N := some 24) (v := ?_) (a' := ?_) #[true, true, true, false, false, true, true, false, false, false, false, false, false] rfl rfl (take_ofW HT_.out HW_.out (by kernel_rfl)) (fun _ _ _ h => h) (Or.inl ⟨by rfl, ?_⟩) hHeld ?_ ?_
     rotate_left
     ·
      rintro w' ⟨s0, s1, s2, s3, s4, s5⟩
      go_simp
      with_reducible rfl
     rotate_left
     ·
      simp only [Act.put, List.setIfInBounds_toArray, List.set_cons_zero, List.set_cons_succ, i64_w, i32_w]
      rfl
     refine pure_ (i := 7) (N := some 25) (v := ?_) (a' := ?_) #[true, true, true, false, false, true, true, true, false, false, false, false, false] rfl rfl (any_of HT_.out (by kernel_rfl)) (fun _ _ _ h => h) (Or.inl ⟨by rfl, ?_⟩) ?_ ?_
     rotate_left
     ·
      intro w'
      go_simp
      with_reducible rfl
     rotate_left
     ·
      simp only [Act.put, List.setIfInBounds_toArray, List.set_cons_zero, List.set_cons_succ, i64_w, i32_w]
      rfl
     refine take_ (i := 8) (N := some 26) (v := ?_) (a' := ?_) #[true, true, true, false, false, true, true, true, true, false, false, false, false] rfl rfl (take_ofW HT_.out HW_.out (by kernel_rfl)) (fun _ _ _ h => h) (Or.inl ⟨by rfl, ?_⟩) hHeld ?_ ?_
     rotate_left
     ·
      rintro w' ⟨s0, s1, s2, s3, s4, s5⟩
      go_simp
      with_reducible rfl
     rotate_left
     ·
      simp only [Act.put, List.setIfInBounds_toArray, List.set_cons_zero, List.set_cons_succ, i64_w, i32_w]
      rfl
     refine one_ (i := 3) (N := some 21) #[true, true, true, true, false, true, true, true, true, false, false, false, false] rfl rfl (one_of HT_.out (by kernel_rfl)) (by decide) (fun K hK => ?_)
     refine goes_ Try.func101 (by kernel_rfl) rfl #[.slice A36 y434.length c36] (by rfl) rfl rfl (by (try simp only [List.map_toArray, List.map_cons, List.map_nil]); first | done | rfl | (simp only [List.length_drop, List.length_take]; rfl)) ?_
     with_reducible refine (impl_copyAlarms.calls k _ _ y434 t438 _ ?side1 ?side2 A26.out).mono ?_
     (case side1 => repeat (first | exact (Kd.C_below HR437.out HB.out) | (with_reducible refine Kd.C_alloc ?_ _) | (with_reducible refine Kd.C_drewN ?_ _) | (with_reducible refine Kd.C_drew ?_)))
     (case side2 => exact HC437.out)
     rintro e w37 ⟨v439, rfl, ho0, hb⟩
     refine ⟨_, rfl, ?_⟩
     have n0_ := Aside0.mk (Kd.S_lower (Kd.S_newB ho0 (g := gb429) (o := .cells #[.slice none 0 0, .int .i64 0, .int .i64 0, .string (⟨#[]⟩ : ByteArray)] 44 (0, 0)) (by (with_reducible repeat (first | refine blk_drewN ?_ _ | refine blk_drew ?_ | refine blk_alloc ?_ _)); exact BK429.out)) (below_size (by repeat (first | (with_reducible first | exact HB.out | apply below_alloc | apply pw_below_drewN | apply below_drew1 | refine below_set ?_ GE427.out | refine below_set ?_ GE428.out | refine below_set ?_ GE429.out) | exact HB.out))))
     have n1_ := Aside0.mk (blk_below (g := gb427) (o := .cells #[.slice (some ad441) l0_0.length c0_0, .bool false] 39 (0, 0)) (by (with_reducible repeat (first | refine blk_drewN ?_ _ | refine blk_drew ?_ | refine blk_alloc ?_ _)); exact BK427.out) hb)
     have n2_ := Aside0.mk (blk_below (g := gb428) (o := .cells #[.slice none 0 0, .bool false] 39 (0, 0)) (by (with_reducible repeat (first | refine blk_drewN ?_ _ | refine blk_drew ?_ | refine blk_alloc ?_ _)); exact BK428.out) hb)
     have n3_ := Aside0.mk (blk_below (g := gb429) (o := .cells #[.slice none 0 0, .int .i64 0, .int .i64 0, .string (⟨#[]⟩ : ByteArray)] 44 (0, 0)) (by (with_reducible repeat (first | refine blk_drewN ?_ _ | refine blk_drew ?_ | refine blk_alloc ?_ _)); exact BK429.out) hb)
     have n4_ := Aside0.mk (below_step (by repeat (first | (with_reducible first | exact HB.out | apply below_alloc | apply pw_below_drewN | apply below_drew1 | refine below_set ?_ GE427.out | refine below_set ?_ GE428.out | refine below_set ?_ GE429.out) | exact HB.out)) hb)
     clear BK427
     clear BK428
     clear BK429
     clear HB
     have HO440 := n0_
     have BK427 := n1_
     have BK428 := n2_
     have BK429 := n3_
     have HB := n4_
     clear n0_ n1_ n2_ n3_ n4_
     (try clear hb)
     (try clear hb2)
     (try clear hk)
     (try clear hi)
     (try clear ho0)
     obtain ⟨Ao38, co38, eo38⟩ := Kd.S_slice HO440.out
     (first | subst eo38 | (injection eo38 with f1_ f2_ f3_; have f4_ := f1_.symm; have f5_ := f3_.symm; clear f1_ f2_ f3_; subst f4_; subst f5_))
     refine hK.out _ _ ⟨(blk_cell BK427.out 0).trans rfl, (blk_cell BK427.out 1).trans rfl, ((HB.out.cell (World.block_lt_of_cell? w _ hw441_0)).trans hw441_0), ((HB.out.cell (World.block_lt_of_cell? w _ hw441_1)).trans hw441_1), ((HB.out.cell (World.block_lt_of_cell? w _ hw441_2)).trans hw441_2), ((HB.out.cell (World.block_lt_of_cell? w _ hw441_3)).trans hw441_3)⟩ (fun hHeld => ?_)
     clear hK K
     refine norm_ (a' := ?_) ?_ ?_
     rotate_left
     ·
      show Act.put _ (some 21) _ = _
      simp only [Act.put, List.setIfInBounds_toArray, List.set_cons_zero, List.set_cons_succ, i64_w, i32_w]
      rfl
     refine pure_ (i := 4) (N := some 22) (v := ?_) (a' := ?_) #[true, true, true, true, true, true, true, true, true, false, false, false, false] rfl rfl (any_of HT_.out (by kernel_rfl)) (fun _ _ _ h => h) (Or.inl ⟨by rfl, ?_⟩) ?_ ?_
     rotate_left
     ·
      intro w'
      go_simp
      with_reducible rfl
     rotate_left
     ·
      simp only [Act.put, List.setIfInBounds_toArray, List.set_cons_zero, List.set_cons_succ, i64_w, i32_w]
      rfl
     refine one_ (i := 9) (N := some 27) #[true, true, true, true, true, true, true, true, true, true, false, false, false] rfl rfl (one_of HT_.out (by kernel_rfl)) (by decide) (fun K hK => ?_)
     refine goes_ Try.func97 (by kernel_rfl) rfl #[.agg #[.slice A441_0 ((rd_T44 l0_0 0).f0).length c441_0, .int .i64 ((rd_T44 l0_0 0).f1), .int .i64 ((rd_T44 l0_0 0).f2), .string ((rd_T44 l0_0 0).f3)]] (by rfl) rfl rfl (by (try simp only [List.map_toArray, List.map_cons, List.map_nil]); first | done | rfl | (simp only [List.length_drop, List.length_take]; rfl)) ?_
     with_reducible refine (impl_copyAlarm.calls _ _ ((rd_T44 l0_0 0).f0) ((rd_T44 l0_0 0).f1) ((rd_T44 l0_0 0).f2) ((rd_T44 l0_0 0).f3) t442 t445 t446 t447 _ ?side1 ?side2 A28.out).mono ?_
     (case side1 => repeat (first | exact (Kd.C_below HR441_0.out HB.out) | (with_reducible refine Kd.C_alloc ?_ _) | (with_reducible refine Kd.C_drewN ?_ _) | (with_reducible refine Kd.C_drew ?_)))
     (case side2 => exact HC441_0.out)
     rintro e w39 ⟨v443, rfl, ho0, hb⟩
     refine ⟨_, rfl, ?_⟩
     have n0_ := Aside0.mk (Kd.S_elder' (by (with_reducible repeat (first | apply Kd.S_alloc | apply Kd.S_drewN | apply Kd.S_drew)); exact HO440.out) (Kd.R_base ho0) hb)
     have n1_ := Aside0.mk (Kd.R_lower ho0 (below_size (by repeat (first | (with_reducible first | exact HB.out | apply below_alloc | apply pw_below_drewN | apply below_drew1 | refine below_set ?_ GE427.out | refine below_set ?_ GE428.out | refine below_set ?_ GE429.out) | exact HB.out))))
     have n2_ := Aside0.mk (blk_below (g := gb427) (o := .cells #[.slice (some ad441) l0_0.length c0_0, .bool false] 39 (0, 0)) (by (with_reducible repeat (first | refine blk_drewN ?_ _ | refine blk_drew ?_ | refine blk_alloc ?_ _)); exact BK427.out) hb)
     have n3_ := Aside0.mk (blk_below (g := gb428) (o := .cells #[.slice none 0 0, .bool false] 39 (0, 0)) (by (with_reducible repeat (first | refine blk_drewN ?_ _ | refine blk_drew ?_ | refine blk_alloc ?_ _)); exact BK428.out) hb)
     have n4_ := Aside0.mk (blk_below (g := gb429) (o := .cells #[.slice none 0 0, .int .i64 0, .int .i64 0, .string (⟨#[]⟩ : ByteArray)] 44 (0, 0)) (by (with_reducible repeat (first | refine blk_drewN ?_ _ | refine blk_drew ?_ | refine blk_alloc ?_ _)); exact BK429.out) hb)
     have n5_ := Aside0.mk (below_step (by repeat (first | (with_reducible first | exact HB.out | apply below_alloc | apply pw_below_drewN | apply below_drew1 | refine below_set ?_ GE427.out | refine below_set ?_ GE428.out | refine below_set ?_ GE429.out) | exact HB.out)) hb)
     clear HO440
     clear BK427
     clear BK428
     clear BK429
     clear HB
     have HO440 := n0_
     have HO444 := n1_
     have BK427 := n2_
     have BK428 := n3_
     have BK429 := n4_
     have HB := n5_
     clear n0_ n1_ n2_ n3_ n4_ n5_
     (try clear hb)
     (try clear hb2)
     (try clear hk)
     (try clear hi)
     (try clear ho0)
     obtain ⟨Ao42, co42, eo42⟩ := Kd.R_slice HO444.out
     (first | subst eo42 | (injection eo42 with f1_ f2_ f3_; have f4_ := f1_.symm; have f5_ := f3_.symm; clear f1_ f2_ f3_; subst f4_; subst f5_))
     refine hK.out _ _ ⟨(blk_cell BK427.out 0).trans rfl, (blk_cell BK427.out 1).trans rfl, ((HB.out.cell (World.block_lt_of_cell? w _ hw441_0)).trans hw441_0), ((HB.out.cell (World.block_lt_of_cell? w _ hw441_1)).trans hw441_1), ((HB.out.cell (World.block_lt_of_cell? w _ hw441_2)).trans hw441_2), ((HB.out.cell (World.block_lt_of_cell? w _ hw441_3)).trans hw441_3)⟩ (fun hHeld => ?_)
     clear hK K
     refine norm_ (a' := ?_) ?_ ?_
     rotate_left
     ·
      show Act.put _ (some 27) _ = _
      simp only [Act.put, List.setIfInBounds_toArray, List.set_cons_zero, List.set_cons_succ, i64_w, i32_w]
      rfl
     refine one_ (i := 10) (N := none) #[true, true, true, true, true, true, true, true, true, true, true, false, false] rfl rfl (one_of HT_.out (by kernel_rfl)) (by decide) (fun K hK => ?_)
     have hs40 : w39.cell? ⟨gb428, 0, none⟩ = some (.slice none 0 0) := (blk_cell BK428.out 0).trans rfl
     have hfs40 := blk_frozen BK428.out 0
     have hns40_0 := NB427_428.out
     have hns40_2 := NB429_428.out
     have hms40_0 := NB428_427.out
     have hms40_2 := NB428_429.out
     have hs41 : w39.cell? ⟨gb428, 1, none⟩ = some (.bool false) := (blk_cell BK428.out 1).trans rfl
     have hfs41 := blk_frozen BK428.out 1
     have hns41_0 := NB427_428.out
     have hns41_2 := NB429_428.out
     have hms41_0 := NB428_427.out
     have hms41_2 := NB428_429.out
     refine skip_ (w1 := ?_) (by rfl) rfl ?_ ?_
     rotate_left
     ·
      go_simp
      rfl
     refine hK.out _ _ ⟨((cell_far (p := ⟨gb428, _, none⟩) NB427_428.out _).trans (((cell_far (p := ⟨gb428, _, none⟩) NB427_428.out _).trans (hHeld.1)))), ((cell_far (p := ⟨gb428, _, none⟩) NB427_428.out _).trans (((cell_far (p := ⟨gb428, _, none⟩) NB427_428.out _).trans (hHeld.2.1)))), ((cell_far (p := ⟨gb428, _, none⟩) (by first | exact Nat.ne_of_lt (Nat.lt_of_lt_of_le (by have := World.block_lt_of_cell? _ _ hw441_0; first | rwa [add_block] at this | exact this) GW428.out) | (rw [add_block]; exact Nat.ne_of_lt (Nat.lt_of_lt_of_le (by have := World.block_lt_of_cell? _ _ hw441_0; first | rwa [add_block] at this | exact this) GW428.out)) | (show (Addr.add _ _).block ≠ _; rw [add_block]; exact Nat.ne_of_lt (Nat.lt_of_lt_of_le (by have := World.block_lt_of_cell? _ _ hw441_0; first | rwa [add_block] at this | exact this) GW428.out)) | (dsimp only; exact Nat.ne_of_lt (Nat.lt_of_lt_of_le (by have := World.block_lt_of_cell? _ _ hw441_0; first | rwa [add_block] at this | exact this) GW428.out))) _).trans (((cell_far (p := ⟨gb428, _, none⟩) (by first | exact Nat.ne_of_lt (Nat.lt_of_lt_of_le (by have := World.block_lt_of_cell? _ _ hw441_0; first | rwa [add_block] at this | exact this) GW428.out) | (rw [add_block]; exact Nat.ne_of_lt (Nat.lt_of_lt_of_le (by have := World.block_lt_of_cell? _ _ hw441_0; first | rwa [add_block] at this | exact this) GW428.out)) | (show (Addr.add _ _).block ≠ _; rw [add_block]; exact Nat.ne_of_lt (Nat.lt_of_lt_of_le (by have := World.block_lt_of_cell? _ _ hw441_0; first | rwa [add_block] at this | exact this) GW428.out)) | (dsimp only; exact Nat.ne_of_lt (Nat.lt_of_lt_of_le (by have := World.block_lt_of_cell? _ _ hw441_0; first | rwa [add_block] at this | exact this) GW428.out))) _).trans (hHeld.2.2.1)))), ((cell_far (p := ⟨gb428, _, none⟩) (by first | exact Nat.ne_of_lt (Nat.lt_of_lt_of_le (by have := World.block_lt_of_cell? _ _ hw441_1; first | rwa [add_block] at this | exact this) GW428.out) | (rw [add_block]; exact Nat.ne_of_lt (Nat.lt_of_lt_of_le (by have := World.block_lt_of_cell? _ _ hw441_1; first | rwa [add_block] at this | exact this) GW428.out)) | (show (Addr.add _ _).block ≠ _; rw [add_block]; exact Nat.ne_of_lt (Nat.lt_of_lt_of_le (by have := World.block_lt_of_cell? _ _ hw441_1; first | rwa [add_block] at this | exact this) GW428.out)) | (dsimp only; exact Nat.ne_of_lt (Nat.lt_of_lt_of_le (by have := World.block_lt_of_cell? _ _ hw441_1; first | rwa [add_block] at this | exact this) GW428.out))) _).trans (((cell_far (p := ⟨gb428, _, none⟩) (by first | exact Nat.ne_of_lt (Nat.lt_of_lt_of_le (by have := World.block_lt_of_cell? _ _ hw441_1; first | rwa [add_block] at this | exact this) GW428.out) | (rw [add_block]; exact Nat.ne_of_lt (Nat.lt_of_lt_of_le (by have := World.block_lt_of_cell? _ _ hw441_1; first | rwa [add_block] at this | exact this) GW428.out)) | (show (Addr.add _ _).block ≠ _; rw [add_block]; exact Nat.ne_of_lt (Nat.lt_of_lt_of_le (by have := World.block_lt_of_cell? _ _ hw441_1; first | rwa [add_block] at this | exact this) GW428.out)) | (dsimp only; exact Nat.ne_of_lt (Nat.lt_of_lt_of_le (by have := World.block_lt_of_cell? _ _ hw441_1; first | rwa [add_block] at this | exact this) GW428.out))) _).trans (hHeld.2.2.2.1)))), ((cell_far (p := ⟨gb428, _, none⟩) (by first | exact Nat.ne_of_lt (Nat.lt_of_lt_of_le (by have := World.block_lt_of_cell? _ _ hw441_2; first | rwa [add_block] at this | exact this) GW428.out) | (rw [add_block]; exact Nat.ne_of_lt (Nat.lt_of_lt_of_le (by have := World.block_lt_of_cell? _ _ hw441_2; first | rwa [add_block] at this | exact this) GW428.out)) | (show (Addr.add _ _).block ≠ _; rw [add_block]; exact Nat.ne_of_lt (Nat.lt_of_lt_of_le (by have := World.block_lt_of_cell? _ _ hw441_2; first | rwa [add_block] at this | exact this) GW428.out)) | (dsimp only; exact Nat.ne_of_lt (Nat.lt_of_lt_of_le (by have := World.block_lt_of_cell? _ _ hw441_2; first | rwa [add_block] at this | exact this) GW428.out))) _).trans (((cell_far (p := ⟨gb428, _, none⟩) (by first | exact Nat.ne_of_lt (Nat.lt_of_lt_of_le (by have := World.block_lt_of_cell? _ _ hw441_2; first | rwa [add_block] at this | exact this) GW428.out) | (rw [add_block]; exact Nat.ne_of_lt (Nat.lt_of_lt_of_le (by have := World.block_lt_of_cell? _ _ hw441_2; first | rwa [add_block] at this | exact this) GW428.out)) | (show (Addr.add _ _).block ≠ _; rw [add_block]; exact Nat.ne_of_lt (Nat.lt_of_lt_of_le (by have := World.block_lt_of_cell? _ _ hw441_2; first | rwa [add_block] at this | exact this) GW428.out)) | (dsimp only; exact Nat.ne_of_lt (Nat.lt_of_lt_of_le (by have := World.block_lt_of_cell? _ _ hw441_2; first | rwa [add_block] at this | exact this) GW428.out))) _).trans (hHeld.2.2.2.2.1)))), ((cell_far (p := ⟨gb428, _, none⟩) (by first | exact Nat.ne_of_lt (Nat.lt_of_lt_of_le (by have := World.block_lt_of_cell? _ _ hw441_3; first | rwa [add_block] at this | exact this) GW428.out) | (rw [add_block]; exact Nat.ne_of_lt (Nat.lt_of_lt_of_le (by have := World.block_lt_of_cell? _ _ hw441_3; first | rwa [add_block] at this | exact this) GW428.out)) | (show (Addr.add _ _).block ≠ _; rw [add_block]; exact Nat.ne_of_lt (Nat.lt_of_lt_of_le (by have := World.block_lt_of_cell? _ _ hw441_3; first | rwa [add_block] at this | exact this) GW428.out)) | (dsimp only; exact Nat.ne_of_lt (Nat.lt_of_lt_of_le (by have := World.block_lt_of_cell? _ _ hw441_3; first | rwa [add_block] at this | exact this) GW428.out))) _).trans (((cell_far (p := ⟨gb428, _, none⟩) (by first | exact Nat.ne_of_lt (Nat.lt_of_lt_of_le (by have := World.block_lt_of_cell? _ _ hw441_3; first | rwa [add_block] at this | exact this) GW428.out) | (rw [add_block]; exact Nat.ne_of_lt (Nat.lt_of_lt_of_le (by have := World.block_lt_of_cell? _ _ hw441_3; first | rwa [add_block] at this | exact this) GW428.out)) | (show (Addr.add _ _).block ≠ _; rw [add_block]; exact Nat.ne_of_lt (Nat.lt_of_lt_of_le (by have := World.block_lt_of_cell? _ _ hw441_3; first | rwa [add_block] at this | exact this) GW428.out)) | (dsimp only; exact Nat.ne_of_lt (Nat.lt_of_lt_of_le (by have := World.block_lt_of_cell? _ _ hw441_3; first | rwa [add_block] at this | exact this) GW428.out))) _).trans (hHeld.2.2.2.2.2))))⟩ (fun hHeld => ?_)
     clear hK K
     refine one_ (i := 11) (N := none) #[true, true, true, true, true, true, true, true, true, true, true, true, false] rfl rfl (one_of HT_.out (by kernel_rfl)) (by decide) (fun K hK => ?_)
     have hs43 : w39.cell? ⟨gb429, 0, none⟩ = some (.slice none 0 0) := (blk_cell BK429.out 0).trans rfl
     have hfs43 := blk_frozen BK429.out 0
     have hns43_0 := NB427_429.out
     have hns43_1 := NB428_429.out
     have hms43_0 := NB429_427.out
     have hms43_1 := NB429_428.out
     have hs44 : w39.cell? ⟨gb429, 1, none⟩ = some (.int .i64 0) := (blk_cell BK429.out 1).trans rfl
     have hfs44 := blk_frozen BK429.out 1
     have hns44_0 := NB427_429.out
     have hns44_1 := NB428_429.out
     have hms44_0 := NB429_427.out
     have hms44_1 := NB429_428.out
     have hs45 : w39.cell? ⟨gb429, 2, none⟩ = some (.int .i64 0) := (blk_cell BK429.out 2).trans rfl
     have hfs45 := blk_frozen BK429.out 2
     have hns45_0 := NB427_429.out
     have hns45_1 := NB428_429.out
     have hms45_0 := NB429_427.out
     have hms45_1 := NB429_428.out
     have hs46 : w39.cell? ⟨gb429, 3, none⟩ = some (.string (⟨#[]⟩ : ByteArray)) := (blk_cell BK429.out 3).trans rfl
     have hfs46 := blk_frozen BK429.out 3
     have hns46_0 := NB427_429.out
     have hns46_1 := NB428_429.out
     have hms46_0 := NB429_427.out
     have hms46_1 := NB429_428.out
     refine skip_ (w1 := ?_) (by rfl) rfl ?_ ?_
     rotate_left
     ·
      go_simp
      rfl
     refine hK.out _ _ ⟨((cell_far (p := ⟨gb429, _, none⟩) NB427_429.out _).trans (((cell_far (p := ⟨gb429, _, none⟩) NB427_429.out _).trans (((cell_far (p := ⟨gb429, _, none⟩) NB427_429.out _).trans (((cell_far (p := ⟨gb429, _, none⟩) NB427_429.out _).trans (hHeld.1)))))))), ((cell_far (p := ⟨gb429, _, none⟩) NB427_429.out _).trans (((cell_far (p := ⟨gb429, _, none⟩) NB427_429.out _).trans (((cell_far (p := ⟨gb429, _, none⟩) NB427_429.out _).trans (((cell_far (p := ⟨gb429, _, none⟩) NB427_429.out _).trans (hHeld.2.1)))))))), ((cell_far (p := ⟨gb429, _, none⟩) (by first | exact Nat.ne_of_lt (Nat.lt_of_lt_of_le (by have := World.block_lt_of_cell? _ _ hw441_0; first | rwa [add_block] at this | exact this) GW429.out) | (rw [add_block]; exact Nat.ne_of_lt (Nat.lt_of_lt_of_le (by have := World.block_lt_of_cell? _ _ hw441_0; first | rwa [add_block] at this | exact this) GW429.out)) | (show (Addr.add _ _).block ≠ _; rw [add_block]; exact Nat.ne_of_lt (Nat.lt_of_lt_of_le (by have := World.block_lt_of_cell? _ _ hw441_0; first | rwa [add_block] at this | exact this) GW429.out)) | (dsimp only; exact Nat.ne_of_lt (Nat.lt_of_lt_of_le (by have := World.block_lt_of_cell? _ _ hw441_0; first | rwa [add_block] at this | exact this) GW429.out))) _).trans (((cell_far (p := ⟨gb429, _, none⟩) (by first | exact Nat.ne_of_lt (Nat.lt_of_lt_of_le (by have := World.block_lt_of_cell? _ _ hw441_0; first | rwa [add_block] at this | exact this) GW429.out) | (rw [add_block]; exact Nat.ne_of_lt (Nat.lt_of_lt_of_le (by have := World.block_lt_of_cell? _ _ hw441_0; first | rwa [add_block] at this | exact this) GW429.out)) | (show (Addr.add _ _).block ≠ _; rw [add_block]; exact Nat.ne_of_lt (Nat.lt_of_lt_of_le (by have := World.block_lt_of_cell? _ _ hw441_0; first | rwa [add_block] at this | exact this) GW429.out)) | (dsimp only; exact Nat.ne_of_lt (Nat.lt_of_lt_of_le (by have := World.block_lt_of_cell? _ _ hw441_0; first | rwa [add_block] at this | exact this) GW429.out))) _).trans (((cell_far (p := ⟨gb429, _, none⟩) (by first | exact Nat.ne_of_lt (Nat.lt_of_lt_of_le (by have := World.block_lt_of_cell? _ _ hw441_0; first | rwa [add_block] at this | exact this) GW429.out) | (rw [add_block]; exact Nat.ne_of_lt (Nat.lt_of_lt_of_le (by have := World.block_lt_of_cell? _ _ hw441_0; first | rwa [add_block] at this | exact this) GW429.out)) | (show (Addr.add _ _).block ≠ _; rw [add_block]; exact Nat.ne_of_lt (Nat.lt_of_lt_of_le (by have := World.block_lt_of_cell? _ _ hw441_0; first | rwa [add_block] at this | exact this) GW429.out)) | (dsimp only; exact Nat.ne_of_lt (Nat.lt_of_lt_of_le (by have := World.block_lt_of_cell? _ _ hw441_0; first | rwa [add_block] at this | exact this) GW429.out))) _).trans (((cell_far (p := ⟨gb429, _, none⟩) (by first | exact Nat.ne_of_lt (Nat.lt_of_lt_of_le (by have := World.block_lt_of_cell? _ _ hw441_0; first | rwa [add_block] at this | exact this) GW429.out) | (rw [add_block]; exact Nat.ne_of_lt (Nat.lt_of_lt_of_le (by have := World.block_lt_of_cell? _ _ hw441_0; first | rwa [add_block] at this | exact this) GW429.out)) | (show (Addr.add _ _).block ≠ _; rw [add_block]; exact Nat.ne_of_lt (Nat.lt_of_lt_of_le (by have := World.block_lt_of_cell? _ _ hw441_0; first | rwa [add_block] at this | exact this) GW429.out)) | (dsimp only; exact Nat.ne_of_lt (Nat.lt_of_lt_of_le (by have := World.block_lt_of_cell? _ _ hw441_0; first | rwa [add_block] at this | exact this) GW429.out))) _).trans (hHeld.2.2.1)))))))), ((cell_far (p := ⟨gb429, _, none⟩) (by first | exact Nat.ne_of_lt (Nat.lt_of_lt_of_le (by have := World.block_lt_of_cell? _ _ hw441_1; first | rwa [add_block] at this | exact this) GW429.out) | (rw [add_block]; exact Nat.ne_of_lt (Nat.lt_of_lt_of_le (by have := World.block_lt_of_cell? _ _ hw441_1; first | rwa [add_block] at this | exact this) GW429.out)) | (show (Addr.add _ _).block ≠ _; rw [add_block]; exact Nat.ne_of_lt (Nat.lt_of_lt_of_le (by have := World.block_lt_of_cell? _ _ hw441_1; first | rwa [add_block] at this | exact this) GW429.out)) | (dsimp only; exact Nat.ne_of_lt (Nat.lt_of_lt_of_le (by have := World.block_lt_of_cell? _ _ hw441_1; first | rwa [add_block] at this | exact this) GW429.out))) _).trans (((cell_far (p := ⟨gb429, _, none⟩) (by first | exact Nat.ne_of_lt (Nat.lt_of_lt_of_le (by have := World.block_lt_of_cell? _ _ hw441_1; first | rwa [add_block] at this | exact this) GW429.out) | (rw [add_block]; exact Nat.ne_of_lt (Nat.lt_of_lt_of_le (by have := World.block_lt_of_cell? _ _ hw441_1; first | rwa [add_block] at this | exact this) GW429.out)) | (show (Addr.add _ _).block ≠ _; rw [add_block]; exact Nat.ne_of_lt (Nat.lt_of_lt_of_le (by have := World.block_lt_of_cell? _ _ hw441_1; first | rwa [add_block] at this | exact this) GW429.out)) | (dsimp only; exact Nat.ne_of_lt (Nat.lt_of_lt_of_le (by have := World.block_lt_of_cell? _ _ hw441_1; first | rwa [add_block] at this | exact this) GW429.out))) _).trans (((cell_far (p := ⟨gb429, _, none⟩) (by first | exact Nat.ne_of_lt (Nat.lt_of_lt_of_le (by have := World.block_lt_of_cell? _ _ hw441_1; first | rwa [add_block] at this | exact this) GW429.out) | (rw [add_block]; exact Nat.ne_of_lt (Nat.lt_of_lt_of_le (by have := World.block_lt_of_cell? _ _ hw441_1; first | rwa [add_block] at this | exact this) GW429.out)) | (show (Addr.add _ _).block ≠ _; rw [add_block]; exact Nat.ne_of_lt (Nat.lt_of_lt_of_le (by have := World.block_lt_of_cell? _ _ hw441_1; first | rwa [add_block] at this | exact this) GW429.out)) | (dsimp only; exact Nat.ne_of_lt (Nat.lt_of_lt_of_le (by have := World.block_lt_of_cell? _ _ hw441_1; first | rwa [add_block] at this | exact this) GW429.out))) _).trans (((cell_far (p := ⟨gb429, _, none⟩) (by first | exact Nat.ne_of_lt (Nat.lt_of_lt_of_le (by have := World.block_lt_of_cell? _ _ hw441_1; first | rwa [add_block] at this | exact this) GW429.out) | (rw [add_block]; exact Nat.ne_of_lt (Nat.lt_of_lt_of_le (by have := World.block_lt_of_cell? _ _ hw441_1; first | rwa [add_block] at this | exact this) GW429.out)) | (show (Addr.add _ _).block ≠ _; rw [add_block]; exact Nat.ne_of_lt (Nat.lt_of_lt_of_le (by have := World.block_lt_of_cell? _ _ hw441_1; first | rwa [add_block] at this | exact this) GW429.out)) | (dsimp only; exact Nat.ne_of_lt (Nat.lt_of_lt_of_le (by have := World.block_lt_of_cell? _ _ hw441_1; first | rwa [add_block] at this | exact this) GW429.out))) _).trans (hHeld.2.2.2.1)))))))), ((cell_far (p := ⟨gb429, _, none⟩) (by first | exact Nat.ne_of_lt (Nat.lt_of_lt_of_le (by have := World.block_lt_of_cell? _ _ hw441_2; first | rwa [add_block] at this | exact this) GW429.out) | (rw [add_block]; exact Nat.ne_of_lt (Nat.lt_of_lt_of_le (by have := World.block_lt_of_cell? _ _ hw441_2; first | rwa [add_block] at this | exact this) GW429.out)) | (show (Addr.add _ _).block ≠ _; rw [add_block]; exact Nat.ne_of_lt (Nat.lt_of_lt_of_le (by have := World.block_lt_of_cell? _ _ hw441_2; first | rwa [add_block] at this | exact this) GW429.out)) | (dsimp only; exact Nat.ne_of_lt (Nat.lt_of_lt_of_le (by have := World.block_lt_of_cell? _ _ hw441_2; first | rwa [add_block] at this | exact this) GW429.out))) _).trans (((cell_far (p := ⟨gb429, _, none⟩) (by first | exact Nat.ne_of_lt (Nat.lt_of_lt_of_le (by have := World.block_lt_of_cell? _ _ hw441_2; first | rwa [add_block] at this | exact this) GW429.out) | (rw [add_block]; exact Nat.ne_of_lt (Nat.lt_of_lt_of_le (by have := World.block_lt_of_cell? _ _ hw441_2; first | rwa [add_block] at this | exact this) GW429.out)) | (show (Addr.add _ _).block ≠ _; rw [add_block]; exact Nat.ne_of_lt (Nat.lt_of_lt_of_le (by have := World.block_lt_of_cell? _ _ hw441_2; first | rwa [add_block] at this | exact this) GW429.out)) | (dsimp only; exact Nat.ne_of_lt (Nat.lt_of_lt_of_le (by have := World.block_lt_of_cell? _ _ hw441_2; first | rwa [add_block] at this | exact this) GW429.out))) _).trans (((cell_far (p := ⟨gb429, _, none⟩) (by first | exact Nat.ne_of_lt (Nat.lt_of_lt_of_le (by have := World.block_lt_of_cell? _ _ hw441_2; first | rwa [add_block] at this | exact this) GW429.out) | (rw [add_block]; exact Nat.ne_of_lt (Nat.lt_of_lt_of_le (by have := World.block_lt_of_cell? _ _ hw441_2; first | rwa [add_block] at this | exact this) GW429.out)) | (show (Addr.add _ _).block ≠ _; rw [add_block]; exact Nat.ne_of_lt (Nat.lt_of_lt_of_le (by have := World.block_lt_of_cell? _ _ hw441_2; first | rwa [add_block] at this | exact this) GW429.out)) | (dsimp only; exact Nat.ne_of_lt (Nat.lt_of_lt_of_le (by have := World.block_lt_of_cell? _ _ hw441_2; first | rwa [add_block] at this | exact this) GW429.out))) _).trans (((cell_far (p := ⟨gb429, _, none⟩) (by first | exact Nat.ne_of_lt (Nat.lt_of_lt_of_le (by have := World.block_lt_of_cell? _ _ hw441_2; first | rwa [add_block] at this | exact this) GW429.out) | (rw [add_block]; exact Nat.ne_of_lt (Nat.lt_of_lt_of_le (by have := World.block_lt_of_cell? _ _ hw441_2; first | rwa [add_block] at this | exact this) GW429.out)) | (show (Addr.add _ _).block ≠ _; rw [add_block]; exact Nat.ne_of_lt (Nat.lt_of_lt_of_le (by have := World.block_lt_of_cell? _ _ hw441_2; first | rwa [add_block] at this | exact this) GW429.out)) | (dsimp only; exact Nat.ne_of_lt (Nat.lt_of_lt_of_le (by have := World.block_lt_of_cell? _ _ hw441_2; first | rwa [add_block] at this | exact this) GW429.out))) _).trans (hHeld.2.2.2.2.1)))))))), ((cell_far (p := ⟨gb429, _, none⟩) (by first | exact Nat.ne_of_lt (Nat.lt_of_lt_of_le (by have := World.block_lt_of_cell? _ _ hw441_3; first | rwa [add_block] at this | exact this) GW429.out) | (rw [add_block]; exact Nat.ne_of_lt (Nat.lt_of_lt_of_le (by have := World.block_lt_of_cell? _ _ hw441_3; first | rwa [add_block] at this | exact this) GW429.out)) | (show (Addr.add _ _).block ≠ _; rw [add_block]; exact Nat.ne_of_lt (Nat.lt_of_lt_of_le (by have := World.block_lt_of_cell? _ _ hw441_3; first | rwa [add_block] at this | exact this) GW429.out)) | (dsimp only; exact Nat.ne_of_lt (Nat.lt_of_lt_of_le (by have := World.block_lt_of_cell? _ _ hw441_3; first | rwa [add_block] at this | exact this) GW429.out))) _).trans (((cell_far (p := ⟨gb429, _, none⟩) (by first | exact Nat.ne_of_lt (Nat.lt_of_lt_of_le (by have := World.block_lt_of_cell? _ _ hw441_3; first | rwa [add_block] at this | exact this) GW429.out) | (rw [add_block]; exact Nat.ne_of_lt (Nat.lt_of_lt_of_le (by have := World.block_lt_of_cell? _ _ hw441_3; first | rwa [add_block] at this | exact this) GW429.out)) | (show (Addr.add _ _).block ≠ _; rw [add_block]; exact Nat.ne_of_lt (Nat.lt_of_lt_of_le (by have := World.block_lt_of_cell? _ _ hw441_3; first | rwa [add_block] at this | exact this) GW429.out)) | (dsimp only; exact Nat.ne_of_lt (Nat.lt_of_lt_of_le (by have := World.block_lt_of_cell? _ _ hw441_3; first | rwa [add_block] at this | exact this) GW429.out))) _).trans (((cell_far (p := ⟨gb429, _, none⟩) (by first | exact Nat.ne_of_lt (Nat.lt_of_lt_of_le (by have := World.block_lt_of_cell? _ _ hw441_3; first | rwa [add_block] at this | exact this) GW429.out) | (rw [add_block]; exact Nat.ne_of_lt (Nat.lt_of_lt_of_le (by have := World.block_lt_of_cell? _ _ hw441_3; first | rwa [add_block] at this | exact this) GW429.out)) | (show (Addr.add _ _).block ≠ _; rw [add_block]; exact Nat.ne_of_lt (Nat.lt_of_lt_of_le (by have := World.block_lt_of_cell? _ _ hw441_3; first | rwa [add_block] at this | exact this) GW429.out)) | (dsimp only; exact Nat.ne_of_lt (Nat.lt_of_lt_of_le (by have := World.block_lt_of_cell? _ _ hw441_3; first | rwa [add_block] at this | exact this) GW429.out))) _).trans (((cell_far (p := ⟨gb429, _, none⟩) (by first | exact Nat.ne_of_lt (Nat.lt_of_lt_of_le (by have := World.block_lt_of_cell? _ _ hw441_3; first | rwa [add_block] at this | exact this) GW429.out) | (rw [add_block]; exact Nat.ne_of_lt (Nat.lt_of_lt_of_le (by have := World.block_lt_of_cell? _ _ hw441_3; first | rwa [add_block] at this | exact this) GW429.out)) | (show (Addr.add _ _).block ≠ _; rw [add_block]; exact Nat.ne_of_lt (Nat.lt_of_lt_of_le (by have := World.block_lt_of_cell? _ _ hw441_3; first | rwa [add_block] at this | exact this) GW429.out)) | (dsimp only; exact Nat.ne_of_lt (Nat.lt_of_lt_of_le (by have := World.block_lt_of_cell? _ _ hw441_3; first | rwa [add_block] at this | exact this) GW429.out))) _).trans (hHeld.2.2.2.2.2))))))))⟩ (fun hHeld => ?_)
     clear hK K
     refine pure_ (i := 12) (N := some 4) (v := ?_) (a' := ?_) #[true, true, true, true, true, true, true, true, true, true, true, true, true] rfl rfl (any_of HT_.out (by kernel_rfl)) (fun _ _ _ h => h) (Or.inl ⟨by rfl, ?_⟩) ?_ ?_
     rotate_left
     ·
      intro w'
      go_simp
      with_reducible rfl
     rotate_left
     ·
      simp only [Act.put, List.setIfInBounds_toArray, List.set_cons_zero, List.set_cons_succ, i64_w, i32_w]
      rfl
     refine done_ (done_of HT_.out (by kernel_rfl)) ?_
     try go_wp2
     refine bodyPost_ret (results_list (rs := [.cell 2 39, .cell 3 44, .tmp 4]) rfl (by simp) (.cell gb428 39 #[.slice Ao38 t438.length co38, .bool false] (0, 0) _ rfl (by (with_reducible repeat (first | refine blk_drewN ?_ _ | refine blk_drew ?_ | refine blk_alloc ?_ _)); refine blk_far ?_ NB428_429.out _; (with_reducible repeat (first | refine blk_drewN ?_ _ | refine blk_drew ?_ | refine blk_alloc ?_ _)); refine blk_far ?_ NB428_429.out _; (with_reducible repeat (first | refine blk_drewN ?_ _ | refine blk_drew ?_ | refine blk_alloc ?_ _)); refine blk_far ?_ NB428_429.out _; (with_reducible repeat (first | refine blk_drewN ?_ _ | refine blk_drew ?_ | refine blk_alloc ?_ _)); refine blk_far ?_ NB428_429.out _; (with_reducible repeat (first | refine blk_drewN ?_ _ | refine blk_drew ?_ | refine blk_alloc ?_ _)); refine blk_put (cs := #[.slice Ao38 t438.length co38, .bool false]) ?_ 1 _ rfl; (with_reducible repeat (first | refine blk_drewN ?_ _ | refine blk_drew ?_ | refine blk_alloc ?_ _)); refine blk_put (cs := #[.slice none 0 0, .bool false]) ?_ 0 _ rfl; (with_reducible repeat (first | refine blk_drewN ?_ _ | refine blk_drew ?_ | refine blk_alloc ?_ _)); exact BK428.out) Try.underlying39 rfl (by kernel_rfl) (.cell gb429 44 #[.slice Ao42 t442.length co42, .int .i64 t445, .int .i64 t446, .string t447] (0, 0) _ rfl (by (with_reducible repeat (first | refine blk_drewN ?_ _ | refine blk_drew ?_ | refine blk_alloc ?_ _)); refine blk_put (cs := #[.slice Ao42 t442.length co42, .int .i64 t445, .int .i64 t446, .string (⟨#[]⟩ : ByteArray)]) ?_ 3 _ rfl; (with_reducible repeat (first | refine blk_drewN ?_ _ | refine blk_drew ?_ | refine blk_alloc ?_ _)); refine blk_put (cs := #[.slice Ao42 t442.length co42, .int .i64 t445, .int .i64 0, .string (⟨#[]⟩ : ByteArray)]) ?_ 2 _ rfl; (with_reducible repeat (first | refine blk_drewN ?_ _ | refine blk_drew ?_ | refine blk_alloc ?_ _)); refine blk_put (cs := #[.slice Ao42 t442.length co42, .int .i64 0, .int .i64 0, .string (⟨#[]⟩ : ByteArray)]) ?_ 1 _ rfl; (with_reducible repeat (first | refine blk_drewN ?_ _ | refine blk_drew ?_ | refine blk_alloc ?_ _)); refine blk_put (cs := #[.slice none 0 0, .int .i64 0, .int .i64 0, .string (⟨#[]⟩ : ByteArray)]) ?_ 0 _ rfl; (with_reducible repeat (first | refine blk_drewN ?_ _ | refine blk_drew ?_ | refine blk_alloc ?_ _)); refine blk_far ?_ NB429_428.out _; (with_reducible repeat (first | refine blk_drewN ?_ _ | refine blk_drew ?_ | refine blk_alloc ?_ _)); refine blk_far ?_ NB429_428.out _; (with_reducible repeat (first | refine blk_drewN ?_ _ | refine blk_drew ?_ | refine blk_alloc ?_ _)); exact BK429.out) Try.underlying44 rfl (by kernel_rfl) (.tmp .nil)))) rfl ?_
     exact ⟨_, _, by first | rfl | (simp [errW_none, errW_some] <;> rfl) | (simp [*, errW_none, errW_some] <;> rfl), by (with_reducible repeat (first | apply Kd.S_alloc | apply Kd.S_drewN | apply Kd.S_drew)); exact Kd.S_mono (Kd.S_far (p := ⟨gb429, 3, none⟩) (Kd.S_far (p := ⟨gb429, 2, none⟩) (Kd.S_far (p := ⟨gb429, 1, none⟩) (Kd.S_far (p := ⟨gb429, 0, none⟩) (Kd.S_far (p := ⟨gb428, 1, none⟩) (Kd.S_far (p := ⟨gb428, 0, none⟩) (Kd.S_mono (Kd.S_types HO440.out BK428.out (by decide)) (fun k_ hk => (⟨hk, hk.1.1.2⟩ : _ ∧ k_ ≠ gb429))) (fun _ hk => hk.1.2) (.slice Ao38 t438.length co38)) (fun _ hk => hk.1.2) (.bool false)) (fun _ hk => hk.2) (.slice Ao42 t442.length co42)) (fun _ hk => hk.2) (.int .i64 t445)) (fun _ hk => hk.2) (.int .i64 t446)) (fun _ hk => hk.2) (.string t447)) (fun _ hk => hk.1.1.2), by (with_reducible repeat (first | apply Kd.R_alloc | apply Kd.R_drewN | apply Kd.R_drew)); exact Kd.R_mono (Kd.R_far (p := ⟨gb429, 3, none⟩) (Kd.R_far (p := ⟨gb429, 2, none⟩) (Kd.R_far (p := ⟨gb429, 1, none⟩) (Kd.R_far (p := ⟨gb429, 0, none⟩) (Kd.R_far (p := ⟨gb428, 1, none⟩) (Kd.R_far (p := ⟨gb428, 0, none⟩) (Kd.R_types (Kd.R_types HO444.out BK428.out (by decide)) BK429.out (by decide)) (fun _ hk => hk.1.2) (.slice Ao38 t438.length co38)) (fun _ hk => hk.1.2) (.bool false)) (fun _ hk => hk.2) (.slice Ao42 t442.length co42)) (fun _ hk => hk.2) (.int .i64 t445)) (fun _ hk => hk.2) (.int .i64 t446)) (fun _ hk => hk.2) (.string t447)) (fun _ hk => trivial), by repeat (first | (with_reducible first | exact HB.out | apply below_alloc | apply pw_below_drewN | apply below_drew1 | refine below_set ?_ GE427.out | refine below_set ?_ GE428.out | refine below_set ?_ GE429.out) | exact HB.out)⟩
    ·
     rw [if_neg c27] at H
     exact absurd H (by simp)
   ·
    rw [if_neg c25] at H
    exact absurd H (by simp)

end Go.Proofs.Ytfholjcelnkleaa.Print
end
section
namespace Go.Proofs.Ytfholjcelnkleaa.Print
open Go.RowKit Go.Proofs.YtfholjcelnkleaaV.PrintWords Go.Proofs.YtfholjcelnkleaaV.PrintLast Go.Proofs.YtfholjcelnkleaaV.PrintMore
attribute [local go_sem] max2_int min2_int max_two min_two max_three min_three max_four min_four   -- for this text's walks alone
set_option linter.unusedVariables false
set_option linter.unusedSimpArgs false

/-! ### spec_Heard: function 35 -/
def spec_Heard.l0 : Nat → List (S44) → Int → List (S44) → Bool → Option ((List (S44)))
 | 0, _, _, _, _ => none
 | k + 1, x0, x6, x531000, x531001 => if x6 < (x0.length : Int) then (if 0 ≤ x6 then ((spec_Tell.f k x531000 x531001 ((rd_T44 x0 x6).f0) ((rd_T44 x0 x6).f1) ((rd_T44 x0 x6).f2) ((rd_T44 x0 x6).f3)).bind fun bt532 => (spec_Heard.l0 k x0 (wrap64 (x6 + 1)) bt532.1 bt532.2)) else (none)) else (if x531001 = true then (some (([] : List (S44)))) else ((spec_l4All.f k x531000).bind fun t540 => (some t540)))
def spec_Heard.f (k : Nat) (l0 : List (S44)) (l1_0 : List (S44)) (a1_1 : Bool) : Option ((List (S44))) := (spec_l9Copy.f k l1_0 a1_1).bind fun bt526 => (spec_Heard.l0 k l0 0 bt526.1 bt526.2)
theorem spec_Heard.mono_l : ∀ k, (∀ y0 y1 y2 y3, LeO (spec_Heard.l0 k y0 y1 y2 y3) (spec_Heard.l0 (k + 1) y0 y1 y2 y3))
 | 0 => fun _ _ _ _ r h => by simp [spec_Heard.l0] at h
 | k + 1 => by
  have ih0 := spec_Heard.mono_l k
  ·
   intro y0 y1 y2 y3
   unfold spec_Heard.l0
   repeat' first
   | (with_reducible exact ih0 _ _ _ _)
   | (with_reducible exact spec_Tell.mono _ _ _ _ _ _ _)
   | (with_reducible exact spec_l4All.mono _ _)
   | (with_reducible exact spec_l9Copy.mono _ _ _)
   | (with_reducible exact LeO.refl _)
   | (with_reducible exact LeO.none _)
   | (with_reducible refine LeO.ite ?_ ?_)
   | (with_reducible refine LeO.bind ?_ (fun _ => ?_))
   | exact ih0 _ _ _ _
   | exact spec_Tell.mono _ _ _ _ _ _ _
   | exact spec_l4All.mono _ _
   | exact spec_l9Copy.mono _ _ _
   | exact LeO.none _
   | refine LeO.ite ?_ ?_
   | refine LeO.bind ?_ (fun _ => ?_)
theorem spec_Heard.mono : ∀ a0 a1 a2 k, LeO (spec_Heard.f k a0 a1 a2) (spec_Heard.f (k + 1) a0 a1 a2) := by
 intro a0 a1 a2 k
 have ih0 := spec_Heard.mono_l k
 unfold spec_Heard.f
 repeat' first
   | (with_reducible exact ih0 _ _ _ _)
   | (with_reducible exact spec_Tell.mono _ _ _ _ _ _ _)
   | (with_reducible exact spec_l4All.mono _ _)
   | (with_reducible exact spec_l9Copy.mono _ _ _)
   | (with_reducible exact LeO.refl _)
   | (with_reducible exact LeO.none _)
   | (with_reducible refine LeO.ite ?_ ?_)
   | (with_reducible refine LeO.bind ?_ (fun _ => ?_))
   | exact ih0 _ _ _ _
   | exact spec_Tell.mono _ _ _ _ _ _ _
   | exact spec_l4All.mono _ _
   | exact spec_l9Copy.mono _ _ _
   | exact LeO.none _
   | refine LeO.ite ?_ ?_
   | refine LeO.bind ?_ (fun _ => ?_)
def spec_Heard.T5 : Bool × List (List Nat × List Nat) := (true, [([], []), ([], []), ([], []), ([1, 2], [1, 2]), ([3], [3]), ([0, 4], [0, 4]), ([], []), ([6, 5, 5, 0, 1, 2, 3, 4, 5, 6], [5, 6])])
def spec_Heard.B5 : List Nat := [0, 0, 0, 6, 14, 31, 0, 127]
theorem spec_Heard.tab5 : rtab .any (opsOf Try.f35 5) = spec_Heard.T5 := by kernel_rfl
theorem spec_Heard.bits5 : waitsOk spec_Heard.T5.2 spec_Heard.B5 = true := by kernel_rfl
set_option maxHeartbeats 8000000 in
set_option maxRecDepth 100000 in
theorem spec_Heard.calls (k : Nat) (A0 : Option Addr) (c0 : Nat) (l0 : List (S44)) (A1_0 : Option Addr) (c1_0 : Nat) (l1_0 : List (S44)) (a1_1 : Bool) (r : List (S44)) (w : World) (hr0 : Kd.C k44 w A0 l0.length l0) (hc0 : l0.length ≤ c0) (hr1_0 : Kd.C k44 w A1_0 l1_0.length l1_0) (hc1_0 : l1_0.length ≤ c1_0) (h : spec_Heard.f k l0 l1_0 a1_1 = some r) :
  Calls Try.prog 35 #[.slice A0 l0.length c0, .agg #[.slice A1_0 l1_0.length c1_0, .bool a1_1]] w fun e w' => ∃ v0_ : Value, e = .returned (v0_) ∧ Kd.S k44 44 w' w.heap.size (fun _ => True) v0_ r ∧ Below w.heap.size w w' := by
 have hu39 := Try.underlying39
 have hu44 := Try.underlying44
 have HR0 := Aside0.mk hr0
 have HC0 := Aside0.mk hc0
 clear hr0 hc0
 have HR1_0 := Aside0.mk hr1_0
 have HC1_0 := Aside0.mk hc1_0
 clear hr1_0 hc1_0
 have HB := Aside0.mk (Below.refl w.heap.size w)
 have H : ((spec_l9Copy.f k l1_0 a1_1).bind fun bt526 => (spec_Heard.l0 k l0 0 bt526.1 bt526.2)) = some r := h
 clear h
 replace H := Option.bind_eq_some_iff.mp H
 obtain ⟨⟨t526, t529⟩, A30, H⟩ := H
 replace H : (spec_Heard.l0 k l0 0 t526 t529) = some r := H
 have A3 := Aside0.mk A30
 clear A30
 have H' := Aside0.mk H
 clear H
 go_enter Try.func35, Try.ntmps35
 go_wp2_with (first | ((with_reducible refine gate_dst (N := 3) rfl ?_); refine box_event ?hg (N := 3) ?hd (cs := #[.slice A1_0 l1_0.length c1_0, .bool a1_1]) (t := 39) ?hr ?_; (case hd => rfl); (case hg => rfl); (case hr => first | (go_simp; done) | (go_simp; rfl)); intro gb525 hg w4 hbox hb; have n0_ := Aside0.mk (below_step (by repeat (first | (with_reducible first | exact HB.out | apply below_alloc | apply pw_below_drewN | apply below_drew1) | exact HB.out)) hb); have n1_ := Aside0.mk (hbox); have n2_ := Aside0.mk ((by rw [hg]; exact (below_size (by repeat (first | (with_reducible first | exact HB.out | apply below_alloc | apply pw_below_drewN | apply below_drew1) | exact HB.out))) : w.heap.size ≤ gb525)); have n3_ := Aside0.mk ((by rw [hg]; exact (below_size (by repeat (first | (with_reducible first | exact HB.out | apply below_alloc | apply pw_below_drewN | apply below_drew1) | exact HB.out))) : w.heap.size ≤ gb525)); clear HB; have HB := n0_; have BK525 := n1_; have GW525 := n2_; have GE525 := n3_; clear n0_ n1_ n2_ n3_; clear hb hbox hg; have hcz5_0 : w4.cell? ⟨gb525, 0, none⟩ = some (.slice A1_0 l1_0.length c1_0) := (blk_cell BK525.out 0).trans rfl; have hcz5_1 : w4.cell? ⟨gb525, 1, none⟩ = some (.bool a1_1) := (blk_cell BK525.out 1).trans rfl; have hfz5_0 := blk_frozen BK525.out 0; have hfz5_1 := blk_frozen BK525.out 1) | ((with_reducible refine gate_callee (f := 93) rfl ?_); refine goesL_ (some 9) rfl rfl Try.func93 (by kernel_rfl) rfl #[.agg #[.slice A1_0 l1_0.length c1_0, .bool a1_1]] rfl (by (try simp only [List.map_toArray, List.map_cons, List.map_nil]); first | done | rfl | (simp only [List.length_drop, List.length_take]; rfl)) ?_; (with_reducible refine (spec_l9Copy.calls k _ _ l1_0 a1_1 t526 t529 _ ?side1 ?side2 A3.out).mono ?_); (case side1 => repeat (first | exact (Kd.C_below HR1_0.out HB.out) | (with_reducible refine Kd.C_alloc ?_ _) | (with_reducible refine Kd.C_drewN ?_ _) | (with_reducible refine Kd.C_drew ?_))); (case side2 => exact HC1_0.out); rintro e w6 ⟨v527, rfl, ho0, hb⟩; refine ⟨_, rfl, ?_⟩; have n0_ := Aside0.mk (Kd.S_lower ho0 (below_size (by repeat (first | (with_reducible first | exact HB.out | apply below_alloc | apply pw_below_drewN | apply below_drew1 | refine below_set ?_ GE525.out) | exact HB.out)))); have n1_ := Aside0.mk (blk_below (g := gb525) (o := .cells #[.slice A1_0 l1_0.length c1_0, .bool a1_1] 39 (0, 0)) (by (with_reducible repeat (first | refine blk_drewN ?_ _ | refine blk_drew ?_ | refine blk_alloc ?_ _)); exact BK525.out) hb); have n2_ := Aside0.mk (below_step (by repeat (first | (with_reducible first | exact HB.out | apply below_alloc | apply pw_below_drewN | apply below_drew1 | refine below_set ?_ GE525.out) | exact HB.out)) hb); clear BK525; clear HB; have HO528 := n0_; have BK525 := n1_; have HB := n2_; clear n0_ n1_ n2_; (try clear hb); (try clear hb2); (try clear hk); (try clear hi); (try clear ho0)) | ((with_reducible refine gate_dst (N := 5) rfl ?_); refine box_event ?hg (N := 5) ?hd (cs := #[.slice none 0 0, .bool false]) (t := 39) ?hr ?_; (case hd => rfl); (case hg => rfl); (case hr => first | (go_simp; done) | (go_simp; rfl)); intro gb530 hg w7 hbox hb; have n0_ := Aside0.mk (Kd.S_below (by (with_reducible repeat (first | apply Kd.S_alloc | apply Kd.S_drewN | apply Kd.S_drew)); exact HO528.out) hb); have n1_ := Aside0.mk (blk_below (g := gb525) (o := .cells #[.slice A1_0 l1_0.length c1_0, .bool a1_1] 39 (0, 0)) (by (with_reducible repeat (first | refine blk_drewN ?_ _ | refine blk_drew ?_ | refine blk_alloc ?_ _)); exact BK525.out) hb); have n2_ := Aside0.mk (below_step (by repeat (first | (with_reducible first | exact HB.out | apply below_alloc | apply pw_below_drewN | apply below_drew1 | refine below_set ?_ GE525.out) | exact HB.out)) hb); have n3_ := Aside0.mk (hbox); have n4_ := Aside0.mk ((by rw [hg]; exact (below_size (by repeat (first | (with_reducible first | exact HB.out | apply below_alloc | apply pw_below_drewN | apply below_drew1 | refine below_set ?_ GE525.out) | exact HB.out))) : w.heap.size ≤ gb530)); have n5_ := Aside0.mk ((by rw [hg]; exact (below_size (by repeat (first | (with_reducible first | exact HB.out | apply below_alloc | apply pw_below_drewN | apply below_drew1 | refine below_set ?_ GE525.out) | exact HB.out))) : w.heap.size ≤ gb530)); have n6_ := Aside0.mk ((by rw [hg]; exact Nat.ne_of_lt (blk_lt (g := gb525) (o := .cells #[.slice A1_0 l1_0.length c1_0, .bool a1_1] 39 (0, 0)) (by (with_reducible repeat (first | refine blk_drewN ?_ _ | refine blk_drew ?_ | refine blk_alloc ?_ _)); exact BK525.out)) : gb525 ≠ gb530)); have n7_ := Aside0.mk ((by rw [hg]; exact Nat.ne_of_gt (blk_lt (g := gb525) (o := .cells #[.slice A1_0 l1_0.length c1_0, .bool a1_1] 39 (0, 0)) (by (with_reducible repeat (first | refine blk_drewN ?_ _ | refine blk_drew ?_ | refine blk_alloc ?_ _)); exact BK525.out)) : gb530 ≠ gb525)); clear HO528; clear BK525; clear HB; have HO528 := n0_; have BK525 := n1_; have HB := n2_; have BK530 := n3_; have GW530 := n4_; have GE530 := n5_; have NB525_530 := n6_; have NB530_525 := n7_; clear n0_ n1_ n2_ n3_ n4_ n5_ n6_ n7_; clear hb hbox hg; obtain ⟨Ao8, co8, eo8⟩ := Kd.S_slice HO528.out; subst eo8; have hnb9 := NB530_525.out; have hnc9 := NB525_530.out; have hcz10_0 : w7.cell? ⟨gb530, 0, none⟩ = some (.slice none 0 0) := (blk_cell BK530.out 0).trans rfl; have hcz10_1 : w7.cell? ⟨gb530, 1, none⟩ = some (.bool false) := (blk_cell BK530.out 1).trans rfl; have hfz10_0 := blk_frozen BK530.out 0; have hfz10_1 := blk_frozen BK530.out 1))
 go_loopg [6] k (fun kq v6 w' => ∃ (x6_1 : Int) (x531000_1 : List (S44)) (x531001_1 : Bool) (u531000 : Value), v6 = .int .i64 x6_1 ∧ Aside0 (spec_Heard.l0 kq l0 x6_1 x531000_1 x531001_1 = some r) ∧ Aside0 (kq ≤ k) ∧ Aside0 (Kd.S k44 44 w' w.heap.size (fun _ => True) u531000 x531000_1) ∧ Aside0 (w'.heap[gb525]? = some (.cells #[(.slice A1_0 l1_0.length c1_0), .bool a1_1] 39 (0, 0))) ∧ Aside0 (w'.heap[gb530]? = some (.cells #[u531000, .bool x531001_1] 39 (0, 0))) ∧ Aside0 (Below w.heap.size w w'))
 case atStart => exact ⟨(0), (t526), (t529), (.slice Ao8 t526.length co8), (by first | rfl | (simp; done) | (simp [*]; done)), H', ⟨Nat.le_refl _⟩, ⟨by (with_reducible repeat (first | apply Kd.S_alloc | apply Kd.S_drewN | apply Kd.S_drew)); exact Kd.S_mono (Kd.S_far (p := ⟨gb530, 1, none⟩) (Kd.S_far (p := ⟨gb530, 0, none⟩) (Kd.S_types HO528.out BK530.out (by decide)) (fun _ hk => hk.2) (.slice Ao8 t526.length co8)) (fun _ hk => hk.2) (.bool t529)) (fun _ hk => trivial)⟩, ⟨by (with_reducible repeat (first | refine blk_drewN ?_ _ | refine blk_drew ?_ | refine blk_alloc ?_ _)); refine blk_far ?_ NB525_530.out _; (with_reducible repeat (first | refine blk_drewN ?_ _ | refine blk_drew ?_ | refine blk_alloc ?_ _)); refine blk_far ?_ NB525_530.out _; (with_reducible repeat (first | refine blk_drewN ?_ _ | refine blk_drew ?_ | refine blk_alloc ?_ _)); exact BK525.out⟩, ⟨by (with_reducible repeat (first | refine blk_drewN ?_ _ | refine blk_drew ?_ | refine blk_alloc ?_ _)); refine blk_put (cs := #[.slice Ao8 t526.length co8, .bool false]) ?_ 1 _ rfl; (with_reducible repeat (first | refine blk_drewN ?_ _ | refine blk_drew ?_ | refine blk_alloc ?_ _)); refine blk_put (cs := #[.slice none 0 0, .bool false]) ?_ 0 _ rfl; (with_reducible repeat (first | refine blk_drewN ?_ _ | refine blk_drew ?_ | refine blk_alloc ?_ _)); exact BK530.out⟩, ⟨by repeat (first | (with_reducible first | exact HB.out | apply below_alloc | apply pw_below_drewN | apply below_drew1 | refine below_set ?_ GE525.out | refine below_set ?_ GE530.out) | exact HB.out)⟩⟩
 case round =>
  clear H'
  try clear c1
  try clear p2
  try clear c3
  try clear c9
  try clear hcz10_0
  try clear hcz10_1
  try clear hcz5_0
  try clear hcz5_1
  try clear hfz10_0
  try clear hfz10_1
  try clear hfz5_0
  try clear hfz5_1
  obtain ⟨x6_1, x531000_1, x531001_1, u531000, rfl, HA, HK1, HO_531000, BK525, BK530, HB⟩ := hrel
  cases gk with
  | zero => exact absurd HA.out (by simp [spec_Heard.l0])
  | succ k1 =>
   have H := HA.out
   clear HA
   simp only [spec_Heard.l0] at H
   by_cases c11 : x6_1 < (l0.length : Int)
   ·
    rw [if_pos c11] at H
    have c11b0 : decide (x6_1 < (l0.length : Int)) = true := decide_eq_true c11
    clear c11
    by_cases c12 : 0 ≤ x6_1
    ·
     rw [if_pos c12] at H
     have c12b0 : decide (0 ≤ x6_1) = true := decide_eq_true c12
     clear c12
     replace H := Option.bind_eq_some_iff.mp H
     obtain ⟨⟨t532, t535⟩, A130, H⟩ := H
     replace H : (spec_Heard.l0 k1 l0 (wrap64 (x6_1 + 1)) t532 t535) = some r := H
     have A13 := Aside0.mk A130
     clear A130
     have H' := Aside0.mk H
     clear H
     obtain ⟨Ao14, co14, eo14⟩ := Kd.S_slice HO_531000.out
     subst eo14
     try go_wp2
     have n0_ := Aside0.mk (Kd.S_drew HO_531000.out)
     have n1_ := Aside0.mk (blk_drew BK525.out)
     have n2_ := Aside0.mk (blk_drew BK530.out)
     have n3_ := Aside0.mk (below_drew1 HB.out)
     clear HO_531000
     clear BK525
     clear BK530
     clear HB
     have HO_531000 := n0_
     have BK525 := n1_
     have BK530 := n2_
     have HB := n3_
     clear n0_ n1_ n2_ n3_
     have p531 : 0 ≤ (x6_1 : Int) := of_decide_eq_true (by first | (with_reducible assumption) | assumption)
     have q531 : x6_1 < (l0.length : Int) := of_decide_eq_true (by first | (with_reducible assumption) | assumption)
     obtain ⟨ad531, A531_0, c531_0, e531, hx531_0, hx531_1, hx531_2, hx531_3, hl531_0, hi531_0⟩ := at_T44 HR0.out x6_1 p531 q531
     have hw531_3 := hx531_3
     have hw531_2 := hx531_2
     have hw531_1 := hx531_1
     have hw531_0 := hx531_0
     cases e531
     replace hx531_0 := (HB.out.cell (World.block_lt_of_cell? w _ hx531_0)).trans hx531_0
     replace hx531_1 := (HB.out.cell (World.block_lt_of_cell? w _ hx531_1)).trans hx531_1
     replace hx531_2 := (HB.out.cell (World.block_lt_of_cell? w _ hx531_2)).trans hx531_2
     replace hx531_3 := (HB.out.cell (World.block_lt_of_cell? w _ hx531_3)).trans hx531_3
     have HR531_0 := Aside0.mk hi531_0
     have HC531_0 := Aside0.mk hl531_0
     clear hi531_0 hl531_0
     replace p531 := eq_true p531
     replace q531 := eq_true q531
     refine start_ (n := 8) (S := fun w' => w'.cell? ⟨gb530, 0, none⟩ = some (.slice Ao14 x531000_1.length co14) ∧ w'.cell? ⟨gb530, 1, none⟩ = some (.bool x531001_1) ∧ w'.cell? (ad531.add ((x6_1).toNat * 4)) = some (.slice A531_0 ((rd_T44 l0 x6_1).f0).length c531_0) ∧ w'.cell? ⟨(ad531.add ((x6_1).toNat * 4)).block, (ad531.add ((x6_1).toNat * 4)).off + 1, none⟩ = some (.int .i64 ((rd_T44 l0 x6_1).f1)) ∧ w'.cell? ⟨(ad531.add ((x6_1).toNat * 4)).block, (ad531.add ((x6_1).toNat * 4)).off + 2, none⟩ = some (.int .i64 ((rd_T44 l0 x6_1).f2)) ∧ w'.cell? ⟨(ad531.add ((x6_1).toNat * 4)).block, (ad531.add ((x6_1).toNat * 4)).off + 3, none⟩ = some (.string ((rd_T44 l0 x6_1).f3))) (ds := []) #[false, false, false, false, false, false, false, false] (by kernel_rfl) rfl rfl ⟨(blk_cell BK530.out 0).trans rfl, (blk_cell BK530.out 1).trans rfl, ((HB.out.cell (World.block_lt_of_cell? w _ hw531_0)).trans hw531_0), ((HB.out.cell (World.block_lt_of_cell? w _ hw531_1)).trans hw531_1), ((HB.out.cell (World.block_lt_of_cell? w _ hw531_2)).trans hw531_2), ((HB.out.cell (World.block_lt_of_cell? w _ hw531_3)).trans hw531_3)⟩ (fun hHeld => ?_); refine with_tabW spec_Heard.tab5 spec_Heard.bits5 (fun HT_ HW_ => ?_)
     generalize wr.drew = w15 at HO_531000 BK525 BK530 HB HR531_0 hx531_0 hx531_1 hx531_2 hx531_3 hHeld ⊢
     refine pure_ (i := 1) (N := some 17) (v := ?_) (a' := ?_) #[false, true, false, false, false, false, false, false] rfl rfl (any_of HT_.out (by kernel_rfl)) (fun _ _ _ h => h) (Or.inl ⟨by rfl, ?_⟩) ?_ ?_
     rotate_left
     ·
      intro w'
      go_simp
      with_reducible rfl
     rotate_left
     ·
      simp only [Act.put, List.setIfInBounds_toArray, List.set_cons_zero, List.set_cons_succ, i64_w, i32_w]
      rfl
     refine pure_ (i := 2) (N := some 18) (v := ?_) (a' := ?_) #[false, true, true, false, false, false, false, false] rfl rfl (any_of HT_.out (by kernel_rfl)) (fun _ _ _ h => h) (Or.inl ⟨by rfl, ?_⟩) ?_ ?_
     rotate_left
     ·
      intro w'
      go_simp
      with_reducible rfl
     rotate_left
     ·
      simp only [Act.put, List.setIfInBounds_toArray, List.set_cons_zero, List.set_cons_succ, i64_w, i32_w]
      rfl
     refine pure_ (i := 3) (N := some 19) (v := ?_) (a' := ?_) #[false, true, true, true, false, false, false, false] rfl rfl (any_of HT_.out (by kernel_rfl)) (fun _ _ _ h => h) (Or.inl ⟨by rfl, ?_⟩) ?_ ?_
     rotate_left
     ·
      intro w'
      go_simp
      with_reducible rfl
     rotate_left
     ·
      simp only [Act.put, List.setIfInBounds_toArray, List.set_cons_zero, List.set_cons_succ, i64_w, i32_w]
      rfl
     refine take_ (i := 0) (N := some 16) (v := ?_) (a' := ?_) #[true, true, true, true, false, false, false, false] rfl rfl (take_ofW HT_.out HW_.out (by kernel_rfl)) (fun _ _ _ h => h) (Or.inl ⟨by rfl, ?_⟩) hHeld ?_ ?_
     rotate_left
     ·
      rintro w' ⟨s0, s1, s2, s3, s4, s5⟩
      go_simp
      with_reducible rfl
     rotate_left
     ·
      simp only [Act.put, List.setIfInBounds_toArray, List.set_cons_zero, List.set_cons_succ, i64_w, i32_w]
      rfl
     refine take_ (i := 4) (N := some 20) (v := ?_) (a' := ?_) #[true, true, true, true, true, false, false, false] rfl rfl (take_ofW HT_.out HW_.out (by kernel_rfl)) (fun _ _ _ h => h) (Or.inl ⟨by rfl, ?_⟩) hHeld ?_ ?_
     rotate_left
     ·
      rintro w' ⟨s0, s1, s2, s3, s4, s5⟩
      go_simp
      with_reducible rfl
     rotate_left
     ·
      simp only [Act.put, List.setIfInBounds_toArray, List.set_cons_zero, List.set_cons_succ, i64_w, i32_w]
      rfl
     refine join_ (σ := Value × Nat) 1 #[true, true, true, true, true, true, true, false] (fun s_ => [(21, .agg #[s_.1, .bool t535]), (7, .pointer (some ⟨s_.2, 0, none⟩))]) (fun s_ w' => (w'.cell? ⟨gb530, 0, none⟩ = some (.slice Ao14 x531000_1.length co14) ∧ w'.cell? ⟨gb530, 1, none⟩ = some (.bool x531001_1) ∧ w'.cell? (ad531.add ((x6_1).toNat * 4)) = some (.slice A531_0 ((rd_T44 l0 x6_1).f0).length c531_0) ∧ w'.cell? ⟨(ad531.add ((x6_1).toNat * 4)).block, (ad531.add ((x6_1).toNat * 4)).off + 1, none⟩ = some (.int .i64 ((rd_T44 l0 x6_1).f1)) ∧ w'.cell? ⟨(ad531.add ((x6_1).toNat * 4)).block, (ad531.add ((x6_1).toNat * 4)).off + 2, none⟩ = some (.int .i64 ((rd_T44 l0 x6_1).f2)) ∧ w'.cell? ⟨(ad531.add ((x6_1).toNat * 4)).block, (ad531.add ((x6_1).toNat * 4)).off + 3, none⟩ = some (.string ((rd_T44 l0 x6_1).f3))) ∧ (Kd.S k44 44 w' w.heap.size (fun k_ => some k_ ≠ (.slice Ao14 x531000_1.length co14 : Value).ownBlock) s_.1 t532) ∧ (Kd.S k44 44 w' w.heap.size (fun k_ => some k_ ≠ (s_.1 : Value).ownBlock) (.slice Ao14 x531000_1.length co14) x531000_1) ∧ (w'.heap[gb525]? = some (.cells #[.slice A1_0 l1_0.length c1_0, .bool a1_1] 39 (0, 0))) ∧ (w'.heap[gb530]? = some (.cells #[.slice Ao14 x531000_1.length co14, .bool x531001_1] 39 (0, 0))) ∧ (w'.heap[s_.2]? = some (.cells #[.slice none 0 0, .bool false] 39 (0, 0))) ∧ (w.heap.size ≤ s_.2) ∧ (w.heap.size ≤ s_.2) ∧ (gb525 ≠ s_.2) ∧ (s_.2 ≠ gb525) ∧ (gb530 ≠ s_.2) ∧ (s_.2 ≠ gb530) ∧ (Below w.heap.size w w')) ?_ ?_
     rotate_left
     ·
      intro hCont
      refine two_ (i := 5) (j := 6) (Ni := some 21) (Nj := some 7) #[true, true, true, true, true, true, false, false] #[true, true, true, true, true, false, true, false] rfl rfl rfl rfl (two_of HT_.out (by kernel_rfl)) (by decide) (by decide) (fun K hK => ?_) (fun K hK => ?_)
      ·
       skip
       refine goes_ Try.func22 (by kernel_rfl) rfl #[.agg #[.slice Ao14 x531000_1.length co14, .bool x531001_1], .agg #[.slice A531_0 ((rd_T44 l0 x6_1).f0).length c531_0, .int .i64 ((rd_T44 l0 x6_1).f1), .int .i64 ((rd_T44 l0 x6_1).f2), .string ((rd_T44 l0 x6_1).f3)]] (by rfl) rfl rfl (by (try simp only [List.map_toArray, List.map_cons, List.map_nil]); first | done | rfl | (simp only [List.length_drop, List.length_take]; rfl)) ?_
       with_reducible refine (spec_Tell.calls k1 _ _ x531000_1 x531001_1 _ _ ((rd_T44 l0 x6_1).f0) ((rd_T44 l0 x6_1).f1) ((rd_T44 l0 x6_1).f2) ((rd_T44 l0 x6_1).f3) t532 t535 _ ?side1 ?side2 ?side3 ?side4 A13.out).mono ?_
       (case side1 => repeat (first | exact (Kd.S_reads' HO_531000.out).2.2 | (with_reducible refine Kd.C_alloc ?_ _) | (with_reducible refine Kd.C_drewN ?_ _) | (with_reducible refine Kd.C_drew ?_)))
       (case side2 => exact (Kd.S_reads' HO_531000.out).2.1)
       (case side3 => repeat (first | exact (Kd.C_below HR531_0.out HB.out) | (with_reducible refine Kd.C_alloc ?_ _) | (with_reducible refine Kd.C_drewN ?_ _) | (with_reducible refine Kd.C_drew ?_)))
       (case side4 => exact HC531_0.out)
       rintro e w16 ⟨v533, rfl, ho0, hb⟩
       refine ⟨_, rfl, ?_⟩
       have n0_ := Aside0.mk (Kd.S_elder' (by (with_reducible repeat (first | apply Kd.S_alloc | apply Kd.S_drewN | apply Kd.S_drew)); exact HO_531000.out) (Kd.S_base ho0) hb)
       have n1_ := Aside0.mk (Kd.S_lower (Kd.S_new' ho0 (Kd.S_lt (by (with_reducible repeat (first | apply Kd.S_alloc | apply Kd.S_drewN | apply Kd.S_drew)); exact HO_531000.out))) (below_size (by repeat (first | (with_reducible first | exact HB.out | apply below_alloc | apply pw_below_drewN | apply below_drew1 | refine below_set ?_ GE525.out | refine below_set ?_ GE530.out) | exact HB.out))))
       have n2_ := Aside0.mk (blk_below (g := gb525) (o := .cells #[.slice A1_0 l1_0.length c1_0, .bool a1_1] 39 (0, 0)) (by (with_reducible repeat (first | refine blk_drewN ?_ _ | refine blk_drew ?_ | refine blk_alloc ?_ _)); exact BK525.out) hb)
       have n3_ := Aside0.mk (blk_below (g := gb530) (o := .cells #[.slice Ao14 x531000_1.length co14, .bool x531001_1] 39 (0, 0)) (by (with_reducible repeat (first | refine blk_drewN ?_ _ | refine blk_drew ?_ | refine blk_alloc ?_ _)); exact BK530.out) hb)
       have n4_ := Aside0.mk (below_step (by repeat (first | (with_reducible first | exact HB.out | apply below_alloc | apply pw_below_drewN | apply below_drew1 | refine below_set ?_ GE525.out | refine below_set ?_ GE530.out) | exact HB.out)) hb)
       clear HO_531000
       clear BK525
       clear BK530
       clear HB
       have HO_531000 := n0_
       have HO534 := n1_
       have BK525 := n2_
       have BK530 := n3_
       have HB := n4_
       clear n0_ n1_ n2_ n3_ n4_
       (try clear hb)
       (try clear hb2)
       (try clear hk)
       (try clear hi)
       (try clear ho0)
       refine hK.out _ _ ⟨(blk_cell BK530.out 0).trans rfl, (blk_cell BK530.out 1).trans rfl, ((HB.out.cell (World.block_lt_of_cell? w _ hw531_0)).trans hw531_0), ((HB.out.cell (World.block_lt_of_cell? w _ hw531_1)).trans hw531_1), ((HB.out.cell (World.block_lt_of_cell? w _ hw531_2)).trans hw531_2), ((HB.out.cell (World.block_lt_of_cell? w _ hw531_3)).trans hw531_3)⟩ (fun hHeld => ?_)
       clear hK K
       refine norm_ (a' := ?_) ?_ ?_
       rotate_left
       ·
        show Act.put _ (some 21) _ = _
        simp only [Act.put, List.setIfInBounds_toArray, List.set_cons_zero, List.set_cons_succ, i64_w, i32_w]
        rfl
       refine one_ (i := 6) (N := some 7) #[true, true, true, true, true, true, true, false] rfl rfl (one_of HT_.out (by kernel_rfl)) (by decide) (fun K hK => ?_)
       refine box_step ?hg (N := 7) ?hd (cs := #[.slice none 0 0, .bool false]) (t := 39) ?hr ?_; (case hd => rfl); (case hg => rfl); (case hr => first | (go_simp; done) | (go_simp; rfl))
       intro gb536 hg w17 hbox hb
       have n0_ := Aside0.mk (Kd.S_below (by (with_reducible repeat (first | apply Kd.S_alloc | apply Kd.S_drewN | apply Kd.S_drew)); exact HO_531000.out) hb)
       have n1_ := Aside0.mk (Kd.S_below (by (with_reducible repeat (first | apply Kd.S_alloc | apply Kd.S_drewN | apply Kd.S_drew)); exact HO534.out) hb)
       have n2_ := Aside0.mk (blk_below (g := gb525) (o := .cells #[.slice A1_0 l1_0.length c1_0, .bool a1_1] 39 (0, 0)) (by (with_reducible repeat (first | refine blk_drewN ?_ _ | refine blk_drew ?_ | refine blk_alloc ?_ _)); exact BK525.out) hb)
       have n3_ := Aside0.mk (blk_below (g := gb530) (o := .cells #[.slice Ao14 x531000_1.length co14, .bool x531001_1] 39 (0, 0)) (by (with_reducible repeat (first | refine blk_drewN ?_ _ | refine blk_drew ?_ | refine blk_alloc ?_ _)); exact BK530.out) hb)
       have n4_ := Aside0.mk (below_step (by repeat (first | (with_reducible first | exact HB.out | apply below_alloc | apply pw_below_drewN | apply below_drew1 | refine below_set ?_ GE525.out | refine below_set ?_ GE530.out) | exact HB.out)) hb)
       have n5_ := Aside0.mk (hbox)
       have n6_ := Aside0.mk ((by rw [hg]; exact (below_size (by repeat (first | (with_reducible first | exact HB.out | apply below_alloc | apply pw_below_drewN | apply below_drew1 | refine below_set ?_ GE525.out | refine below_set ?_ GE530.out) | exact HB.out))) : w.heap.size ≤ gb536))
       have n7_ := Aside0.mk ((by rw [hg]; exact (below_size (by repeat (first | (with_reducible first | exact HB.out | apply below_alloc | apply pw_below_drewN | apply below_drew1 | refine below_set ?_ GE525.out | refine below_set ?_ GE530.out) | exact HB.out))) : w.heap.size ≤ gb536))
       have n8_ := Aside0.mk ((by rw [hg]; exact Nat.ne_of_lt (blk_lt (g := gb525) (o := .cells #[.slice A1_0 l1_0.length c1_0, .bool a1_1] 39 (0, 0)) (by (with_reducible repeat (first | refine blk_drewN ?_ _ | refine blk_drew ?_ | refine blk_alloc ?_ _)); exact BK525.out)) : gb525 ≠ gb536))
       have n9_ := Aside0.mk ((by rw [hg]; exact Nat.ne_of_gt (blk_lt (g := gb525) (o := .cells #[.slice A1_0 l1_0.length c1_0, .bool a1_1] 39 (0, 0)) (by (with_reducible repeat (first | refine blk_drewN ?_ _ | refine blk_drew ?_ | refine blk_alloc ?_ _)); exact BK525.out)) : gb536 ≠ gb525))
       have n10_ := Aside0.mk ((by rw [hg]; exact Nat.ne_of_lt (blk_lt (g := gb530) (o := .cells #[.slice Ao14 x531000_1.length co14, .bool x531001_1] 39 (0, 0)) (by (with_reducible repeat (first | refine blk_drewN ?_ _ | refine blk_drew ?_ | refine blk_alloc ?_ _)); exact BK530.out)) : gb530 ≠ gb536))
       have n11_ := Aside0.mk ((by rw [hg]; exact Nat.ne_of_gt (blk_lt (g := gb530) (o := .cells #[.slice Ao14 x531000_1.length co14, .bool x531001_1] 39 (0, 0)) (by (with_reducible repeat (first | refine blk_drewN ?_ _ | refine blk_drew ?_ | refine blk_alloc ?_ _)); exact BK530.out)) : gb536 ≠ gb530))
       clear HO_531000
       clear HO534
       clear BK525
       clear BK530
       clear HB
       have HO_531000 := n0_
       have HO534 := n1_
       have BK525 := n2_
       have BK530 := n3_
       have HB := n4_
       have BK536 := n5_
       have GW536 := n6_
       have GE536 := n7_
       have NB525_536 := n8_
       have NB536_525 := n9_
       have NB530_536 := n10_
       have NB536_530 := n11_
       clear n0_ n1_ n2_ n3_ n4_ n5_ n6_ n7_ n8_ n9_ n10_ n11_
       clear hb hbox hg
       refine hK.out _ _ ⟨(blk_cell BK530.out 0).trans rfl, (blk_cell BK530.out 1).trans rfl, ((HB.out.cell (World.block_lt_of_cell? w _ hw531_0)).trans hw531_0), ((HB.out.cell (World.block_lt_of_cell? w _ hw531_1)).trans hw531_1), ((HB.out.cell (World.block_lt_of_cell? w _ hw531_2)).trans hw531_2), ((HB.out.cell (World.block_lt_of_cell? w _ hw531_3)).trans hw531_3)⟩ (fun hHeld => ?_)
       clear hK K
       refine norm_ (a' := ?_) ?_ ?_
       rotate_left
       ·
        show Act.put _ (some 7) _ = _
        simp only [Act.put, List.setIfInBounds_toArray, List.set_cons_zero, List.set_cons_succ, i64_w, i32_w]
        rfl
       exact norm_ (by simp only [putAll, Act.put, List.setIfInBounds_toArray, List.set_cons_zero, List.set_cons_succ]) (hCont (v533, gb536) _ ⟨hHeld, (by (with_reducible repeat (first | apply Kd.S_alloc | apply Kd.S_drewN | apply Kd.S_drew)); exact Kd.S_mono HO534.out (fun _ hk => hk.2)), (by (with_reducible repeat (first | apply Kd.S_alloc | apply Kd.S_drewN | apply Kd.S_drew)); exact Kd.S_mono HO_531000.out (fun _ hk => hk.2)), (by (with_reducible repeat (first | refine blk_drewN ?_ _ | refine blk_drew ?_ | refine blk_alloc ?_ _)); exact BK525.out), (by (with_reducible repeat (first | refine blk_drewN ?_ _ | refine blk_drew ?_ | refine blk_alloc ?_ _)); exact BK530.out), (by (with_reducible repeat (first | refine blk_drewN ?_ _ | refine blk_drew ?_ | refine blk_alloc ?_ _)); exact BK536.out), GW536.out, GE536.out, NB525_536.out, NB536_525.out, NB530_536.out, NB536_530.out, (by repeat (first | (with_reducible first | exact HB.out | apply below_alloc | apply pw_below_drewN | apply below_drew1 | refine below_set ?_ GE525.out | refine below_set ?_ GE530.out | refine below_set ?_ GE536.out) | exact HB.out))⟩)
      ·
       skip
       refine box_step ?hg (N := 7) ?hd (cs := #[.slice none 0 0, .bool false]) (t := 39) ?hr ?_; (case hd => rfl); (case hg => rfl); (case hr => first | (go_simp; done) | (go_simp; rfl))
       intro gb536 hg w16 hbox hb
       have n0_ := Aside0.mk (Kd.S_below (by (with_reducible repeat (first | apply Kd.S_alloc | apply Kd.S_drewN | apply Kd.S_drew)); exact HO_531000.out) hb)
       have n1_ := Aside0.mk (blk_below (g := gb525) (o := .cells #[.slice A1_0 l1_0.length c1_0, .bool a1_1] 39 (0, 0)) (by (with_reducible repeat (first | refine blk_drewN ?_ _ | refine blk_drew ?_ | refine blk_alloc ?_ _)); exact BK525.out) hb)
       have n2_ := Aside0.mk (blk_below (g := gb530) (o := .cells #[.slice Ao14 x531000_1.length co14, .bool x531001_1] 39 (0, 0)) (by (with_reducible repeat (first | refine blk_drewN ?_ _ | refine blk_drew ?_ | refine blk_alloc ?_ _)); exact BK530.out) hb)
       have n3_ := Aside0.mk (below_step (by repeat (first | (with_reducible first | exact HB.out | apply below_alloc | apply pw_below_drewN | apply below_drew1 | refine below_set ?_ GE525.out | refine below_set ?_ GE530.out) | exact HB.out)) hb)
       have n4_ := Aside0.mk (hbox)
       have n5_ := Aside0.mk ((by rw [hg]; exact (below_size (by repeat (first | (with_reducible first | exact HB.out | apply below_alloc | apply pw_below_drewN | apply below_drew1 | refine below_set ?_ GE525.out | refine below_set ?_ GE530.out) | exact HB.out))) : w.heap.size ≤ gb536))
       have n6_ := Aside0.mk ((by rw [hg]; exact (below_size (by repeat (first | (with_reducible first | exact HB.out | apply below_alloc | apply pw_below_drewN | apply below_drew1 | refine below_set ?_ GE525.out | refine below_set ?_ GE530.out) | exact HB.out))) : w.heap.size ≤ gb536))
       have n7_ := Aside0.mk ((by rw [hg]; exact Nat.ne_of_lt (blk_lt (g := gb525) (o := .cells #[.slice A1_0 l1_0.length c1_0, .bool a1_1] 39 (0, 0)) (by (with_reducible repeat (first | refine blk_drewN ?_ _ | refine blk_drew ?_ | refine blk_alloc ?_ _)); exact BK525.out)) : gb525 ≠ gb536))
       have n8_ := Aside0.mk ((by rw [hg]; exact Nat.ne_of_gt (blk_lt (g := gb525) (o := .cells #[.slice A1_0 l1_0.length c1_0, .bool a1_1] 39 (0, 0)) (by (with_reducible repeat (first | refine blk_drewN ?_ _ | refine blk_drew ?_ | refine blk_alloc ?_ _)); exact BK525.out)) : gb536 ≠ gb525))
       have n9_ := Aside0.mk ((by rw [hg]; exact Nat.ne_of_lt (blk_lt (g := gb530) (o := .cells #[.slice Ao14 x531000_1.length co14, .bool x531001_1] 39 (0, 0)) (by (with_reducible repeat (first | refine blk_drewN ?_ _ | refine blk_drew ?_ | refine blk_alloc ?_ _)); exact BK530.out)) : gb530 ≠ gb536))
       have n10_ := Aside0.mk ((by rw [hg]; exact Nat.ne_of_gt (blk_lt (g := gb530) (o := .cells #[.slice Ao14 x531000_1.length co14, .bool x531001_1] 39 (0, 0)) (by (with_reducible repeat (first | refine blk_drewN ?_ _ | refine blk_drew ?_ | refine blk_alloc ?_ _)); exact BK530.out)) : gb536 ≠ gb530))
       clear HO_531000
       clear BK525
       clear BK530
       clear HB
       have HO_531000 := n0_
       have BK525 := n1_
       have BK530 := n2_
       have HB := n3_
       have BK536 := n4_
       have GW536 := n5_
       have GE536 := n6_
       have NB525_536 := n7_
       have NB536_525 := n8_
       have NB530_536 := n9_
       have NB536_530 := n10_
       clear n0_ n1_ n2_ n3_ n4_ n5_ n6_ n7_ n8_ n9_ n10_
       clear hb hbox hg
       refine hK.out _ _ ⟨(blk_cell BK530.out 0).trans rfl, (blk_cell BK530.out 1).trans rfl, ((HB.out.cell (World.block_lt_of_cell? w _ hw531_0)).trans hw531_0), ((HB.out.cell (World.block_lt_of_cell? w _ hw531_1)).trans hw531_1), ((HB.out.cell (World.block_lt_of_cell? w _ hw531_2)).trans hw531_2), ((HB.out.cell (World.block_lt_of_cell? w _ hw531_3)).trans hw531_3)⟩ (fun hHeld => ?_)
       clear hK K
       refine norm_ (a' := ?_) ?_ ?_
       rotate_left
       ·
        show Act.put _ (some 7) _ = _
        simp only [Act.put, List.setIfInBounds_toArray, List.set_cons_zero, List.set_cons_succ, i64_w, i32_w]
        rfl
       refine one_ (i := 5) (N := some 21) #[true, true, true, true, true, true, true, false] rfl rfl (one_of HT_.out (by kernel_rfl)) (by decide) (fun K hK => ?_)
       refine goes_ Try.func22 (by kernel_rfl) rfl #[.agg #[.slice Ao14 x531000_1.length co14, .bool x531001_1], .agg #[.slice A531_0 ((rd_T44 l0 x6_1).f0).length c531_0, .int .i64 ((rd_T44 l0 x6_1).f1), .int .i64 ((rd_T44 l0 x6_1).f2), .string ((rd_T44 l0 x6_1).f3)]] (by rfl) rfl rfl (by (try simp only [List.map_toArray, List.map_cons, List.map_nil]); first | done | rfl | (simp only [List.length_drop, List.length_take]; rfl)) ?_
       with_reducible refine (spec_Tell.calls k1 _ _ x531000_1 x531001_1 _ _ ((rd_T44 l0 x6_1).f0) ((rd_T44 l0 x6_1).f1) ((rd_T44 l0 x6_1).f2) ((rd_T44 l0 x6_1).f3) t532 t535 _ ?side1 ?side2 ?side3 ?side4 A13.out).mono ?_
       (case side1 => repeat (first | exact (Kd.S_reads' HO_531000.out).2.2 | (with_reducible refine Kd.C_alloc ?_ _) | (with_reducible refine Kd.C_drewN ?_ _) | (with_reducible refine Kd.C_drew ?_)))
       (case side2 => exact (Kd.S_reads' HO_531000.out).2.1)
       (case side3 => repeat (first | exact (Kd.C_below HR531_0.out HB.out) | (with_reducible refine Kd.C_alloc ?_ _) | (with_reducible refine Kd.C_drewN ?_ _) | (with_reducible refine Kd.C_drew ?_)))
       (case side4 => exact HC531_0.out)
       rintro e w17 ⟨v533, rfl, ho0, hb⟩
       refine ⟨_, rfl, ?_⟩
       have n0_ := Aside0.mk (Kd.S_elder' (by (with_reducible repeat (first | apply Kd.S_alloc | apply Kd.S_drewN | apply Kd.S_drew)); exact HO_531000.out) (Kd.S_base ho0) hb)
       have n1_ := Aside0.mk (Kd.S_lower (Kd.S_new' ho0 (Kd.S_lt (by (with_reducible repeat (first | apply Kd.S_alloc | apply Kd.S_drewN | apply Kd.S_drew)); exact HO_531000.out))) (below_size (by repeat (first | (with_reducible first | exact HB.out | apply below_alloc | apply pw_below_drewN | apply below_drew1 | refine below_set ?_ GE525.out | refine below_set ?_ GE530.out | refine below_set ?_ GE536.out) | exact HB.out))))
       have n2_ := Aside0.mk (blk_below (g := gb525) (o := .cells #[.slice A1_0 l1_0.length c1_0, .bool a1_1] 39 (0, 0)) (by (with_reducible repeat (first | refine blk_drewN ?_ _ | refine blk_drew ?_ | refine blk_alloc ?_ _)); exact BK525.out) hb)
       have n3_ := Aside0.mk (blk_below (g := gb530) (o := .cells #[.slice Ao14 x531000_1.length co14, .bool x531001_1] 39 (0, 0)) (by (with_reducible repeat (first | refine blk_drewN ?_ _ | refine blk_drew ?_ | refine blk_alloc ?_ _)); exact BK530.out) hb)
       have n4_ := Aside0.mk (blk_below (g := gb536) (o := .cells #[.slice none 0 0, .bool false] 39 (0, 0)) (by (with_reducible repeat (first | refine blk_drewN ?_ _ | refine blk_drew ?_ | refine blk_alloc ?_ _)); exact BK536.out) hb)
       have n5_ := Aside0.mk (below_step (by repeat (first | (with_reducible first | exact HB.out | apply below_alloc | apply pw_below_drewN | apply below_drew1 | refine below_set ?_ GE525.out | refine below_set ?_ GE530.out | refine below_set ?_ GE536.out) | exact HB.out)) hb)
       clear HO_531000
       clear BK525
       clear BK530
       clear BK536
       clear HB
       have HO_531000 := n0_
       have HO534 := n1_
       have BK525 := n2_
       have BK530 := n3_
       have BK536 := n4_
       have HB := n5_
       clear n0_ n1_ n2_ n3_ n4_ n5_
       (try clear hb)
       (try clear hb2)
       (try clear hk)
       (try clear hi)
       (try clear ho0)
       refine hK.out _ _ ⟨(blk_cell BK530.out 0).trans rfl, (blk_cell BK530.out 1).trans rfl, ((HB.out.cell (World.block_lt_of_cell? w _ hw531_0)).trans hw531_0), ((HB.out.cell (World.block_lt_of_cell? w _ hw531_1)).trans hw531_1), ((HB.out.cell (World.block_lt_of_cell? w _ hw531_2)).trans hw531_2), ((HB.out.cell (World.block_lt_of_cell? w _ hw531_3)).trans hw531_3)⟩ (fun hHeld => ?_)
       clear hK K
       refine norm_ (a' := ?_) ?_ ?_
       rotate_left
       ·
        show Act.put _ (some 21) _ = _
        simp only [Act.put, List.setIfInBounds_toArray, List.set_cons_zero, List.set_cons_succ, i64_w, i32_w]
        rfl
       exact norm_ (by simp only [putAll, Act.put, List.setIfInBounds_toArray, List.set_cons_zero, List.set_cons_succ]) (hCont (v533, gb536) _ ⟨hHeld, (by (with_reducible repeat (first | apply Kd.S_alloc | apply Kd.S_drewN | apply Kd.S_drew)); exact Kd.S_mono HO534.out (fun _ hk => hk.2)), (by (with_reducible repeat (first | apply Kd.S_alloc | apply Kd.S_drewN | apply Kd.S_drew)); exact Kd.S_mono HO_531000.out (fun _ hk => hk.2)), (by (with_reducible repeat (first | refine blk_drewN ?_ _ | refine blk_drew ?_ | refine blk_alloc ?_ _)); exact BK525.out), (by (with_reducible repeat (first | refine blk_drewN ?_ _ | refine blk_drew ?_ | refine blk_alloc ?_ _)); exact BK530.out), (by (with_reducible repeat (first | refine blk_drewN ?_ _ | refine blk_drew ?_ | refine blk_alloc ?_ _)); exact BK536.out), GW536.out, GE536.out, NB525_536.out, NB536_525.out, NB530_536.out, NB536_530.out, (by repeat (first | (with_reducible first | exact HB.out | apply below_alloc | apply pw_below_drewN | apply below_drew1 | refine below_set ?_ GE525.out | refine below_set ?_ GE530.out | refine below_set ?_ GE536.out) | exact HB.out))⟩)
     rintro ⟨v533, gb536⟩ w18 ⟨hS_, h0_, h1_, h2_, h3_, h4_, h5_, h6_, h7_, h8_, h9_, h10_, h11_⟩
     have n0_ : Aside0 (Kd.S k44 44 w18 w.heap.size (fun k_ => some k_ ≠ (.slice Ao14 x531000_1.length co14 : Value).ownBlock) v533 t532) := ⟨h0_⟩
     have n1_ : Aside0 (Kd.S k44 44 w18 w.heap.size (fun k_ => some k_ ≠ (v533 : Value).ownBlock) (.slice Ao14 x531000_1.length co14) x531000_1) := ⟨h1_⟩
     have n2_ : Aside0 (w18.heap[gb525]? = some (.cells #[.slice A1_0 l1_0.length c1_0, .bool a1_1] 39 (0, 0))) := ⟨h2_⟩
     have n3_ : Aside0 (w18.heap[gb530]? = some (.cells #[.slice Ao14 x531000_1.length co14, .bool x531001_1] 39 (0, 0))) := ⟨h3_⟩
     have n4_ : Aside0 (w18.heap[gb536]? = some (.cells #[.slice none 0 0, .bool false] 39 (0, 0))) := ⟨h4_⟩
     have n5_ : Aside0 (w.heap.size ≤ gb536) := ⟨h5_⟩
     have n6_ : Aside0 (w.heap.size ≤ gb536) := ⟨h6_⟩
     have n7_ : Aside0 (gb525 ≠ gb536) := ⟨h7_⟩
     have n8_ : Aside0 (gb536 ≠ gb525) := ⟨h8_⟩
     have n9_ : Aside0 (gb530 ≠ gb536) := ⟨h9_⟩
     have n10_ : Aside0 (gb536 ≠ gb530) := ⟨h10_⟩
     have n11_ : Aside0 (Below w.heap.size w w18) := ⟨h11_⟩
     clear HO_531000
     clear BK525
     clear BK530
     clear HB
     clear h0_ h1_ h2_ h3_ h4_ h5_ h6_ h7_ h8_ h9_ h10_ h11_
     have HO534 := n0_
     have HO_531000 := n1_
     have BK525 := n2_
     have BK530 := n3_
     have BK536 := n4_
     have GW536 := n5_
     have GE536 := n6_
     have NB525_536 := n7_
     have NB536_525 := n8_
     have NB530_536 := n9_
     have NB536_530 := n10_
     have HB := n11_
     clear n0_ n1_ n2_ n3_ n4_ n5_ n6_ n7_ n8_ n9_ n10_ n11_
     have hHeld : w18.cell? ⟨gb530, 0, none⟩ = some (.slice Ao14 x531000_1.length co14) ∧ w18.cell? ⟨gb530, 1, none⟩ = some (.bool x531001_1) ∧ w18.cell? (ad531.add ((x6_1).toNat * 4)) = some (.slice A531_0 ((rd_T44 l0 x6_1).f0).length c531_0) ∧ w18.cell? ⟨(ad531.add ((x6_1).toNat * 4)).block, (ad531.add ((x6_1).toNat * 4)).off + 1, none⟩ = some (.int .i64 ((rd_T44 l0 x6_1).f1)) ∧ w18.cell? ⟨(ad531.add ((x6_1).toNat * 4)).block, (ad531.add ((x6_1).toNat * 4)).off + 2, none⟩ = some (.int .i64 ((rd_T44 l0 x6_1).f2)) ∧ w18.cell? ⟨(ad531.add ((x6_1).toNat * 4)).block, (ad531.add ((x6_1).toNat * 4)).off + 3, none⟩ = some (.string ((rd_T44 l0 x6_1).f3)) := hS_
     obtain ⟨Ao19, co19, eo19⟩ := Kd.S_slice HO534.out
     (first | subst eo19 | (injection eo19 with f1_ f2_ f3_; have f4_ := f1_.symm; have f5_ := f3_.symm; clear f1_ f2_ f3_; subst f4_; subst f5_))
     refine norm_ (a' := ?_) ?_ ?_
     rotate_left
     ·
      simp only [putAll, Act.put, List.setIfInBounds_toArray, List.set_cons_zero, List.set_cons_succ]
      rfl
     refine one_ (i := 7) (N := none) #[true, true, true, true, true, true, true, true] rfl rfl (one_of HT_.out (by kernel_rfl)) (by decide) (fun K hK => ?_)
     have hs20 : w18.cell? ⟨gb536, 0, none⟩ = some (.slice none 0 0) := (blk_cell BK536.out 0).trans rfl
     have hfs20 := blk_frozen BK536.out 0
     have hns20_0 := NB525_536.out
     have hns20_1 := NB530_536.out
     have hms20_0 := NB536_525.out
     have hms20_1 := NB536_530.out
     have hs21 : w18.cell? ⟨gb536, 1, none⟩ = some (.bool false) := (blk_cell BK536.out 1).trans rfl
     have hfs21 := blk_frozen BK536.out 1
     have hns21_0 := NB525_536.out
     have hns21_1 := NB530_536.out
     have hms21_0 := NB536_525.out
     have hms21_1 := NB536_530.out
     refine skip_ (w1 := ?_) (by rfl) rfl ?_ ?_
     rotate_left
     ·
      go_simp
      rfl
     refine hK.out _ _ ⟨((cell_far (p := ⟨gb536, _, none⟩) NB530_536.out _).trans (((cell_far (p := ⟨gb536, _, none⟩) NB530_536.out _).trans (hHeld.1)))), ((cell_far (p := ⟨gb536, _, none⟩) NB530_536.out _).trans (((cell_far (p := ⟨gb536, _, none⟩) NB530_536.out _).trans (hHeld.2.1)))), ((cell_far (p := ⟨gb536, _, none⟩) (by first | exact Nat.ne_of_lt (Nat.lt_of_lt_of_le (by have := World.block_lt_of_cell? _ _ hw531_0; first | rwa [add_block] at this | exact this) GW536.out) | (rw [add_block]; exact Nat.ne_of_lt (Nat.lt_of_lt_of_le (by have := World.block_lt_of_cell? _ _ hw531_0; first | rwa [add_block] at this | exact this) GW536.out)) | (show (Addr.add _ _).block ≠ _; rw [add_block]; exact Nat.ne_of_lt (Nat.lt_of_lt_of_le (by have := World.block_lt_of_cell? _ _ hw531_0; first | rwa [add_block] at this | exact this) GW536.out)) | (dsimp only; exact Nat.ne_of_lt (Nat.lt_of_lt_of_le (by have := World.block_lt_of_cell? _ _ hw531_0; first | rwa [add_block] at this | exact this) GW536.out))) _).trans (((cell_far (p := ⟨gb536, _, none⟩) (by first | exact Nat.ne_of_lt (Nat.lt_of_lt_of_le (by have := World.block_lt_of_cell? _ _ hw531_0; first | rwa [add_block] at this | exact this) GW536.out) | (rw [add_block]; exact Nat.ne_of_lt (Nat.lt_of_lt_of_le (by have := World.block_lt_of_cell? _ _ hw531_0; first | rwa [add_block] at this | exact this) GW536.out)) | (show (Addr.add _ _).block ≠ _; rw [add_block]; exact Nat.ne_of_lt (Nat.lt_of_lt_of_le (by have := World.block_lt_of_cell? _ _ hw531_0; first | rwa [add_block] at this | exact this) GW536.out)) | (dsimp only; exact Nat.ne_of_lt (Nat.lt_of_lt_of_le (by have := World.block_lt_of_cell? _ _ hw531_0; first | rwa [add_block] at this | exact this) GW536.out))) _).trans (hHeld.2.2.1)))), ((cell_far (p := ⟨gb536, _, none⟩) (by first | exact Nat.ne_of_lt (Nat.lt_of_lt_of_le (by have := World.block_lt_of_cell? _ _ hw531_1; first | rwa [add_block] at this | exact this) GW536.out) | (rw [add_block]; exact Nat.ne_of_lt (Nat.lt_of_lt_of_le (by have := World.block_lt_of_cell? _ _ hw531_1; first | rwa [add_block] at this | exact this) GW536.out)) | (show (Addr.add _ _).block ≠ _; rw [add_block]; exact Nat.ne_of_lt (Nat.lt_of_lt_of_le (by have := World.block_lt_of_cell? _ _ hw531_1; first | rwa [add_block] at this | exact this) GW536.out)) | (dsimp only; exact Nat.ne_of_lt (Nat.lt_of_lt_of_le (by have := World.block_lt_of_cell? _ _ hw531_1; first | rwa [add_block] at this | exact this) GW536.out))) _).trans (((cell_far (p := ⟨gb536, _, none⟩) (by first | exact Nat.ne_of_lt (Nat.lt_of_lt_of_le (by have := World.block_lt_of_cell? _ _ hw531_1; first | rwa [add_block] at this | exact this) GW536.out) | (rw [add_block]; exact Nat.ne_of_lt (Nat.lt_of_lt_of_le (by have := World.block_lt_of_cell? _ _ hw531_1; first | rwa [add_block] at this | exact this) GW536.out)) | (show (Addr.add _ _).block ≠ _; rw [add_block]; exact Nat.ne_of_lt (Nat.lt_of_lt_of_le (by have := World.block_lt_of_cell? _ _ hw531_1; first | rwa [add_block] at this | exact this) GW536.out)) | (dsimp only; exact Nat.ne_of_lt (Nat.lt_of_lt_of_le (by have := World.block_lt_of_cell? _ _ hw531_1; first | rwa [add_block] at this | exact this) GW536.out))) _).trans (hHeld.2.2.2.1)))), ((cell_far (p := ⟨gb536, _, none⟩) (by first | exact Nat.ne_of_lt (Nat.lt_of_lt_of_le (by have := World.block_lt_of_cell? _ _ hw531_2; first | rwa [add_block] at this | exact this) GW536.out) | (rw [add_block]; exact Nat.ne_of_lt (Nat.lt_of_lt_of_le (by have := World.block_lt_of_cell? _ _ hw531_2; first | rwa [add_block] at this | exact this) GW536.out)) | (show (Addr.add _ _).block ≠ _; rw [add_block]; exact Nat.ne_of_lt (Nat.lt_of_lt_of_le (by have := World.block_lt_of_cell? _ _ hw531_2; first | rwa [add_block] at this | exact this) GW536.out)) | (dsimp only; exact Nat.ne_of_lt (Nat.lt_of_lt_of_le (by have := World.block_lt_of_cell? _ _ hw531_2; first | rwa [add_block] at this | exact this) GW536.out))) _).trans (((cell_far (p := ⟨gb536, _, none⟩) (by first | exact Nat.ne_of_lt (Nat.lt_of_lt_of_le (by have := World.block_lt_of_cell? _ _ hw531_2; first | rwa [add_block] at this | exact this) GW536.out) | (rw [add_block]; exact Nat.ne_of_lt (Nat.lt_of_lt_of_le (by have := World.block_lt_of_cell? _ _ hw531_2; first | rwa [add_block] at this | exact this) GW536.out)) | (show (Addr.add _ _).block ≠ _; rw [add_block]; exact Nat.ne_of_lt (Nat.lt_of_lt_of_le (by have := World.block_lt_of_cell? _ _ hw531_2; first | rwa [add_block] at this | exact this) GW536.out)) | (dsimp only; exact Nat.ne_of_lt (Nat.lt_of_lt_of_le (by have := World.block_lt_of_cell? _ _ hw531_2; first | rwa [add_block] at this | exact this) GW536.out))) _).trans (hHeld.2.2.2.2.1)))), ((cell_far (p := ⟨gb536, _, none⟩) (by first | exact Nat.ne_of_lt (Nat.lt_of_lt_of_le (by have := World.block_lt_of_cell? _ _ hw531_3; first | rwa [add_block] at this | exact this) GW536.out) | (rw [add_block]; exact Nat.ne_of_lt (Nat.lt_of_lt_of_le (by have := World.block_lt_of_cell? _ _ hw531_3; first | rwa [add_block] at this | exact this) GW536.out)) | (show (Addr.add _ _).block ≠ _; rw [add_block]; exact Nat.ne_of_lt (Nat.lt_of_lt_of_le (by have := World.block_lt_of_cell? _ _ hw531_3; first | rwa [add_block] at this | exact this) GW536.out)) | (dsimp only; exact Nat.ne_of_lt (Nat.lt_of_lt_of_le (by have := World.block_lt_of_cell? _ _ hw531_3; first | rwa [add_block] at this | exact this) GW536.out))) _).trans (((cell_far (p := ⟨gb536, _, none⟩) (by first | exact Nat.ne_of_lt (Nat.lt_of_lt_of_le (by have := World.block_lt_of_cell? _ _ hw531_3; first | rwa [add_block] at this | exact this) GW536.out) | (rw [add_block]; exact Nat.ne_of_lt (Nat.lt_of_lt_of_le (by have := World.block_lt_of_cell? _ _ hw531_3; first | rwa [add_block] at this | exact this) GW536.out)) | (show (Addr.add _ _).block ≠ _; rw [add_block]; exact Nat.ne_of_lt (Nat.lt_of_lt_of_le (by have := World.block_lt_of_cell? _ _ hw531_3; first | rwa [add_block] at this | exact this) GW536.out)) | (dsimp only; exact Nat.ne_of_lt (Nat.lt_of_lt_of_le (by have := World.block_lt_of_cell? _ _ hw531_3; first | rwa [add_block] at this | exact this) GW536.out))) _).trans (hHeld.2.2.2.2.2))))⟩ (fun hHeld => ?_)
     clear hK K
     refine done_ (done_of HT_.out (by kernel_rfl)) ?_
     have hnb22 := NB536_525.out
     have hnc22 := NB525_536.out
     have hnb23 := NB536_530.out
     have hnc23 := NB530_536.out
     have hcz24_0 : w18.cell? ⟨gb536, 0, none⟩ = some (.slice none 0 0) := (blk_cell BK536.out 0).trans rfl
     have hcz24_1 : w18.cell? ⟨gb536, 1, none⟩ = some (.bool false) := (blk_cell BK536.out 1).trans rfl
     have hfz24_0 := blk_frozen BK536.out 0
     have hfz24_1 := blk_frozen BK536.out 1
     have hnb25 := NB530_525.out
     have hnc25 := NB525_530.out
     have hcz26_0 : w18.cell? ⟨gb530, 0, none⟩ = some (.slice Ao14 x531000_1.length co14) := (blk_cell BK530.out 0).trans rfl
     have hcz26_1 : w18.cell? ⟨gb530, 1, none⟩ = some (.bool x531001_1) := (blk_cell BK530.out 1).trans rfl
     have hfz26_0 := blk_frozen BK530.out 0
     have hfz26_1 := blk_frozen BK530.out 1
     try go_wp2
     go_roundg k1
     case measure => have := HK1.out; omega
     case rel => exact ⟨(wrap64 (x6_1 + 1)), (t532), (t535), (.slice Ao19 t532.length co19), (by first | rfl | (simp; done) | (simp [*]; done)), H', ⟨by have := HK1.out; omega⟩, ⟨by (with_reducible repeat (first | apply Kd.S_alloc | apply Kd.S_drewN | apply Kd.S_drew)); exact Kd.S_mono (Kd.S_far (p := ⟨gb530, 1, none⟩) (Kd.S_far (p := ⟨gb530, 0, none⟩) (Kd.S_far (p := ⟨gb536, 1, none⟩) (Kd.S_far (p := ⟨gb536, 0, none⟩) (Kd.S_types (Kd.S_types HO534.out BK536.out (by decide)) BK530.out (by decide)) (fun _ hk => hk.1.2) (.slice Ao19 t532.length co19)) (fun _ hk => hk.1.2) (.bool t535)) (fun _ hk => hk.2) (.slice Ao19 t532.length co19)) (fun _ hk => hk.2) (.bool t535)) (fun _ hk => trivial)⟩, ⟨by (with_reducible repeat (first | refine blk_drewN ?_ _ | refine blk_drew ?_ | refine blk_alloc ?_ _)); refine blk_far ?_ NB525_530.out _; (with_reducible repeat (first | refine blk_drewN ?_ _ | refine blk_drew ?_ | refine blk_alloc ?_ _)); refine blk_far ?_ NB525_530.out _; (with_reducible repeat (first | refine blk_drewN ?_ _ | refine blk_drew ?_ | refine blk_alloc ?_ _)); refine blk_far ?_ NB525_536.out _; (with_reducible repeat (first | refine blk_drewN ?_ _ | refine blk_drew ?_ | refine blk_alloc ?_ _)); refine blk_far ?_ NB525_536.out _; (with_reducible repeat (first | refine blk_drewN ?_ _ | refine blk_drew ?_ | refine blk_alloc ?_ _)); exact BK525.out⟩, ⟨by (with_reducible repeat (first | refine blk_drewN ?_ _ | refine blk_drew ?_ | refine blk_alloc ?_ _)); refine blk_put (cs := #[.slice Ao19 t532.length co19, .bool x531001_1]) ?_ 1 _ rfl; (with_reducible repeat (first | refine blk_drewN ?_ _ | refine blk_drew ?_ | refine blk_alloc ?_ _)); refine blk_put (cs := #[.slice Ao14 x531000_1.length co14, .bool x531001_1]) ?_ 0 _ rfl; (with_reducible repeat (first | refine blk_drewN ?_ _ | refine blk_drew ?_ | refine blk_alloc ?_ _)); refine blk_far ?_ NB530_536.out _; (with_reducible repeat (first | refine blk_drewN ?_ _ | refine blk_drew ?_ | refine blk_alloc ?_ _)); refine blk_far ?_ NB530_536.out _; (with_reducible repeat (first | refine blk_drewN ?_ _ | refine blk_drew ?_ | refine blk_alloc ?_ _)); exact BK530.out⟩, ⟨by repeat (first | (with_reducible first | exact HB.out | apply below_alloc | apply pw_below_drewN | apply below_drew1 | refine below_set ?_ GE525.out | refine below_set ?_ GE530.out | refine below_set ?_ GE536.out) | exact HB.out)⟩⟩
    ·
     rw [if_neg c12] at H
     exact absurd H (by simp)
   ·
    rw [if_neg c11] at H
    have c11b0 : decide (x6_1 < (l0.length : Int)) = false := decide_eq_false c11
    clear c11
    by_cases c27 : x531001_1 = true
    ·
     subst c27
     have H1 : (some (([] : List (S44)))) = some r := by rw [if_pos rfl] at H; exact H
     clear H
     have H := H1
     clear H1
     obtain ⟨y537, hy537⟩ : ∃ y_ : List (S44), y_ = (([] : List (S44))) := ⟨_, rfl⟩
     replace H : (some y537) = some r := by first | (rw [hy537]; with_reducible exact H) | (have H2_ := (Option.bind_some _ _).symm.trans H; rw [hy537]; with_reducible exact H2_) | (have H2_ := (Option.bind_some _ _).symm.trans H; with_reducible exact H2_) | with_reducible exact H | (rw [hy537]; exact H) | exact H
     have Ny537 := Aside0.mk hy537
     clear hy537
     obtain rfl := Option.some.inj H
     have hnb28 := NB530_525.out
     have hnc28 := NB525_530.out
     have hcz29_0 : wr.cell? ⟨gb530, 0, none⟩ = some (u531000) := (blk_cell BK530.out 0).trans rfl
     have hcz29_1 : wr.cell? ⟨gb530, 1, none⟩ = some (.bool true) := (blk_cell BK530.out 1).trans rfl
     have hfz29_0 := blk_frozen BK530.out 0
     have hfz29_1 := blk_frozen BK530.out 1
     go_wp2_with (first | ((with_reducible refine gate_dst (N := 25) rfl ?_); refine Kd.S_lit k44 _ 44 ?hg (N := 25) ?hd (xs := ([] : List (S44))) (inner := []) (ok := fun _ => True) (okp := fun _ => True) ?hr ?hp (fun _ hk => hk) trivial (Below.refl _ _) (Nat.le_refl _) (by simp) ?_; (case hd => rfl); (case hg => rfl); (case hr => first | (go_simp; done) | (go_simp; rfl)); (case hp => exact (Reps.none _ _)); intro v538 w30 ho31 hb hg_ hnew_; clear hg_ hnew_; (first | rw [← Ny537.out] at ho31 | (simp only [Int.reduceToNat] at ho31; rw [← Ny537.out] at ho31)); have n0_ := Aside0.mk (Kd.S_elder' (by (with_reducible repeat (first | apply Kd.S_alloc | apply Kd.S_drewN | apply Kd.S_drew)); exact HO_531000.out) (Kd.S_base ho31) hb); have n1_ := Aside0.mk (Kd.S_lower (Kd.S_new' ho31 (Kd.S_lt (by (with_reducible repeat (first | apply Kd.S_alloc | apply Kd.S_drewN | apply Kd.S_drew)); exact HO_531000.out))) (below_size (by repeat (first | (with_reducible first | exact HB.out | apply below_alloc | apply pw_below_drewN | apply below_drew1 | refine below_set ?_ GE525.out | refine below_set ?_ GE530.out) | exact HB.out)))); have n2_ := Aside0.mk (blk_below (g := gb525) (o := .cells #[.slice A1_0 l1_0.length c1_0, .bool a1_1] 39 (0, 0)) (by (with_reducible repeat (first | refine blk_drewN ?_ _ | refine blk_drew ?_ | refine blk_alloc ?_ _)); exact BK525.out) hb); have n3_ := Aside0.mk (blk_below (g := gb530) (o := .cells #[u531000, .bool true] 39 (0, 0)) (by (with_reducible repeat (first | refine blk_drewN ?_ _ | refine blk_drew ?_ | refine blk_alloc ?_ _)); exact BK530.out) hb); have n4_ := Aside0.mk (below_step (by repeat (first | (with_reducible first | exact HB.out | apply below_alloc | apply pw_below_drewN | apply below_drew1 | refine below_set ?_ GE525.out | refine below_set ?_ GE530.out) | exact HB.out)) hb); clear HO_531000; clear BK525; clear BK530; clear HB; have HO_531000 := n0_; have HO539 := n1_; have BK525 := n2_; have BK530 := n3_; have HB := n4_; clear n0_ n1_ n2_ n3_ n4_; clear hb ho31))
     go_ret
     exact ⟨_, by first | rfl | (simp [errW_none, errW_some] <;> rfl) | (simp [*, errW_none, errW_some] <;> rfl), by (with_reducible repeat (first | apply Kd.S_alloc | apply Kd.S_drewN | apply Kd.S_drew)); exact Kd.S_mono HO539.out (fun _ hk => trivial), by repeat (first | (with_reducible first | exact HB.out | apply below_alloc | apply pw_below_drewN | apply below_drew1 | refine below_set ?_ GE525.out | refine below_set ?_ GE530.out) | exact HB.out)⟩
    ·
     replace c27 := Bool.eq_false_iff.mpr c27
     subst c27
     have H1 : ((spec_l4All.f k1 x531000_1).bind fun t540 => (some t540)) = some r := by rw [if_neg (show ¬ (false = true) by decide)] at H; exact H
     clear H
     have H := H1
     clear H1
     replace H := Option.bind_eq_some_iff.mp H
     obtain ⟨t540, A320, H⟩ := H
     replace H : (some t540) = some r := H
     have A32 := Aside0.mk A320
     clear A320
     obtain rfl := Option.some.inj H
     have hnb33 := NB530_525.out
     have hnc33 := NB525_530.out
     have hcz34_0 : wr.cell? ⟨gb530, 0, none⟩ = some (u531000) := (blk_cell BK530.out 0).trans rfl
     have hcz34_1 : wr.cell? ⟨gb530, 1, none⟩ = some (.bool false) := (blk_cell BK530.out 1).trans rfl
     have hfz34_0 := blk_frozen BK530.out 0
     have hfz34_1 := blk_frozen BK530.out 1
     obtain ⟨Ao35, co35, eo35⟩ := Kd.S_slice HO_531000.out
     subst eo35
     go_wp2_with (first | ((with_reducible refine gate_callee (f := 100) rfl ?_); refine goesL_ (some 28) rfl rfl Try.func100 (by kernel_rfl) rfl #[.slice Ao35 x531000_1.length co35] rfl (by (try simp only [List.map_toArray, List.map_cons, List.map_nil]); first | done | rfl | (simp only [List.length_drop, List.length_take]; rfl)) ?_; (with_reducible refine (spec_l4All.calls k1 _ _ x531000_1 t540 _ ?side1 ?side2 A32.out).mono ?_); (case side1 => repeat (first | exact (Kd.S_reads' HO_531000.out).2.2 | (with_reducible refine Kd.C_alloc ?_ _) | (with_reducible refine Kd.C_drewN ?_ _) | (with_reducible refine Kd.C_drew ?_))); (case side2 => exact (Kd.S_reads' HO_531000.out).2.1); rintro e w36 ⟨v541, rfl, ho0, hb⟩; refine ⟨_, rfl, ?_⟩; have n0_ := Aside0.mk (Kd.S_elder' (by (with_reducible repeat (first | apply Kd.S_alloc | apply Kd.S_drewN | apply Kd.S_drew)); exact HO_531000.out) (Kd.S_base ho0) hb); have n1_ := Aside0.mk (Kd.S_lower (Kd.S_new' ho0 (Kd.S_lt (by (with_reducible repeat (first | apply Kd.S_alloc | apply Kd.S_drewN | apply Kd.S_drew)); exact HO_531000.out))) (below_size (by repeat (first | (with_reducible first | exact HB.out | apply below_alloc | apply pw_below_drewN | apply below_drew1 | refine below_set ?_ GE525.out | refine below_set ?_ GE530.out) | exact HB.out)))); have n2_ := Aside0.mk (blk_below (g := gb525) (o := .cells #[.slice A1_0 l1_0.length c1_0, .bool a1_1] 39 (0, 0)) (by (with_reducible repeat (first | refine blk_drewN ?_ _ | refine blk_drew ?_ | refine blk_alloc ?_ _)); exact BK525.out) hb); have n3_ := Aside0.mk (blk_below (g := gb530) (o := .cells #[.slice Ao35 x531000_1.length co35, .bool false] 39 (0, 0)) (by (with_reducible repeat (first | refine blk_drewN ?_ _ | refine blk_drew ?_ | refine blk_alloc ?_ _)); exact BK530.out) hb); have n4_ := Aside0.mk (below_step (by repeat (first | (with_reducible first | exact HB.out | apply below_alloc | apply pw_below_drewN | apply below_drew1 | refine below_set ?_ GE525.out | refine below_set ?_ GE530.out) | exact HB.out)) hb); clear HO_531000; clear BK525; clear BK530; clear HB; have HO_531000 := n0_; have HO542 := n1_; have BK525 := n2_; have BK530 := n3_; have HB := n4_; clear n0_ n1_ n2_ n3_ n4_; (try clear hb); (try clear hb2); (try clear hk); (try clear hi); (try clear ho0)))
     go_ret
     exact ⟨_, by first | rfl | (simp [errW_none, errW_some] <;> rfl) | (simp [*, errW_none, errW_some] <;> rfl), by (with_reducible repeat (first | apply Kd.S_alloc | apply Kd.S_drewN | apply Kd.S_drew)); exact Kd.S_mono HO542.out (fun _ hk => trivial), by repeat (first | (with_reducible first | exact HB.out | apply below_alloc | apply pw_below_drewN | apply below_drew1 | refine below_set ?_ GE525.out | refine below_set ?_ GE530.out) | exact HB.out)⟩

end Go.Proofs.Ytfholjcelnkleaa.Print
end
section
namespace Go.Proofs.Ytfholjcelnkleaa.Print
open Go.RowKit Go.Proofs.YtfholjcelnkleaaV.PrintWords Go.Proofs.YtfholjcelnkleaaV.PrintLast Go.Proofs.YtfholjcelnkleaaV.PrintMore
attribute [local go_sem] max2_int min2_int max_two min_two max_three min_three max_four min_four   -- for this text's walks alone
set_option linter.unusedVariables false
set_option linter.unusedSimpArgs false

/-! ### impl_Heard: function 37 -/
def impl_Heard.l0 : Nat → List (S44) → Int → Int → List (S44) → Bool → Option ((List (S44)))
 | 0, _, _, _, _, _ => none
 | k + 1, x10, x11, x12, x549000, x549001 => if x12 < x11 then (if 0 ≤ x12 then (if x12 < (x10.length : Int) then ((impl_Tell.f k x549000 x549001 ((rd_T44 x10 x12).f0) ((rd_T44 x10 x12).f1) ((rd_T44 x10 x12).f2) ((rd_T44 x10 x12).f3)).bind fun bt551 => (impl_Heard.l0 k x10 x11 (wrap64 (x12 + 1)) bt551.1 bt551.2)) else (none)) else (none)) else (if x549001 = true then (some ([] : List (S44))) else (some x549000))
def impl_Heard.f (k : Nat) (l0 : List (S44)) (l1_0 : List (S44)) (a1_1 : Bool) : Option ((List (S44))) := (impl_copySub.f k l1_0 a1_1).bind fun bt544 => (impl_Heard.l0 k l0 (l0.length : Int) 0 bt544.1 bt544.2)
theorem impl_Heard.mono_l : ∀ k, (∀ y0 y1 y2 y3 y4, LeO (impl_Heard.l0 k y0 y1 y2 y3 y4) (impl_Heard.l0 (k + 1) y0 y1 y2 y3 y4))
 | 0 => fun _ _ _ _ _ r h => by simp [impl_Heard.l0] at h
 | k + 1 => by
  have ih0 := impl_Heard.mono_l k
  ·
   intro y0 y1 y2 y3 y4
   unfold impl_Heard.l0
   repeat' first
   | (with_reducible exact ih0 _ _ _ _ _)
   | (with_reducible exact impl_Tell.mono _ _ _ _ _ _ _)
   | (with_reducible exact impl_copySub.mono _ _ _)
   | (with_reducible exact LeO.refl _)
   | (with_reducible exact LeO.none _)
   | (with_reducible refine LeO.ite ?_ ?_)
   | (with_reducible refine LeO.bind ?_ (fun _ => ?_))
   | exact ih0 _ _ _ _ _
   | exact impl_Tell.mono _ _ _ _ _ _ _
   | exact impl_copySub.mono _ _ _
   | exact LeO.none _
   | refine LeO.ite ?_ ?_
   | refine LeO.bind ?_ (fun _ => ?_)
theorem impl_Heard.mono : ∀ a0 a1 a2 k, LeO (impl_Heard.f k a0 a1 a2) (impl_Heard.f (k + 1) a0 a1 a2) := by
 intro a0 a1 a2 k
 have ih0 := impl_Heard.mono_l k
 unfold impl_Heard.f
 repeat' first
   | (with_reducible exact ih0 _ _ _ _ _)
   | (with_reducible exact impl_Tell.mono _ _ _ _ _ _ _)
   | (with_reducible exact impl_copySub.mono _ _ _)
   | (with_reducible exact LeO.refl _)
   | (with_reducible exact LeO.none _)
   | (with_reducible refine LeO.ite ?_ ?_)
   | (with_reducible refine LeO.bind ?_ (fun _ => ?_))
   | exact ih0 _ _ _ _ _
   | exact impl_Tell.mono _ _ _ _ _ _ _
   | exact impl_copySub.mono _ _ _
   | exact LeO.none _
   | refine LeO.ite ?_ ?_
   | refine LeO.bind ?_ (fun _ => ?_)
set_option maxHeartbeats 8000000 in
set_option maxRecDepth 100000 in
theorem impl_Heard.calls (k : Nat) (A0 : Option Addr) (c0 : Nat) (l0 : List (S44)) (A1_0 : Option Addr) (c1_0 : Nat) (l1_0 : List (S44)) (a1_1 : Bool) (r : List (S44)) (w : World) (hr0 : Kd.C k44 w A0 l0.length l0) (hc0 : l0.length ≤ c0) (hr1_0 : Kd.C k44 w A1_0 l1_0.length l1_0) (hc1_0 : l1_0.length ≤ c1_0) (h : impl_Heard.f k l0 l1_0 a1_1 = some r) :
  Calls Try.prog 37 #[.slice A0 l0.length c0, .agg #[.slice A1_0 l1_0.length c1_0, .bool a1_1]] w fun e w' => ∃ v0_ : Value, e = .returned (v0_) ∧ Kd.S k44 44 w' w.heap.size (fun _ => True) v0_ r ∧ Below w.heap.size w w' := by
 have hu39 := Try.underlying39
 have hu44 := Try.underlying44
 have HR0 := Aside0.mk hr0
 have HC0 := Aside0.mk hc0
 clear hr0 hc0
 have HR1_0 := Aside0.mk hr1_0
 have HC1_0 := Aside0.mk hc1_0
 clear hr1_0 hc1_0
 have HB := Aside0.mk (Below.refl w.heap.size w)
 have H : ((impl_copySub.f k l1_0 a1_1).bind fun bt544 => (impl_Heard.l0 k l0 (l0.length : Int) 0 bt544.1 bt544.2)) = some r := h
 clear h
 replace H := Option.bind_eq_some_iff.mp H
 obtain ⟨⟨t544, t547⟩, A30, H⟩ := H
 replace H : (impl_Heard.l0 k l0 (l0.length : Int) 0 t544 t547) = some r := H
 have A3 := Aside0.mk A30
 clear A30
 have H' := Aside0.mk H
 clear H
 go_enter Try.func37, Try.ntmps37
 go_wp2_with (first | ((with_reducible refine gate_dst (N := 3) rfl ?_); refine box_event ?hg (N := 3) ?hd (cs := #[.slice A1_0 l1_0.length c1_0, .bool a1_1]) (t := 39) ?hr ?_; (case hd => rfl); (case hg => rfl); (case hr => first | (go_simp; done) | (go_simp; rfl)); intro gb543 hg w4 hbox hb; have n0_ := Aside0.mk (below_step (by repeat (first | (with_reducible first | exact HB.out | apply below_alloc | apply pw_below_drewN | apply below_drew1) | exact HB.out)) hb); have n1_ := Aside0.mk (hbox); have n2_ := Aside0.mk ((by rw [hg]; exact (below_size (by repeat (first | (with_reducible first | exact HB.out | apply below_alloc | apply pw_below_drewN | apply below_drew1) | exact HB.out))) : w.heap.size ≤ gb543)); have n3_ := Aside0.mk ((by rw [hg]; exact (below_size (by repeat (first | (with_reducible first | exact HB.out | apply below_alloc | apply pw_below_drewN | apply below_drew1) | exact HB.out))) : w.heap.size ≤ gb543)); clear HB; have HB := n0_; have BK543 := n1_; have GW543 := n2_; have GE543 := n3_; clear n0_ n1_ n2_ n3_; clear hb hbox hg; have hcz5_0 : w4.cell? ⟨gb543, 0, none⟩ = some (.slice A1_0 l1_0.length c1_0) := (blk_cell BK543.out 0).trans rfl; have hcz5_1 : w4.cell? ⟨gb543, 1, none⟩ = some (.bool a1_1) := (blk_cell BK543.out 1).trans rfl; have hfz5_0 := blk_frozen BK543.out 0; have hfz5_1 := blk_frozen BK543.out 1) | ((with_reducible refine gate_callee (f := 96) rfl ?_); refine goesL_ (some 9) rfl rfl Try.func96 (by kernel_rfl) rfl #[.agg #[.slice A1_0 l1_0.length c1_0, .bool a1_1]] rfl (by (try simp only [List.map_toArray, List.map_cons, List.map_nil]); first | done | rfl | (simp only [List.length_drop, List.length_take]; rfl)) ?_; (with_reducible refine (impl_copySub.calls k _ _ l1_0 a1_1 t544 t547 _ ?side1 ?side2 A3.out).mono ?_); (case side1 => repeat (first | exact (Kd.C_below HR1_0.out HB.out) | (with_reducible refine Kd.C_alloc ?_ _) | (with_reducible refine Kd.C_drewN ?_ _) | (with_reducible refine Kd.C_drew ?_))); (case side2 => exact HC1_0.out); rintro e w6 ⟨v545, rfl, ho0, hb⟩; refine ⟨_, rfl, ?_⟩; have n0_ := Aside0.mk (Kd.S_lower ho0 (below_size (by repeat (first | (with_reducible first | exact HB.out | apply below_alloc | apply pw_below_drewN | apply below_drew1 | refine below_set ?_ GE543.out) | exact HB.out)))); have n1_ := Aside0.mk (blk_below (g := gb543) (o := .cells #[.slice A1_0 l1_0.length c1_0, .bool a1_1] 39 (0, 0)) (by (with_reducible repeat (first | refine blk_drewN ?_ _ | refine blk_drew ?_ | refine blk_alloc ?_ _)); exact BK543.out) hb); have n2_ := Aside0.mk (below_step (by repeat (first | (with_reducible first | exact HB.out | apply below_alloc | apply pw_below_drewN | apply below_drew1 | refine below_set ?_ GE543.out) | exact HB.out)) hb); clear BK543; clear HB; have HO546 := n0_; have BK543 := n1_; have HB := n2_; clear n0_ n1_ n2_; (try clear hb); (try clear hb2); (try clear hk); (try clear hi); (try clear ho0)) | ((with_reducible refine gate_dst (N := 5) rfl ?_); refine box_event ?hg (N := 5) ?hd (cs := #[.slice none 0 0, .bool false]) (t := 39) ?hr ?_; (case hd => rfl); (case hg => rfl); (case hr => first | (go_simp; done) | (go_simp; rfl)); intro gb548 hg w7 hbox hb; have n0_ := Aside0.mk (Kd.S_below (by (with_reducible repeat (first | apply Kd.S_alloc | apply Kd.S_drewN | apply Kd.S_drew)); exact HO546.out) hb); have n1_ := Aside0.mk (blk_below (g := gb543) (o := .cells #[.slice A1_0 l1_0.length c1_0, .bool a1_1] 39 (0, 0)) (by (with_reducible repeat (first | refine blk_drewN ?_ _ | refine blk_drew ?_ | refine blk_alloc ?_ _)); exact BK543.out) hb); have n2_ := Aside0.mk (below_step (by repeat (first | (with_reducible first | exact HB.out | apply below_alloc | apply pw_below_drewN | apply below_drew1 | refine below_set ?_ GE543.out) | exact HB.out)) hb); have n3_ := Aside0.mk (hbox); have n4_ := Aside0.mk ((by rw [hg]; exact (below_size (by repeat (first | (with_reducible first | exact HB.out | apply below_alloc | apply pw_below_drewN | apply below_drew1 | refine below_set ?_ GE543.out) | exact HB.out))) : w.heap.size ≤ gb548)); have n5_ := Aside0.mk ((by rw [hg]; exact (below_size (by repeat (first | (with_reducible first | exact HB.out | apply below_alloc | apply pw_below_drewN | apply below_drew1 | refine below_set ?_ GE543.out) | exact HB.out))) : w.heap.size ≤ gb548)); have n6_ := Aside0.mk ((by rw [hg]; exact Nat.ne_of_lt (blk_lt (g := gb543) (o := .cells #[.slice A1_0 l1_0.length c1_0, .bool a1_1] 39 (0, 0)) (by (with_reducible repeat (first | refine blk_drewN ?_ _ | refine blk_drew ?_ | refine blk_alloc ?_ _)); exact BK543.out)) : gb543 ≠ gb548)); have n7_ := Aside0.mk ((by rw [hg]; exact Nat.ne_of_gt (blk_lt (g := gb543) (o := .cells #[.slice A1_0 l1_0.length c1_0, .bool a1_1] 39 (0, 0)) (by (with_reducible repeat (first | refine blk_drewN ?_ _ | refine blk_drew ?_ | refine blk_alloc ?_ _)); exact BK543.out)) : gb548 ≠ gb543)); clear HO546; clear BK543; clear HB; have HO546 := n0_; have BK543 := n1_; have HB := n2_; have BK548 := n3_; have GW548 := n4_; have GE548 := n5_; have NB543_548 := n6_; have NB548_543 := n7_; clear n0_ n1_ n2_ n3_ n4_ n5_ n6_ n7_; clear hb hbox hg; obtain ⟨Ao8, co8, eo8⟩ := Kd.S_slice HO546.out; subst eo8; have hnb9 := NB548_543.out; have hnc9 := NB543_548.out; have hcz10_0 : w7.cell? ⟨gb548, 0, none⟩ = some (.slice none 0 0) := (blk_cell BK548.out 0).trans rfl; have hcz10_1 : w7.cell? ⟨gb548, 1, none⟩ = some (.bool false) := (blk_cell BK548.out 1).trans rfl; have hfz10_0 := blk_frozen BK548.out 0; have hfz10_1 := blk_frozen BK548.out 1))
 go_loopg [12] k (fun kq v12 w' => ∃ (x12_1 : Int) (x549000_1 : List (S44)) (x549001_1 : Bool) (u549000 : Value), v12 = .int .i64 x12_1 ∧ Aside0 (impl_Heard.l0 kq l0 (l0.length : Int) x12_1 x549000_1 x549001_1 = some r) ∧ Aside0 (kq ≤ k) ∧ Aside0 (Kd.S k44 44 w' w.heap.size (fun _ => True) u549000 x549000_1) ∧ Aside0 (w'.heap[gb543]? = some (.cells #[(.slice A1_0 l1_0.length c1_0), .bool a1_1] 39 (0, 0))) ∧ Aside0 (w'.heap[gb548]? = some (.cells #[u549000, .bool x549001_1] 39 (0, 0))) ∧ Aside0 (Below w.heap.size w w'))
 case atStart => exact ⟨(0), (t544), (t547), (.slice Ao8 t544.length co8), (by first | rfl | (simp; done) | (simp [*]; done)), H', ⟨Nat.le_refl _⟩, ⟨by (with_reducible repeat (first | apply Kd.S_alloc | apply Kd.S_drewN | apply Kd.S_drew)); exact Kd.S_mono (Kd.S_far (p := ⟨gb548, 1, none⟩) (Kd.S_far (p := ⟨gb548, 0, none⟩) (Kd.S_types HO546.out BK548.out (by decide)) (fun _ hk => hk.2) (.slice Ao8 t544.length co8)) (fun _ hk => hk.2) (.bool t547)) (fun _ hk => trivial)⟩, ⟨by (with_reducible repeat (first | refine blk_drewN ?_ _ | refine blk_drew ?_ | refine blk_alloc ?_ _)); refine blk_far ?_ NB543_548.out _; (with_reducible repeat (first | refine blk_drewN ?_ _ | refine blk_drew ?_ | refine blk_alloc ?_ _)); refine blk_far ?_ NB543_548.out _; (with_reducible repeat (first | refine blk_drewN ?_ _ | refine blk_drew ?_ | refine blk_alloc ?_ _)); exact BK543.out⟩, ⟨by (with_reducible repeat (first | refine blk_drewN ?_ _ | refine blk_drew ?_ | refine blk_alloc ?_ _)); refine blk_put (cs := #[.slice Ao8 t544.length co8, .bool false]) ?_ 1 _ rfl; (with_reducible repeat (first | refine blk_drewN ?_ _ | refine blk_drew ?_ | refine blk_alloc ?_ _)); refine blk_put (cs := #[.slice none 0 0, .bool false]) ?_ 0 _ rfl; (with_reducible repeat (first | refine blk_drewN ?_ _ | refine blk_drew ?_ | refine blk_alloc ?_ _)); exact BK548.out⟩, ⟨by repeat (first | (with_reducible first | exact HB.out | apply below_alloc | apply pw_below_drewN | apply below_drew1 | refine below_set ?_ GE543.out | refine below_set ?_ GE548.out) | exact HB.out)⟩⟩
 case round =>
  clear H'
  try clear c1
  try clear p2
  try clear c3
  try clear c9
  try clear hcz10_0
  try clear hcz10_1
  try clear hcz5_0
  try clear hcz5_1
  try clear hfz10_0
  try clear hfz10_1
  try clear hfz5_0
  try clear hfz5_1
  obtain ⟨x12_1, x549000_1, x549001_1, u549000, rfl, HA, HK1, HO_549000, BK543, BK548, HB⟩ := hrel
  cases gk with
  | zero => exact absurd HA.out (by simp [impl_Heard.l0])
  | succ k1 =>
   have H := HA.out
   clear HA
   simp only [impl_Heard.l0] at H
   by_cases c11 : x12_1 < (l0.length : Int)
   ·
    rw [if_pos c11] at H
    have c11b0 : decide (x12_1 < (l0.length : Int)) = true := decide_eq_true c11
    clear c11
    by_cases c12 : 0 ≤ x12_1
    ·
     rw [if_pos c12] at H
     have c12b0 : decide (0 ≤ x12_1) = true := decide_eq_true c12
     clear c12
     by_cases c13 : x12_1 < (l0.length : Int)
     ·
      rw [if_pos c13] at H
      have c13b0 : decide (x12_1 < (l0.length : Int)) = true := decide_eq_true c13
      clear c13
      replace H := Option.bind_eq_some_iff.mp H
      obtain ⟨⟨t551, t554⟩, A140, H⟩ := H
      replace H : (impl_Heard.l0 k1 l0 (l0.length : Int) (wrap64 (x12_1 + 1)) t551 t554) = some r := H
      have A14 := Aside0.mk A140
      clear A140
      have H' := Aside0.mk H
      clear H
      have p549 : 0 ≤ (x12_1 : Int) := of_decide_eq_true (by first | (with_reducible assumption) | assumption)
      have q549 : x12_1 < (l0.length : Int) := of_decide_eq_true (by first | (with_reducible assumption) | assumption)
      obtain ⟨ad549, A549_0, c549_0, e549, hx549_0, hx549_1, hx549_2, hx549_3, hl549_0, hi549_0⟩ := at_T44 HR0.out x12_1 p549 q549
      cases e549
      replace hx549_0 := (HB.out.cell (World.block_lt_of_cell? w _ hx549_0)).trans hx549_0
      replace hx549_1 := (HB.out.cell (World.block_lt_of_cell? w _ hx549_1)).trans hx549_1
      replace hx549_2 := (HB.out.cell (World.block_lt_of_cell? w _ hx549_2)).trans hx549_2
      replace hx549_3 := (HB.out.cell (World.block_lt_of_cell? w _ hx549_3)).trans hx549_3
      have HR549_0 := Aside0.mk hi549_0
      have HC549_0 := Aside0.mk hl549_0
      clear hi549_0 hl549_0
      replace p549 := eq_true p549
      replace q549 := eq_true q549
      go_wp2_with (first | ((with_reducible refine gate_dst (N := 7) rfl ?_); refine box_event ?hg (N := 7) ?hd (cs := #[.slice none 0 0, .int .i64 0, .int .i64 0, .string (⟨#[]⟩ : ByteArray)]) (t := 44) ?hr ?_; (case hd => rfl); (case hg => rfl); (case hr => first | (go_simp; done) | (go_simp; rfl)); intro gb550 hg w15 hbox hb; have n0_ := Aside0.mk (Kd.S_below (Kd.S_elderB (by (with_reducible repeat (first | apply Kd.S_alloc | apply Kd.S_drewN | apply Kd.S_drew)); exact HO_549000.out) gb550 (Nat.le_of_eq hg.symm)) hb); have n1_ := Aside0.mk (blk_below (g := gb543) (o := .cells #[.slice A1_0 l1_0.length c1_0, .bool a1_1] 39 (0, 0)) (by (with_reducible repeat (first | refine blk_drewN ?_ _ | refine blk_drew ?_ | refine blk_alloc ?_ _)); exact BK543.out) hb); have n2_ := Aside0.mk (blk_below (g := gb548) (o := .cells #[u549000, .bool x549001_1] 39 (0, 0)) (by (with_reducible repeat (first | refine blk_drewN ?_ _ | refine blk_drew ?_ | refine blk_alloc ?_ _)); exact BK548.out) hb); have n3_ := Aside0.mk (below_step (by repeat (first | (with_reducible first | exact HB.out | apply below_alloc | apply pw_below_drewN | apply below_drew1 | refine below_set ?_ GE543.out | refine below_set ?_ GE548.out) | exact HB.out)) hb); have n4_ := Aside0.mk (hbox); have n5_ := Aside0.mk ((by rw [hg]; exact (below_size (by repeat (first | (with_reducible first | exact HB.out | apply below_alloc | apply pw_below_drewN | apply below_drew1 | refine below_set ?_ GE543.out | refine below_set ?_ GE548.out) | exact HB.out))) : w.heap.size ≤ gb550)); have n6_ := Aside0.mk ((by rw [hg]; exact (below_size (by repeat (first | (with_reducible first | exact HB.out | apply below_alloc | apply pw_below_drewN | apply below_drew1 | refine below_set ?_ GE543.out | refine below_set ?_ GE548.out) | exact HB.out))) : w.heap.size ≤ gb550)); have n7_ := Aside0.mk ((by rw [hg]; exact Nat.ne_of_lt (blk_lt (g := gb543) (o := .cells #[.slice A1_0 l1_0.length c1_0, .bool a1_1] 39 (0, 0)) (by (with_reducible repeat (first | refine blk_drewN ?_ _ | refine blk_drew ?_ | refine blk_alloc ?_ _)); exact BK543.out)) : gb543 ≠ gb550)); have n8_ := Aside0.mk ((by rw [hg]; exact Nat.ne_of_gt (blk_lt (g := gb543) (o := .cells #[.slice A1_0 l1_0.length c1_0, .bool a1_1] 39 (0, 0)) (by (with_reducible repeat (first | refine blk_drewN ?_ _ | refine blk_drew ?_ | refine blk_alloc ?_ _)); exact BK543.out)) : gb550 ≠ gb543)); have n9_ := Aside0.mk ((by rw [hg]; exact Nat.ne_of_lt (blk_lt (g := gb548) (o := .cells #[u549000, .bool x549001_1] 39 (0, 0)) (by (with_reducible repeat (first | refine blk_drewN ?_ _ | refine blk_drew ?_ | refine blk_alloc ?_ _)); exact BK548.out)) : gb548 ≠ gb550)); have n10_ := Aside0.mk ((by rw [hg]; exact Nat.ne_of_gt (blk_lt (g := gb548) (o := .cells #[u549000, .bool x549001_1] 39 (0, 0)) (by (with_reducible repeat (first | refine blk_drewN ?_ _ | refine blk_drew ?_ | refine blk_alloc ?_ _)); exact BK548.out)) : gb550 ≠ gb548)); clear HO_549000; clear BK543; clear BK548; clear HB; have HO_549000 := n0_; have BK543 := n1_; have BK548 := n2_; have HB := n3_; have BK550 := n4_; have GW550 := n5_; have GE550 := n6_; have NB543_550 := n7_; have NB550_543 := n8_; have NB548_550 := n9_; have NB550_548 := n10_; clear n0_ n1_ n2_ n3_ n4_ n5_ n6_ n7_ n8_ n9_ n10_; clear hb hbox hg; have hnb16 := NB550_543.out; have hnc16 := NB543_550.out; have hnb17 := NB550_548.out; have hnc17 := NB548_550.out; have hcz18_0 : w15.cell? ⟨gb550, 0, none⟩ = some (.slice none 0 0) := (blk_cell BK550.out 0).trans rfl; have hcz18_1 : w15.cell? ⟨gb550, 1, none⟩ = some (.int .i64 0) := (blk_cell BK550.out 1).trans rfl; have hcz18_2 : w15.cell? ⟨gb550, 2, none⟩ = some (.int .i64 0) := (blk_cell BK550.out 2).trans rfl; have hcz18_3 : w15.cell? ⟨gb550, 3, none⟩ = some (.string (⟨#[]⟩ : ByteArray)) := (blk_cell BK550.out 3).trans rfl; have hfz18_0 := blk_frozen BK550.out 0; have hfz18_1 := blk_frozen BK550.out 1; have hfz18_2 := blk_frozen BK550.out 2; have hfz18_3 := blk_frozen BK550.out 3; have hnb19 := NB548_543.out; have hnc19 := NB543_548.out; have hcz20_0 : w15.cell? ⟨gb548, 0, none⟩ = some (u549000) := (blk_cell BK548.out 0).trans rfl; have hcz20_1 : w15.cell? ⟨gb548, 1, none⟩ = some (.bool x549001_1) := (blk_cell BK548.out 1).trans rfl; have hfz20_0 := blk_frozen BK548.out 0; have hfz20_1 := blk_frozen BK548.out 1; obtain ⟨Ao21, co21, eo21⟩ := Kd.S_slice HO_549000.out; subst eo21) | ((with_reducible refine gate_callee (f := 25) rfl ?_); refine goesL_ (some 18) rfl rfl Try.func25 (by kernel_rfl) rfl #[.agg #[.slice Ao21 x549000_1.length co21, .bool x549001_1], .agg #[.slice A549_0 ((rd_T44 l0 x12_1).f0).length c549_0, .int .i64 ((rd_T44 l0 x12_1).f1), .int .i64 ((rd_T44 l0 x12_1).f2), .string ((rd_T44 l0 x12_1).f3)]] rfl (by (try simp only [List.map_toArray, List.map_cons, List.map_nil]); first | done | rfl | (simp only [List.length_drop, List.length_take]; rfl)) ?_; (with_reducible refine (impl_Tell.calls k1 _ _ x549000_1 x549001_1 _ _ ((rd_T44 l0 x12_1).f0) ((rd_T44 l0 x12_1).f1) ((rd_T44 l0 x12_1).f2) ((rd_T44 l0 x12_1).f3) t551 t554 _ ?side1 ?side2 ?side3 ?side4 A14.out).mono ?_); (case side1 => refine (Kd.S_reads' (e := 44) (base := w.heap.size) (ok := fun k_ => (True ∧ k_ ≠ gb550)) (n := x549000_1.length) (c := co21) ?_).2.2; exact (by (with_reducible repeat (first | apply Kd.S_alloc | apply Kd.S_drewN | apply Kd.S_drew)); exact (Kd.S_mono (Kd.S_far (p := ⟨gb550, 3, none⟩) (Kd.S_far (p := ⟨gb550, 2, none⟩) (Kd.S_far (p := ⟨gb550, 1, none⟩) (Kd.S_far (p := ⟨gb550, 0, none⟩) (Kd.S_mono HO_549000.out (fun k_ hk => (⟨hk, hk.2⟩ : _ ∧ k_ ≠ gb550))) (fun _ hk => hk.2) (.slice A549_0 ((rd_T44 l0 x12_1).f0).length c549_0)) (fun _ hk => hk.2) (.int .i64 ((rd_T44 l0 x12_1).f1))) (fun _ hk => hk.2) (.int .i64 ((rd_T44 l0 x12_1).f2))) (fun _ hk => hk.2) (.string ((rd_T44 l0 x12_1).f3))) (fun _ h_ => h_.1)))); (case side2 => exact (Kd.S_reads' HO_549000.out).2.1); (case side3 => exact Kd.C_below HR549_0.out (by repeat (first | (with_reducible first | exact HB.out | apply below_alloc | apply pw_below_drewN | apply below_drew1 | refine below_set ?_ GE543.out | refine below_set ?_ GE548.out | refine below_set ?_ GE550.out) | exact HB.out))); (case side4 => exact HC549_0.out); rintro e w22 ⟨v552, rfl, ho0, hb⟩; refine ⟨_, rfl, ?_⟩; have n0_ := Aside0.mk (Kd.S_elder' (by (with_reducible repeat (first | apply Kd.S_alloc | apply Kd.S_drewN | apply Kd.S_drew)); exact (Kd.S_mono (Kd.S_far (p := ⟨gb550, 3, none⟩) (Kd.S_far (p := ⟨gb550, 2, none⟩) (Kd.S_far (p := ⟨gb550, 1, none⟩) (Kd.S_far (p := ⟨gb550, 0, none⟩) (Kd.S_mono HO_549000.out (fun k_ hk => (⟨hk, hk.2⟩ : _ ∧ k_ ≠ gb550))) (fun _ hk => hk.2) (.slice A549_0 ((rd_T44 l0 x12_1).f0).length c549_0)) (fun _ hk => hk.2) (.int .i64 ((rd_T44 l0 x12_1).f1))) (fun _ hk => hk.2) (.int .i64 ((rd_T44 l0 x12_1).f2))) (fun _ hk => hk.2) (.string ((rd_T44 l0 x12_1).f3))) (fun _ h_ => h_.1))) (Kd.S_base ho0) hb); have n1_ := Aside0.mk (Kd.S_lower (Kd.S_newB (Kd.S_new' ho0 (Kd.S_lt (by (with_reducible repeat (first | apply Kd.S_alloc | apply Kd.S_drewN | apply Kd.S_drew)); exact (Kd.S_mono (Kd.S_far (p := ⟨gb550, 3, none⟩) (Kd.S_far (p := ⟨gb550, 2, none⟩) (Kd.S_far (p := ⟨gb550, 1, none⟩) (Kd.S_far (p := ⟨gb550, 0, none⟩) (Kd.S_mono HO_549000.out (fun k_ hk => (⟨hk, hk.2⟩ : _ ∧ k_ ≠ gb550))) (fun _ hk => hk.2) (.slice A549_0 ((rd_T44 l0 x12_1).f0).length c549_0)) (fun _ hk => hk.2) (.int .i64 ((rd_T44 l0 x12_1).f1))) (fun _ hk => hk.2) (.int .i64 ((rd_T44 l0 x12_1).f2))) (fun _ hk => hk.2) (.string ((rd_T44 l0 x12_1).f3))) (fun _ h_ => h_.1))))) (g := gb550) (o := .cells #[.slice A549_0 ((rd_T44 l0 x12_1).f0).length c549_0, .int .i64 ((rd_T44 l0 x12_1).f1), .int .i64 ((rd_T44 l0 x12_1).f2), .string ((rd_T44 l0 x12_1).f3)] 44 (0, 0)) (by (with_reducible repeat (first | refine blk_drewN ?_ _ | refine blk_drew ?_ | refine blk_alloc ?_ _)); refine blk_put (cs := #[.slice A549_0 ((rd_T44 l0 x12_1).f0).length c549_0, .int .i64 ((rd_T44 l0 x12_1).f1), .int .i64 ((rd_T44 l0 x12_1).f2), .string (⟨#[]⟩ : ByteArray)]) ?_ 3 _ rfl; (with_reducible repeat (first | refine blk_drewN ?_ _ | refine blk_drew ?_ | refine blk_alloc ?_ _)); refine blk_put (cs := #[.slice A549_0 ((rd_T44 l0 x12_1).f0).length c549_0, .int .i64 ((rd_T44 l0 x12_1).f1), .int .i64 0, .string (⟨#[]⟩ : ByteArray)]) ?_ 2 _ rfl; (with_reducible repeat (first | refine blk_drewN ?_ _ | refine blk_drew ?_ | refine blk_alloc ?_ _)); refine blk_put (cs := #[.slice A549_0 ((rd_T44 l0 x12_1).f0).length c549_0, .int .i64 0, .int .i64 0, .string (⟨#[]⟩ : ByteArray)]) ?_ 1 _ rfl; (with_reducible repeat (first | refine blk_drewN ?_ _ | refine blk_drew ?_ | refine blk_alloc ?_ _)); refine blk_put (cs := #[.slice none 0 0, .int .i64 0, .int .i64 0, .string (⟨#[]⟩ : ByteArray)]) ?_ 0 _ rfl; (with_reducible repeat (first | refine blk_drewN ?_ _ | refine blk_drew ?_ | refine blk_alloc ?_ _)); exact BK550.out)) (below_size (by repeat (first | (with_reducible first | exact HB.out | apply below_alloc | apply pw_below_drewN | apply below_drew1 | refine below_set ?_ GE543.out | refine below_set ?_ GE548.out | refine below_set ?_ GE550.out) | exact HB.out)))); have n2_ := Aside0.mk (blk_below (g := gb543) (o := .cells #[.slice A1_0 l1_0.length c1_0, .bool a1_1] 39 (0, 0)) (by (with_reducible repeat (first | refine blk_drewN ?_ _ | refine blk_drew ?_ | refine blk_alloc ?_ _)); refine blk_far ?_ NB543_550.out _; (with_reducible repeat (first | refine blk_drewN ?_ _ | refine blk_drew ?_ | refine blk_alloc ?_ _)); refine blk_far ?_ NB543_550.out _; (with_reducible repeat (first | refine blk_drewN ?_ _ | refine blk_drew ?_ | refine blk_alloc ?_ _)); refine blk_far ?_ NB543_550.out _; (with_reducible repeat (first | refine blk_drewN ?_ _ | refine blk_drew ?_ | refine blk_alloc ?_ _)); refine blk_far ?_ NB543_550.out _; (with_reducible repeat (first | refine blk_drewN ?_ _ | refine blk_drew ?_ | refine blk_alloc ?_ _)); exact BK543.out) hb); have n3_ := Aside0.mk (blk_below (g := gb548) (o := .cells #[.slice Ao21 x549000_1.length co21, .bool x549001_1] 39 (0, 0)) (by (with_reducible repeat (first | refine blk_drewN ?_ _ | refine blk_drew ?_ | refine blk_alloc ?_ _)); refine blk_far ?_ NB548_550.out _; (with_reducible repeat (first | refine blk_drewN ?_ _ | refine blk_drew ?_ | refine blk_alloc ?_ _)); refine blk_far ?_ NB548_550.out _; (with_reducible repeat (first | refine blk_drewN ?_ _ | refine blk_drew ?_ | refine blk_alloc ?_ _)); refine blk_far ?_ NB548_550.out _; (with_reducible repeat (first | refine blk_drewN ?_ _ | refine blk_drew ?_ | refine blk_alloc ?_ _)); refine blk_far ?_ NB548_550.out _; (with_reducible repeat (first | refine blk_drewN ?_ _ | refine blk_drew ?_ | refine blk_alloc ?_ _)); exact BK548.out) hb); have n4_ := Aside0.mk (blk_below (g := gb550) (o := .cells #[.slice A549_0 ((rd_T44 l0 x12_1).f0).length c549_0, .int .i64 ((rd_T44 l0 x12_1).f1), .int .i64 ((rd_T44 l0 x12_1).f2), .string ((rd_T44 l0 x12_1).f3)] 44 (0, 0)) (by (with_reducible repeat (first | refine blk_drewN ?_ _ | refine blk_drew ?_ | refine blk_alloc ?_ _)); refine blk_put (cs := #[.slice A549_0 ((rd_T44 l0 x12_1).f0).length c549_0, .int .i64 ((rd_T44 l0 x12_1).f1), .int .i64 ((rd_T44 l0 x12_1).f2), .string (⟨#[]⟩ : ByteArray)]) ?_ 3 _ rfl; (with_reducible repeat (first | refine blk_drewN ?_ _ | refine blk_drew ?_ | refine blk_alloc ?_ _)); refine blk_put (cs := #[.slice A549_0 ((rd_T44 l0 x12_1).f0).length c549_0, .int .i64 ((rd_T44 l0 x12_1).f1), .int .i64 0, .string (⟨#[]⟩ : ByteArray)]) ?_ 2 _ rfl; (with_reducible repeat (first | refine blk_drewN ?_ _ | refine blk_drew ?_ | refine blk_alloc ?_ _)); refine blk_put (cs := #[.slice A549_0 ((rd_T44 l0 x12_1).f0).length c549_0, .int .i64 0, .int .i64 0, .string (⟨#[]⟩ : ByteArray)]) ?_ 1 _ rfl; (with_reducible repeat (first | refine blk_drewN ?_ _ | refine blk_drew ?_ | refine blk_alloc ?_ _)); refine blk_put (cs := #[.slice none 0 0, .int .i64 0, .int .i64 0, .string (⟨#[]⟩ : ByteArray)]) ?_ 0 _ rfl; (with_reducible repeat (first | refine blk_drewN ?_ _ | refine blk_drew ?_ | refine blk_alloc ?_ _)); exact BK550.out) hb); have n5_ := Aside0.mk (below_step (by repeat (first | (with_reducible first | exact HB.out | apply below_alloc | apply pw_below_drewN | apply below_drew1 | refine below_set ?_ GE543.out | refine below_set ?_ GE548.out | refine below_set ?_ GE550.out) | exact HB.out)) hb); clear HO_549000; clear BK543; clear BK548; clear BK550; clear HB; have HO_549000 := n0_; have HO553 := n1_; have BK543 := n2_; have BK548 := n3_; have BK550 := n4_; have HB := n5_; clear n0_ n1_ n2_ n3_ n4_ n5_; (try clear hb); (try clear hb2); (try clear hk); (try clear hi); (try clear ho0); obtain ⟨Ao23, co23, eo23⟩ := Kd.S_slice HO553.out; subst eo23; have hcz24_0 : w22.cell? ⟨gb548, 0, none⟩ = some (.slice Ao21 x549000_1.length co21) := (blk_cell BK548.out 0).trans rfl; have hcz24_1 : w22.cell? ⟨gb548, 1, none⟩ = some (.bool x549001_1) := (blk_cell BK548.out 1).trans rfl; have hfz24_0 := blk_frozen BK548.out 0; have hfz24_1 := blk_frozen BK548.out 1))
      go_roundg k1
      case measure => have := HK1.out; omega
      case rel => exact ⟨(wrap64 (x12_1 + 1)), (t551), (t554), (.slice Ao23 t551.length co23), (by first | rfl | (simp; done) | (simp [*]; done)), H', ⟨by have := HK1.out; omega⟩, ⟨by (with_reducible repeat (first | apply Kd.S_alloc | apply Kd.S_drewN | apply Kd.S_drew)); exact Kd.S_mono (Kd.S_far (p := ⟨gb548, 1, none⟩) (Kd.S_far (p := ⟨gb548, 0, none⟩) (Kd.S_types HO553.out BK548.out (by decide)) (fun _ hk => hk.2) (.slice Ao23 t551.length co23)) (fun _ hk => hk.2) (.bool t554)) (fun _ hk => trivial)⟩, ⟨by (with_reducible repeat (first | refine blk_drewN ?_ _ | refine blk_drew ?_ | refine blk_alloc ?_ _)); refine blk_far ?_ NB543_548.out _; (with_reducible repeat (first | refine blk_drewN ?_ _ | refine blk_drew ?_ | refine blk_alloc ?_ _)); refine blk_far ?_ NB543_548.out _; (with_reducible repeat (first | refine blk_drewN ?_ _ | refine blk_drew ?_ | refine blk_alloc ?_ _)); exact BK543.out⟩, ⟨by (with_reducible repeat (first | refine blk_drewN ?_ _ | refine blk_drew ?_ | refine blk_alloc ?_ _)); refine blk_put (cs := #[.slice Ao23 t551.length co23, .bool x549001_1]) ?_ 1 _ rfl; (with_reducible repeat (first | refine blk_drewN ?_ _ | refine blk_drew ?_ | refine blk_alloc ?_ _)); refine blk_put (cs := #[.slice Ao21 x549000_1.length co21, .bool x549001_1]) ?_ 0 _ rfl; (with_reducible repeat (first | refine blk_drewN ?_ _ | refine blk_drew ?_ | refine blk_alloc ?_ _)); exact BK548.out⟩, ⟨by repeat (first | (with_reducible first | exact HB.out | apply below_alloc | apply pw_below_drewN | apply below_drew1 | refine below_set ?_ GE543.out | refine below_set ?_ GE548.out | refine below_set ?_ GE550.out) | exact HB.out)⟩⟩
     ·
      rw [if_neg c13] at H
      exact absurd H (by simp)
    ·
     rw [if_neg c12] at H
     exact absurd H (by simp)
   ·
    rw [if_neg c11] at H
    have c11b0 : decide (x12_1 < (l0.length : Int)) = false := decide_eq_false c11
    clear c11
    by_cases c25 : x549001_1 = true
    ·
     subst c25
     have H1 : (some ([] : List (S44))) = some r := by rw [if_pos rfl] at H; exact H
     clear H
     have H := H1
     clear H1
     obtain rfl := Option.some.inj H
     have hnb26 := NB548_543.out
     have hnc26 := NB543_548.out
     have hcz27_0 : wr.cell? ⟨gb548, 0, none⟩ = some (u549000) := (blk_cell BK548.out 0).trans rfl
     have hcz27_1 : wr.cell? ⟨gb548, 1, none⟩ = some (.bool true) := (blk_cell BK548.out 1).trans rfl
     have hfz27_0 := blk_frozen BK548.out 0
     have hfz27_1 := blk_frozen BK548.out 1
     go_wp2
     go_ret
     exact ⟨_, by first | rfl | (simp [errW_none, errW_some] <;> rfl) | (simp [*, errW_none, errW_some] <;> rfl), by first | exact Kd.S_nil _ _ _ _ _ | exact Kd.N_nil _ _ _ _ _ | exact Kd.V_nil _ _ _ _ _ | exact Kd.Q_nil _ _ _ _ _ | exact Kd.R_nil _ _ _ _ _, by repeat (first | (with_reducible first | exact HB.out | apply below_alloc | apply pw_below_drewN | apply below_drew1 | refine below_set ?_ GE543.out | refine below_set ?_ GE548.out) | exact HB.out)⟩
    ·
     replace c25 := Bool.eq_false_iff.mpr c25
     subst c25
     have H1 : (some x549000_1) = some r := by rw [if_neg (show ¬ (false = true) by decide)] at H; exact H
     clear H
     have H := H1
     clear H1
     obtain rfl := Option.some.inj H
     have hnb28 := NB548_543.out
     have hnc28 := NB543_548.out
     have hcz29_0 : wr.cell? ⟨gb548, 0, none⟩ = some (u549000) := (blk_cell BK548.out 0).trans rfl
     have hcz29_1 : wr.cell? ⟨gb548, 1, none⟩ = some (.bool false) := (blk_cell BK548.out 1).trans rfl
     have hfz29_0 := blk_frozen BK548.out 0
     have hfz29_1 := blk_frozen BK548.out 1
     go_wp2
     go_ret
     exact ⟨_, by first | rfl | (simp [errW_none, errW_some] <;> rfl) | (simp [*, errW_none, errW_some] <;> rfl), by (with_reducible repeat (first | apply Kd.S_alloc | apply Kd.S_drewN | apply Kd.S_drew)); exact HO_549000.out, by repeat (first | (with_reducible first | exact HB.out | apply below_alloc | apply pw_below_drewN | apply below_drew1 | refine below_set ?_ GE543.out | refine below_set ?_ GE548.out) | exact HB.out)⟩

end Go.Proofs.Ytfholjcelnkleaa.Print
end
section
namespace Go.Proofs.Ytfholjcelnkleaa.Print
open Go.RowKit Go.Proofs.YtfholjcelnkleaaV.PrintWords Go.Proofs.YtfholjcelnkleaaV.PrintLast Go.Proofs.YtfholjcelnkleaaV.PrintMore
set_option linter.unusedVariables false
set_option linter.unusedSimpArgs false
theorem specL4Copy_ev (x : S44) (h : x.f0.length ≤ 5000000) : spec_l4Copy.f x.f0 x.f1 x.f2 x.f3 = some (x.f0, x.f1, x.f2, x.f3) := by
  simp only [spec_l4Copy.f, Option.bind_some, List.nil_append, List.length_nil]
  exact if_pos (by omega)
theorem implCopySet_ev (l : List S164) (h : l.length ≤ 5000000) : impl_copySet.f l = some l := by
  simp only [impl_copySet.f, List.nil_append, List.length_nil]
  exact if_pos (by omega)
theorem implCopyAlarm_ev (x : S44) (h : x.f0.length ≤ 5000000) : impl_copyAlarm.f x.f0 x.f1 x.f2 x.f3 = some (x.f0, x.f1, x.f2, x.f3) := by
  simp only [impl_copyAlarm.f, implCopySet_ev x.f0 h, Option.bind_some]
theorem specL4All_l0 : ∀ (suf pre : List S44), (pre ++ suf).length ≤ 5000000 → (∀ y ∈ suf, y.f0.length ≤ 5000000) → Ev (fun k => spec_l4All.l0 k (pre ++ suf) pre (pre.length : Int)) (pre ++ suf)
  | [], pre, h, hW => by
    refine Ev.step (f := fun _ => some (pre ++ [])) (fun k => ?_) (Ev.now _)
    simp only [spec_l4All.l0]
    rw [if_neg (not_lt_end pre), List.append_nil]
  | y :: suf, pre, h, hW => by
    have ih := specL4All_l0 suf (pre ++ [y]) (by simpa using h) (fun z hz => hW z (List.mem_cons_of_mem _ hz))
    have hp : pre.length < 5000000 := by simp at h; omega
    refine Ev.step (f := fun k => spec_l4All.l0 k ((pre ++ [y]) ++ suf) (pre ++ [y]) ((pre ++ [y]).length : Int)) (fun k => ?_) (by rw [mid_assoc pre suf y]; exact ih)
    simp only [spec_l4All.l0]
    rw [if_pos (lt_mid pre suf y)]
    simp only [nn, if_true, rdmmAlarm, specL4Copy_ev y (hW y List.mem_cons_self), Option.bind_some, wrap_up pre.length (by omega)]
    rw [if_pos (by omega)]
    congr 1
    · simp
    · simp
theorem specL4All_ev (l : List S44) (h : l.length ≤ 5000000) (hW : ∀ y ∈ l, y.f0.length ≤ 5000000) : Ev (fun k => spec_l4All.f k l) l :=
  Ev.congr (fun k => by unfold spec_l4All.f; rfl) (specL4All_l0 l [] (by simpa using h) hW)
theorem implCopyAlarms_l0 : ∀ (suf pre : List S44), (pre ++ suf).length ≤ 5000000 → (∀ y ∈ suf, y.f0.length ≤ 5000000) → Ev (fun k => impl_copyAlarms.l0 k pre (pre ++ suf) ((pre ++ suf).length : Int) (pre.length : Int)) (pre ++ suf)
  | [], pre, h, hW => by
    refine Ev.step (f := fun _ => some (pre ++ [])) (fun k => ?_) (Ev.now _)
    simp only [impl_copyAlarms.l0]
    rw [if_neg (by simp), List.append_nil]
  | y :: suf, pre, h, hW => by
    have ih := implCopyAlarms_l0 suf (pre ++ [y]) (by simpa using h) (fun z hz => hW z (List.mem_cons_of_mem _ hz))
    have hp : pre.length < 5000000 := by simp at h; omega
    refine Ev.step (f := fun k => impl_copyAlarms.l0 k (pre ++ [y]) ((pre ++ [y]) ++ suf) (((pre ++ [y]) ++ suf).length : Int) ((pre ++ [y]).length : Int)) (fun k => ?_) (by rw [mid_assoc pre suf y]; exact ih)
    simp only [impl_copyAlarms.l0]
    rw [if_pos (lt_mid pre suf y)]
    simp only [nn, if_true, rdmmAlarm, implCopyAlarm_ev y (hW y List.mem_cons_self), Option.bind_some, wrap_up pre.length (by omega)]
    rw [if_pos (lt_mid pre suf y), if_pos (by omega)]
    congr 1
    · simp
    · simp
    · simp
theorem implCopyAlarms_ev (l : List S44) (h : l.length ≤ 5000000) (hW : ∀ y ∈ l, y.f0.length ≤ 5000000) : Ev (fun k => impl_copyAlarms.f k l) l :=
  Ev.congr (fun k => by unfold impl_copyAlarms.f; rfl) (implCopyAlarms_l0 l [] (by simpa using h) hW)

end Go.Proofs.Ytfholjcelnkleaa.Print
end
section
namespace Go.Proofs.Ytfholjcelnkleaa.Print
open Go.RowKit Go.Proofs.YtfholjcelnkleaaV.PrintWords Go.Proofs.YtfholjcelnkleaaV.PrintLast Go.Proofs.YtfholjcelnkleaaV.PrintMore
set_option linter.unusedVariables false
set_option linter.unusedSimpArgs false
/-- What every row below is at most. -/
def OkAlarms (l : List S44) : Prop := l.length ≤ 5000000 ∧ ∀ y ∈ l, y.f0.length ≤ 5000000
def tell (s : S39) (a : S44) : S39 := if s.f1 = true then s else if (s.f0.length : Int) ≥ 3 then ⟨[], true⟩ else ⟨s.f0 ++ [a], s.f1⟩
theorem implCopySub_ev (s : S39) (h : OkAlarms s.f0) : Ev (fun k => impl_copySub.f k s.f0 s.f1) (s.f0, s.f1) := by
  obtain ⟨K, g⟩ := implCopyAlarms_ev s.f0 h.1 h.2
  exact ⟨K, fun k hk => by simp only [impl_copySub.f, g k hk, Option.bind_some]⟩
theorem specL9Copy_ev (s : S39) (h : OkAlarms s.f0) : Ev (fun k => spec_l9Copy.f k s.f0 s.f1) (s.f0, s.f1) := by
  obtain ⟨K, g⟩ := specL4All_ev s.f0 h.1 h.2
  exact ⟨K, fun k hk => by simp only [spec_l9Copy.f, g k hk, Option.bind_some]⟩
theorem implTell_ev (s : S39) (a : S44) (h : OkAlarms s.f0) (ha : a.f0.length ≤ 5000000) : Ev (fun k => impl_Tell.f k s.f0 s.f1 a.f0 a.f1 a.f2 a.f3) ((tell s a).f0, (tell s a).f1) := by
  obtain ⟨K, g⟩ := implCopySub_ev s h
  have h1 := h.1
  refine ⟨K, fun k hk => ?_⟩
  have e := g k hk
  simp only at e
  simp only [impl_Tell.f, e, Option.bind_some, implCopyAlarm_ev a ha, tell]
  by_cases c : s.f1 = true
  · simp only [if_pos c]
  · simp only [if_neg c]
    by_cases c2 : (s.f0.length : Int) ≥ 3
    · simp only [if_pos c2]
    · simp only [if_neg c2]
      rw [if_pos (by omega)]
theorem specTell_ev (s : S39) (a : S44) (h : OkAlarms s.f0) (ha : a.f0.length ≤ 5000000) : Ev (fun k => spec_Tell.f k s.f0 s.f1 a.f0 a.f1 a.f2 a.f3) ((tell s a).f0, (tell s a).f1) := by
  obtain ⟨K, g⟩ := specL9Copy_ev s h
  have h1 := h.1
  refine ⟨K, fun k hk => ?_⟩
  have e := g k hk
  simp only at e
  simp only [spec_Tell.f, e, Option.bind_some, specL4Copy_ev a ha, tell]
  by_cases c : s.f1 = true
  · simp only [if_pos c]
  · simp only [if_neg c]
    by_cases c2 : (s.f0.length : Int) ≥ 3
    · simp only [if_pos c2]
    · simp only [if_neg c2]
      rw [if_pos (by omega)]
theorem tell_or (s : S39) (a : S44) : (∀ y ∈ (tell s a).f0, y ∈ s.f0 ∨ y = a) ∧ ((tell s a).f0.length ≤ s.f0.length ∨ (tell s a).f0.length ≤ 3) := by
  unfold tell
  split
  · exact ⟨fun y hy => .inl hy, .inl (Nat.le_refl _)⟩
  · split
    · exact ⟨fun y hy => by simp at hy, .inl (by simp)⟩
    · refine ⟨fun y hy => ?_, .inr ?_⟩
      · rcases List.mem_append.1 hy with h | h
        · exact .inl h
        · exact .inr (List.mem_singleton.1 h)
      · simp only [List.length_append, List.length_singleton]; omega
theorem tell_ok {s : S39} {a : S44} (h : OkAlarms s.f0) (ha : a.f0.length ≤ 5000000) : OkAlarms (tell s a).f0 := by
  obtain ⟨h1, h2⟩ := tell_or s a
  refine ⟨by have := h.1; rcases h2 with h2 | h2 <;> omega, fun y hy => ?_⟩
  rcases h1 y hy with h | rfl
  · exact (by assumption : OkAlarms s.f0).2 y h
  · exact ha
def hear (s : S39) : S39 × S44 × Int := if s.f1 = true then (z39, z44, 2) else match s.f0 with
  | [] => (⟨[], s.f1⟩, z44, 0)
  | a :: q => (⟨q, false⟩, a, 1)
theorem implHear_ev (s : S39) (h : OkAlarms s.f0) : Ev (fun k => impl_Hear.f k s.f0 s.f1) ((hear s).1.f0, (hear s).1.f1, (hear s).2.1.f0, (hear s).2.1.f1, (hear s).2.1.f2, (hear s).2.1.f3, (hear s).2.2) := by
  obtain ⟨q, lag⟩ := s
  cases lag with
  | true => exact ⟨0, fun k _ => by simp [impl_Hear.f, hear, z39, z44]⟩
  | false =>
    cases q with
    | nil =>
      obtain ⟨K, g⟩ := implCopySub_ev (⟨[], false⟩ : S39) h
      refine ⟨K, fun k hk => ?_⟩
      have e := g k hk
      simp only at e
      simp [impl_Hear.f, hear, e, z44]
    | cons a q =>
      obtain ⟨K, g⟩ := implCopyAlarms_ev q (by have := h.1; simp only [List.length_cons] at this; omega) (fun y hy => h.2 y (List.mem_cons_of_mem _ hy))
      refine ⟨K, fun k hk => ?_⟩
      have e := g k hk
      simp only at e
      have hr : rd_T44 (a :: q) 0 = a := rfl
      have hl : ¬ (((a :: q).length : Int) = 0) := by simp only [List.length_cons]; omega
      have hl1 : 1 ≤ ((a :: q).length : Int) := by simp only [List.length_cons]; omega
      have hl2 : 0 < ((a :: q).length : Int) := by omega
      simp only [impl_Hear.f, Bool.false_eq_true, if_false, if_neg hl, if_pos hl1, List.drop_succ_cons, List.drop_zero, e, Option.bind_some, if_pos hl2, hr, implCopyAlarm_ev a (h.2 a List.mem_cons_self), hear]
theorem specHear_ev (s : S39) (h : OkAlarms s.f0) : Ev (fun k => spec_Hear.f k s.f0 s.f1) ((hear s).1.f0, (hear s).1.f1, (hear s).2.1.f0, (hear s).2.1.f1, (hear s).2.1.f2, (hear s).2.1.f3, (hear s).2.2) := by
  obtain ⟨q, lag⟩ := s
  cases lag with
  | true => exact ⟨0, fun k _ => by simp [spec_Hear.f, hear, z39, z44]⟩
  | false =>
    cases q with
    | nil => exact ⟨0, fun k hk => by simp [spec_Hear.f, hear, z44]⟩
    | cons a q =>
      obtain ⟨K, g⟩ := specL4All_ev q (by have := h.1; simp only [List.length_cons] at this; omega) (fun y hy => h.2 y (List.mem_cons_of_mem _ hy))
      refine ⟨K, fun k hk => ?_⟩
      have e := g k hk
      simp only at e
      have hr : rd_T44 (a :: q) 0 = a := rfl
      have hl : ¬ (((a :: q).length : Int) = 0) := by simp only [List.length_cons]; omega
      have hl1 : 1 ≤ ((a :: q).length : Int) := by simp only [List.length_cons]; omega
      have hl2 : 0 < ((a :: q).length : Int) := by omega
      simp only [spec_Hear.f, Bool.false_eq_true, if_false, if_neg hl, if_pos hl1, List.drop_succ_cons, List.drop_zero, e, Option.bind_some, if_pos hl2, hr, specL4Copy_ev a (h.2 a List.mem_cons_self), hear]
theorem hear_or (s : S39) : (∀ y ∈ (hear s).1.f0, y ∈ s.f0) ∧ (hear s).1.f0.length ≤ s.f0.length ∧ ((hear s).2.1 ∈ s.f0 ∨ (hear s).2.1 = z44) := by
  obtain ⟨q, lag⟩ := s
  cases lag with
  | true => simp [hear, z39]
  | false =>
    cases q with
    | nil => simp [hear]
    | cons a q => exact ⟨fun y hy => List.mem_cons_of_mem _ hy, by simp [hear], .inl List.mem_cons_self⟩
def heard (l : List S44) (s : S39) : List S44 := if (l.foldl tell s).f1 = true then [] else (l.foldl tell s).f0
theorem implHeard_l0 : ∀ (suf pre : List S44) (s : S39), (pre ++ suf).length ≤ 5000000 → (∀ y ∈ suf, y.f0.length ≤ 5000000) → OkAlarms s.f0 → Ev (fun k => impl_Heard.l0 k (pre ++ suf) ((pre ++ suf).length : Int) (pre.length : Int) s.f0 s.f1) (heard suf s)
  | [], pre, s, h, hW, hs => by
    refine Ev.step (f := fun _ => some (heard [] s)) (fun k => ?_) (Ev.now _)
    simp only [impl_Heard.l0]
    rw [if_neg (by simp)]
    simp only [heard, List.foldl_nil]
    by_cases c : s.f1 = true <;> simp [c]
  | y :: suf, pre, s, h, hW, hs => by
    have hy := hW y List.mem_cons_self
    obtain ⟨K, g⟩ := implHeard_l0 suf (pre ++ [y]) (tell s y) (by simpa using h) (fun z hz => hW z (List.mem_cons_of_mem _ hz)) (tell_ok hs hy)
    obtain ⟨K2, g2⟩ := implTell_ev s y hs hy
    have hp : pre.length < 5000000 := by simp at h; omega
    refine ⟨K + K2 + 1, fun k hk => ?_⟩
    obtain ⟨k, rfl⟩ : ∃ m, k = m + 1 := ⟨k - 1, by omega⟩
    have e := g k (by omega)
    have e2 := g2 k (by omega)
    simp only at e e2
    rw [← mid_assoc pre suf y] at e
    simp only [impl_Heard.l0]
    rw [if_pos (lt_mid pre suf y)]
    simp only [nn, if_true, rdmmAlarm, wrap_up pre.length (by omega)]
    rw [if_pos (lt_mid pre suf y), e2]
    simp only [Option.bind_some]
    rw [show ((pre.length + 1 : Nat) : Int) = ((pre ++ [y]).length : Int) by simp, e]
    rfl
theorem implHeard_ev (l : List S44) (s : S39) (h : OkAlarms l) (hs : OkAlarms s.f0) : Ev (fun k => impl_Heard.f k l s.f0 s.f1) (heard l s) := by
  obtain ⟨K, g⟩ := implCopySub_ev s hs
  obtain ⟨K2, g2⟩ := implHeard_l0 l [] s (by simpa using h.1) h.2 hs
  refine ⟨K + K2, fun k hk => ?_⟩
  have e := g k (by omega)
  have e2 := g2 k (by omega)
  simp only [List.nil_append, List.length_nil, Int.ofNat_zero] at e e2
  simp only [impl_Heard.f, e, Option.bind_some]
  exact e2
theorem specHeard_l0 : ∀ (suf pre : List S44) (s : S39), (pre ++ suf).length ≤ 5000000 → (∀ y ∈ suf, y.f0.length ≤ 5000000) → OkAlarms s.f0 → Ev (fun k => spec_Heard.l0 k (pre ++ suf) (pre.length : Int) s.f0 s.f1) (heard suf s)
  | [], pre, s, h, hW, hs => by
    obtain ⟨K, g⟩ := specL4All_ev s.f0 hs.1 hs.2
    refine ⟨K + 1, fun k hk => ?_⟩
    obtain ⟨k, rfl⟩ : ∃ m, k = m + 1 := ⟨k - 1, by omega⟩
    have e := g k (by omega)
    simp only at e
    simp only [spec_Heard.l0]
    rw [if_neg (not_lt_end pre), e]
    simp only [heard, List.foldl_nil, Option.bind_some]
    by_cases c : s.f1 = true <;> simp [c]
  | y :: suf, pre, s, h, hW, hs => by
    have hy := hW y List.mem_cons_self
    obtain ⟨K, g⟩ := specHeard_l0 suf (pre ++ [y]) (tell s y) (by simpa using h) (fun z hz => hW z (List.mem_cons_of_mem _ hz)) (tell_ok hs hy)
    obtain ⟨K2, g2⟩ := specTell_ev s y hs hy
    have hp : pre.length < 5000000 := by simp at h; omega
    refine ⟨K + K2 + 1, fun k hk => ?_⟩
    obtain ⟨k, rfl⟩ : ∃ m, k = m + 1 := ⟨k - 1, by omega⟩
    have e := g k (by omega)
    have e2 := g2 k (by omega)
    simp only at e e2
    rw [← mid_assoc pre suf y] at e
    simp only [spec_Heard.l0]
    rw [if_pos (lt_mid pre suf y)]
    simp only [nn, if_true, rdmmAlarm, wrap_up pre.length (by omega)]
    rw [e2]
    simp only [Option.bind_some]
    rw [show ((pre.length + 1 : Nat) : Int) = ((pre ++ [y]).length : Int) by simp, e]
    rfl
theorem specHeard_ev (l : List S44) (s : S39) (h : OkAlarms l) (hs : OkAlarms s.f0) : Ev (fun k => spec_Heard.f k l s.f0 s.f1) (heard l s) := by
  obtain ⟨K, g⟩ := specL9Copy_ev s hs
  obtain ⟨K2, g2⟩ := specHeard_l0 l [] s (by simpa using h.1) h.2 hs
  refine ⟨K + K2, fun k hk => ?_⟩
  have e := g k (by omega)
  have e2 := g2 k (by omega)
  simp only [List.nil_append, List.length_nil, Int.ofNat_zero] at e e2
  simp only [spec_Heard.f, e, Option.bind_some]
  exact e2
theorem fold_or : ∀ (l : List S44) (s : S39), (∀ y ∈ (l.foldl tell s).f0, y ∈ s.f0 ∨ y ∈ l) ∧ ((l.foldl tell s).f0.length ≤ s.f0.length ∨ (l.foldl tell s).f0.length ≤ 3)
  | [], s => ⟨fun y hy => .inl hy, .inl (Nat.le_refl _)⟩
  | a :: l, s => by
    obtain ⟨h1, h2⟩ := fold_or l (tell s a)
    obtain ⟨h3, h4⟩ := tell_or s a
    refine ⟨fun y hy => ?_, ?_⟩
    · rcases h1 y hy with h | h
      · rcases h3 y h with h | rfl
        · exact .inl h
        · exact .inr List.mem_cons_self
      · exact .inr (List.mem_cons_of_mem _ h)
    · rw [List.foldl_cons]; omega
theorem heard_or (l : List S44) (s : S39) : (∀ y ∈ heard l s, y ∈ s.f0 ∨ y ∈ l) ∧ ((heard l s).length ≤ s.f0.length ∨ (heard l s).length ≤ 3) := by
  unfold heard
  split
  · exact ⟨fun y hy => by simp at hy, .inl (by simp)⟩
  · exact fold_or l s
theorem okl_wi {l : List S44} (h : l.length ≤ 4000000 ∧ ∀ y ∈ l, WiAlarm y) : OkAlarms l := ⟨Nat.le_trans h.1 (by decide), fun y hy => Nat.le_trans (h.2 y hy).1.1 (by decide)⟩
theorem ok_wi {s : S39} (h : WiSub s) : OkAlarms s.f0 := okl_wi h.1
theorem a_wi {a : S44} (h : WiAlarm a) : a.f0.length ≤ 5000000 := Nat.le_trans h.1.1 (by decide)
theorem tell_wi {s : S39} {a : S44} (h : WiSub s) (ha : WiAlarm a) : WiSub (tell s a) := by
  obtain ⟨h1, h2⟩ := tell_or s a
  refine ⟨⟨by have := h.1.1; rcases h2 with h2 | h2 <;> omega, fun y hy => ?_⟩, trivial⟩
  rcases h1 y hy with h3 | rfl
  · exact h.1.2 y h3
  · exact ha
theorem Wi_zAlarm : WiAlarm z44 := ⟨⟨by simp [z44], fun y hy => by simp [z44] at hy⟩, trivial, trivial, by show (⟨#[]⟩ : ByteArray).size ≤ 4000000; decide⟩
theorem hear_wi {s : S39} (h : WiSub s) : WiSub (hear s).1 ∧ WiAlarm (hear s).2.1 := by
  obtain ⟨h1, h2, h3⟩ := hear_or s
  refine ⟨⟨⟨Nat.le_trans h2 h.1.1, fun y hy => h.1.2 y (h1 y hy)⟩, trivial⟩, ?_⟩
  rcases h3 with h3 | h3
  · exact h.1.2 _ h3
  · rw [h3]; exact Wi_zAlarm
theorem heard_wi {l : List S44} {s : S39} (hl : l.length ≤ 4000000 ∧ ∀ y ∈ l, WiAlarm y) (h : WiSub s) : (heard l s).length ≤ 4000000 ∧ ∀ y ∈ heard l s, WiAlarm y := by
  obtain ⟨h1, h2⟩ := heard_or l s
  refine ⟨by have := h.1.1; rcases h2 with h2 | h2 <;> omega, fun y hy => ?_⟩
  rcases h1 y hy with h3 | h3
  · exact h.1.2 y h3
  · exact hl.2 y h3

end Go.Proofs.Ytfholjcelnkleaa.Print
end
section
namespace Go.Proofs.Ytfholjcelnkleaa.Print
open Go.RowKit Go.Proofs.YtfholjcelnkleaaV.PrintWords Go.Proofs.YtfholjcelnkleaaV.PrintLast Go.Proofs.YtfholjcelnkleaaV.PrintMore
set_option linter.unusedVariables false
set_option linter.unusedSimpArgs false
def cnSubs : List S39 → Nat
  | [] => 0
  | y :: ys => cnAlarms y.f0 + 1 + cnSubs ys
noncomputable def mkSubs : Int → List S39 → List S39
  | _, [] => []
  | k0, y :: ys => ⟨mkAlarms k0 y.f0, ((Int.tmod (k0 + (cnAlarms y.f0 : Int)) 3) == 0)⟩ :: mkSubs (k0 + (cnAlarms y.f0 : Int) + 1) ys
theorem mkSubs_length : ∀ (k0 : Int) (l : List S39), (mkSubs k0 l).length = l.length
  | _, [] => rfl
  | k0, y :: ys => by simp [mkSubs, mkSubs_length _ ys]
theorem cnSubs_le : ∀ (l : List S39), l.length ≤ cnSubs l
  | [] => Nat.le_refl _
  | y :: ys => by have := cnSubs_le ys; simp only [cnSubs, List.length_cons]; omega
theorem rdmmSub (pre suf : List S39) (y : S39) : rd_T39 (pre ++ y :: suf) (pre.length : Int) = y := by unfold rd_T39; simp
theorem markSubS_l0 : ∀ (suf pre : List S39) (k0 : Int), 0 ≤ k0 → k0 + (cnSubs suf : Int) < 4611686018427387904 → (pre ++ suf).length < 4611686018427387904 → Ev (fun k => laws_markSubS.l0 k (pre ++ suf) k0 (pre.length : Int)) (k0 + (cnSubs suf : Int), pre ++ mkSubs k0 suf)
  | [], pre, k0, h0, h1, h => by
    refine Ev.step (f := fun _ => some (k0, pre ++ [])) (fun k => ?_) (by rw [show (k0 + (cnSubs [] : Int), pre ++ mkSubs k0 []) = (k0, pre ++ []) from by simp [cnSubs, mkSubs]]; exact Ev.now _)
    simp only [laws_markSubS.l0]
    rw [if_neg (not_lt_end pre)]
  | y :: suf, pre, k0, h0, h1, h => by
    have hp : pre.length < 4611686018427387904 := by simp at h; omega
    have hc : cnSubs (y :: suf) = cnAlarms y.f0 + 1 + cnSubs suf := rfl
    rw [hc] at h1 ⊢
    obtain ⟨K, g⟩ := markSubS_l0 suf (pre ++ [(⟨mkAlarms k0 y.f0, ((Int.tmod (k0 + (cnAlarms y.f0 : Int)) 3) == 0)⟩ : S39)]) (k0 + (cnAlarms y.f0 : Int) + 1) (by omega) (by omega) (by simpa using h)
    obtain ⟨K0, g0⟩ := markAlarmS_ev y.f0 k0 (by omega) (by omega)
    refine ⟨K + K0 + 1, fun k hk => ?_⟩
    obtain ⟨k, rfl⟩ : ∃ m, k = m + 1 := ⟨k - 1, by omega⟩
    have G := g k (by omega)
    have G0 := g0 k (by omega)
    dsimp only at G G0
    have w1 : wrap64 ((k0 + (cnAlarms y.f0 : Int)) + 1) = (k0 + (cnAlarms y.f0 : Int) + 1) := (wrap_id (by omega) (by omega)).trans (by omega)
    simp only [laws_markSubS.l0]
    rw [if_pos (lt_mid pre suf y)]
    simp only [nn, if_true, rdmmSub, Option.bind_some, Int.toNat_natCast, set_mid, wrap_up pre.length (by omega), G0, w1]
    have eL : pre ++ (⟨mkAlarms k0 y.f0, ((Int.tmod (k0 + (cnAlarms y.f0 : Int)) 3) == 0)⟩ : S39) :: suf = (pre ++ [(⟨mkAlarms k0 y.f0, ((Int.tmod (k0 + (cnAlarms y.f0 : Int)) 3) == 0)⟩ : S39)]) ++ suf := by simp
    have eN : ((pre.length + 1 : Nat) : Int) = ((pre ++ [(⟨mkAlarms k0 y.f0, ((Int.tmod (k0 + (cnAlarms y.f0 : Int)) 3) == 0)⟩ : S39)]).length : Int) := by simp
    rw [eL, eN, G]
    refine congrArg some (Prod.ext ?_ ?_)
    · simp only []; push_cast; omega
    · simp [mkSubs]
theorem markSubS_ev (l : List S39) (k0 : Int) (h0 : 0 ≤ k0) (h1 : k0 + (cnSubs l : Int) < 4611686018427387904) : Ev (fun k => laws_markSubS.f k l k0) (k0 + (cnSubs l : Int), mkSubs k0 l) := by
  have := cnSubs_le l
  exact Ev.congr (fun k => by unfold laws_markSubS.f; rfl) (markSubS_l0 l [] k0 h0 h1 (by simp; omega))
theorem heldSubS_l0 : ∀ (suf pre : List S39) (k0 : Int), 0 ≤ k0 → k0 + (cnSubs suf : Int) < 4611686018427387904 → (pre ++ suf).length < 4611686018427387904 → Ev (fun k => laws_heldSubS.l0 k (pre ++ mkSubs k0 suf) k0 (pre.length : Int)) (k0 + (cnSubs suf : Int))
  | [], pre, k0, h0, h1, h => by
    refine Ev.step (f := fun _ => some k0) (fun k => ?_) (by simpa [cnSubs] using Ev.now k0)
    rw [show mkSubs k0 [] = [] from rfl]
    simp only [laws_heldSubS.l0]
    rw [if_neg (not_lt_end pre)]
  | y :: suf, pre, k0, h0, h1, h => by
    have hp : pre.length < 4611686018427387904 := by simp at h; omega
    have hc : cnSubs (y :: suf) = cnAlarms y.f0 + 1 + cnSubs suf := rfl
    rw [hc] at h1 ⊢
    obtain ⟨K, g⟩ := heldSubS_l0 suf (pre ++ [(⟨mkAlarms k0 y.f0, ((Int.tmod (k0 + (cnAlarms y.f0 : Int)) 3) == 0)⟩ : S39)]) (k0 + (cnAlarms y.f0 : Int) + 1) (by omega) (by omega) (by simpa using h)
    obtain ⟨K0, g0⟩ := heldAlarmS_ev y.f0 k0 (by omega) (by omega)
    refine ⟨K + K0 + 1, fun k hk => ?_⟩
    obtain ⟨k, rfl⟩ : ∃ m, k = m + 1 := ⟨k - 1, by omega⟩
    have G := g k (by omega)
    have G0 := g0 k (by omega)
    dsimp only at G G0
    have w1 : wrap64 ((k0 + (cnAlarms y.f0 : Int)) + 1) = (k0 + (cnAlarms y.f0 : Int) + 1) := (wrap_id (by omega) (by omega)).trans (by omega)
    have n0 : ¬ (k0 + (cnAlarms y.f0 : Int) < 0) := by omega
    rw [show mkSubs k0 (y :: suf) = ⟨mkAlarms k0 y.f0, ((Int.tmod (k0 + (cnAlarms y.f0 : Int)) 3) == 0)⟩ :: mkSubs (k0 + (cnAlarms y.f0 : Int) + 1) suf from rfl]
    simp only [laws_heldSubS.l0]
    rw [if_pos (lt_mid pre _ _)]
    simp only [nn, if_true, if_false, rdmmSub, Option.bind_some, wrap_up pre.length (by omega), G0, w1, n0, bne_self_eq_false, Bool.false_eq_true]
    have eL : pre ++ (⟨mkAlarms k0 y.f0, ((Int.tmod (k0 + (cnAlarms y.f0 : Int)) 3) == 0)⟩ : S39) :: mkSubs (k0 + (cnAlarms y.f0 : Int) + 1) suf = (pre ++ [(⟨mkAlarms k0 y.f0, ((Int.tmod (k0 + (cnAlarms y.f0 : Int)) 3) == 0)⟩ : S39)]) ++ mkSubs (k0 + (cnAlarms y.f0 : Int) + 1) suf := by simp
    have eN : ((pre.length + 1 : Nat) : Int) = ((pre ++ [(⟨mkAlarms k0 y.f0, ((Int.tmod (k0 + (cnAlarms y.f0 : Int)) 3) == 0)⟩ : S39)]).length : Int) := by simp
    rw [eL, eN, G]
    refine congrArg some ?_
    push_cast; omega
theorem heldSubS_ev (l : List S39) (k0 : Int) (h0 : 0 ≤ k0) (h1 : k0 + (cnSubs l : Int) < 4611686018427387904) : Ev (fun k => laws_heldSubS.f k (mkSubs k0 l) k0) (k0 + (cnSubs l : Int)) := by
  have := cnSubs_le l
  exact Ev.congr (fun k => by unfold laws_heldSubS.f; rfl) (heldSubS_l0 l [] k0 h0 h1 (by simp; omega))

end Go.Proofs.Ytfholjcelnkleaa.Print
end
section
namespace Go.Proofs.Ytfholjcelnkleaa.Print
open Go.RowKit Go.Proofs.YtfholjcelnkleaaV.PrintWords Go.Proofs.YtfholjcelnkleaaV.PrintLast Go.Proofs.YtfholjcelnkleaaV.PrintMore
set_option linter.unusedVariables false
set_option linter.unusedSimpArgs false
theorem rdmSub (pre suf : List S39) (y : S39) : rd_T39 (pre ++ y :: suf) (pre.length : Int) = y := by unfold rd_T39; simp
theorem implTellAll_l0 (a : S44) (ha : a.f0.length ≤ 5000000) : ∀ (suf pre acc : List S39), (pre ++ suf).length ≤ 5000000 → acc.length = pre.length → (∀ y ∈ suf, OkAlarms y.f0) →
    Ev (fun k => impl_TellAll.l0 k acc (pre ++ suf) ((pre ++ suf).length : Int) (pre.length : Int) a.f0 a.f1 a.f2 a.f3) (acc ++ suf.map (fun s => tell s a))
  | [], pre, acc, h, hl, hW => by
    refine Ev.step (f := fun _ => some (acc ++ ([] : List S39).map (fun s => tell s a))) (fun k => ?_) (Ev.now _)
    simp only [impl_TellAll.l0]
    rw [if_neg (by simp)]
    simp
  | y :: suf, pre, acc, h, hl, hW => by
    have hy := hW y List.mem_cons_self
    obtain ⟨K, g⟩ := implTellAll_l0 a ha suf (pre ++ [y]) (acc ++ [tell y a]) (by simpa using h) (by simp [hl]) (fun z hz => hW z (List.mem_cons_of_mem _ hz))
    obtain ⟨K2, g2⟩ := implTell_ev y a hy ha
    have hp : pre.length < 5000000 := by simp at h; omega
    refine ⟨K + K2 + 1, fun k hk => ?_⟩
    obtain ⟨k, rfl⟩ : ∃ m, k = m + 1 := ⟨k - 1, by omega⟩
    have e := g k (by omega)
    have e2 := g2 k (by omega)
    simp only at e e2
    rw [← mid_assoc pre suf y] at e
    simp only [impl_TellAll.l0]
    rw [if_pos (lt_mid pre suf y)]
    simp only [nn, if_true, rdmSub, wrap_up pre.length (by omega)]
    rw [if_pos (lt_mid pre suf y), e2]
    simp only [Option.bind_some]
    rw [if_pos (by omega), show ((pre.length + 1 : Nat) : Int) = ((pre ++ [y]).length : Int) by simp, e]
    simp
theorem implTellAll_ev (l : List S39) (a : S44) (h : l.length ≤ 4000000 ∧ ∀ y ∈ l, WiSub y) (ha : WiAlarm a) : Ev (fun k => impl_TellAll.f k l a.f0 a.f1 a.f2 a.f3) (l.map (fun s => tell s a)) :=
  Ev.congr (fun k => by unfold impl_TellAll.f; rfl) (by simpa using implTellAll_l0 a (a_wi ha) l [] [] (by have := h.1; simp; omega) rfl (fun y hy => ok_wi (h.2 y hy)))
theorem specTellAll_l0 (a : S44) (ha : a.f0.length ≤ 5000000) : ∀ (suf pre acc : List S39), (pre ++ suf).length ≤ 5000000 → acc.length = pre.length → (∀ y ∈ suf, OkAlarms y.f0) →
    Ev (fun k => spec_TellAll.l0 k (pre ++ suf) acc (pre.length : Int) a.f0 a.f1 a.f2 a.f3) (acc ++ suf.map (fun s => tell s a))
  | [], pre, acc, h, hl, hW => by
    refine Ev.step (f := fun _ => some (acc ++ ([] : List S39).map (fun s => tell s a))) (fun k => ?_) (Ev.now _)
    simp only [spec_TellAll.l0]
    rw [if_neg (not_lt_end pre)]
    simp
  | y :: suf, pre, acc, h, hl, hW => by
    have hy := hW y List.mem_cons_self
    obtain ⟨K, g⟩ := specTellAll_l0 a ha suf (pre ++ [y]) (acc ++ [tell y a]) (by simpa using h) (by simp [hl]) (fun z hz => hW z (List.mem_cons_of_mem _ hz))
    obtain ⟨K2, g2⟩ := specTell_ev y a hy ha
    have hp : pre.length < 5000000 := by simp at h; omega
    refine ⟨K + K2 + 1, fun k hk => ?_⟩
    obtain ⟨k, rfl⟩ : ∃ m, k = m + 1 := ⟨k - 1, by omega⟩
    have e := g k (by omega)
    have e2 := g2 k (by omega)
    simp only at e e2
    rw [← mid_assoc pre suf y] at e
    simp only [spec_TellAll.l0]
    rw [if_pos (lt_mid pre suf y)]
    simp only [nn, if_true, rdmSub, wrap_up pre.length (by omega)]
    rw [e2]
    simp only [Option.bind_some]
    rw [if_pos (by omega), show ((pre.length + 1 : Nat) : Int) = ((pre ++ [y]).length : Int) by simp, e]
    simp
theorem specTellAll_ev (l : List S39) (a : S44) (h : l.length ≤ 4000000 ∧ ∀ y ∈ l, WiSub y) (ha : WiAlarm a) : Ev (fun k => spec_TellAll.f k l a.f0 a.f1 a.f2 a.f3) (l.map (fun s => tell s a)) :=
  Ev.congr (fun k => by unfold spec_TellAll.f; rfl) (by simpa using specTellAll_l0 a (a_wi ha) l [] [] (by have := h.1; simp; omega) rfl (fun y hy => ok_wi (h.2 y hy)))
theorem tellAll_wi {l : List S39} {a : S44} (h : l.length ≤ 4000000 ∧ ∀ y ∈ l, WiSub y) (ha : WiAlarm a) : (l.map (fun s => tell s a)).length ≤ 4000000 ∧ ∀ y ∈ l.map (fun s => tell s a), WiSub y :=
  ⟨by rw [List.length_map]; exact h.1, fun y hy => by obtain ⟨z, hz, rfl⟩ := List.mem_map.1 hy; exact tell_wi (h.2 z hz) ha⟩
theorem cnAlarms_app : ∀ (l : List S44) (a : S44), cnAlarms (l ++ [a]) = cnAlarms l + (cnLabels a.f0 + 3)
  | [], a => by simp [cnAlarms]
  | y :: ys, a => by have := cnAlarms_app ys a; simp only [List.cons_append, cnAlarms]; omega
theorem cnTell (s : S39) (a : S44) : cnAlarms (tell s a).f0 ≤ cnAlarms s.f0 + (cnLabels a.f0 + 3) := by
  unfold tell
  split
  · omega
  · split
    · simp [cnAlarms]
    · show cnAlarms (s.f0 ++ [a]) ≤ _
      rw [cnAlarms_app]
      exact Nat.le_refl _
theorem cnTellAll (a : S44) (B : Nat) (hB : cnLabels a.f0 + 3 ≤ B) : ∀ l : List S39, cnSubs (l.map (fun s => tell s a)) ≤ cnSubs l + l.length * B
  | [] => by simp [cnSubs]
  | y :: ys => by
    have h1 := cnTellAll a B hB ys
    have h2 := cnTell y a
    simp only [List.map_cons, cnSubs, List.length_cons]
    rw [Nat.succ_mul]
    omega
theorem cnTellAll_le {l : List S39} {a : S44} (h : l.length ≤ 4000000) (ha : WiAlarm a) (hc : cnSubs l ≤ 10000000) : cnSubs (l.map (fun s => tell s a)) ≤ 100000000000000 := by
  have h1 := cnLabels_wi ha.1
  have h2 := cnTellAll a 8000003 (by omega) l
  have h3 := Nat.mul_le_mul_right 8000003 h
  omega

end Go.Proofs.Ytfholjcelnkleaa.Print
end
section
namespace Go.Proofs.Ytfholjcelnkleaa.Print
open Go.RowKit Go.Proofs.YtfholjcelnkleaaV.PrintWords Go.Proofs.YtfholjcelnkleaaV.PrintLast Go.Proofs.YtfholjcelnkleaaV.PrintMore
set_option linter.unusedVariables false
set_option linter.unusedSimpArgs false
def nnLabels : List S163 → Nat
  | [] => 0
  | _ :: ys => 1 + nnLabels ys
theorem nnLabels_le : ∀ l : List S163, l.length ≤ nnLabels l
  | [] => Nat.le_refl _
  | y :: ys => by have := nnLabels_le ys; simp only [nnLabels, List.length_cons]; omega
theorem szLabel_nn (x : S163) (hB : B163 x) (k : Nat) (n r : Int) (h : laws_szLabel.f x.f0 x.f1 n = some r) (hr : 0 ≤ r) (h0 : 0 ≤ n) (h1 : n ≤ 1048576) : r ≤ n ∧ ((0 : Nat) : Int) ≤ n - r := by
  unfold laws_szLabel.f at h
  have q1 : x.f0.size ≤ 9223372036854775807 := hB.1
  rw [show wrap64 (n - (x.f0.size : Int)) = n - (x.f0.size : Int) from wrap_id (by omega) (by omega)] at h
  by_cases c1 : n - (x.f0.size : Int) < 0
  · rw [if_pos c1] at h; injection h with h; omega
  rw [if_neg c1] at h
  have q2 : x.f1.size ≤ 9223372036854775807 := hB.2
  rw [show wrap64 ((n - (x.f0.size : Int)) - (x.f1.size : Int)) = (n - (x.f0.size : Int)) - (x.f1.size : Int) from wrap_id (by omega) (by omega)] at h
  by_cases c2 : (n - (x.f0.size : Int)) - (x.f1.size : Int) < 0
  · rw [if_pos c2] at h; injection h with h; omega
  rw [if_neg c2] at h
  injection h with h
  exact ⟨by omega, by omega⟩
theorem szLabelS_nn_l0 : ∀ (suf pre : List S163) (k : Nat) (n r : Int), (∀ y ∈ suf, B163 y) → (pre ++ suf).length < 4611686018427387904 → laws_szLabelS.l0 k (pre ++ suf) n (pre.length : Int) = some r → 0 ≤ r → 0 ≤ n → n ≤ 1048576 → r ≤ n ∧ (nnLabels suf : Int) ≤ n - r + suf.length
  | [], pre, k, n, r, hB, hl, h, hr, h0, h1 => by
    cases k with
    | zero => simp [laws_szLabelS.l0] at h
    | succ k =>
      simp only [laws_szLabelS.l0] at h
      rw [if_neg (not_lt_end pre)] at h
      injection h with h
      subst h
      exact ⟨Int.le_refl _, by simp [nnLabels]⟩
  | y :: suf, pre, k, n, r, hB, hl, h, hr, h0, h1 => by
    have hp : pre.length < 4611686018427387904 := by simp at hl; omega
    cases k with
    | zero => simp [laws_szLabelS.l0] at h
    | succ k =>
      simp only [laws_szLabelS.l0] at h
      rw [if_pos (lt_mid pre suf y), if_pos (nn _), rdmidLabell, wrap_up pre.length (by omega)] at h
      obtain ⟨t, e, h⟩ := Option.bind_eq_some_iff.mp h
      by_cases c : t < 0
      · rw [if_pos c] at h; injection h with h; omega
      rw [if_neg c, show pre ++ y :: suf = (pre ++ [y]) ++ suf by simp, show ((pre.length + 1 : Nat) : Int) = ((pre ++ [y]).length : Int) by simp] at h
      obtain ⟨l1, m1⟩ := szLabel_nn y (hB y List.mem_cons_self) k n t e (by omega) h0 h1
      obtain ⟨l2, m2⟩ := szLabelS_nn_l0 suf (pre ++ [y]) k t r (fun z hz => hB z (List.mem_cons_of_mem _ hz)) (by simpa using hl) h hr (by omega) (by omega)
      refine ⟨by omega, ?_⟩
      simp only [nnLabels, List.length_cons]
      push_cast at m1 ⊢
      omega
theorem szLabelS_nn (l : List S163) (hB : l.length ≤ maxLen ∧ ∀ y ∈ l, B163 y) (k : Nat) (n r : Int) (h : laws_szLabelS.f k l n = some r) (hr : 0 ≤ r) (h0 : 0 ≤ n) (h1 : n ≤ 1048576) : r ≤ n ∧ (nnLabels l : Int) ≤ n - r := by
  have q : l.length ≤ 9223372036854775807 := hB.1
  unfold laws_szLabelS.f at h
  rw [show wrap64 (n - (l.length : Int)) = n - (l.length : Int) from wrap_id (by omega) (by omega)] at h
  by_cases c : n - (l.length : Int) < 0
  · rw [if_pos c] at h; injection h with h; omega
  rw [if_neg c] at h
  obtain ⟨l1, m1⟩ := szLabelS_nn_l0 l [] k (n - (l.length : Int)) r hB.2 (by simp; omega) h hr (by omega) (by omega)
  exact ⟨by omega, by omega⟩

end Go.Proofs.Ytfholjcelnkleaa.Print
end
section
namespace Go.Proofs.Ytfholjcelnkleaa.Print
open Go.RowKit Go.Proofs.YtfholjcelnkleaaV.PrintWords Go.Proofs.YtfholjcelnkleaaV.PrintLast Go.Proofs.YtfholjcelnkleaaV.PrintMore
set_option linter.unusedVariables false
set_option linter.unusedSimpArgs false
def nnAlarms : List S34 → Nat
  | [] => 0
  | y :: ys => 1 + nnLabels y.f0 + nnAlarms ys
theorem nnAlarms_le : ∀ l : List S34, l.length ≤ nnAlarms l
  | [] => Nat.le_refl _
  | y :: ys => by have := nnAlarms_le ys; simp only [nnAlarms, List.length_cons]; omega
theorem szAlarm_nn (x : S34) (hB : B34 x) (k : Nat) (n r : Int) (h : laws_szAlarm.f k x.f0 x.f1 x.f2 x.f3 n = some r) (hr : 0 ≤ r) (h0 : 0 ≤ n) (h1 : n ≤ 1048576) : r ≤ n ∧ ((nnLabels x.f0 : Nat) : Int) ≤ n - r := by
  unfold laws_szAlarm.f at h
  obtain ⟨t1, e1, h⟩ := Option.bind_eq_some_iff.mp h
  by_cases c1 : t1 < 0
  · rw [if_pos c1] at h; injection h with h; omega
  rw [if_neg c1] at h
  obtain ⟨l1, m1⟩ := szLabelS_nn x.f0 hB.1 k n t1 e1 (by omega) (by omega) (by omega)
  have q2 : x.f3.size ≤ 9223372036854775807 := hB.2.2.2
  rw [show wrap64 (t1 - (x.f3.size : Int)) = t1 - (x.f3.size : Int) from wrap_id (by omega) (by omega)] at h
  by_cases c2 : t1 - (x.f3.size : Int) < 0
  · rw [if_pos c2] at h; injection h with h; omega
  rw [if_neg c2] at h
  injection h with h
  exact ⟨by omega, by omega⟩
theorem szAlarmS_nn_l0 : ∀ (suf pre : List S34) (k : Nat) (n r : Int), (∀ y ∈ suf, B34 y) → (pre ++ suf).length < 4611686018427387904 → laws_szAlarmS.l0 k (pre ++ suf) n (pre.length : Int) = some r → 0 ≤ r → 0 ≤ n → n ≤ 1048576 → r ≤ n ∧ (nnAlarms suf : Int) ≤ n - r + suf.length
  | [], pre, k, n, r, hB, hl, h, hr, h0, h1 => by
    cases k with
    | zero => simp [laws_szAlarmS.l0] at h
    | succ k =>
      simp only [laws_szAlarmS.l0] at h
      rw [if_neg (not_lt_end pre)] at h
      injection h with h
      subst h
      exact ⟨Int.le_refl _, by simp [nnAlarms]⟩
  | y :: suf, pre, k, n, r, hB, hl, h, hr, h0, h1 => by
    have hp : pre.length < 4611686018427387904 := by simp at hl; omega
    cases k with
    | zero => simp [laws_szAlarmS.l0] at h
    | succ k =>
      simp only [laws_szAlarmS.l0] at h
      rw [if_pos (lt_mid pre suf y), if_pos (nn _), rdmidAlarml, wrap_up pre.length (by omega)] at h
      obtain ⟨t, e, h⟩ := Option.bind_eq_some_iff.mp h
      by_cases c : t < 0
      · rw [if_pos c] at h; injection h with h; omega
      rw [if_neg c, show pre ++ y :: suf = (pre ++ [y]) ++ suf by simp, show ((pre.length + 1 : Nat) : Int) = ((pre ++ [y]).length : Int) by simp] at h
      obtain ⟨l1, m1⟩ := szAlarm_nn y (hB y List.mem_cons_self) k n t e (by omega) h0 h1
      obtain ⟨l2, m2⟩ := szAlarmS_nn_l0 suf (pre ++ [y]) k t r (fun z hz => hB z (List.mem_cons_of_mem _ hz)) (by simpa using hl) h hr (by omega) (by omega)
      refine ⟨by omega, ?_⟩
      simp only [nnAlarms, List.length_cons]
      push_cast at m1 ⊢
      omega
theorem szAlarmS_nn (l : List S34) (hB : l.length ≤ maxLen ∧ ∀ y ∈ l, B34 y) (k : Nat) (n r : Int) (h : laws_szAlarmS.f k l n = some r) (hr : 0 ≤ r) (h0 : 0 ≤ n) (h1 : n ≤ 1048576) : r ≤ n ∧ (nnAlarms l : Int) ≤ n - r := by
  have q : l.length ≤ 9223372036854775807 := hB.1
  unfold laws_szAlarmS.f at h
  rw [show wrap64 (n - (l.length : Int)) = n - (l.length : Int) from wrap_id (by omega) (by omega)] at h
  by_cases c : n - (l.length : Int) < 0
  · rw [if_pos c] at h; injection h with h; omega
  rw [if_neg c] at h
  obtain ⟨l1, m1⟩ := szAlarmS_nn_l0 l [] k (n - (l.length : Int)) r hB.2 (by simp; omega) h hr (by omega) (by omega)
  exact ⟨by omega, by omega⟩

end Go.Proofs.Ytfholjcelnkleaa.Print
end
section
namespace Go.Proofs.Ytfholjcelnkleaa.Print
open Go.RowKit Go.Proofs.YtfholjcelnkleaaV.PrintWords Go.Proofs.YtfholjcelnkleaaV.PrintLast Go.Proofs.YtfholjcelnkleaaV.PrintMore
set_option linter.unusedVariables false
set_option linter.unusedSimpArgs false
def nnSubs : List S31 → Nat
  | [] => 0
  | y :: ys => 1 + nnAlarms y.f0 + nnSubs ys
theorem nnSubs_le : ∀ l : List S31, l.length ≤ nnSubs l
  | [] => Nat.le_refl _
  | y :: ys => by have := nnSubs_le ys; simp only [nnSubs, List.length_cons]; omega
theorem szSub_nn (x : S31) (hB : B31 x) (k : Nat) (n r : Int) (h : laws_szSub.f k x.f0 x.f1 n = some r) (hr : 0 ≤ r) (h0 : 0 ≤ n) (h1 : n ≤ 1048576) : r ≤ n ∧ ((nnAlarms x.f0 : Nat) : Int) ≤ n - r := by
  unfold laws_szSub.f at h
  obtain ⟨t1, e1, h⟩ := Option.bind_eq_some_iff.mp h
  by_cases c1 : t1 < 0
  · rw [if_pos c1] at h; injection h with h; omega
  rw [if_neg c1] at h
  obtain ⟨l1, m1⟩ := szAlarmS_nn x.f0 hB.1 k n t1 e1 (by omega) (by omega) (by omega)
  injection h with h
  exact ⟨by omega, by omega⟩
theorem szSubS_nn_l0 : ∀ (suf pre : List S31) (k : Nat) (n r : Int), (∀ y ∈ suf, B31 y) → (pre ++ suf).length < 4611686018427387904 → laws_szSubS.l0 k (pre ++ suf) n (pre.length : Int) = some r → 0 ≤ r → 0 ≤ n → n ≤ 1048576 → r ≤ n ∧ (nnSubs suf : Int) ≤ n - r + suf.length
  | [], pre, k, n, r, hB, hl, h, hr, h0, h1 => by
    cases k with
    | zero => simp [laws_szSubS.l0] at h
    | succ k =>
      simp only [laws_szSubS.l0] at h
      rw [if_neg (not_lt_end pre)] at h
      injection h with h
      subst h
      exact ⟨Int.le_refl _, by simp [nnSubs]⟩
  | y :: suf, pre, k, n, r, hB, hl, h, hr, h0, h1 => by
    have hp : pre.length < 4611686018427387904 := by simp at hl; omega
    cases k with
    | zero => simp [laws_szSubS.l0] at h
    | succ k =>
      simp only [laws_szSubS.l0] at h
      rw [if_pos (lt_mid pre suf y), if_pos (nn _), rdmidSubl, wrap_up pre.length (by omega)] at h
      obtain ⟨t, e, h⟩ := Option.bind_eq_some_iff.mp h
      by_cases c : t < 0
      · rw [if_pos c] at h; injection h with h; omega
      rw [if_neg c, show pre ++ y :: suf = (pre ++ [y]) ++ suf by simp, show ((pre.length + 1 : Nat) : Int) = ((pre ++ [y]).length : Int) by simp] at h
      obtain ⟨l1, m1⟩ := szSub_nn y (hB y List.mem_cons_self) k n t e (by omega) h0 h1
      obtain ⟨l2, m2⟩ := szSubS_nn_l0 suf (pre ++ [y]) k t r (fun z hz => hB z (List.mem_cons_of_mem _ hz)) (by simpa using hl) h hr (by omega) (by omega)
      refine ⟨by omega, ?_⟩
      simp only [nnSubs, List.length_cons]
      push_cast at m1 ⊢
      omega
theorem szSubS_nn (l : List S31) (hB : l.length ≤ maxLen ∧ ∀ y ∈ l, B31 y) (k : Nat) (n r : Int) (h : laws_szSubS.f k l n = some r) (hr : 0 ≤ r) (h0 : 0 ≤ n) (h1 : n ≤ 1048576) : r ≤ n ∧ (nnSubs l : Int) ≤ n - r := by
  have q : l.length ≤ 9223372036854775807 := hB.1
  unfold laws_szSubS.f at h
  rw [show wrap64 (n - (l.length : Int)) = n - (l.length : Int) from wrap_id (by omega) (by omega)] at h
  by_cases c : n - (l.length : Int) < 0
  · rw [if_pos c] at h; injection h with h; omega
  rw [if_neg c] at h
  obtain ⟨l1, m1⟩ := szSubS_nn_l0 l [] k (n - (l.length : Int)) r hB.2 (by simp; omega) h hr (by omega) (by omega)
  exact ⟨by omega, by omega⟩

end Go.Proofs.Ytfholjcelnkleaa.Print
end
section
namespace Go.Proofs.Ytfholjcelnkleaa.Print
open Go.RowKit Go.Proofs.YtfholjcelnkleaaV.PrintWords Go.Proofs.YtfholjcelnkleaaV.PrintLast Go.Proofs.YtfholjcelnkleaaV.PrintMore
set_option linter.unusedVariables false
set_option linter.unusedSimpArgs false
theorem cnLabels_cv : ∀ l : List S163, cnLabels (l.map cvLabel) ≤ 6 * nnLabels l
  | [] => Nat.le_refl _
  | y :: ys => by
    have h0 := cnLabels_cv ys
    simp only [List.map_cons, cnLabels, nnLabels, cvLabel]
    omega

end Go.Proofs.Ytfholjcelnkleaa.Print
end
section
namespace Go.Proofs.Ytfholjcelnkleaa.Print
open Go.RowKit Go.Proofs.YtfholjcelnkleaaV.PrintWords Go.Proofs.YtfholjcelnkleaaV.PrintLast Go.Proofs.YtfholjcelnkleaaV.PrintMore
set_option linter.unusedVariables false
set_option linter.unusedSimpArgs false
theorem cnAlarms_cv : ∀ l : List S34, cnAlarms (l.map cvAlarm) ≤ 6 * nnAlarms l
  | [] => Nat.le_refl _
  | y :: ys => by
    have h0 := cnAlarms_cv ys
    have h_0 := cnLabels_cv y.f0
    simp only [List.map_cons, cnAlarms, nnAlarms, cvAlarm]
    omega

end Go.Proofs.Ytfholjcelnkleaa.Print
end
section
namespace Go.Proofs.Ytfholjcelnkleaa.Print
open Go.RowKit Go.Proofs.YtfholjcelnkleaaV.PrintWords Go.Proofs.YtfholjcelnkleaaV.PrintLast Go.Proofs.YtfholjcelnkleaaV.PrintMore
set_option linter.unusedVariables false
set_option linter.unusedSimpArgs false
theorem cnSubs_cv : ∀ l : List S31, cnSubs (l.map cvSub) ≤ 6 * nnSubs l
  | [] => Nat.le_refl _
  | y :: ys => by
    have h0 := cnSubs_cv ys
    have h_0 := cnAlarms_cv y.f0
    simp only [List.map_cons, cnSubs, nnSubs, cvSub]
    omega

end Go.Proofs.Ytfholjcelnkleaa.Print
end
section
/- The law FnExactTellAll answers true for all arguments that can be read: the pure statement, without Go and memory. No condition. -/
namespace Go.Proofs.Ytfholjcelnkleaa.Print
open Go.RowKit Go.Proofs.YtfholjcelnkleaaV.PrintWords Go.Proofs.YtfholjcelnkleaaV.PrintLast Go.Proofs.YtfholjcelnkleaaV.PrintMore
set_option linter.unusedVariables false
set_option linter.unusedSimpArgs false
theorem pure_FnExactTellAll : laws_FnExactTellAll.Pure := by
  intro p0 p1_0 p1_1 p1_2 p1_3 hp0 hp1_0 hp1_1 hp1_2 hp1_3
  obtain ⟨r0, ⟨K0, g0⟩, le0, w0⟩ := szSubS_ev p0 hp0 1048576 (by omega) (by omega)
  simp only at g0
  by_cases c0 : r0 < 0
  · exact ⟨K0, by simp [laws_FnExactTellAll.f, g0 (K0) (by omega), c0]⟩
  obtain ⟨nl0, nb0⟩ := szSubS_nn p0 hp0 K0 1048576 r0 (g0 K0 (Nat.le_refl _)) (by omega) (by omega) (by omega)
  obtain ⟨r1, ⟨K1, g1⟩, le1, w1⟩ := szAlarm_ev (⟨p1_0, p1_1, p1_2, p1_3⟩ : S34) ⟨hp1_0, hp1_1, hp1_2, hp1_3⟩ r0 (by omega) (by omega)
  simp only at g1
  by_cases c1 : r1 < 0
  · exact ⟨K0 + K1, by simp [laws_FnExactTellAll.f, g0 (K0 + K1) (by omega), c0, g1 (K0 + K1) (by omega), c1]⟩
  obtain ⟨nl1, nb1⟩ := szAlarm_nn (⟨p1_0, p1_1, p1_2, p1_3⟩ : S34) ⟨hp1_0, hp1_1, hp1_2, hp1_3⟩ K1 r0 r1 (g1 K1 (Nat.le_refl _)) (by omega) (by omega) (by omega)
  simp only at nb1
  obtain ⟨g, hg, hw, hc⟩ : ∃ g, ((p0.map cvSub).map fun s => tell s (cvAlarm (⟨p1_0, p1_1, p1_2, p1_3⟩ : S34))) = g ∧ (g.length ≤ 4000000 ∧ ∀ y ∈ g, WiSub y) ∧ cnSubs g ≤ 100000000000000 := ⟨_, rfl, tellAll_wi (Wi_mapSub (w0 (by omega))) (Wi_cvAlarm (w1 (by omega))), cnTellAll_le ((Wi_mapSub (w0 (by omega)))).1 (Wi_cvAlarm (w1 (by omega))) (Nat.le_trans (cnSubs_cv p0) (by omega))⟩
  have b0 : cnSubs (p0.map cvSub) ≤ 6 * nnSubs p0 := cnSubs_cv _
  have n0 : ((1 + (cnSubs (p0.map cvSub) : Int)) < 0) = False := eq_false (by omega)
  have b1 : cnLabels (cvAlarm (⟨p1_0, p1_1, p1_2, p1_3⟩ : S34)).f0 ≤ 6 * nnLabels (⟨p1_0, p1_1, p1_2, p1_3⟩ : S34).f0 := cnLabels_cv _
  simp only at b1
  have n1 : (((1 + (cnSubs (p0.map cvSub) : Int)) + (cnLabels (cvAlarm (⟨p1_0, p1_1, p1_2, p1_3⟩ : S34)).f0 : Int)) < 0) = False := eq_false (by omega)
  have b2 := hc
  have n2 : ((1 + (cnSubs g : Int)) < 0) = False := eq_false (by omega)
  obtain ⟨L0, f0⟩ := toSubS_ev p0 (w0 (by omega))
  obtain ⟨L1, f1⟩ := eqSubS_ev (p0.map cvSub) (Wi_mapSub (w0 (by omega)))
  obtain ⟨L2, f2⟩ := toAlarm_ev (⟨p1_0, p1_1, p1_2, p1_3⟩ : S34) (w1 (by omega))
  obtain ⟨L3, f3⟩ := eqAlarm_ev (cvAlarm (⟨p1_0, p1_1, p1_2, p1_3⟩ : S34)) (Wi_cvAlarm (w1 (by omega)))
  obtain ⟨L4, f4⟩ := hg ▸ specTellAll_ev (p0.map cvSub) (cvAlarm (⟨p1_0, p1_1, p1_2, p1_3⟩ : S34)) (Wi_mapSub (w0 (by omega))) (Wi_cvAlarm (w1 (by omega)))
  obtain ⟨L5, f5⟩ := hg ▸ implTellAll_ev (p0.map cvSub) (cvAlarm (⟨p1_0, p1_1, p1_2, p1_3⟩ : S34)) (Wi_mapSub (w0 (by omega))) (Wi_cvAlarm (w1 (by omega)))
  obtain ⟨L6, f6⟩ := markSubS_ev (p0.map cvSub) 1 (by omega) (by omega)
  obtain ⟨L7, f7⟩ := markLabelS_ev (cvAlarm (⟨p1_0, p1_1, p1_2, p1_3⟩ : S34)).f0 (1 + (cnSubs (p0.map cvSub) : Int)) (by omega) (by omega)
  obtain ⟨L8, f8⟩ := eqSubS_ev g hw
  obtain ⟨L9, f9⟩ := markSubS_ev g 1 (by omega) (by omega)
  obtain ⟨L10, f10⟩ := heldSubS_ev g 1 (by omega) (by omega)
  have G0 := fun m => g0 (K0 + K1 + L0 + L1 + L2 + L3 + L4 + L5 + L6 + L7 + L8 + L9 + L10 + m) (by omega)
  have G1 := fun m => g1 (K0 + K1 + L0 + L1 + L2 + L3 + L4 + L5 + L6 + L7 + L8 + L9 + L10 + m) (by omega)
  have F0 := fun m => f0 (K0 + K1 + L0 + L1 + L2 + L3 + L4 + L5 + L6 + L7 + L8 + L9 + L10 + m) (by omega)
  have F1 := fun m => f1 (K0 + K1 + L0 + L1 + L2 + L3 + L4 + L5 + L6 + L7 + L8 + L9 + L10 + m) (by omega)
  have F2 := fun m => f2 (K0 + K1 + L0 + L1 + L2 + L3 + L4 + L5 + L6 + L7 + L8 + L9 + L10 + m) (by omega)
  have F3 := fun m => f3 (K0 + K1 + L0 + L1 + L2 + L3 + L4 + L5 + L6 + L7 + L8 + L9 + L10 + m) (by omega)
  have F4 := fun m => f4 (K0 + K1 + L0 + L1 + L2 + L3 + L4 + L5 + L6 + L7 + L8 + L9 + L10 + m) (by omega)
  have F5 := fun m => f5 (K0 + K1 + L0 + L1 + L2 + L3 + L4 + L5 + L6 + L7 + L8 + L9 + L10 + m) (by omega)
  have F6 := fun m => f6 (K0 + K1 + L0 + L1 + L2 + L3 + L4 + L5 + L6 + L7 + L8 + L9 + L10 + m) (by omega)
  have F7 := fun m => f7 (K0 + K1 + L0 + L1 + L2 + L3 + L4 + L5 + L6 + L7 + L8 + L9 + L10 + m) (by omega)
  have F8 := fun m => f8 (K0 + K1 + L0 + L1 + L2 + L3 + L4 + L5 + L6 + L7 + L8 + L9 + L10 + m) (by omega)
  have F9 := fun m => f9 (K0 + K1 + L0 + L1 + L2 + L3 + L4 + L5 + L6 + L7 + L8 + L9 + L10 + m) (by omega)
  have F10 := fun m => f10 (K0 + K1 + L0 + L1 + L2 + L3 + L4 + L5 + L6 + L7 + L8 + L9 + L10 + m) (by omega)
  simp only at F0 F1 F2 F3 F4 F5 F6 F7 F8 F9 F10
  exact ⟨K0 + K1 + L0 + L1 + L2 + L3 + L4 + L5 + L6 + L7 + L8 + L9 + L10 + 3, by simp [laws_FnExactTellAll.f, laws_markAlarm.f, G0, G1, F0, F1, F2, F3, F4, F5, F6, F7, F8, F9, F10, c0, c1, n0, n1, n2]⟩

end Go.Proofs.Ytfholjcelnkleaa.Print
end
