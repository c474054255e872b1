-- Written by printx.py, a program of this session (wip/gen), over the kit's print.py.
import Derived.Test.YtmmaondenopnpaaF0
import Derived.Test.YtmmaondenopnpaaF21
import Derived.Test.YtmmaondenopnpaaF22
import Derived.Test.YtmmaondenopnpaaF23
import Derived.Test.YtmmaondenopnpaaF47
namespace Go.Proofs.Ytmmaondenopnpaa.Print
open Go.RowKit Go.Proofs.YtmmaondenopnpaaV.PrintWords Go.Proofs.YtmmaondenopnpaaV.PrintLast Go.Proofs.YtmmaondenopnpaaV.PrintMore
attribute [local go_sem] max2_int min2_int max_two min_two max_three min_three max_four min_four   -- for this text's walks alone
set_option linter.unusedVariables false
set_option linter.unusedSimpArgs false

/-! ### laws_eqTask: function 34 -/
def laws_eqTask.f (k : Nat) (a0_0 : Int) (a0_1 : Int) (l0_2 : List (S116)) (a0_3 : Int) (a0_4 : Int) (a0_5 : ByteArray) (l0_6 : List (S116)) (a0_7 : Int) (l0_8 : List Int) (l0_9 : List (S57)) (a0_10 : Int) (a0_11 : Int) (a1_0 : Int) (a1_1 : Int) (l1_2 : List (S116)) (a1_3 : Int) (a1_4 : Int) (a1_5 : ByteArray) (l1_6 : List (S116)) (a1_7 : Int) (l1_8 : List Int) (l1_9 : List (S57)) (a1_10 : Int) (a1_11 : Int) : Option (Bool) := if a0_0 = a1_0 then (if a0_1 = a1_1 then ((laws_eqAlarm.f k l0_2 a0_3 a0_4 a0_5 l1_2 a1_3 a1_4 a1_5).bind fun t380 => (if t380 = true then ((laws_eqLabelS.f k l0_6 l1_6).bind fun t381 => (if t381 = true then (if a0_7 = a1_7 then ((laws_eqIntS.f k l0_8 l1_8).bind fun t382 => (if t382 = true then ((laws_eqAlarmS.f k l0_9 l1_9).bind fun t383 => (if t383 = true then (if a0_10 = a1_10 then (if a0_11 = a1_11 then (some true) else (none)) else (none)) else (none))) else (none))) else (none)) else (none))) else (none))) else (none)) else (none)
theorem laws_eqTask.mono : ∀ a0 a1 a2 a3 a4 a5 a6 a7 a8 a9 a10 a11 a12 a13 a14 a15 a16 a17 a18 a19 a20 a21 a22 a23 k, LeO (laws_eqTask.f k a0 a1 a2 a3 a4 a5 a6 a7 a8 a9 a10 a11 a12 a13 a14 a15 a16 a17 a18 a19 a20 a21 a22 a23) (laws_eqTask.f (k + 1) a0 a1 a2 a3 a4 a5 a6 a7 a8 a9 a10 a11 a12 a13 a14 a15 a16 a17 a18 a19 a20 a21 a22 a23) := by
 intro a0 a1 a2 a3 a4 a5 a6 a7 a8 a9 a10 a11 a12 a13 a14 a15 a16 a17 a18 a19 a20 a21 a22 a23 k
 unfold laws_eqTask.f
 repeat' first
   | (with_reducible exact laws_eqAlarm.mono _ _ _ _ _ _ _ _ _)
   | (with_reducible exact laws_eqAlarmS.mono _ _ _)
   | (with_reducible exact laws_eqIntS.mono _ _ _)
   | (with_reducible exact laws_eqLabelS.mono _ _ _)
   | (with_reducible exact LeO.refl _)
   | (with_reducible exact LeO.none _)
   | (with_reducible refine LeO.ite ?_ ?_)
   | (with_reducible refine LeO.bind ?_ (fun _ => ?_))
   | exact laws_eqAlarm.mono _ _ _ _ _ _ _ _ _
   | exact laws_eqAlarmS.mono _ _ _
   | exact laws_eqIntS.mono _ _ _
   | exact laws_eqLabelS.mono _ _ _
   | exact LeO.none _
   | refine LeO.ite ?_ ?_
   | refine LeO.bind ?_ (fun _ => ?_)
set_option maxHeartbeats 8000000 in
set_option maxRecDepth 100000 in
theorem laws_eqTask.calls (k : Nat) (a0_0 : Int) (a0_1 : Int) (A0_2 : Option Addr) (c0_2 : Nat) (l0_2 : List (S116)) (a0_3 : Int) (a0_4 : Int) (a0_5 : ByteArray) (A0_6 : Option Addr) (c0_6 : Nat) (l0_6 : List (S116)) (a0_7 : Int) (A0_8 : Option Addr) (c0_8 : Nat) (l0_8 : List Int) (A0_9 : Option Addr) (c0_9 : Nat) (l0_9 : List (S57)) (a0_10 : Int) (a0_11 : Int) (a1_0 : Int) (a1_1 : Int) (A1_2 : Option Addr) (c1_2 : Nat) (l1_2 : List (S116)) (a1_3 : Int) (a1_4 : Int) (a1_5 : ByteArray) (A1_6 : Option Addr) (c1_6 : Nat) (l1_6 : List (S116)) (a1_7 : Int) (A1_8 : Option Addr) (c1_8 : Nat) (l1_8 : List Int) (A1_9 : Option Addr) (c1_9 : Nat) (l1_9 : List (S57)) (a1_10 : Int) (a1_11 : Int) (r : Bool) (w : World) (hr0_2 : Kd.C k116 w A0_2 l0_2.length l0_2) (hc0_2 : l0_2.length ≤ c0_2) (hr0_6 : Kd.C k116 w A0_6 l0_6.length l0_6) (hc0_6 : l0_6.length ≤ c0_6) (hr0_8 : Kd.C (Kd.int .i64) w A0_8 l0_8.length l0_8) (hc0_8 : l0_8.length ≤ c0_8) (hr0_9 : Kd.C k57 w A0_9 l0_9.length l0_9) (hc0_9 : l0_9.length ≤ c0_9) (hr1_2 : Kd.C k116 w A1_2 l1_2.length l1_2) (hc1_2 : l1_2.length ≤ c1_2) (hr1_6 : Kd.C k116 w A1_6 l1_6.length l1_6) (hc1_6 : l1_6.length ≤ c1_6) (hr1_8 : Kd.C (Kd.int .i64) w A1_8 l1_8.length l1_8) (hc1_8 : l1_8.length ≤ c1_8) (hr1_9 : Kd.C k57 w A1_9 l1_9.length l1_9) (hc1_9 : l1_9.length ≤ c1_9) (h : laws_eqTask.f k a0_0 a0_1 l0_2 a0_3 a0_4 a0_5 l0_6 a0_7 l0_8 l0_9 a0_10 a0_11 a1_0 a1_1 l1_2 a1_3 a1_4 a1_5 l1_6 a1_7 l1_8 l1_9 a1_10 a1_11 = some r) :
  Calls Try.prog 34 #[.agg #[.int .i64 a0_0, .int .i64 a0_1, .slice A0_2 l0_2.length c0_2, .int .i64 a0_3, .int .i64 a0_4, .string a0_5, .slice A0_6 l0_6.length c0_6, .int .i64 a0_7, .slice A0_8 l0_8.length c0_8, .slice A0_9 l0_9.length c0_9, .int .i64 a0_10, .int .i64 a0_11], .agg #[.int .i64 a1_0, .int .i64 a1_1, .slice A1_2 l1_2.length c1_2, .int .i64 a1_3, .int .i64 a1_4, .string a1_5, .slice A1_6 l1_6.length c1_6, .int .i64 a1_7, .slice A1_8 l1_8.length c1_8, .slice A1_9 l1_9.length c1_9, .int .i64 a1_10, .int .i64 a1_11]] w fun e w' => e = .returned (.bool r) ∧ Below w.heap.size w w' := by
 have hu59 := Try.underlying59
 have hu57 := Try.underlying57
 have HR0_2 := Aside0.mk hr0_2
 have HC0_2 := Aside0.mk hc0_2
 clear hr0_2 hc0_2
 have HR0_6 := Aside0.mk hr0_6
 have HC0_6 := Aside0.mk hc0_6
 clear hr0_6 hc0_6
 have HR0_8 := Aside0.mk hr0_8
 have HC0_8 := Aside0.mk hc0_8
 clear hr0_8 hc0_8
 have HR0_9 := Aside0.mk hr0_9
 have HC0_9 := Aside0.mk hc0_9
 clear hr0_9 hc0_9
 have HR1_2 := Aside0.mk hr1_2
 have HC1_2 := Aside0.mk hc1_2
 clear hr1_2 hc1_2
 have HR1_6 := Aside0.mk hr1_6
 have HC1_6 := Aside0.mk hc1_6
 clear hr1_6 hc1_6
 have HR1_8 := Aside0.mk hr1_8
 have HC1_8 := Aside0.mk hc1_8
 clear hr1_8 hc1_8
 have HR1_9 := Aside0.mk hr1_9
 have HC1_9 := Aside0.mk hc1_9
 clear hr1_9 hc1_9
 have HB := Aside0.mk (Below.refl w.heap.size w)
 have H : (if a0_0 = a1_0 then (if a0_1 = a1_1 then ((laws_eqAlarm.f k l0_2 a0_3 a0_4 a0_5 l1_2 a1_3 a1_4 a1_5).bind fun t380 => (if t380 = true then ((laws_eqLabelS.f k l0_6 l1_6).bind fun t381 => (if t381 = true then (if a0_7 = a1_7 then ((laws_eqIntS.f k l0_8 l1_8).bind fun t382 => (if t382 = true then ((laws_eqAlarmS.f k l0_9 l1_9).bind fun t383 => (if t383 = true then (if a0_10 = a1_10 then (if a0_11 = a1_11 then (some true) else (none)) else (none)) else (none))) else (none))) else (none)) else (none))) else (none))) else (none)) else (none)) = some r := h
 clear h
 by_cases c3 : a0_0 = a1_0
 ·
  rw [if_pos c3] at H
  have c3b0 : (a0_0 == a1_0) = true := beq_iff_eq.mpr c3
  have c3b1 : (a0_0 != a1_0) = false := bne_eq_false_iff_eq.mpr c3
  clear c3
  by_cases c4 : a0_1 = a1_1
  ·
   rw [if_pos c4] at H
   have c4b0 : (a0_1 == a1_1) = true := beq_iff_eq.mpr c4
   have c4b1 : (a0_1 != a1_1) = false := bne_eq_false_iff_eq.mpr c4
   clear c4
   replace H := Option.bind_eq_some_iff.mp H
   obtain ⟨t380, A50, H⟩ := H
   replace H : (if t380 = true then ((laws_eqLabelS.f k l0_6 l1_6).bind fun t381 => (if t381 = true then (if a0_7 = a1_7 then ((laws_eqIntS.f k l0_8 l1_8).bind fun t382 => (if t382 = true then ((laws_eqAlarmS.f k l0_9 l1_9).bind fun t383 => (if t383 = true then (if a0_10 = a1_10 then (if a0_11 = a1_11 then (some true) else (none)) else (none)) else (none))) else (none))) else (none)) else (none))) else (none)) = some r := H
   have A5 := Aside0.mk A50
   clear A50
   by_cases c6 : t380 = true
   ·
    subst c6
    have H1 : ((laws_eqLabelS.f k l0_6 l1_6).bind fun t381 => (if t381 = true then (if a0_7 = a1_7 then ((laws_eqIntS.f k l0_8 l1_8).bind fun t382 => (if t382 = true then ((laws_eqAlarmS.f k l0_9 l1_9).bind fun t383 => (if t383 = true then (if a0_10 = a1_10 then (if a0_11 = a1_11 then (some true) else (none)) else (none)) else (none))) else (none))) else (none)) else (none))) = some r := by rw [if_pos rfl] at H; exact H
    clear H
    have H := H1
    clear H1
    replace H := Option.bind_eq_some_iff.mp H
    obtain ⟨t381, A70, H⟩ := H
    replace H : (if t381 = true then (if a0_7 = a1_7 then ((laws_eqIntS.f k l0_8 l1_8).bind fun t382 => (if t382 = true then ((laws_eqAlarmS.f k l0_9 l1_9).bind fun t383 => (if t383 = true then (if a0_10 = a1_10 then (if a0_11 = a1_11 then (some true) else (none)) else (none)) else (none))) else (none))) else (none)) else (none)) = some r := H
    have A7 := Aside0.mk A70
    clear A70
    by_cases c8 : t381 = true
    ·
     subst c8
     have H1 : (if a0_7 = a1_7 then ((laws_eqIntS.f k l0_8 l1_8).bind fun t382 => (if t382 = true then ((laws_eqAlarmS.f k l0_9 l1_9).bind fun t383 => (if t383 = true then (if a0_10 = a1_10 then (if a0_11 = a1_11 then (some true) else (none)) else (none)) else (none))) else (none))) else (none)) = some r := by rw [if_pos rfl] at H; exact H
     clear H
     have H := H1
     clear H1
     by_cases c9 : a0_7 = a1_7
     ·
      rw [if_pos c9] at H
      have c9b0 : (a0_7 == a1_7) = true := beq_iff_eq.mpr c9
      have c9b1 : (a0_7 != a1_7) = false := bne_eq_false_iff_eq.mpr c9
      clear c9
      replace H := Option.bind_eq_some_iff.mp H
      obtain ⟨t382, A100, H⟩ := H
      replace H : (if t382 = true then ((laws_eqAlarmS.f k l0_9 l1_9).bind fun t383 => (if t383 = true then (if a0_10 = a1_10 then (if a0_11 = a1_11 then (some true) else (none)) else (none)) else (none))) else (none)) = some r := H
      have A10 := Aside0.mk A100
      clear A100
      by_cases c11 : t382 = true
      ·
       subst c11
       have H1 : ((laws_eqAlarmS.f k l0_9 l1_9).bind fun t383 => (if t383 = true then (if a0_10 = a1_10 then (if a0_11 = a1_11 then (some true) else (none)) else (none)) else (none))) = some r := by rw [if_pos rfl] at H; exact H
       clear H
       have H := H1
       clear H1
       replace H := Option.bind_eq_some_iff.mp H
       obtain ⟨t383, A120, H⟩ := H
       replace H : (if t383 = true then (if a0_10 = a1_10 then (if a0_11 = a1_11 then (some true) else (none)) else (none)) else (none)) = some r := H
       have A12 := Aside0.mk A120
       clear A120
       by_cases c13 : t383 = true
       ·
        subst c13
        have H1 : (if a0_10 = a1_10 then (if a0_11 = a1_11 then (some true) else (none)) else (none)) = some r := by rw [if_pos rfl] at H; exact H
        clear H
        have H := H1
        clear H1
        by_cases c14 : a0_10 = a1_10
        ·
         rw [if_pos c14] at H
         have c14b0 : (a0_10 == a1_10) = true := beq_iff_eq.mpr c14
         have c14b1 : (a0_10 != a1_10) = false := bne_eq_false_iff_eq.mpr c14
         clear c14
         by_cases c15 : a0_11 = a1_11
         ·
          rw [if_pos c15] at H
          have c15b0 : (a0_11 == a1_11) = true := beq_iff_eq.mpr c15
          have c15b1 : (a0_11 != a1_11) = false := bne_eq_false_iff_eq.mpr c15
          clear c15
          obtain rfl := Option.some.inj H
          go_enter Try.func34, Try.ntmps34
          go_wp2_with (first | ((with_reducible refine gate_dst (N := 2) rfl ?_); refine box_event ?hg (N := 2) ?hd (cs := #[.int .i64 a0_0, .int .i64 a0_1, .slice A0_2 l0_2.length c0_2, .int .i64 a0_3, .int .i64 a0_4, .string a0_5, .slice A0_6 l0_6.length c0_6, .int .i64 a0_7, .slice A0_8 l0_8.length c0_8, .slice A0_9 l0_9.length c0_9, .int .i64 a0_10, .int .i64 a0_11]) (t := 59) ?hr ?_; (case hd => rfl); (case hg => rfl); (case hr => first | (go_simp; done) | (go_simp; rfl)); intro gb378 hg w16 hbox hb; have n0_ := Aside0.mk (below_step (by repeat (first | (with_reducible first | exact HB.out | apply below_alloc | apply pw_below_drewN | apply below_drew1) | exact HB.out)) hb); have n1_ := Aside0.mk (hbox); have n2_ := Aside0.mk ((by rw [hg]; exact (below_size (by repeat (first | (with_reducible first | exact HB.out | apply below_alloc | apply pw_below_drewN | apply below_drew1) | exact HB.out))) : w.heap.size ≤ gb378)); have n3_ := Aside0.mk ((by rw [hg]; exact (below_size (by repeat (first | (with_reducible first | exact HB.out | apply below_alloc | apply pw_below_drewN | apply below_drew1) | exact HB.out))) : w.heap.size ≤ gb378)); clear HB; have HB := n0_; have BK378 := n1_; have GW378 := n2_; have GE378 := n3_; clear n0_ n1_ n2_ n3_; clear hb hbox hg) | ((with_reducible refine gate_dst (N := 3) rfl ?_); refine box_event ?hg (N := 3) ?hd (cs := #[.int .i64 a1_0, .int .i64 a1_1, .slice A1_2 l1_2.length c1_2, .int .i64 a1_3, .int .i64 a1_4, .string a1_5, .slice A1_6 l1_6.length c1_6, .int .i64 a1_7, .slice A1_8 l1_8.length c1_8, .slice A1_9 l1_9.length c1_9, .int .i64 a1_10, .int .i64 a1_11]) (t := 59) ?hr ?_; (case hd => rfl); (case hg => rfl); (case hr => first | (go_simp; done) | (go_simp; rfl)); intro gb379 hg w17 hbox hb; have n0_ := Aside0.mk (blk_below (g := gb378) (o := .cells #[.int .i64 a0_0, .int .i64 a0_1, .slice A0_2 l0_2.length c0_2, .int .i64 a0_3, .int .i64 a0_4, .string a0_5, .slice A0_6 l0_6.length c0_6, .int .i64 a0_7, .slice A0_8 l0_8.length c0_8, .slice A0_9 l0_9.length c0_9, .int .i64 a0_10, .int .i64 a0_11] 59 (0, 0)) (by (with_reducible repeat (first | refine blk_drewN ?_ _ | refine blk_drew ?_ | refine blk_alloc ?_ _)); exact BK378.out) hb); have n1_ := Aside0.mk (below_step (by repeat (first | (with_reducible first | exact HB.out | apply below_alloc | apply pw_below_drewN | apply below_drew1 | refine below_set ?_ GE378.out) | exact HB.out)) hb); have n2_ := Aside0.mk (hbox); have n3_ := Aside0.mk ((by rw [hg]; exact (below_size (by repeat (first | (with_reducible first | exact HB.out | apply below_alloc | apply pw_below_drewN | apply below_drew1 | refine below_set ?_ GE378.out) | exact HB.out))) : w.heap.size ≤ gb379)); have n4_ := Aside0.mk ((by rw [hg]; exact (below_size (by repeat (first | (with_reducible first | exact HB.out | apply below_alloc | apply pw_below_drewN | apply below_drew1 | refine below_set ?_ GE378.out) | exact HB.out))) : w.heap.size ≤ gb379)); have n5_ := Aside0.mk ((by rw [hg]; exact Nat.ne_of_lt (blk_lt (g := gb378) (o := .cells #[.int .i64 a0_0, .int .i64 a0_1, .slice A0_2 l0_2.length c0_2, .int .i64 a0_3, .int .i64 a0_4, .string a0_5, .slice A0_6 l0_6.length c0_6, .int .i64 a0_7, .slice A0_8 l0_8.length c0_8, .slice A0_9 l0_9.length c0_9, .int .i64 a0_10, .int .i64 a0_11] 59 (0, 0)) (by (with_reducible repeat (first | refine blk_drewN ?_ _ | refine blk_drew ?_ | refine blk_alloc ?_ _)); exact BK378.out)) : gb378 ≠ gb379)); have n6_ := Aside0.mk ((by rw [hg]; exact Nat.ne_of_gt (blk_lt (g := gb378) (o := .cells #[.int .i64 a0_0, .int .i64 a0_1, .slice A0_2 l0_2.length c0_2, .int .i64 a0_3, .int .i64 a0_4, .string a0_5, .slice A0_6 l0_6.length c0_6, .int .i64 a0_7, .slice A0_8 l0_8.length c0_8, .slice A0_9 l0_9.length c0_9, .int .i64 a0_10, .int .i64 a0_11] 59 (0, 0)) (by (with_reducible repeat (first | refine blk_drewN ?_ _ | refine blk_drew ?_ | refine blk_alloc ?_ _)); exact BK378.out)) : gb379 ≠ gb378)); clear BK378; clear HB; have BK378 := n0_; have HB := n1_; have BK379 := n2_; have GW379 := n3_; have GE379 := n4_; have NB378_379 := n5_; have NB379_378 := n6_; clear n0_ n1_ n2_ n3_ n4_ n5_ n6_; clear hb hbox hg; have hnb18 := NB378_379.out; have hnc18 := NB379_378.out; have hcz19_0 : w17.cell? ⟨gb378, 0, none⟩ = some (.int .i64 a0_0) := (blk_cell BK378.out 0).trans rfl; have hcz19_1 : w17.cell? ⟨gb378, 1, none⟩ = some (.int .i64 a0_1) := (blk_cell BK378.out 1).trans rfl; have hcz19_2 : w17.cell? ⟨gb378, 2, none⟩ = some (.slice A0_2 l0_2.length c0_2) := (blk_cell BK378.out 2).trans rfl; have hcz19_3 : w17.cell? ⟨gb378, 3, none⟩ = some (.int .i64 a0_3) := (blk_cell BK378.out 3).trans rfl; have hcz19_4 : w17.cell? ⟨gb378, 4, none⟩ = some (.int .i64 a0_4) := (blk_cell BK378.out 4).trans rfl; have hcz19_5 : w17.cell? ⟨gb378, 5, none⟩ = some (.string a0_5) := (blk_cell BK378.out 5).trans rfl; have hcz19_6 : w17.cell? ⟨gb378, 6, none⟩ = some (.slice A0_6 l0_6.length c0_6) := (blk_cell BK378.out 6).trans rfl; have hcz19_7 : w17.cell? ⟨gb378, 7, none⟩ = some (.int .i64 a0_7) := (blk_cell BK378.out 7).trans rfl; have hcz19_8 : w17.cell? ⟨gb378, 8, none⟩ = some (.slice A0_8 l0_8.length c0_8) := (blk_cell BK378.out 8).trans rfl; have hcz19_9 : w17.cell? ⟨gb378, 9, none⟩ = some (.slice A0_9 l0_9.length c0_9) := (blk_cell BK378.out 9).trans rfl; have hcz19_10 : w17.cell? ⟨gb378, 10, none⟩ = some (.int .i64 a0_10) := (blk_cell BK378.out 10).trans rfl; have hcz19_11 : w17.cell? ⟨gb378, 11, none⟩ = some (.int .i64 a0_11) := (blk_cell BK378.out 11).trans rfl; have hfz19_0 := blk_frozen BK378.out 0; have hfz19_1 := blk_frozen BK378.out 1; have hfz19_2 := blk_frozen BK378.out 2; have hfz19_3 := blk_frozen BK378.out 3; have hfz19_4 := blk_frozen BK378.out 4; have hfz19_5 := blk_frozen BK378.out 5; have hfz19_6 := blk_frozen BK378.out 6; have hfz19_7 := blk_frozen BK378.out 7; have hfz19_8 := blk_frozen BK378.out 8; have hfz19_9 := blk_frozen BK378.out 9; have hfz19_10 := blk_frozen BK378.out 10; have hfz19_11 := blk_frozen BK378.out 11; have hcz20_0 : w17.cell? ⟨gb379, 0, none⟩ = some (.int .i64 a1_0) := (blk_cell BK379.out 0).trans rfl; have hcz20_1 : w17.cell? ⟨gb379, 1, none⟩ = some (.int .i64 a1_1) := (blk_cell BK379.out 1).trans rfl; have hcz20_2 : w17.cell? ⟨gb379, 2, none⟩ = some (.slice A1_2 l1_2.length c1_2) := (blk_cell BK379.out 2).trans rfl; have hcz20_3 : w17.cell? ⟨gb379, 3, none⟩ = some (.int .i64 a1_3) := (blk_cell BK379.out 3).trans rfl; have hcz20_4 : w17.cell? ⟨gb379, 4, none⟩ = some (.int .i64 a1_4) := (blk_cell BK379.out 4).trans rfl; have hcz20_5 : w17.cell? ⟨gb379, 5, none⟩ = some (.string a1_5) := (blk_cell BK379.out 5).trans rfl; have hcz20_6 : w17.cell? ⟨gb379, 6, none⟩ = some (.slice A1_6 l1_6.length c1_6) := (blk_cell BK379.out 6).trans rfl; have hcz20_7 : w17.cell? ⟨gb379, 7, none⟩ = some (.int .i64 a1_7) := (blk_cell BK379.out 7).trans rfl; have hcz20_8 : w17.cell? ⟨gb379, 8, none⟩ = some (.slice A1_8 l1_8.length c1_8) := (blk_cell BK379.out 8).trans rfl; have hcz20_9 : w17.cell? ⟨gb379, 9, none⟩ = some (.slice A1_9 l1_9.length c1_9) := (blk_cell BK379.out 9).trans rfl; have hcz20_10 : w17.cell? ⟨gb379, 10, none⟩ = some (.int .i64 a1_10) := (blk_cell BK379.out 10).trans rfl; have hcz20_11 : w17.cell? ⟨gb379, 11, none⟩ = some (.int .i64 a1_11) := (blk_cell BK379.out 11).trans rfl; have hfz20_0 := blk_frozen BK379.out 0; have hfz20_1 := blk_frozen BK379.out 1; have hfz20_2 := blk_frozen BK379.out 2; have hfz20_3 := blk_frozen BK379.out 3; have hfz20_4 := blk_frozen BK379.out 4; have hfz20_5 := blk_frozen BK379.out 5; have hfz20_6 := blk_frozen BK379.out 6; have hfz20_7 := blk_frozen BK379.out 7; have hfz20_8 := blk_frozen BK379.out 8; have hfz20_9 := blk_frozen BK379.out 9; have hfz20_10 := blk_frozen BK379.out 10; have hfz20_11 := blk_frozen BK379.out 11) | ((with_reducible refine gate_callee (f := 54) rfl ?_); refine goesL_ (some 19) rfl rfl Try.func54 (by kernel_rfl) rfl #[.agg #[.slice A0_2 l0_2.length c0_2, .int .i64 a0_3, .int .i64 a0_4, .string a0_5], .agg #[.slice A1_2 l1_2.length c1_2, .int .i64 a1_3, .int .i64 a1_4, .string a1_5]] rfl (by (try simp only [List.map_toArray, List.map_cons, List.map_nil]); first | done | rfl | (simp only [List.length_drop, List.length_take]; rfl)) ?_; (with_reducible refine (laws_eqAlarm.calls k _ _ l0_2 a0_3 a0_4 a0_5 _ _ l1_2 a1_3 a1_4 a1_5 true _ ?side1 ?side2 ?side3 ?side4 A5.out).mono ?_); (case side1 => repeat (first | exact (Kd.C_below HR0_2.out HB.out) | (with_reducible refine Kd.C_alloc ?_ _) | (with_reducible refine Kd.C_drewN ?_ _) | (with_reducible refine Kd.C_drew ?_))); (case side2 => exact HC0_2.out); (case side3 => repeat (first | exact (Kd.C_below HR1_2.out HB.out) | (with_reducible refine Kd.C_alloc ?_ _) | (with_reducible refine Kd.C_drewN ?_ _) | (with_reducible refine Kd.C_drew ?_))); (case side4 => exact HC1_2.out); rintro e w21 ⟨rfl, hb⟩; refine ⟨_, rfl, ?_⟩; have n0_ := Aside0.mk (blk_below (g := gb378) (o := .cells #[.int .i64 a0_0, .int .i64 a0_1, .slice A0_2 l0_2.length c0_2, .int .i64 a0_3, .int .i64 a0_4, .string a0_5, .slice A0_6 l0_6.length c0_6, .int .i64 a0_7, .slice A0_8 l0_8.length c0_8, .slice A0_9 l0_9.length c0_9, .int .i64 a0_10, .int .i64 a0_11] 59 (0, 0)) (by (with_reducible repeat (first | refine blk_drewN ?_ _ | refine blk_drew ?_ | refine blk_alloc ?_ _)); exact BK378.out) hb); have n1_ := Aside0.mk (blk_below (g := gb379) (o := .cells #[.int .i64 a1_0, .int .i64 a1_1, .slice A1_2 l1_2.length c1_2, .int .i64 a1_3, .int .i64 a1_4, .string a1_5, .slice A1_6 l1_6.length c1_6, .int .i64 a1_7, .slice A1_8 l1_8.length c1_8, .slice A1_9 l1_9.length c1_9, .int .i64 a1_10, .int .i64 a1_11] 59 (0, 0)) (by (with_reducible repeat (first | refine blk_drewN ?_ _ | refine blk_drew ?_ | refine blk_alloc ?_ _)); exact BK379.out) hb); have n2_ := Aside0.mk (below_step (by repeat (first | (with_reducible first | exact HB.out | apply below_alloc | apply pw_below_drewN | apply below_drew1 | refine below_set ?_ GE378.out | refine below_set ?_ GE379.out) | exact HB.out)) hb); clear BK378; clear BK379; clear HB; have BK378 := n0_; have BK379 := n1_; have HB := n2_; clear n0_ n1_ n2_; (try clear hb); (try clear hb2); (try clear hk); (try clear hi); have hcz22_0 : w21.cell? ⟨gb378, 0, none⟩ = some (.int .i64 a0_0) := (blk_cell BK378.out 0).trans rfl; have hcz22_1 : w21.cell? ⟨gb378, 1, none⟩ = some (.int .i64 a0_1) := (blk_cell BK378.out 1).trans rfl; have hcz22_2 : w21.cell? ⟨gb378, 2, none⟩ = some (.slice A0_2 l0_2.length c0_2) := (blk_cell BK378.out 2).trans rfl; have hcz22_3 : w21.cell? ⟨gb378, 3, none⟩ = some (.int .i64 a0_3) := (blk_cell BK378.out 3).trans rfl; have hcz22_4 : w21.cell? ⟨gb378, 4, none⟩ = some (.int .i64 a0_4) := (blk_cell BK378.out 4).trans rfl; have hcz22_5 : w21.cell? ⟨gb378, 5, none⟩ = some (.string a0_5) := (blk_cell BK378.out 5).trans rfl; have hcz22_6 : w21.cell? ⟨gb378, 6, none⟩ = some (.slice A0_6 l0_6.length c0_6) := (blk_cell BK378.out 6).trans rfl; have hcz22_7 : w21.cell? ⟨gb378, 7, none⟩ = some (.int .i64 a0_7) := (blk_cell BK378.out 7).trans rfl; have hcz22_8 : w21.cell? ⟨gb378, 8, none⟩ = some (.slice A0_8 l0_8.length c0_8) := (blk_cell BK378.out 8).trans rfl; have hcz22_9 : w21.cell? ⟨gb378, 9, none⟩ = some (.slice A0_9 l0_9.length c0_9) := (blk_cell BK378.out 9).trans rfl; have hcz22_10 : w21.cell? ⟨gb378, 10, none⟩ = some (.int .i64 a0_10) := (blk_cell BK378.out 10).trans rfl; have hcz22_11 : w21.cell? ⟨gb378, 11, none⟩ = some (.int .i64 a0_11) := (blk_cell BK378.out 11).trans rfl; have hfz22_0 := blk_frozen BK378.out 0; have hfz22_1 := blk_frozen BK378.out 1; have hfz22_2 := blk_frozen BK378.out 2; have hfz22_3 := blk_frozen BK378.out 3; have hfz22_4 := blk_frozen BK378.out 4; have hfz22_5 := blk_frozen BK378.out 5; have hfz22_6 := blk_frozen BK378.out 6; have hfz22_7 := blk_frozen BK378.out 7; have hfz22_8 := blk_frozen BK378.out 8; have hfz22_9 := blk_frozen BK378.out 9; have hfz22_10 := blk_frozen BK378.out 10; have hfz22_11 := blk_frozen BK378.out 11; have hcz23_0 : w21.cell? ⟨gb379, 0, none⟩ = some (.int .i64 a1_0) := (blk_cell BK379.out 0).trans rfl; have hcz23_1 : w21.cell? ⟨gb379, 1, none⟩ = some (.int .i64 a1_1) := (blk_cell BK379.out 1).trans rfl; have hcz23_2 : w21.cell? ⟨gb379, 2, none⟩ = some (.slice A1_2 l1_2.length c1_2) := (blk_cell BK379.out 2).trans rfl; have hcz23_3 : w21.cell? ⟨gb379, 3, none⟩ = some (.int .i64 a1_3) := (blk_cell BK379.out 3).trans rfl; have hcz23_4 : w21.cell? ⟨gb379, 4, none⟩ = some (.int .i64 a1_4) := (blk_cell BK379.out 4).trans rfl; have hcz23_5 : w21.cell? ⟨gb379, 5, none⟩ = some (.string a1_5) := (blk_cell BK379.out 5).trans rfl; have hcz23_6 : w21.cell? ⟨gb379, 6, none⟩ = some (.slice A1_6 l1_6.length c1_6) := (blk_cell BK379.out 6).trans rfl; have hcz23_7 : w21.cell? ⟨gb379, 7, none⟩ = some (.int .i64 a1_7) := (blk_cell BK379.out 7).trans rfl; have hcz23_8 : w21.cell? ⟨gb379, 8, none⟩ = some (.slice A1_8 l1_8.length c1_8) := (blk_cell BK379.out 8).trans rfl; have hcz23_9 : w21.cell? ⟨gb379, 9, none⟩ = some (.slice A1_9 l1_9.length c1_9) := (blk_cell BK379.out 9).trans rfl; have hcz23_10 : w21.cell? ⟨gb379, 10, none⟩ = some (.int .i64 a1_10) := (blk_cell BK379.out 10).trans rfl; have hcz23_11 : w21.cell? ⟨gb379, 11, none⟩ = some (.int .i64 a1_11) := (blk_cell BK379.out 11).trans rfl; have hfz23_0 := blk_frozen BK379.out 0; have hfz23_1 := blk_frozen BK379.out 1; have hfz23_2 := blk_frozen BK379.out 2; have hfz23_3 := blk_frozen BK379.out 3; have hfz23_4 := blk_frozen BK379.out 4; have hfz23_5 := blk_frozen BK379.out 5; have hfz23_6 := blk_frozen BK379.out 6; have hfz23_7 := blk_frozen BK379.out 7; have hfz23_8 := blk_frozen BK379.out 8; have hfz23_9 := blk_frozen BK379.out 9; have hfz23_10 := blk_frozen BK379.out 10; have hfz23_11 := blk_frozen BK379.out 11) | ((with_reducible refine gate_callee (f := 59) rfl ?_); refine goesL_ (some 25) rfl rfl Try.func59 (by kernel_rfl) rfl #[.slice A0_6 l0_6.length c0_6, .slice A1_6 l1_6.length c1_6] rfl (by (try simp only [List.map_toArray, List.map_cons, List.map_nil]); first | done | rfl | (simp only [List.length_drop, List.length_take]; rfl)) ?_; (with_reducible refine (laws_eqLabelS.calls k _ _ l0_6 _ _ l1_6 true _ ?side1 ?side2 ?side3 ?side4 A7.out).mono ?_); (case side1 => repeat (first | exact (Kd.C_below HR0_6.out HB.out) | (with_reducible refine Kd.C_alloc ?_ _) | (with_reducible refine Kd.C_drewN ?_ _) | (with_reducible refine Kd.C_drew ?_))); (case side2 => exact HC0_6.out); (case side3 => repeat (first | exact (Kd.C_below HR1_6.out HB.out) | (with_reducible refine Kd.C_alloc ?_ _) | (with_reducible refine Kd.C_drewN ?_ _) | (with_reducible refine Kd.C_drew ?_))); (case side4 => exact HC1_6.out); rintro e w24 ⟨rfl, hb⟩; refine ⟨_, rfl, ?_⟩; have n0_ := Aside0.mk (blk_below (g := gb378) (o := .cells #[.int .i64 a0_0, .int .i64 a0_1, .slice A0_2 l0_2.length c0_2, .int .i64 a0_3, .int .i64 a0_4, .string a0_5, .slice A0_6 l0_6.length c0_6, .int .i64 a0_7, .slice A0_8 l0_8.length c0_8, .slice A0_9 l0_9.length c0_9, .int .i64 a0_10, .int .i64 a0_11] 59 (0, 0)) (by (with_reducible repeat (first | refine blk_drewN ?_ _ | refine blk_drew ?_ | refine blk_alloc ?_ _)); exact BK378.out) hb); have n1_ := Aside0.mk (blk_below (g := gb379) (o := .cells #[.int .i64 a1_0, .int .i64 a1_1, .slice A1_2 l1_2.length c1_2, .int .i64 a1_3, .int .i64 a1_4, .string a1_5, .slice A1_6 l1_6.length c1_6, .int .i64 a1_7, .slice A1_8 l1_8.length c1_8, .slice A1_9 l1_9.length c1_9, .int .i64 a1_10, .int .i64 a1_11] 59 (0, 0)) (by (with_reducible repeat (first | refine blk_drewN ?_ _ | refine blk_drew ?_ | refine blk_alloc ?_ _)); exact BK379.out) hb); have n2_ := Aside0.mk (below_step (by repeat (first | (with_reducible first | exact HB.out | apply below_alloc | apply pw_below_drewN | apply below_drew1 | refine below_set ?_ GE378.out | refine below_set ?_ GE379.out) | exact HB.out)) hb); clear BK378; clear BK379; clear HB; have BK378 := n0_; have BK379 := n1_; have HB := n2_; clear n0_ n1_ n2_; (try clear hb); (try clear hb2); (try clear hk); (try clear hi); have hcz25_0 : w24.cell? ⟨gb378, 0, none⟩ = some (.int .i64 a0_0) := (blk_cell BK378.out 0).trans rfl; have hcz25_1 : w24.cell? ⟨gb378, 1, none⟩ = some (.int .i64 a0_1) := (blk_cell BK378.out 1).trans rfl; have hcz25_2 : w24.cell? ⟨gb378, 2, none⟩ = some (.slice A0_2 l0_2.length c0_2) := (blk_cell BK378.out 2).trans rfl; have hcz25_3 : w24.cell? ⟨gb378, 3, none⟩ = some (.int .i64 a0_3) := (blk_cell BK378.out 3).trans rfl; have hcz25_4 : w24.cell? ⟨gb378, 4, none⟩ = some (.int .i64 a0_4) := (blk_cell BK378.out 4).trans rfl; have hcz25_5 : w24.cell? ⟨gb378, 5, none⟩ = some (.string a0_5) := (blk_cell BK378.out 5).trans rfl; have hcz25_6 : w24.cell? ⟨gb378, 6, none⟩ = some (.slice A0_6 l0_6.length c0_6) := (blk_cell BK378.out 6).trans rfl; have hcz25_7 : w24.cell? ⟨gb378, 7, none⟩ = some (.int .i64 a0_7) := (blk_cell BK378.out 7).trans rfl; have hcz25_8 : w24.cell? ⟨gb378, 8, none⟩ = some (.slice A0_8 l0_8.length c0_8) := (blk_cell BK378.out 8).trans rfl; have hcz25_9 : w24.cell? ⟨gb378, 9, none⟩ = some (.slice A0_9 l0_9.length c0_9) := (blk_cell BK378.out 9).trans rfl; have hcz25_10 : w24.cell? ⟨gb378, 10, none⟩ = some (.int .i64 a0_10) := (blk_cell BK378.out 10).trans rfl; have hcz25_11 : w24.cell? ⟨gb378, 11, none⟩ = some (.int .i64 a0_11) := (blk_cell BK378.out 11).trans rfl; have hfz25_0 := blk_frozen BK378.out 0; have hfz25_1 := blk_frozen BK378.out 1; have hfz25_2 := blk_frozen BK378.out 2; have hfz25_3 := blk_frozen BK378.out 3; have hfz25_4 := blk_frozen BK378.out 4; have hfz25_5 := blk_frozen BK378.out 5; have hfz25_6 := blk_frozen BK378.out 6; have hfz25_7 := blk_frozen BK378.out 7; have hfz25_8 := blk_frozen BK378.out 8; have hfz25_9 := blk_frozen BK378.out 9; have hfz25_10 := blk_frozen BK378.out 10; have hfz25_11 := blk_frozen BK378.out 11; have hcz26_0 : w24.cell? ⟨gb379, 0, none⟩ = some (.int .i64 a1_0) := (blk_cell BK379.out 0).trans rfl; have hcz26_1 : w24.cell? ⟨gb379, 1, none⟩ = some (.int .i64 a1_1) := (blk_cell BK379.out 1).trans rfl; have hcz26_2 : w24.cell? ⟨gb379, 2, none⟩ = some (.slice A1_2 l1_2.length c1_2) := (blk_cell BK379.out 2).trans rfl; have hcz26_3 : w24.cell? ⟨gb379, 3, none⟩ = some (.int .i64 a1_3) := (blk_cell BK379.out 3).trans rfl; have hcz26_4 : w24.cell? ⟨gb379, 4, none⟩ = some (.int .i64 a1_4) := (blk_cell BK379.out 4).trans rfl; have hcz26_5 : w24.cell? ⟨gb379, 5, none⟩ = some (.string a1_5) := (blk_cell BK379.out 5).trans rfl; have hcz26_6 : w24.cell? ⟨gb379, 6, none⟩ = some (.slice A1_6 l1_6.length c1_6) := (blk_cell BK379.out 6).trans rfl; have hcz26_7 : w24.cell? ⟨gb379, 7, none⟩ = some (.int .i64 a1_7) := (blk_cell BK379.out 7).trans rfl; have hcz26_8 : w24.cell? ⟨gb379, 8, none⟩ = some (.slice A1_8 l1_8.length c1_8) := (blk_cell BK379.out 8).trans rfl; have hcz26_9 : w24.cell? ⟨gb379, 9, none⟩ = some (.slice A1_9 l1_9.length c1_9) := (blk_cell BK379.out 9).trans rfl; have hcz26_10 : w24.cell? ⟨gb379, 10, none⟩ = some (.int .i64 a1_10) := (blk_cell BK379.out 10).trans rfl; have hcz26_11 : w24.cell? ⟨gb379, 11, none⟩ = some (.int .i64 a1_11) := (blk_cell BK379.out 11).trans rfl; have hfz26_0 := blk_frozen BK379.out 0; have hfz26_1 := blk_frozen BK379.out 1; have hfz26_2 := blk_frozen BK379.out 2; have hfz26_3 := blk_frozen BK379.out 3; have hfz26_4 := blk_frozen BK379.out 4; have hfz26_5 := blk_frozen BK379.out 5; have hfz26_6 := blk_frozen BK379.out 6; have hfz26_7 := blk_frozen BK379.out 7; have hfz26_8 := blk_frozen BK379.out 8; have hfz26_9 := blk_frozen BK379.out 9; have hfz26_10 := blk_frozen BK379.out 10; have hfz26_11 := blk_frozen BK379.out 11) | ((with_reducible refine gate_callee (f := 75) rfl ?_); refine goesL_ (some 36) rfl rfl Try.func75 (by kernel_rfl) rfl #[.slice A0_8 l0_8.length c0_8, .slice A1_8 l1_8.length c1_8] rfl (by (try simp only [List.map_toArray, List.map_cons, List.map_nil]); first | done | rfl | (simp only [List.length_drop, List.length_take]; rfl)) ?_; (with_reducible refine (laws_eqIntS.calls k _ _ l0_8 _ _ l1_8 true _ ?side1 ?side2 ?side3 ?side4 A10.out).mono ?_); (case side1 => repeat (first | exact (Kd.C_below HR0_8.out HB.out) | (with_reducible refine Kd.C_alloc ?_ _) | (with_reducible refine Kd.C_drewN ?_ _) | (with_reducible refine Kd.C_drew ?_))); (case side2 => exact HC0_8.out); (case side3 => repeat (first | exact (Kd.C_below HR1_8.out HB.out) | (with_reducible refine Kd.C_alloc ?_ _) | (with_reducible refine Kd.C_drewN ?_ _) | (with_reducible refine Kd.C_drew ?_))); (case side4 => exact HC1_8.out); rintro e w' ⟨rfl, ⟨nd, rfl⟩⟩; refine ⟨_, rfl, ?_⟩) | ((with_reducible refine gate_callee (f := 70) rfl ?_); refine goesL_ (some 42) rfl rfl Try.func70 (by kernel_rfl) rfl #[.slice A0_9 l0_9.length c0_9, .slice A1_9 l1_9.length c1_9] rfl (by (try simp only [List.map_toArray, List.map_cons, List.map_nil]); first | done | rfl | (simp only [List.length_drop, List.length_take]; rfl)) ?_; (with_reducible refine (laws_eqAlarmS.calls k _ _ l0_9 _ _ l1_9 true _ ?side1 ?side2 ?side3 ?side4 A12.out).mono ?_); (case side1 => repeat (first | exact (Kd.C_below HR0_9.out (by repeat (first | (with_reducible first | exact HB.out | apply below_alloc | apply pw_below_drewN | apply below_drew1 | refine below_set ?_ GE378.out | refine below_set ?_ GE379.out) | exact HB.out))) | (with_reducible refine Kd.C_alloc ?_ _) | (with_reducible refine Kd.C_drewN ?_ _) | (with_reducible refine Kd.C_drew ?_))); (case side2 => exact HC0_9.out); (case side3 => repeat (first | exact (Kd.C_below HR1_9.out (by repeat (first | (with_reducible first | exact HB.out | apply below_alloc | apply pw_below_drewN | apply below_drew1 | refine below_set ?_ GE378.out | refine below_set ?_ GE379.out) | exact HB.out))) | (with_reducible refine Kd.C_alloc ?_ _) | (with_reducible refine Kd.C_drewN ?_ _) | (with_reducible refine Kd.C_drew ?_))); (case side4 => exact HC1_9.out); rintro e w27 ⟨rfl, hb⟩; refine ⟨_, rfl, ?_⟩; have n0_ := Aside0.mk (blk_below (g := gb378) (o := .cells #[.int .i64 a0_0, .int .i64 a0_1, .slice A0_2 l0_2.length c0_2, .int .i64 a0_3, .int .i64 a0_4, .string a0_5, .slice A0_6 l0_6.length c0_6, .int .i64 a0_7, .slice A0_8 l0_8.length c0_8, .slice A0_9 l0_9.length c0_9, .int .i64 a0_10, .int .i64 a0_11] 59 (0, 0)) (by (with_reducible repeat (first | refine blk_drewN ?_ _ | refine blk_drew ?_ | refine blk_alloc ?_ _)); exact BK378.out) hb); have n1_ := Aside0.mk (blk_below (g := gb379) (o := .cells #[.int .i64 a1_0, .int .i64 a1_1, .slice A1_2 l1_2.length c1_2, .int .i64 a1_3, .int .i64 a1_4, .string a1_5, .slice A1_6 l1_6.length c1_6, .int .i64 a1_7, .slice A1_8 l1_8.length c1_8, .slice A1_9 l1_9.length c1_9, .int .i64 a1_10, .int .i64 a1_11] 59 (0, 0)) (by (with_reducible repeat (first | refine blk_drewN ?_ _ | refine blk_drew ?_ | refine blk_alloc ?_ _)); exact BK379.out) hb); have n2_ := Aside0.mk (below_step (by repeat (first | (with_reducible first | exact HB.out | apply below_alloc | apply pw_below_drewN | apply below_drew1 | refine below_set ?_ GE378.out | refine below_set ?_ GE379.out) | exact HB.out)) hb); clear BK378; clear BK379; clear HB; have BK378 := n0_; have BK379 := n1_; have HB := n2_; clear n0_ n1_ n2_; (try clear hb); (try clear hb2); (try clear hk); (try clear hi); have hcz28_0 : w27.cell? ⟨gb378, 0, none⟩ = some (.int .i64 a0_0) := (blk_cell BK378.out 0).trans rfl; have hcz28_1 : w27.cell? ⟨gb378, 1, none⟩ = some (.int .i64 a0_1) := (blk_cell BK378.out 1).trans rfl; have hcz28_2 : w27.cell? ⟨gb378, 2, none⟩ = some (.slice A0_2 l0_2.length c0_2) := (blk_cell BK378.out 2).trans rfl; have hcz28_3 : w27.cell? ⟨gb378, 3, none⟩ = some (.int .i64 a0_3) := (blk_cell BK378.out 3).trans rfl; have hcz28_4 : w27.cell? ⟨gb378, 4, none⟩ = some (.int .i64 a0_4) := (blk_cell BK378.out 4).trans rfl; have hcz28_5 : w27.cell? ⟨gb378, 5, none⟩ = some (.string a0_5) := (blk_cell BK378.out 5).trans rfl; have hcz28_6 : w27.cell? ⟨gb378, 6, none⟩ = some (.slice A0_6 l0_6.length c0_6) := (blk_cell BK378.out 6).trans rfl; have hcz28_7 : w27.cell? ⟨gb378, 7, none⟩ = some (.int .i64 a0_7) := (blk_cell BK378.out 7).trans rfl; have hcz28_8 : w27.cell? ⟨gb378, 8, none⟩ = some (.slice A0_8 l0_8.length c0_8) := (blk_cell BK378.out 8).trans rfl; have hcz28_9 : w27.cell? ⟨gb378, 9, none⟩ = some (.slice A0_9 l0_9.length c0_9) := (blk_cell BK378.out 9).trans rfl; have hcz28_10 : w27.cell? ⟨gb378, 10, none⟩ = some (.int .i64 a0_10) := (blk_cell BK378.out 10).trans rfl; have hcz28_11 : w27.cell? ⟨gb378, 11, none⟩ = some (.int .i64 a0_11) := (blk_cell BK378.out 11).trans rfl; have hfz28_0 := blk_frozen BK378.out 0; have hfz28_1 := blk_frozen BK378.out 1; have hfz28_2 := blk_frozen BK378.out 2; have hfz28_3 := blk_frozen BK378.out 3; have hfz28_4 := blk_frozen BK378.out 4; have hfz28_5 := blk_frozen BK378.out 5; have hfz28_6 := blk_frozen BK378.out 6; have hfz28_7 := blk_frozen BK378.out 7; have hfz28_8 := blk_frozen BK378.out 8; have hfz28_9 := blk_frozen BK378.out 9; have hfz28_10 := blk_frozen BK378.out 10; have hfz28_11 := blk_frozen BK378.out 11; have hcz29_0 : w27.cell? ⟨gb379, 0, none⟩ = some (.int .i64 a1_0) := (blk_cell BK379.out 0).trans rfl; have hcz29_1 : w27.cell? ⟨gb379, 1, none⟩ = some (.int .i64 a1_1) := (blk_cell BK379.out 1).trans rfl; have hcz29_2 : w27.cell? ⟨gb379, 2, none⟩ = some (.slice A1_2 l1_2.length c1_2) := (blk_cell BK379.out 2).trans rfl; have hcz29_3 : w27.cell? ⟨gb379, 3, none⟩ = some (.int .i64 a1_3) := (blk_cell BK379.out 3).trans rfl; have hcz29_4 : w27.cell? ⟨gb379, 4, none⟩ = some (.int .i64 a1_4) := (blk_cell BK379.out 4).trans rfl; have hcz29_5 : w27.cell? ⟨gb379, 5, none⟩ = some (.string a1_5) := (blk_cell BK379.out 5).trans rfl; have hcz29_6 : w27.cell? ⟨gb379, 6, none⟩ = some (.slice A1_6 l1_6.length c1_6) := (blk_cell BK379.out 6).trans rfl; have hcz29_7 : w27.cell? ⟨gb379, 7, none⟩ = some (.int .i64 a1_7) := (blk_cell BK379.out 7).trans rfl; have hcz29_8 : w27.cell? ⟨gb379, 8, none⟩ = some (.slice A1_8 l1_8.length c1_8) := (blk_cell BK379.out 8).trans rfl; have hcz29_9 : w27.cell? ⟨gb379, 9, none⟩ = some (.slice A1_9 l1_9.length c1_9) := (blk_cell BK379.out 9).trans rfl; have hcz29_10 : w27.cell? ⟨gb379, 10, none⟩ = some (.int .i64 a1_10) := (blk_cell BK379.out 10).trans rfl; have hcz29_11 : w27.cell? ⟨gb379, 11, none⟩ = some (.int .i64 a1_11) := (blk_cell BK379.out 11).trans rfl; have hfz29_0 := blk_frozen BK379.out 0; have hfz29_1 := blk_frozen BK379.out 1; have hfz29_2 := blk_frozen BK379.out 2; have hfz29_3 := blk_frozen BK379.out 3; have hfz29_4 := blk_frozen BK379.out 4; have hfz29_5 := blk_frozen BK379.out 5; have hfz29_6 := blk_frozen BK379.out 6; have hfz29_7 := blk_frozen BK379.out 7; have hfz29_8 := blk_frozen BK379.out 8; have hfz29_9 := blk_frozen BK379.out 9; have hfz29_10 := blk_frozen BK379.out 10; have hfz29_11 := blk_frozen BK379.out 11))
          go_ret
          exact ⟨by first | rfl | (simp [errW_none, errW_some] <;> rfl) | (simp [*, errW_none, errW_some] <;> rfl), by repeat (first | (with_reducible first | exact HB.out | apply below_alloc | apply pw_below_drewN | apply below_drew1 | refine below_set ?_ GE378.out | refine below_set ?_ GE379.out) | exact HB.out)⟩
         ·
          rw [if_neg c15] at H
          exact absurd H (by simp)
        ·
         rw [if_neg c14] at H
         exact absurd H (by simp)
       ·
        replace c13 := Bool.eq_false_iff.mpr c13
        subst c13
        have H1 : (none) = some r := by rw [if_neg (show ¬ (false = true) by decide)] at H; exact H
        clear H
        have H := H1
        clear H1
        exact absurd H (by simp)
      ·
       replace c11 := Bool.eq_false_iff.mpr c11
       subst c11
       have H1 : (none) = some r := by rw [if_neg (show ¬ (false = true) by decide)] at H; exact H
       clear H
       have H := H1
       clear H1
       exact absurd H (by simp)
     ·
      rw [if_neg c9] at H
      exact absurd H (by simp)
    ·
     replace c8 := Bool.eq_false_iff.mpr c8
     subst c8
     have H1 : (none) = some r := by rw [if_neg (show ¬ (false = true) by decide)] at H; exact H
     clear H
     have H := H1
     clear H1
     exact absurd H (by simp)
   ·
    replace c6 := Bool.eq_false_iff.mpr c6
    subst c6
    have H1 : (none) = some r := by rw [if_neg (show ¬ (false = true) by decide)] at H; exact H
    clear H
    have H := H1
    clear H1
    exact absurd H (by simp)
  ·
   rw [if_neg c4] at H
   exact absurd H (by simp)
 ·
  rw [if_neg c3] at H
  exact absurd H (by simp)

end Go.Proofs.Ytmmaondenopnpaa.Print
