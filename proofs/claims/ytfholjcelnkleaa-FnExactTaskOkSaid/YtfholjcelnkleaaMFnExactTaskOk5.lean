import Derived.Test.YtfholjcelnkleaaMFnExactTaskOk1
import Derived.Test.YtfholjcelnkleaaMFnExactTaskOk4
import Derived.Test.YtfholjcelnkleaaMFnExactTaskOk2
import Derived.Test.YtfholjcelnkleaaMFnExactTaskOk3
section
namespace Go.Proofs.Ytfholjcelnkleaa.Print
open Go.RowKit Go.Proofs.YtfholjcelnkleaaV.PrintWords Go.Proofs.YtfholjcelnkleaaV.PrintLast Go.Proofs.YtfholjcelnkleaaV.PrintMore
attribute [local go_sem] max2_int min2_int max_two min_two max_three min_three max_four min_four
set_option linter.unusedVariables false
set_option linter.unusedSimpArgs false
set_option maxHeartbeats 8000000
set_option maxRecDepth 100000
def laws_eqIntS.l0 : Nat → List Int → List Int → Int → Option (Bool)
 | 0, _, _, _ => none
 | k + 1, x0, x1, x5 => if x5 < (x0.length : Int) then (if 0 ≤ x5 then (if x5 < (x1.length : Int) then (if (rd x0 x5) = (rd x1 x5) then (laws_eqIntS.l0 k x0 x1 (wrap64 (x5 + 1))) else (none)) else (none)) else (none)) else (some true)
def laws_eqIntS.f (k : Nat) (l0 : List Int) (l1 : List Int) : Option (Bool) := if (l0.length : Int) = (l1.length : Int) then (laws_eqIntS.l0 k l0 l1 0) else (none)
theorem laws_eqIntS.mono_l : ∀ k, (∀ y0 y1 y2, LeO (laws_eqIntS.l0 k y0 y1 y2) (laws_eqIntS.l0 (k + 1) y0 y1 y2))
 | 0 => fun _ _ _ r h => by simp [laws_eqIntS.l0] at h
 | k + 1 => by
  have ih0 := laws_eqIntS.mono_l k
  intro y0 y1 y2
  unfold laws_eqIntS.l0
  repeat' first
  | (with_reducible exact ih0 _ _ _)
  | (with_reducible exact LeO.refl _)
  | (with_reducible exact LeO.none _)
  | (with_reducible refine LeO.ite ?_ ?_)
  | (with_reducible refine LeO.bind ?_ (fun _ => ?_))
  | exact ih0 _ _ _
theorem laws_eqIntS.mono : ∀ a0 a1 k, LeO (laws_eqIntS.f k a0 a1) (laws_eqIntS.f (k + 1) a0 a1) := by
 intro a0 a1 k
 have ih0 := laws_eqIntS.mono_l k
 unfold laws_eqIntS.f
 repeat' first
   | (with_reducible exact ih0 _ _ _)
   | (with_reducible exact LeO.refl _)
   | (with_reducible exact LeO.none _)
   | (with_reducible refine LeO.ite ?_ ?_)
   | (with_reducible refine LeO.bind ?_ (fun _ => ?_))
   | exact ih0 _ _ _
theorem laws_eqIntS.calls (k : Nat) (A0 : Option Addr) (c0 : Nat) (l0 : List Int) (A1 : Option Addr) (c1 : Nat) (l1 : List Int) (r : Bool) (w : World) (hr0 : Kd.C (Kd.int .i64) w A0 l0.length l0) (hc0 : l0.length ≤ c0) (hr1 : Kd.C (Kd.int .i64) w A1 l1.length l1) (hc1 : l1.length ≤ c1) (h : laws_eqIntS.f k l0 l1 = some r) :
  Calls Try.prog 126 #[.slice A0 l0.length c0, .slice A1 l1.length c1] w fun e w' => e = .returned (.bool r) ∧ Drawn0 w w' := by
 have HR0 := Aside0.mk hr0
 have HC0 := Aside0.mk hc0
 clear hr0 hc0
 have HR1 := Aside0.mk hr1
 have HC1 := Aside0.mk hc1
 clear hr1 hc1
 have H : (if (l0.length : Int) = (l1.length : Int) then (laws_eqIntS.l0 k l0 l1 0) else (none)) = some r := h
 clear h
 by_cases c3 : (l0.length : Int) = (l1.length : Int)
 ·
  rw [if_pos c3] at H
  have c3b0 : ((l0.length : Int) == (l1.length : Int)) = true := beq_iff_eq.mpr c3
  have c3b1 : ((l0.length : Int) != (l1.length : Int)) = false := bne_eq_false_iff_eq.mpr c3
  have c3b2 : (l0.length == l1.length) = true := by first | simpa using c3 | (simp at c3 ⊢; omega)
  clear c3
  have H' := Aside0.mk H
  clear H
  go_enter Try.func126, Try.ntmps126
  go_wp2
  repeat (go_quiet (fail); try go_wp2)
  go_loopg [5] k (fun kq v5 w' => ∃ (x5_1 : Int), v5 = .int .i64 x5_1 ∧ Aside0 (laws_eqIntS.l0 kq l0 l1 x5_1 = some r) ∧ Aside0 (kq ≤ k) ∧ Drawn0 w w')
  case atStart => exact ⟨(0), (by first | rfl | (simp; done) | (simp [*]; done)), H', ⟨Nat.le_refl _⟩, by repeat (first | exact Drawn0.refl _ | apply Drawn0.step)⟩
  case round =>
   clear H'
   try clear c1
   try clear p2
   try clear c3
   try clear c3b0
   try clear c3b1
   try clear c3b2
   obtain ⟨x5_1, rfl, HA, HK1, ⟨m1, rfl⟩⟩ := hrel
   cases gk with
   | zero => exact absurd HA.out (by simp [laws_eqIntS.l0])
   | succ k1 =>
    have H := HA.out
    clear HA
    simp only [laws_eqIntS.l0] at H
    by_cases c4 : x5_1 < (l0.length : Int)
    ·
     rw [if_pos c4] at H
     have c4b0 := decide_eq_true c4
     clear c4
     by_cases c5 : 0 ≤ x5_1
     ·
      rw [if_pos c5] at H
      have c5b0 := decide_eq_true c5
      clear c5
      by_cases c6 : x5_1 < (l1.length : Int)
      ·
       rw [if_pos c6] at H
       have c6b0 := decide_eq_true c6
       clear c6
       by_cases c7 : (rd l0 x5_1) = (rd l1 x5_1)
       ·
        rw [if_pos c7] at H
        have c7b0 : ((rd l0 x5_1) == (rd l1 x5_1)) = true := beq_iff_eq.mpr c7
        have c7b1 : ((rd l0 x5_1) != (rd l1 x5_1)) = false := bne_eq_false_iff_eq.mpr c7
        clear c7
        have H' := Aside0.mk H
        clear H
        have p1324 : 0 ≤ (x5_1 : Int) := of_decide_eq_true (by with_reducible assumption)
        have q1324 : x5_1 < (l0.length : Int) := of_decide_eq_true (by with_reducible assumption)
        obtain ⟨ad1324, e1324, hx1324_0⟩ := Kd.at_int HR0.out x5_1 p1324 q1324
        cases e1324
        replace p1324 := eq_true p1324
        replace q1324 := eq_true q1324
        have p1325 : 0 ≤ (x5_1 : Int) := of_decide_eq_true (by with_reducible assumption)
        have q1325 : x5_1 < (l1.length : Int) := of_decide_eq_true (by with_reducible assumption)
        obtain ⟨ad1325, e1325, hx1325_0⟩ := Kd.at_int HR1.out x5_1 p1325 q1325
        cases e1325
        replace p1325 := eq_true p1325
        replace q1325 := eq_true q1325
        go_wp2
        repeat (go_quiet (fail); try go_wp2)
        go_roundg k1
        case measure => have := HK1.out; omega
        case rel => exact ⟨(wrap64 (x5_1 + 1)), (by first | rfl | (simp; done) | (simp [*]; done)), H', ⟨by have := HK1.out; omega⟩, by repeat (first | exact Drawn0.refl _ | apply Drawn0.step)⟩
       rw [if_neg c7] at H
       exact absurd H (by simp)
      rw [if_neg c6] at H
      exact absurd H (by simp)
     rw [if_neg c5] at H
     exact absurd H (by simp)
    rw [if_neg c4] at H
    have c4b0 : decide (x5_1 < (l0.length : Int)) = false := decide_eq_false c4
    clear c4
    obtain rfl := Option.some.inj H
    go_wp2
    repeat (go_quiet (fail); try go_wp2)
    go_ret
    exact ⟨by first | rfl | (simp; done) | (simp [*]; done), by repeat (first | exact Drawn0.refl _ | apply Drawn0.step)⟩
 rw [if_neg c3] at H
 exact absurd H (by simp)
def laws_eqTask.f (k : Nat) (a0_0 : Int) (a0_1 : Int) (l0_2 : List (S164)) (a0_3 : Int) (a0_4 : Int) (a0_5 : ByteArray) (l0_6 : List (S164)) (a0_7 : Int) (l0_8 : List Int) (l0_9 : List (S44)) (a0_10 : Int) (a0_11 : Int) (a1_0 : Int) (a1_1 : Int) (l1_2 : List (S164)) (a1_3 : Int) (a1_4 : Int) (a1_5 : ByteArray) (l1_6 : List (S164)) (a1_7 : Int) (l1_8 : List Int) (l1_9 : List (S44)) (a1_10 : Int) (a1_11 : Int) : Option (Bool) := if a0_0 = a1_0 then (if a0_1 = a1_1 then ((laws_eqAlarm.f k l0_2 a0_3 a0_4 a0_5 l1_2 a1_3 a1_4 a1_5).bind fun t1328 => (if t1328 = true then ((laws_eqLabelS.f k l0_6 l1_6).bind fun t1329 => (if t1329 = true then (if a0_7 = a1_7 then ((laws_eqIntS.f k l0_8 l1_8).bind fun t1330 => (if t1330 = true then ((laws_eqAlarmS.f k l0_9 l1_9).bind fun t1331 => (if t1331 = true then (if a0_10 = a1_10 then (if a0_11 = a1_11 then (some true) else (none)) else (none)) else (none))) else (none))) else (none)) else (none))) else (none))) else (none)) else (none)
theorem laws_eqTask.mono : ∀ a0 a1 a2 a3 a4 a5 a6 a7 a8 a9 a10 a11 a12 a13 a14 a15 a16 a17 a18 a19 a20 a21 a22 a23 k, LeO (laws_eqTask.f k a0 a1 a2 a3 a4 a5 a6 a7 a8 a9 a10 a11 a12 a13 a14 a15 a16 a17 a18 a19 a20 a21 a22 a23) (laws_eqTask.f (k + 1) a0 a1 a2 a3 a4 a5 a6 a7 a8 a9 a10 a11 a12 a13 a14 a15 a16 a17 a18 a19 a20 a21 a22 a23) := by
 intro a0 a1 a2 a3 a4 a5 a6 a7 a8 a9 a10 a11 a12 a13 a14 a15 a16 a17 a18 a19 a20 a21 a22 a23 k
 unfold laws_eqTask.f
 repeat' first
   | (with_reducible exact laws_eqAlarm.mono _ _ _ _ _ _ _ _ _)
   | (with_reducible exact laws_eqAlarmS.mono _ _ _)
   | (with_reducible exact laws_eqIntS.mono _ _ _)
   | (with_reducible exact laws_eqLabelS.mono _ _ _)
   | (with_reducible exact LeO.refl _)
   | (with_reducible exact LeO.none _)
   | (with_reducible refine LeO.ite ?_ ?_)
   | (with_reducible refine LeO.bind ?_ (fun _ => ?_))
   | exact laws_eqAlarm.mono _ _ _ _ _ _ _ _ _
   | exact laws_eqAlarmS.mono _ _ _
   | exact laws_eqIntS.mono _ _ _
   | exact laws_eqLabelS.mono _ _ _
theorem laws_eqTask.calls (k : Nat) (a0_0 : Int) (a0_1 : Int) (A0_2 : Option Addr) (c0_2 : Nat) (l0_2 : List (S164)) (a0_3 : Int) (a0_4 : Int) (a0_5 : ByteArray) (A0_6 : Option Addr) (c0_6 : Nat) (l0_6 : List (S164)) (a0_7 : Int) (A0_8 : Option Addr) (c0_8 : Nat) (l0_8 : List Int) (A0_9 : Option Addr) (c0_9 : Nat) (l0_9 : List (S44)) (a0_10 : Int) (a0_11 : Int) (a1_0 : Int) (a1_1 : Int) (A1_2 : Option Addr) (c1_2 : Nat) (l1_2 : List (S164)) (a1_3 : Int) (a1_4 : Int) (a1_5 : ByteArray) (A1_6 : Option Addr) (c1_6 : Nat) (l1_6 : List (S164)) (a1_7 : Int) (A1_8 : Option Addr) (c1_8 : Nat) (l1_8 : List Int) (A1_9 : Option Addr) (c1_9 : Nat) (l1_9 : List (S44)) (a1_10 : Int) (a1_11 : Int) (r : Bool) (w : World) (hr0_2 : Kd.C k164 w A0_2 l0_2.length l0_2) (hc0_2 : l0_2.length ≤ c0_2) (hr0_6 : Kd.C k164 w A0_6 l0_6.length l0_6) (hc0_6 : l0_6.length ≤ c0_6) (hr0_8 : Kd.C (Kd.int .i64) w A0_8 l0_8.length l0_8) (hc0_8 : l0_8.length ≤ c0_8) (hr0_9 : Kd.C k44 w A0_9 l0_9.length l0_9) (hc0_9 : l0_9.length ≤ c0_9) (hr1_2 : Kd.C k164 w A1_2 l1_2.length l1_2) (hc1_2 : l1_2.length ≤ c1_2) (hr1_6 : Kd.C k164 w A1_6 l1_6.length l1_6) (hc1_6 : l1_6.length ≤ c1_6) (hr1_8 : Kd.C (Kd.int .i64) w A1_8 l1_8.length l1_8) (hc1_8 : l1_8.length ≤ c1_8) (hr1_9 : Kd.C k44 w A1_9 l1_9.length l1_9) (hc1_9 : l1_9.length ≤ c1_9) (h : laws_eqTask.f k a0_0 a0_1 l0_2 a0_3 a0_4 a0_5 l0_6 a0_7 l0_8 l0_9 a0_10 a0_11 a1_0 a1_1 l1_2 a1_3 a1_4 a1_5 l1_6 a1_7 l1_8 l1_9 a1_10 a1_11 = some r) :
  Calls Try.prog 69 #[.agg #[.int .i64 a0_0, .int .i64 a0_1, .slice A0_2 l0_2.length c0_2, .int .i64 a0_3, .int .i64 a0_4, .string a0_5, .slice A0_6 l0_6.length c0_6, .int .i64 a0_7, .slice A0_8 l0_8.length c0_8, .slice A0_9 l0_9.length c0_9, .int .i64 a0_10, .int .i64 a0_11], .agg #[.int .i64 a1_0, .int .i64 a1_1, .slice A1_2 l1_2.length c1_2, .int .i64 a1_3, .int .i64 a1_4, .string a1_5, .slice A1_6 l1_6.length c1_6, .int .i64 a1_7, .slice A1_8 l1_8.length c1_8, .slice A1_9 l1_9.length c1_9, .int .i64 a1_10, .int .i64 a1_11]] w fun e w' => e = .returned (.bool r) ∧ Below w.heap.size w w' := by
 have hu97 := Try.underlying97
 have hu44 := Try.underlying44
 have HR0_2 := Aside0.mk hr0_2
 have HC0_2 := Aside0.mk hc0_2
 clear hr0_2 hc0_2
 have HR0_6 := Aside0.mk hr0_6
 have HC0_6 := Aside0.mk hc0_6
 clear hr0_6 hc0_6
 have HR0_8 := Aside0.mk hr0_8
 have HC0_8 := Aside0.mk hc0_8
 clear hr0_8 hc0_8
 have HR0_9 := Aside0.mk hr0_9
 have HC0_9 := Aside0.mk hc0_9
 clear hr0_9 hc0_9
 have HR1_2 := Aside0.mk hr1_2
 have HC1_2 := Aside0.mk hc1_2
 clear hr1_2 hc1_2
 have HR1_6 := Aside0.mk hr1_6
 have HC1_6 := Aside0.mk hc1_6
 clear hr1_6 hc1_6
 have HR1_8 := Aside0.mk hr1_8
 have HC1_8 := Aside0.mk hc1_8
 clear hr1_8 hc1_8
 have HR1_9 := Aside0.mk hr1_9
 have HC1_9 := Aside0.mk hc1_9
 clear hr1_9 hc1_9
 have HB := Aside0.mk (Below.refl w.heap.size w)
 have H : (if a0_0 = a1_0 then (if a0_1 = a1_1 then ((laws_eqAlarm.f k l0_2 a0_3 a0_4 a0_5 l1_2 a1_3 a1_4 a1_5).bind fun t1328 => (if t1328 = true then ((laws_eqLabelS.f k l0_6 l1_6).bind fun t1329 => (if t1329 = true then (if a0_7 = a1_7 then ((laws_eqIntS.f k l0_8 l1_8).bind fun t1330 => (if t1330 = true then ((laws_eqAlarmS.f k l0_9 l1_9).bind fun t1331 => (if t1331 = true then (if a0_10 = a1_10 then (if a0_11 = a1_11 then (some true) else (none)) else (none)) else (none))) else (none))) else (none)) else (none))) else (none))) else (none)) else (none)) = some r := h
 clear h
 by_cases c3 : a0_0 = a1_0
 ·
  rw [if_pos c3] at H
  have c3b0 : (a0_0 == a1_0) = true := beq_iff_eq.mpr c3
  have c3b1 : (a0_0 != a1_0) = false := bne_eq_false_iff_eq.mpr c3
  clear c3
  by_cases c4 : a0_1 = a1_1
  ·
   rw [if_pos c4] at H
   have c4b0 : (a0_1 == a1_1) = true := beq_iff_eq.mpr c4
   have c4b1 : (a0_1 != a1_1) = false := bne_eq_false_iff_eq.mpr c4
   clear c4
   replace H := Option.bind_eq_some_iff.mp H
   obtain ⟨t1328, A50, H⟩ := H
   have A5 := Aside0.mk A50
   clear A50
   by_cases c6 : t1328 = true
   ·
    subst c6
    rw [if_pos rfl] at H
    replace H := Option.bind_eq_some_iff.mp H
    obtain ⟨t1329, A70, H⟩ := H
    have A7 := Aside0.mk A70
    clear A70
    by_cases c8 : t1329 = true
    ·
     subst c8
     rw [if_pos rfl] at H
     by_cases c9 : a0_7 = a1_7
     ·
      rw [if_pos c9] at H
      have c9b0 : (a0_7 == a1_7) = true := beq_iff_eq.mpr c9
      have c9b1 : (a0_7 != a1_7) = false := bne_eq_false_iff_eq.mpr c9
      clear c9
      replace H := Option.bind_eq_some_iff.mp H
      obtain ⟨t1330, A100, H⟩ := H
      have A10 := Aside0.mk A100
      clear A100
      by_cases c11 : t1330 = true
      ·
       subst c11
       rw [if_pos rfl] at H
       replace H := Option.bind_eq_some_iff.mp H
       obtain ⟨t1331, A120, H⟩ := H
       have A12 := Aside0.mk A120
       clear A120
       by_cases c13 : t1331 = true
       ·
        subst c13
        rw [if_pos rfl] at H
        by_cases c14 : a0_10 = a1_10
        ·
         rw [if_pos c14] at H
         have c14b0 : (a0_10 == a1_10) = true := beq_iff_eq.mpr c14
         have c14b1 : (a0_10 != a1_10) = false := bne_eq_false_iff_eq.mpr c14
         clear c14
         by_cases c15 : a0_11 = a1_11
         ·
          rw [if_pos c15] at H
          have c15b0 : (a0_11 == a1_11) = true := beq_iff_eq.mpr c15
          have c15b1 : (a0_11 != a1_11) = false := bne_eq_false_iff_eq.mpr c15
          clear c15
          obtain rfl := Option.some.inj H
          go_enter Try.func69, Try.ntmps69
          go_wp2_with (first | ((with_reducible refine gate_dst (N := 2) rfl ?_); refine box_event ?hg (N := 2) ?hd (cs := #[.int .i64 a0_0, .int .i64 a0_1, .slice A0_2 l0_2.length c0_2, .int .i64 a0_3, .int .i64 a0_4, .string a0_5, .slice A0_6 l0_6.length c0_6, .int .i64 a0_7, .slice A0_8 l0_8.length c0_8, .slice A0_9 l0_9.length c0_9, .int .i64 a0_10, .int .i64 a0_11]) (t := 97) ?hr ?_; (case hd => rfl); (case hg => rfl); (case hr => first | (go_simp; done) | (go_simp; rfl)); intro gb1326 hg w16 hbox hb; have n0_ := Aside0.mk (below_step (by repeat (first | (with_reducible first | exact HB.out | apply ba_ | apply bn_ | apply bd_) | exact HB.out)) hb); have BK1326 := Aside0.mk (hbox); have GW1326 := Aside0.mk ((by rw [hg]; exact (below_size (by repeat (first | (with_reducible first | exact HB.out | apply ba_ | apply bn_ | apply bd_) | exact HB.out))) : w.heap.size ≤ gb1326)); have GE1326 := GW1326; clear HB; have HB := n0_; clear n0_; clear hb hbox hg) | ((with_reducible refine gate_dst (N := 3) rfl ?_); refine box_event ?hg (N := 3) ?hd (cs := #[.int .i64 a1_0, .int .i64 a1_1, .slice A1_2 l1_2.length c1_2, .int .i64 a1_3, .int .i64 a1_4, .string a1_5, .slice A1_6 l1_6.length c1_6, .int .i64 a1_7, .slice A1_8 l1_8.length c1_8, .slice A1_9 l1_9.length c1_9, .int .i64 a1_10, .int .i64 a1_11]) (t := 97) ?hr ?_; (case hd => rfl); (case hg => rfl); (case hr => first | (go_simp; done) | (go_simp; rfl)); intro gb1327 hg w17 hbox hb; have n0_ := Aside0.mk (bb_ BK1326.out hb); have n1_ := Aside0.mk (below_step (by repeat (first | (with_reducible first | exact HB.out | apply ba_ | apply bn_ | apply bd_ | refine below_set ?_ GE1326.out) | exact HB.out)) hb); have n2_ := Aside0.mk (hbox); have n3_ := Aside0.mk ((by rw [hg]; exact (below_size (by repeat (first | (with_reducible first | exact HB.out | apply ba_ | apply bn_ | apply bd_ | refine below_set ?_ GE1326.out) | exact HB.out))) : w.heap.size ≤ gb1327)); have n4_ := n3_; have n5_ := Aside0.mk (nl_ BK1326.out hg); have n6_ := Aside0.mk (n5_.out.symm); clear BK1326 HB; have BK1326 := n0_; have HB := n1_; have BK1327 := n2_; have GW1327 := n3_; have GE1327 := n4_; have NB1326_1327 := n5_; have NB1327_1326 := n6_; clear n0_ n1_ n2_ n3_ n4_ n5_ n6_; clear hb hbox hg; have hnb18 := NB1326_1327.out; have hnc18 := NB1327_1326.out; obtain ⟨hcz19_0, hcz19_1, hcz19_2, hcz19_3, hcz19_4, hcz19_5, hcz19_6, hcz19_7, hcz19_8, hcz19_9, hcz19_10, hcz19_11, hfz19_0, hfz19_1, hfz19_2, hfz19_3, hfz19_4, hfz19_5, hfz19_6, hfz19_7, hfz19_8, hfz19_9, hfz19_10, hfz19_11⟩ := bc12_ BK1326.out; obtain ⟨hcz20_0, hcz20_1, hcz20_2, hcz20_3, hcz20_4, hcz20_5, hcz20_6, hcz20_7, hcz20_8, hcz20_9, hcz20_10, hcz20_11, hfz20_0, hfz20_1, hfz20_2, hfz20_3, hfz20_4, hfz20_5, hfz20_6, hfz20_7, hfz20_8, hfz20_9, hfz20_10, hfz20_11⟩ := bc12_ BK1327.out) | ((with_reducible refine gate_callee (f := 27) rfl ?_); refine goesL_ (some 19) rfl rfl Try.func27 (by kernel_rfl) rfl #[.agg #[.slice A0_2 l0_2.length c0_2, .int .i64 a0_3, .int .i64 a0_4, .string a0_5], .agg #[.slice A1_2 l1_2.length c1_2, .int .i64 a1_3, .int .i64 a1_4, .string a1_5]] rfl (by (try simp only [mp_]); first | done | rfl | (simp only [List.length_drop, List.length_take]; rfl)) ?_; (with_reducible refine (laws_eqAlarm.calls k _ _ l0_2 a0_3 a0_4 a0_5 _ _ l1_2 a1_3 a1_4 a1_5 true _ ?side1 ?side2 ?side3 ?side4 A5.out).mono ?_); (case side1 => repeat (first | exact (Kd.C_below HR0_2.out HB.out) | (with_reducible first | refine ca_ ?_ _ | refine cn_ ?_ _ | refine cd_ ?_))); (case side2 => exact HC0_2.out); (case side3 => repeat (first | exact (Kd.C_below HR1_2.out HB.out) | (with_reducible first | refine ca_ ?_ _ | refine cn_ ?_ _ | refine cd_ ?_))); (case side4 => exact HC1_2.out); rintro e w21 ⟨rfl, hb⟩; refine ⟨_, rfl, ?_⟩; have n0_ := Aside0.mk (bb_ BK1326.out hb); have n1_ := Aside0.mk (bb_ BK1327.out hb); have n2_ := Aside0.mk (below_step (by repeat (first | (with_reducible first | exact HB.out | apply ba_ | apply bn_ | apply bd_ | refine below_set ?_ GE1326.out | refine below_set ?_ GE1327.out) | exact HB.out)) hb); clear BK1326 BK1327 HB; have BK1326 := n0_; have BK1327 := n1_; have HB := n2_; clear n0_ n1_ n2_; (try clear hb); (try clear hb2); (try clear hk); (try clear hi); obtain ⟨hcz22_0, hcz22_1, hcz22_2, hcz22_3, hcz22_4, hcz22_5, hcz22_6, hcz22_7, hcz22_8, hcz22_9, hcz22_10, hcz22_11, hfz22_0, hfz22_1, hfz22_2, hfz22_3, hfz22_4, hfz22_5, hfz22_6, hfz22_7, hfz22_8, hfz22_9, hfz22_10, hfz22_11⟩ := bc12_ BK1326.out; obtain ⟨hcz23_0, hcz23_1, hcz23_2, hcz23_3, hcz23_4, hcz23_5, hcz23_6, hcz23_7, hcz23_8, hcz23_9, hcz23_10, hcz23_11, hfz23_0, hfz23_1, hfz23_2, hfz23_3, hfz23_4, hfz23_5, hfz23_6, hfz23_7, hfz23_8, hfz23_9, hfz23_10, hfz23_11⟩ := bc12_ BK1327.out) | ((with_reducible refine gate_callee (f := 98) rfl ?_); refine goesL_ (some 25) rfl rfl Try.func98 (by kernel_rfl) rfl #[.slice A0_6 l0_6.length c0_6, .slice A1_6 l1_6.length c1_6] rfl (by (try simp only [mp_]); first | done | rfl | (simp only [List.length_drop, List.length_take]; rfl)) ?_; (with_reducible refine (laws_eqLabelS.calls k _ _ l0_6 _ _ l1_6 true _ ?side1 ?side2 ?side3 ?side4 A7.out).mono ?_); (case side1 => repeat (first | exact (Kd.C_below HR0_6.out HB.out) | (with_reducible first | refine ca_ ?_ _ | refine cn_ ?_ _ | refine cd_ ?_))); (case side2 => exact HC0_6.out); (case side3 => repeat (first | exact (Kd.C_below HR1_6.out HB.out) | (with_reducible first | refine ca_ ?_ _ | refine cn_ ?_ _ | refine cd_ ?_))); (case side4 => exact HC1_6.out); rintro e w24 ⟨rfl, hb⟩; refine ⟨_, rfl, ?_⟩; have n0_ := Aside0.mk (bb_ BK1326.out hb); have n1_ := Aside0.mk (bb_ BK1327.out hb); have n2_ := Aside0.mk (below_step (by repeat (first | (with_reducible first | exact HB.out | apply ba_ | apply bn_ | apply bd_ | refine below_set ?_ GE1326.out | refine below_set ?_ GE1327.out) | exact HB.out)) hb); clear BK1326 BK1327 HB; have BK1326 := n0_; have BK1327 := n1_; have HB := n2_; clear n0_ n1_ n2_; (try clear hb); (try clear hb2); (try clear hk); (try clear hi); obtain ⟨hcz25_0, hcz25_1, hcz25_2, hcz25_3, hcz25_4, hcz25_5, hcz25_6, hcz25_7, hcz25_8, hcz25_9, hcz25_10, hcz25_11, hfz25_0, hfz25_1, hfz25_2, hfz25_3, hfz25_4, hfz25_5, hfz25_6, hfz25_7, hfz25_8, hfz25_9, hfz25_10, hfz25_11⟩ := bc12_ BK1326.out; obtain ⟨hcz26_0, hcz26_1, hcz26_2, hcz26_3, hcz26_4, hcz26_5, hcz26_6, hcz26_7, hcz26_8, hcz26_9, hcz26_10, hcz26_11, hfz26_0, hfz26_1, hfz26_2, hfz26_3, hfz26_4, hfz26_5, hfz26_6, hfz26_7, hfz26_8, hfz26_9, hfz26_10, hfz26_11⟩ := bc12_ BK1327.out) | ((with_reducible refine gate_callee (f := 126) rfl ?_); refine goesL_ (some 36) rfl rfl Try.func126 (by kernel_rfl) rfl #[.slice A0_8 l0_8.length c0_8, .slice A1_8 l1_8.length c1_8] rfl (by (try simp only [mp_]); first | done | rfl | (simp only [List.length_drop, List.length_take]; rfl)) ?_; (with_reducible refine (laws_eqIntS.calls k _ _ l0_8 _ _ l1_8 true _ ?side1 ?side2 ?side3 ?side4 A10.out).mono ?_); (case side1 => repeat (first | exact (Kd.C_below HR0_8.out HB.out) | (with_reducible first | refine ca_ ?_ _ | refine cn_ ?_ _ | refine cd_ ?_))); (case side2 => exact HC0_8.out); (case side3 => repeat (first | exact (Kd.C_below HR1_8.out HB.out) | (with_reducible first | refine ca_ ?_ _ | refine cn_ ?_ _ | refine cd_ ?_))); (case side4 => exact HC1_8.out); rintro e w' ⟨rfl, ⟨nd, rfl⟩⟩; refine ⟨_, rfl, ?_⟩) | ((with_reducible refine gate_callee (f := 38) rfl ?_); refine goesL_ (some 42) rfl rfl Try.func38 (by kernel_rfl) rfl #[.slice A0_9 l0_9.length c0_9, .slice A1_9 l1_9.length c1_9] rfl (by (try simp only [mp_]); first | done | rfl | (simp only [List.length_drop, List.length_take]; rfl)) ?_; (with_reducible refine (laws_eqAlarmS.calls k _ _ l0_9 _ _ l1_9 true _ ?side1 ?side2 ?side3 ?side4 A12.out).mono ?_); (case side1 => repeat (first | exact (Kd.C_below HR0_9.out (by repeat (first | (with_reducible first | exact HB.out | apply ba_ | apply bn_ | apply bd_ | refine below_set ?_ GE1326.out | refine below_set ?_ GE1327.out) | exact HB.out))) | (with_reducible first | refine ca_ ?_ _ | refine cn_ ?_ _ | refine cd_ ?_))); (case side2 => exact HC0_9.out); (case side3 => repeat (first | exact (Kd.C_below HR1_9.out (by repeat (first | (with_reducible first | exact HB.out | apply ba_ | apply bn_ | apply bd_ | refine below_set ?_ GE1326.out | refine below_set ?_ GE1327.out) | exact HB.out))) | (with_reducible first | refine ca_ ?_ _ | refine cn_ ?_ _ | refine cd_ ?_))); (case side4 => exact HC1_9.out); rintro e w27 ⟨rfl, hb⟩; refine ⟨_, rfl, ?_⟩; have n0_ := Aside0.mk (bb_ BK1326.out hb); have n1_ := Aside0.mk (bb_ BK1327.out hb); have n2_ := Aside0.mk (below_step (by repeat (first | (with_reducible first | exact HB.out | apply ba_ | apply bn_ | apply bd_ | refine below_set ?_ GE1326.out | refine below_set ?_ GE1327.out) | exact HB.out)) hb); clear BK1326 BK1327 HB; have BK1326 := n0_; have BK1327 := n1_; have HB := n2_; clear n0_ n1_ n2_; (try clear hb); (try clear hb2); (try clear hk); (try clear hi); obtain ⟨hcz28_0, hcz28_1, hcz28_2, hcz28_3, hcz28_4, hcz28_5, hcz28_6, hcz28_7, hcz28_8, hcz28_9, hcz28_10, hcz28_11, hfz28_0, hfz28_1, hfz28_2, hfz28_3, hfz28_4, hfz28_5, hfz28_6, hfz28_7, hfz28_8, hfz28_9, hfz28_10, hfz28_11⟩ := bc12_ BK1326.out; obtain ⟨hcz29_0, hcz29_1, hcz29_2, hcz29_3, hcz29_4, hcz29_5, hcz29_6, hcz29_7, hcz29_8, hcz29_9, hcz29_10, hcz29_11, hfz29_0, hfz29_1, hfz29_2, hfz29_3, hfz29_4, hfz29_5, hfz29_6, hfz29_7, hfz29_8, hfz29_9, hfz29_10, hfz29_11⟩ := bc12_ BK1327.out))
          go_ret
          exact ⟨by first | rfl | (simp [errW_none, errW_some] <;> rfl) | (simp [*, errW_none, errW_some] <;> rfl), by repeat (first | (with_reducible first | exact HB.out | apply ba_ | apply bn_ | apply bd_ | refine below_set ?_ GE1326.out | refine below_set ?_ GE1327.out) | exact HB.out)⟩
         rw [if_neg c15] at H
         exact absurd H (by simp)
        rw [if_neg c14] at H
        exact absurd H (by simp)
       replace c13 := Bool.eq_false_iff.mpr c13
       subst c13
       rw [if_neg (show ¬ (false = true) by decide)] at H
       exact absurd H (by simp)
      replace c11 := Bool.eq_false_iff.mpr c11
      subst c11
      rw [if_neg (show ¬ (false = true) by decide)] at H
      exact absurd H (by simp)
     rw [if_neg c9] at H
     exact absurd H (by simp)
    replace c8 := Bool.eq_false_iff.mpr c8
    subst c8
    rw [if_neg (show ¬ (false = true) by decide)] at H
    exact absurd H (by simp)
   replace c6 := Bool.eq_false_iff.mpr c6
   subst c6
   rw [if_neg (show ¬ (false = true) by decide)] at H
   exact absurd H (by simp)
  rw [if_neg c4] at H
  exact absurd H (by simp)
 rw [if_neg c3] at H
 exact absurd H (by simp)
def laws_FnExactTaskOk.f (k : Nat) (a0_0 : Int) (a0_1 : Int) (l0_2 : List (S163)) (a0_3 : Int) (a0_4 : Int) (a0_5 : ByteArray) (l0_6 : List (S163)) (a0_7 : Int) (l0_8 : List Int) (l0_9 : List (S34)) (a0_10 : Int) (a0_11 : Int) (a1 : Int) : Option (Bool) := (laws_szTask.f k a0_0 a0_1 l0_2 a0_3 a0_4 a0_5 l0_6 a0_7 l0_8 l0_9 a0_10 a0_11 1048576).bind fun t1333 => (if t1333 < 0 then (some true) else ((laws_toTask.f k a0_0 a0_1 l0_2 a0_3 a0_4 a0_5 l0_6 a0_7 l0_8 l0_9 a0_10 a0_11).bind fun bt1334 => ((spec_TaskOk.f k bt1334.1 bt1334.2.1 bt1334.2.2.1 bt1334.2.2.2.1 bt1334.2.2.2.2.1 bt1334.2.2.2.2.2.1 bt1334.2.2.2.2.2.2.1 bt1334.2.2.2.2.2.2.2.1 bt1334.2.2.2.2.2.2.2.2.1 bt1334.2.2.2.2.2.2.2.2.2.1 bt1334.2.2.2.2.2.2.2.2.2.2.1 bt1334.2.2.2.2.2.2.2.2.2.2.2 a1).bind fun t1354 => ((laws_toTask.f k a0_0 a0_1 l0_2 a0_3 a0_4 a0_5 l0_6 a0_7 l0_8 l0_9 a0_10 a0_11).bind fun bt1355 => ((impl_TaskOk.f k bt1355.1 bt1355.2.1 bt1355.2.2.1 bt1355.2.2.2.1 bt1355.2.2.2.2.1 bt1355.2.2.2.2.2.1 bt1355.2.2.2.2.2.2.1 bt1355.2.2.2.2.2.2.2.1 bt1355.2.2.2.2.2.2.2.2.1 bt1355.2.2.2.2.2.2.2.2.2.1 bt1355.2.2.2.2.2.2.2.2.2.2.1 bt1355.2.2.2.2.2.2.2.2.2.2.2 a1).bind fun t1376 => (if (t1376 != t1354) = true then (none) else ((laws_toTask.f k a0_0 a0_1 l0_2 a0_3 a0_4 a0_5 l0_6 a0_7 l0_8 l0_9 a0_10 a0_11).bind fun bt1377 => ((laws_eqTask.f k bt1355.1 bt1355.2.1 bt1355.2.2.1 bt1355.2.2.2.1 bt1355.2.2.2.2.1 bt1355.2.2.2.2.2.1 bt1355.2.2.2.2.2.2.1 bt1355.2.2.2.2.2.2.2.1 bt1355.2.2.2.2.2.2.2.2.1 bt1355.2.2.2.2.2.2.2.2.2.1 bt1355.2.2.2.2.2.2.2.2.2.2.1 bt1355.2.2.2.2.2.2.2.2.2.2.2 bt1377.1 bt1377.2.1 bt1377.2.2.1 bt1377.2.2.2.1 bt1377.2.2.2.2.1 bt1377.2.2.2.2.2.1 bt1377.2.2.2.2.2.2.1 bt1377.2.2.2.2.2.2.2.1 bt1377.2.2.2.2.2.2.2.2.1 bt1377.2.2.2.2.2.2.2.2.2.1 bt1377.2.2.2.2.2.2.2.2.2.2.1 bt1377.2.2.2.2.2.2.2.2.2.2.2).bind fun t1397 => (if t1397 = true then (some true) else (none))))))))))
theorem laws_FnExactTaskOk.mono : ∀ a0 a1 a2 a3 a4 a5 a6 a7 a8 a9 a10 a11 a12 k, LeO (laws_FnExactTaskOk.f k a0 a1 a2 a3 a4 a5 a6 a7 a8 a9 a10 a11 a12) (laws_FnExactTaskOk.f (k + 1) a0 a1 a2 a3 a4 a5 a6 a7 a8 a9 a10 a11 a12) := by
 intro a0 a1 a2 a3 a4 a5 a6 a7 a8 a9 a10 a11 a12 k
 unfold laws_FnExactTaskOk.f
 repeat' first
   | (with_reducible exact impl_TaskOk.mono _ _ _ _ _ _ _ _ _ _ _ _ _ _)
   | (with_reducible exact laws_eqTask.mono _ _ _ _ _ _ _ _ _ _ _ _ _ _ _ _ _ _ _ _ _ _ _ _ _)
   | (with_reducible exact laws_szTask.mono _ _ _ _ _ _ _ _ _ _ _ _ _ _)
   | (with_reducible exact laws_toTask.mono _ _ _ _ _ _ _ _ _ _ _ _ _)
   | (with_reducible exact spec_TaskOk.mono _ _ _ _ _ _ _ _ _ _ _ _ _ _)
   | (with_reducible exact LeO.refl _)
   | (with_reducible exact LeO.none _)
   | (with_reducible refine LeO.ite ?_ ?_)
   | (with_reducible refine LeO.bind ?_ (fun _ => ?_))
   | exact impl_TaskOk.mono _ _ _ _ _ _ _ _ _ _ _ _ _ _
   | exact laws_eqTask.mono _ _ _ _ _ _ _ _ _ _ _ _ _ _ _ _ _ _ _ _ _ _ _ _ _
   | exact laws_szTask.mono _ _ _ _ _ _ _ _ _ _ _ _ _ _
   | exact laws_toTask.mono _ _ _ _ _ _ _ _ _ _ _ _ _
   | exact spec_TaskOk.mono _ _ _ _ _ _ _ _ _ _ _ _ _ _
theorem laws_FnExactTaskOk.calls (k : Nat) (a0_0 : Int) (a0_1 : Int) (A0_2 : Option Addr) (c0_2 : Nat) (l0_2 : List (S163)) (a0_3 : Int) (a0_4 : Int) (a0_5 : ByteArray) (A0_6 : Option Addr) (c0_6 : Nat) (l0_6 : List (S163)) (a0_7 : Int) (A0_8 : Option Addr) (c0_8 : Nat) (l0_8 : List Int) (A0_9 : Option Addr) (c0_9 : Nat) (l0_9 : List (S34)) (a0_10 : Int) (a0_11 : Int) (a1 : Int) (r : Bool) (w : World) (hr0_2 : Kd.C k163 w A0_2 l0_2.length l0_2) (hc0_2 : l0_2.length ≤ c0_2) (hr0_6 : Kd.C k163 w A0_6 l0_6.length l0_6) (hc0_6 : l0_6.length ≤ c0_6) (hr0_8 : Kd.C (Kd.int .i64) w A0_8 l0_8.length l0_8) (hc0_8 : l0_8.length ≤ c0_8) (hr0_9 : Kd.C k34 w A0_9 l0_9.length l0_9) (hc0_9 : l0_9.length ≤ c0_9) (h : laws_FnExactTaskOk.f k a0_0 a0_1 l0_2 a0_3 a0_4 a0_5 l0_6 a0_7 l0_8 l0_9 a0_10 a0_11 a1 = some r) :
  Calls Try.prog 11 #[.agg #[.int .i64 a0_0, .int .i64 a0_1, .slice A0_2 l0_2.length c0_2, .int .i64 a0_3, .int .i64 a0_4, .string a0_5, .slice A0_6 l0_6.length c0_6, .int .i64 a0_7, .slice A0_8 l0_8.length c0_8, .slice A0_9 l0_9.length c0_9, .int .i64 a0_10, .int .i64 a0_11], .int .i64 a1] w fun e w' => e = .returned (.bool r) ∧ Below w.heap.size w w' := by
 have hu93 := Try.underlying93
 have hu97 := Try.underlying97
 have HR0_2 := Aside0.mk hr0_2
 have HC0_2 := Aside0.mk hc0_2
 clear hr0_2 hc0_2
 have HR0_6 := Aside0.mk hr0_6
 have HC0_6 := Aside0.mk hc0_6
 clear hr0_6 hc0_6
 have HR0_8 := Aside0.mk hr0_8
 have HC0_8 := Aside0.mk hc0_8
 clear hr0_8 hc0_8
 have HR0_9 := Aside0.mk hr0_9
 have HC0_9 := Aside0.mk hc0_9
 clear hr0_9 hc0_9
 have HB := Aside0.mk (Below.refl w.heap.size w)
 have H : ((laws_szTask.f k a0_0 a0_1 l0_2 a0_3 a0_4 a0_5 l0_6 a0_7 l0_8 l0_9 a0_10 a0_11 1048576).bind fun t1333 => (if t1333 < 0 then (some true) else ((laws_toTask.f k a0_0 a0_1 l0_2 a0_3 a0_4 a0_5 l0_6 a0_7 l0_8 l0_9 a0_10 a0_11).bind fun bt1334 => ((spec_TaskOk.f k bt1334.1 bt1334.2.1 bt1334.2.2.1 bt1334.2.2.2.1 bt1334.2.2.2.2.1 bt1334.2.2.2.2.2.1 bt1334.2.2.2.2.2.2.1 bt1334.2.2.2.2.2.2.2.1 bt1334.2.2.2.2.2.2.2.2.1 bt1334.2.2.2.2.2.2.2.2.2.1 bt1334.2.2.2.2.2.2.2.2.2.2.1 bt1334.2.2.2.2.2.2.2.2.2.2.2 a1).bind fun t1354 => ((laws_toTask.f k a0_0 a0_1 l0_2 a0_3 a0_4 a0_5 l0_6 a0_7 l0_8 l0_9 a0_10 a0_11).bind fun bt1355 => ((impl_TaskOk.f k bt1355.1 bt1355.2.1 bt1355.2.2.1 bt1355.2.2.2.1 bt1355.2.2.2.2.1 bt1355.2.2.2.2.2.1 bt1355.2.2.2.2.2.2.1 bt1355.2.2.2.2.2.2.2.1 bt1355.2.2.2.2.2.2.2.2.1 bt1355.2.2.2.2.2.2.2.2.2.1 bt1355.2.2.2.2.2.2.2.2.2.2.1 bt1355.2.2.2.2.2.2.2.2.2.2.2 a1).bind fun t1376 => (if (t1376 != t1354) = true then (none) else ((laws_toTask.f k a0_0 a0_1 l0_2 a0_3 a0_4 a0_5 l0_6 a0_7 l0_8 l0_9 a0_10 a0_11).bind fun bt1377 => ((laws_eqTask.f k bt1355.1 bt1355.2.1 bt1355.2.2.1 bt1355.2.2.2.1 bt1355.2.2.2.2.1 bt1355.2.2.2.2.2.1 bt1355.2.2.2.2.2.2.1 bt1355.2.2.2.2.2.2.2.1 bt1355.2.2.2.2.2.2.2.2.1 bt1355.2.2.2.2.2.2.2.2.2.1 bt1355.2.2.2.2.2.2.2.2.2.2.1 bt1355.2.2.2.2.2.2.2.2.2.2.2 bt1377.1 bt1377.2.1 bt1377.2.2.1 bt1377.2.2.2.1 bt1377.2.2.2.2.1 bt1377.2.2.2.2.2.1 bt1377.2.2.2.2.2.2.1 bt1377.2.2.2.2.2.2.2.1 bt1377.2.2.2.2.2.2.2.2.1 bt1377.2.2.2.2.2.2.2.2.2.1 bt1377.2.2.2.2.2.2.2.2.2.2.1 bt1377.2.2.2.2.2.2.2.2.2.2.2).bind fun t1397 => (if t1397 = true then (some true) else (none))))))))))) = some r := h
 clear h
 replace H := Option.bind_eq_some_iff.mp H
 obtain ⟨t1333, A30, H⟩ := H
 have A3 := Aside0.mk A30
 clear A30
 by_cases c4 : t1333 < 0
 ·
  rw [if_pos c4] at H
  have c4b0 := decide_eq_true c4
  clear c4
  obtain rfl := Option.some.inj H
  go_enter Try.func11, Try.ntmps11
  go_wp2_with (first | ((with_reducible refine gate_dst (N := 2) rfl ?_); refine box_event ?hg (N := 2) ?hd (cs := #[.int .i64 a0_0, .int .i64 a0_1, .slice A0_2 l0_2.length c0_2, .int .i64 a0_3, .int .i64 a0_4, .string a0_5, .slice A0_6 l0_6.length c0_6, .int .i64 a0_7, .slice A0_8 l0_8.length c0_8, .slice A0_9 l0_9.length c0_9, .int .i64 a0_10, .int .i64 a0_11]) (t := 93) ?hr ?_; (case hd => rfl); (case hg => rfl); (case hr => first | (go_simp; done) | (go_simp; rfl)); intro gb1332 hg w5 hbox hb; have n0_ := Aside0.mk (below_step (by repeat (first | (with_reducible first | exact HB.out | apply ba_ | apply bn_ | apply bd_) | exact HB.out)) hb); have BK1332 := Aside0.mk (hbox); have GW1332 := Aside0.mk ((by rw [hg]; exact (below_size (by repeat (first | (with_reducible first | exact HB.out | apply ba_ | apply bn_ | apply bd_) | exact HB.out))) : w.heap.size ≤ gb1332)); have GE1332 := GW1332; clear HB; have HB := n0_; clear n0_; clear hb hbox hg; obtain ⟨hcz6_0, hcz6_1, hcz6_2, hcz6_3, hcz6_4, hcz6_5, hcz6_6, hcz6_7, hcz6_8, hcz6_9, hcz6_10, hcz6_11, hfz6_0, hfz6_1, hfz6_2, hfz6_3, hfz6_4, hfz6_5, hfz6_6, hfz6_7, hfz6_8, hfz6_9, hfz6_10, hfz6_11⟩ := bc12_ BK1332.out) | ((with_reducible refine gate_callee (f := 65) rfl ?_); refine goesL_ (some 11) rfl rfl Try.func65 (by kernel_rfl) rfl #[.agg #[.int .i64 a0_0, .int .i64 a0_1, .slice A0_2 l0_2.length c0_2, .int .i64 a0_3, .int .i64 a0_4, .string a0_5, .slice A0_6 l0_6.length c0_6, .int .i64 a0_7, .slice A0_8 l0_8.length c0_8, .slice A0_9 l0_9.length c0_9, .int .i64 a0_10, .int .i64 a0_11], .int .i64 1048576] rfl (by (try simp only [mp_]); first | done | rfl | (simp only [List.length_drop, List.length_take]; rfl)) ?_; (with_reducible refine (laws_szTask.calls k a0_0 a0_1 _ _ l0_2 a0_3 a0_4 a0_5 _ _ l0_6 a0_7 _ _ l0_8 _ _ l0_9 a0_10 a0_11 1048576 t1333 _ ?side1 ?side2 ?side3 ?side4 ?side5 ?side6 ?side7 ?side8 A3.out).mono ?_); (case side1 => repeat (first | exact (Kd.C_below HR0_2.out HB.out) | (with_reducible first | refine ca_ ?_ _ | refine cn_ ?_ _ | refine cd_ ?_))); (case side2 => exact HC0_2.out); (case side3 => repeat (first | exact (Kd.C_below HR0_6.out HB.out) | (with_reducible first | refine ca_ ?_ _ | refine cn_ ?_ _ | refine cd_ ?_))); (case side4 => exact HC0_6.out); (case side5 => repeat (first | exact (Kd.C_below HR0_8.out HB.out) | (with_reducible first | refine ca_ ?_ _ | refine cn_ ?_ _ | refine cd_ ?_))); (case side6 => exact HC0_8.out); (case side7 => repeat (first | exact (Kd.C_below HR0_9.out HB.out) | (with_reducible first | refine ca_ ?_ _ | refine cn_ ?_ _ | refine cd_ ?_))); (case side8 => exact HC0_9.out); rintro e w7 ⟨rfl, hb⟩; refine ⟨_, rfl, ?_⟩; have n0_ := Aside0.mk (bb_ BK1332.out hb); have n1_ := Aside0.mk (below_step (by repeat (first | (with_reducible first | exact HB.out | apply ba_ | apply bn_ | apply bd_ | refine below_set ?_ GE1332.out) | exact HB.out)) hb); clear BK1332 HB; have BK1332 := n0_; have HB := n1_; clear n0_ n1_; (try clear hb); (try clear hb2); (try clear hk); (try clear hi)))
  go_ret
  exact ⟨by first | rfl | (simp [errW_none, errW_some] <;> rfl) | (simp [*, errW_none, errW_some] <;> rfl), by repeat (first | (with_reducible first | exact HB.out | apply ba_ | apply bn_ | apply bd_ | refine below_set ?_ GE1332.out) | exact HB.out)⟩
 rw [if_neg c4] at H
 have c4b0 : decide (t1333 < 0) = false := decide_eq_false c4
 clear c4
 replace H := Option.bind_eq_some_iff.mp H
 obtain ⟨⟨t1334, t1335, t1336, t1339, t1340, t1341, t1342, t1345, t1346, t1349, t1352, t1353⟩, A80, H⟩ := H
 have A8 := Aside0.mk A80
 clear A80
 replace H := Option.bind_eq_some_iff.mp H
 obtain ⟨t1354, A90, H⟩ := H
 have A9 := Aside0.mk A90
 clear A90
 replace H := Option.bind_eq_some_iff.mp H
 obtain ⟨⟨t1355, t1356, t1357, t1360, t1361, t1362, t1363, t1366, t1367, t1370, t1373, t1374⟩, A100, H⟩ := H
 have A10 := Aside0.mk A100
 clear A100
 replace H := Option.bind_eq_some_iff.mp H
 obtain ⟨t1376, A110, H⟩ := H
 have A11 := Aside0.mk A110
 clear A110
 by_cases c12 : (t1376 != t1354) = true
 ·
  rw [if_pos c12] at H
  exact absurd H (by simp)
 rw [if_neg c12] at H
 have c12b0 : (t1376 != t1354) = false := by simpa using c12
 (try (have c12b1 : decide (t1376 = t1354) = true := by simpa using c12))
 (try (have c12b2 : (t1376 == t1354) = true := by simpa using c12))
 clear c12
 replace H := Option.bind_eq_some_iff.mp H
 obtain ⟨⟨t1377, t1378, t1379, t1382, t1383, t1384, t1385, t1388, t1389, t1392, t1395, t1396⟩, A130, H⟩ := H
 have A13 := Aside0.mk A130
 clear A130
 replace H := Option.bind_eq_some_iff.mp H
 obtain ⟨t1397, A140, H⟩ := H
 have A14 := Aside0.mk A140
 clear A140
 by_cases c15 : t1397 = true
 ·
  subst c15
  rw [if_pos rfl] at H
  obtain rfl := Option.some.inj H
  go_enter Try.func11, Try.ntmps11
  try go_wp2_with (first | ((with_reducible refine gate_dst (N := 2) rfl ?_); refine box_event ?hg (N := 2) ?hd (cs := #[.int .i64 a0_0, .int .i64 a0_1, .slice A0_2 l0_2.length c0_2, .int .i64 a0_3, .int .i64 a0_4, .string a0_5, .slice A0_6 l0_6.length c0_6, .int .i64 a0_7, .slice A0_8 l0_8.length c0_8, .slice A0_9 l0_9.length c0_9, .int .i64 a0_10, .int .i64 a0_11]) (t := 93) ?hr ?_; (case hd => rfl); (case hg => rfl); (case hr => first | (go_simp; done) | (go_simp; rfl)); intro gb1332 hg w16 hbox hb; have n0_ := Aside0.mk (below_step (by repeat (first | (with_reducible first | exact HB.out | apply ba_ | apply bn_ | apply bd_) | exact HB.out)) hb); have BK1332 := Aside0.mk (hbox); have GW1332 := Aside0.mk ((by rw [hg]; exact (below_size (by repeat (first | (with_reducible first | exact HB.out | apply ba_ | apply bn_ | apply bd_) | exact HB.out))) : w.heap.size ≤ gb1332)); have GE1332 := GW1332; clear HB; have HB := n0_; clear n0_; clear hb hbox hg; obtain ⟨hcz17_0, hcz17_1, hcz17_2, hcz17_3, hcz17_4, hcz17_5, hcz17_6, hcz17_7, hcz17_8, hcz17_9, hcz17_10, hcz17_11, hfz17_0, hfz17_1, hfz17_2, hfz17_3, hfz17_4, hfz17_5, hfz17_6, hfz17_7, hfz17_8, hfz17_9, hfz17_10, hfz17_11⟩ := bc12_ BK1332.out) | ((with_reducible refine gate_callee (f := 65) rfl ?_); refine goesL_ (some 11) rfl rfl Try.func65 (by kernel_rfl) rfl #[.agg #[.int .i64 a0_0, .int .i64 a0_1, .slice A0_2 l0_2.length c0_2, .int .i64 a0_3, .int .i64 a0_4, .string a0_5, .slice A0_6 l0_6.length c0_6, .int .i64 a0_7, .slice A0_8 l0_8.length c0_8, .slice A0_9 l0_9.length c0_9, .int .i64 a0_10, .int .i64 a0_11], .int .i64 1048576] rfl (by (try simp only [mp_]); first | done | rfl | (simp only [List.length_drop, List.length_take]; rfl)) ?_; (with_reducible refine (laws_szTask.calls k a0_0 a0_1 _ _ l0_2 a0_3 a0_4 a0_5 _ _ l0_6 a0_7 _ _ l0_8 _ _ l0_9 a0_10 a0_11 1048576 t1333 _ ?side1 ?side2 ?side3 ?side4 ?side5 ?side6 ?side7 ?side8 A3.out).mono ?_); (case side1 => repeat (first | exact (Kd.C_below HR0_2.out HB.out) | (with_reducible first | refine ca_ ?_ _ | refine cn_ ?_ _ | refine cd_ ?_))); (case side2 => exact HC0_2.out); (case side3 => repeat (first | exact (Kd.C_below HR0_6.out HB.out) | (with_reducible first | refine ca_ ?_ _ | refine cn_ ?_ _ | refine cd_ ?_))); (case side4 => exact HC0_6.out); (case side5 => repeat (first | exact (Kd.C_below HR0_8.out HB.out) | (with_reducible first | refine ca_ ?_ _ | refine cn_ ?_ _ | refine cd_ ?_))); (case side6 => exact HC0_8.out); (case side7 => repeat (first | exact (Kd.C_below HR0_9.out HB.out) | (with_reducible first | refine ca_ ?_ _ | refine cn_ ?_ _ | refine cd_ ?_))); (case side8 => exact HC0_9.out); rintro e w18 ⟨rfl, hb⟩; refine ⟨_, rfl, ?_⟩; have n0_ := Aside0.mk (bb_ BK1332.out hb); have n1_ := Aside0.mk (below_step (by repeat (first | (with_reducible first | exact HB.out | apply ba_ | apply bn_ | apply bd_ | refine below_set ?_ GE1332.out) | exact HB.out)) hb); clear BK1332 HB; have BK1332 := n0_; have HB := n1_; clear n0_ n1_; (try clear hb); (try clear hb2); (try clear hk); (try clear hi); obtain ⟨hcz19_0, hcz19_1, hcz19_2, hcz19_3, hcz19_4, hcz19_5, hcz19_6, hcz19_7, hcz19_8, hcz19_9, hcz19_10, hcz19_11, hfz19_0, hfz19_1, hfz19_2, hfz19_3, hfz19_4, hfz19_5, hfz19_6, hfz19_7, hfz19_8, hfz19_9, hfz19_10, hfz19_11⟩ := bc12_ BK1332.out) | ((with_reducible refine gate_callee (f := 67) rfl ?_); refine goesL_ (some 15) rfl rfl Try.func67 (by kernel_rfl) rfl #[.agg #[.int .i64 a0_0, .int .i64 a0_1, .slice A0_2 l0_2.length c0_2, .int .i64 a0_3, .int .i64 a0_4, .string a0_5, .slice A0_6 l0_6.length c0_6, .int .i64 a0_7, .slice A0_8 l0_8.length c0_8, .slice A0_9 l0_9.length c0_9, .int .i64 a0_10, .int .i64 a0_11]] rfl (by (try simp only [mp_]); first | done | rfl | (simp only [List.length_drop, List.length_take]; rfl)) ?_; (with_reducible refine (laws_toTask.calls k a0_0 a0_1 _ _ l0_2 a0_3 a0_4 a0_5 _ _ l0_6 a0_7 _ _ l0_8 _ _ l0_9 a0_10 a0_11 t1334 t1335 t1336 t1339 t1340 t1341 t1342 t1345 t1346 t1349 t1352 t1353 _ ?side1 ?side2 ?side3 ?side4 ?side5 ?side6 ?side7 ?side8 A8.out).mono ?_); (case side1 => repeat (first | exact (Kd.C_below HR0_2.out HB.out) | (with_reducible first | refine ca_ ?_ _ | refine cn_ ?_ _ | refine cd_ ?_))); (case side2 => exact HC0_2.out); (case side3 => repeat (first | exact (Kd.C_below HR0_6.out HB.out) | (with_reducible first | refine ca_ ?_ _ | refine cn_ ?_ _ | refine cd_ ?_))); (case side4 => exact HC0_6.out); (case side5 => repeat (first | exact (Kd.C_below HR0_8.out HB.out) | (with_reducible first | refine ca_ ?_ _ | refine cn_ ?_ _ | refine cd_ ?_))); (case side6 => exact HC0_8.out); (case side7 => repeat (first | exact (Kd.C_below HR0_9.out HB.out) | (with_reducible first | refine ca_ ?_ _ | refine cn_ ?_ _ | refine cd_ ?_))); (case side8 => exact HC0_9.out); rintro e w20 ⟨v1337, v1343, v1347, v1350, rfl, ho0, ho1, ho2, ho3, hb⟩; refine ⟨_, rfl, ?_⟩; have n0_ := Aside0.mk (Kd.R_lower ho0 (below_size (by repeat (first | (with_reducible first | exact HB.out | apply ba_ | apply bn_ | apply bd_ | refine below_set ?_ GE1332.out) | exact HB.out)))); have n1_ := Aside0.mk (Kd.R_lower ho1 (below_size (by repeat (first | (with_reducible first | exact HB.out | apply ba_ | apply bn_ | apply bd_ | refine below_set ?_ GE1332.out) | exact HB.out)))); have n2_ := Aside0.mk (Kd.R_lower ho2 (below_size (by repeat (first | (with_reducible first | exact HB.out | apply ba_ | apply bn_ | apply bd_ | refine below_set ?_ GE1332.out) | exact HB.out)))); have n3_ := Aside0.mk (Kd.S_lower ho3 (below_size (by repeat (first | (with_reducible first | exact HB.out | apply ba_ | apply bn_ | apply bd_ | refine below_set ?_ GE1332.out) | exact HB.out)))); have n4_ := Aside0.mk (bb_ BK1332.out hb); have n5_ := Aside0.mk (below_step (by repeat (first | (with_reducible first | exact HB.out | apply ba_ | apply bn_ | apply bd_ | refine below_set ?_ GE1332.out) | exact HB.out)) hb); clear BK1332 HB; have HO1338 := n0_; have HO1344 := n1_; have HO1348 := n2_; have HO1351 := n3_; have BK1332 := n4_; have HB := n5_; clear n0_ n1_ n2_ n3_ n4_ n5_; (try clear hb); (try clear hb2); (try clear hk); (try clear hi); (try clear ho0); (try clear ho1); (try clear ho2); (try clear ho3); obtain ⟨Ao21, co21, eo21⟩ := Kd.R_slice HO1338.out; subst eo21; obtain ⟨Ao22, co22, eo22⟩ := Kd.R_slice HO1344.out; subst eo22; obtain ⟨Ao23, co23, eo23⟩ := Kd.R_slice HO1348.out; subst eo23; obtain ⟨Ao24, co24, eo24⟩ := Kd.S_slice HO1351.out; subst eo24) | ((with_reducible refine gate_callee (f := 66) rfl ?_); refine goesL_ (some 17) rfl rfl Try.func66 (by kernel_rfl) rfl #[.agg #[.int .i64 t1334, .int .i64 t1335, .slice Ao21 t1336.length co21, .int .i64 t1339, .int .i64 t1340, .string t1341, .slice Ao22 t1342.length co22, .int .i64 t1345, .slice Ao23 t1346.length co23, .slice Ao24 t1349.length co24, .int .i64 t1352, .int .i64 t1353], .int .i64 a1] rfl (by (try simp only [mp_]); first | done | rfl | (simp only [List.length_drop, List.length_take]; rfl)) ?_; (with_reducible refine (spec_TaskOk.calls k t1334 t1335 _ _ t1336 t1339 t1340 t1341 _ _ t1342 t1345 _ _ t1346 _ _ t1349 t1352 t1353 a1 t1354 _ ?side1 ?side2 ?side3 ?side4 ?side5 ?side6 ?side7 ?side8 A9.out).mono ?_); (case side1 => repeat (first | exact (Kd.R_reads' HO1338.out).2.2 | (with_reducible first | refine ca_ ?_ _ | refine cn_ ?_ _ | refine cd_ ?_))); (case side2 => exact (Kd.R_reads' HO1338.out).2.1); (case side3 => repeat (first | exact (Kd.R_reads' HO1344.out).2.2 | (with_reducible first | refine ca_ ?_ _ | refine cn_ ?_ _ | refine cd_ ?_))); (case side4 => exact (Kd.R_reads' HO1344.out).2.1); (case side5 => repeat (first | exact (Kd.R_reads' HO1348.out).2.2 | (with_reducible first | refine ca_ ?_ _ | refine cn_ ?_ _ | refine cd_ ?_))); (case side6 => exact (Kd.R_reads' HO1348.out).2.1); (case side7 => repeat (first | exact (Kd.S_reads' HO1351.out).2.2 | (with_reducible first | refine ca_ ?_ _ | refine cn_ ?_ _ | refine cd_ ?_))); (case side8 => exact (Kd.S_reads' HO1351.out).2.1); rintro e w25 ⟨rfl, hb⟩; refine ⟨_, rfl, ?_⟩; have n0_ := Aside0.mk (Kd.R_below (rp_ HO1338.out) hb); have n1_ := Aside0.mk (Kd.R_below (rp_ HO1344.out) hb); have n2_ := Aside0.mk (Kd.R_below (rp_ HO1348.out) hb); have n3_ := Aside0.mk (Kd.S_below (sp_ HO1351.out) hb); have n4_ := Aside0.mk (bb_ BK1332.out hb); have n5_ := Aside0.mk (below_step (by repeat (first | (with_reducible first | exact HB.out | apply ba_ | apply bn_ | apply bd_ | refine below_set ?_ GE1332.out) | exact HB.out)) hb); clear HO1338 HO1344 HO1348 HO1351 BK1332 HB; have HO1338 := n0_; have HO1344 := n1_; have HO1348 := n2_; have HO1351 := n3_; have BK1332 := n4_; have HB := n5_; clear n0_ n1_ n2_ n3_ n4_ n5_; (try clear hb); (try clear hb2); (try clear hk); (try clear hi); obtain ⟨hcz26_0, hcz26_1, hcz26_2, hcz26_3, hcz26_4, hcz26_5, hcz26_6, hcz26_7, hcz26_8, hcz26_9, hcz26_10, hcz26_11, hfz26_0, hfz26_1, hfz26_2, hfz26_3, hfz26_4, hfz26_5, hfz26_6, hfz26_7, hfz26_8, hfz26_9, hfz26_10, hfz26_11⟩ := bc12_ BK1332.out) | ((with_reducible refine gate_callee (f := 67) rfl ?_); refine goesL_ (some 19) rfl rfl Try.func67 (by kernel_rfl) rfl #[.agg #[.int .i64 a0_0, .int .i64 a0_1, .slice A0_2 l0_2.length c0_2, .int .i64 a0_3, .int .i64 a0_4, .string a0_5, .slice A0_6 l0_6.length c0_6, .int .i64 a0_7, .slice A0_8 l0_8.length c0_8, .slice A0_9 l0_9.length c0_9, .int .i64 a0_10, .int .i64 a0_11]] rfl (by (try simp only [mp_]); first | done | rfl | (simp only [List.length_drop, List.length_take]; rfl)) ?_; (with_reducible refine (laws_toTask.calls k a0_0 a0_1 _ _ l0_2 a0_3 a0_4 a0_5 _ _ l0_6 a0_7 _ _ l0_8 _ _ l0_9 a0_10 a0_11 t1355 t1356 t1357 t1360 t1361 t1362 t1363 t1366 t1367 t1370 t1373 t1374 _ ?side1 ?side2 ?side3 ?side4 ?side5 ?side6 ?side7 ?side8 A10.out).mono ?_); (case side1 => repeat (first | exact (Kd.C_below HR0_2.out HB.out) | (with_reducible first | refine ca_ ?_ _ | refine cn_ ?_ _ | refine cd_ ?_))); (case side2 => exact HC0_2.out); (case side3 => repeat (first | exact (Kd.C_below HR0_6.out HB.out) | (with_reducible first | refine ca_ ?_ _ | refine cn_ ?_ _ | refine cd_ ?_))); (case side4 => exact HC0_6.out); (case side5 => repeat (first | exact (Kd.C_below HR0_8.out HB.out) | (with_reducible first | refine ca_ ?_ _ | refine cn_ ?_ _ | refine cd_ ?_))); (case side6 => exact HC0_8.out); (case side7 => repeat (first | exact (Kd.C_below HR0_9.out HB.out) | (with_reducible first | refine ca_ ?_ _ | refine cn_ ?_ _ | refine cd_ ?_))); (case side8 => exact HC0_9.out); rintro e w27 ⟨v1358, v1364, v1368, v1371, rfl, ho0, ho1, ho2, ho3, hb⟩; refine ⟨_, rfl, ?_⟩; have n0_ := Aside0.mk (Kd.R_mono (Kd.R_told (Kd.R_told (Kd.R_old (rp_ HO1338.out) hb) (Kd.R_base ho0)) (Kd.R_base ho1)) (fun _ h_ => h_.1)); have n1_ := Aside0.mk (Kd.R_mono (Kd.R_told (Kd.R_told (Kd.R_old (rp_ HO1344.out) hb) (Kd.R_base ho0)) (Kd.R_base ho1)) (fun _ h_ => h_.1)); have n2_ := Aside0.mk (Kd.R_elder' (rp_ HO1348.out) (Kd.R_base ho2) hb); have n3_ := Aside0.mk (Kd.S_mono (Kd.S_told (Kd.S_told (Kd.S_told (Kd.S_old (sp_ HO1351.out) hb) (Kd.R_base ho0)) (Kd.R_base ho1)) (Kd.S_base ho3)) (fun _ h_ => h_.1)); have n4_ := Aside0.mk (Kd.R_lower (Kd.R_new' (Kd.R_new' ho0 (Kd.R_lt (rp_ HO1338.out))) (Kd.R_lt (rp_ HO1344.out))) (below_size (by repeat (first | (with_reducible first | exact HB.out | apply ba_ | apply bn_ | apply bd_ | refine below_set ?_ GE1332.out) | exact HB.out)))); have n5_ := Aside0.mk (Kd.R_lower (Kd.R_new' (Kd.R_new' ho1 (Kd.R_lt (rp_ HO1338.out))) (Kd.R_lt (rp_ HO1344.out))) (below_size (by repeat (first | (with_reducible first | exact HB.out | apply ba_ | apply bn_ | apply bd_ | refine below_set ?_ GE1332.out) | exact HB.out)))); have n6_ := Aside0.mk (Kd.R_lower (Kd.R_new' ho2 (Kd.R_lt (rp_ HO1348.out))) (below_size (by repeat (first | (with_reducible first | exact HB.out | apply ba_ | apply bn_ | apply bd_ | refine below_set ?_ GE1332.out) | exact HB.out)))); have n7_ := Aside0.mk (Kd.S_lower (Kd.S_new' (Kd.S_new' (Kd.S_new' ho3 (Kd.R_lt (rp_ HO1338.out))) (Kd.R_lt (rp_ HO1344.out))) (Kd.S_lt (sp_ HO1351.out))) (below_size (by repeat (first | (with_reducible first | exact HB.out | apply ba_ | apply bn_ | apply bd_ | refine below_set ?_ GE1332.out) | exact HB.out)))); have n8_ := Aside0.mk (bb_ BK1332.out hb); have n9_ := Aside0.mk (below_step (by repeat (first | (with_reducible first | exact HB.out | apply ba_ | apply bn_ | apply bd_ | refine below_set ?_ GE1332.out) | exact HB.out)) hb); clear HO1338 HO1344 HO1348 HO1351 BK1332 HB; have HO1338 := n0_; have HO1344 := n1_; have HO1348 := n2_; have HO1351 := n3_; have HO1359 := n4_; have HO1365 := n5_; have HO1369 := n6_; have HO1372 := n7_; have BK1332 := n8_; have HB := n9_; clear n0_ n1_ n2_ n3_ n4_ n5_ n6_ n7_ n8_ n9_; (try clear hb); (try clear hb2); (try clear hk); (try clear hi); (try clear ho0); (try clear ho1); (try clear ho2); (try clear ho3)) | ((with_reducible refine gate_dst (N := 7) rfl ?_); refine box_event ?hg (N := 7) ?hd (cs := #[.int .i64 0, .int .i64 0, .slice none 0 0, .int .i64 0, .int .i64 0, .string (⟨#[]⟩ : ByteArray), .slice none 0 0, .int .i64 0, .slice none 0 0, .slice none 0 0, .int .i64 0, .int .i64 0]) (t := 97) ?hr ?_; (case hd => rfl); (case hg => rfl); (case hr => first | (go_simp; done) | (go_simp; rfl)); intro gb1375 hg w28 hbox hb; have n0_ := Aside0.mk (Kd.R_below (rp_ HO1338.out) hb); have n1_ := Aside0.mk (Kd.R_below (rp_ HO1344.out) hb); have n2_ := Aside0.mk (Kd.R_below (rp_ HO1348.out) hb); have n3_ := Aside0.mk (Kd.S_below (sp_ HO1351.out) hb); have n4_ := Aside0.mk (Kd.R_below (rp_ HO1359.out) hb); have n5_ := Aside0.mk (Kd.R_below (rp_ HO1365.out) hb); have n6_ := Aside0.mk (Kd.R_below (rp_ HO1369.out) hb); have n7_ := Aside0.mk (Kd.S_below (sp_ HO1372.out) hb); have n8_ := Aside0.mk (bb_ BK1332.out hb); have n9_ := Aside0.mk (below_step (by repeat (first | (with_reducible first | exact HB.out | apply ba_ | apply bn_ | apply bd_ | refine below_set ?_ GE1332.out) | exact HB.out)) hb); have n10_ := Aside0.mk (hbox); have n11_ := Aside0.mk ((by rw [hg]; exact (below_size (by repeat (first | (with_reducible first | exact HB.out | apply ba_ | apply bn_ | apply bd_ | refine below_set ?_ GE1332.out) | exact HB.out))) : w.heap.size ≤ gb1375)); have n12_ := Aside0.mk ((by rw [hg]; exact (below_size (by repeat (first | (with_reducible first | exact HB.out | apply ba_ | apply bn_ | apply bd_ | refine below_set ?_ GE1332.out) | exact HB.out))) : w.heap.size ≤ gb1375)); have n13_ := Aside0.mk (nl_ BK1332.out hg); have n14_ := Aside0.mk (n13_.out.symm); clear HO1338 HO1344 HO1348 HO1351 HO1359 HO1365 HO1369 HO1372 BK1332 HB; have HO1338 := n0_; have HO1344 := n1_; have HO1348 := n2_; have HO1351 := n3_; have HO1359 := n4_; have HO1365 := n5_; have HO1369 := n6_; have HO1372 := n7_; have BK1332 := n8_; have HB := n9_; have BK1375 := n10_; have GW1375 := n11_; have GE1375 := n12_; have NB1332_1375 := n13_; have NB1375_1332 := n14_; clear n0_ n1_ n2_ n3_ n4_ n5_ n6_ n7_ n8_ n9_ n10_ n11_ n12_ n13_ n14_; clear hb hbox hg; have hnb29 := NB1375_1332.out; have hnc29 := NB1332_1375.out; obtain ⟨hcz30_0, hcz30_1, hcz30_2, hcz30_3, hcz30_4, hcz30_5, hcz30_6, hcz30_7, hcz30_8, hcz30_9, hcz30_10, hcz30_11, hfz30_0, hfz30_1, hfz30_2, hfz30_3, hfz30_4, hfz30_5, hfz30_6, hfz30_7, hfz30_8, hfz30_9, hfz30_10, hfz30_11⟩ := bc12_ BK1375.out; obtain ⟨Ao31, co31, eo31⟩ := Kd.R_slice HO1359.out; subst eo31; obtain ⟨Ao32, co32, eo32⟩ := Kd.R_slice HO1365.out; subst eo32; obtain ⟨Ao33, co33, eo33⟩ := Kd.R_slice HO1369.out; subst eo33; obtain ⟨Ao34, co34, eo34⟩ := Kd.S_slice HO1372.out; subst eo34) | ((with_reducible refine gate_callee (f := 68) rfl ?_); refine goesL_ (some 22) rfl rfl Try.func68 (by kernel_rfl) rfl #[.agg #[.int .i64 t1355, .int .i64 t1356, .slice Ao31 t1357.length co31, .int .i64 t1360, .int .i64 t1361, .string t1362, .slice Ao32 t1363.length co32, .int .i64 t1366, .slice Ao33 t1367.length co33, .slice Ao34 t1370.length co34, .int .i64 t1373, .int .i64 t1374], .int .i64 a1] rfl (by (try simp only [mp_]); first | done | rfl | (simp only [List.length_drop, List.length_take]; rfl)) ?_; (with_reducible refine (impl_TaskOk.calls k t1355 t1356 _ _ t1357 t1360 t1361 t1362 _ _ t1363 t1366 _ _ t1367 _ _ t1370 t1373 t1374 a1 t1376 _ ?side1 ?side2 ?side3 ?side4 ?side5 ?side6 ?side7 ?side8 A11.out).mono ?_); (case side1 => refine (Kd.R_reads' (e := 164) (base := w.heap.size) (ok := fun k_ => ((some k_ ≠ (.slice Ao32 t1363.length co32 : Value).ownBlock ∧ some k_ ≠ (.slice Ao21 t1336.length co21 : Value).ownBlock) ∧ some k_ ≠ (.slice Ao22 t1342.length co22 : Value).ownBlock)) (n := t1357.length) (c := co31) ?_).2.2; exact (by (with_reducible repeat (first | apply Kd.R_alloc | apply Kd.R_drewN | apply Kd.R_drew)); exact (Kd.R_mono (Kd.R_far (p := ⟨gb1375, 11, none⟩) (Kd.R_far (p := ⟨gb1375, 10, none⟩) (Kd.R_far (p := ⟨gb1375, 9, none⟩) (Kd.R_far (p := ⟨gb1375, 8, none⟩) (Kd.R_far (p := ⟨gb1375, 7, none⟩) (Kd.R_far (p := ⟨gb1375, 6, none⟩) (Kd.R_far (p := ⟨gb1375, 5, none⟩) (Kd.R_far (p := ⟨gb1375, 4, none⟩) (Kd.R_far (p := ⟨gb1375, 3, none⟩) (Kd.R_far (p := ⟨gb1375, 2, none⟩) (Kd.R_far (p := ⟨gb1375, 1, none⟩) (Kd.R_far (p := ⟨gb1375, 0, none⟩) (Kd.R_types HO1359.out BK1375.out (by decide)) (fun _ hk => hk.2) (.int .i64 t1355)) (fun _ hk => hk.2) (.int .i64 t1356)) (fun _ hk => hk.2) (.slice Ao31 t1357.length co31)) (fun _ hk => hk.2) (.int .i64 t1360)) (fun _ hk => hk.2) (.int .i64 t1361)) (fun _ hk => hk.2) (.string t1362)) (fun _ hk => hk.2) (.slice Ao32 t1363.length co32)) (fun _ hk => hk.2) (.int .i64 t1366)) (fun _ hk => hk.2) (.slice Ao33 t1367.length co33)) (fun _ hk => hk.2) (.slice Ao34 t1370.length co34)) (fun _ hk => hk.2) (.int .i64 t1373)) (fun _ hk => hk.2) (.int .i64 t1374)) (fun _ h_ => h_.1)))); (case side2 => exact (Kd.R_reads' HO1359.out).2.1); (case side3 => refine (Kd.R_reads' (e := 164) (base := w.heap.size) (ok := fun k_ => ((some k_ ≠ (.slice Ao31 t1357.length co31 : Value).ownBlock ∧ some k_ ≠ (.slice Ao21 t1336.length co21 : Value).ownBlock) ∧ some k_ ≠ (.slice Ao22 t1342.length co22 : Value).ownBlock)) (n := t1363.length) (c := co32) ?_).2.2; exact (by (with_reducible repeat (first | apply Kd.R_alloc | apply Kd.R_drewN | apply Kd.R_drew)); exact (Kd.R_mono (Kd.R_far (p := ⟨gb1375, 11, none⟩) (Kd.R_far (p := ⟨gb1375, 10, none⟩) (Kd.R_far (p := ⟨gb1375, 9, none⟩) (Kd.R_far (p := ⟨gb1375, 8, none⟩) (Kd.R_far (p := ⟨gb1375, 7, none⟩) (Kd.R_far (p := ⟨gb1375, 6, none⟩) (Kd.R_far (p := ⟨gb1375, 5, none⟩) (Kd.R_far (p := ⟨gb1375, 4, none⟩) (Kd.R_far (p := ⟨gb1375, 3, none⟩) (Kd.R_far (p := ⟨gb1375, 2, none⟩) (Kd.R_far (p := ⟨gb1375, 1, none⟩) (Kd.R_far (p := ⟨gb1375, 0, none⟩) (Kd.R_types HO1365.out BK1375.out (by decide)) (fun _ hk => hk.2) (.int .i64 t1355)) (fun _ hk => hk.2) (.int .i64 t1356)) (fun _ hk => hk.2) (.slice Ao31 t1357.length co31)) (fun _ hk => hk.2) (.int .i64 t1360)) (fun _ hk => hk.2) (.int .i64 t1361)) (fun _ hk => hk.2) (.string t1362)) (fun _ hk => hk.2) (.slice Ao32 t1363.length co32)) (fun _ hk => hk.2) (.int .i64 t1366)) (fun _ hk => hk.2) (.slice Ao33 t1367.length co33)) (fun _ hk => hk.2) (.slice Ao34 t1370.length co34)) (fun _ hk => hk.2) (.int .i64 t1373)) (fun _ hk => hk.2) (.int .i64 t1374)) (fun _ h_ => h_.1)))); (case side4 => exact (Kd.R_reads' HO1365.out).2.1); (case side5 => refine (Kd.R_reads' (e := 3) (base := w.heap.size) (ok := fun k_ => (True ∧ some k_ ≠ (.slice Ao23 t1346.length co23 : Value).ownBlock)) (n := t1367.length) (c := co33) ?_).2.2; exact (by (with_reducible repeat (first | apply Kd.R_alloc | apply Kd.R_drewN | apply Kd.R_drew)); exact (Kd.R_mono (Kd.R_far (p := ⟨gb1375, 11, none⟩) (Kd.R_far (p := ⟨gb1375, 10, none⟩) (Kd.R_far (p := ⟨gb1375, 9, none⟩) (Kd.R_far (p := ⟨gb1375, 8, none⟩) (Kd.R_far (p := ⟨gb1375, 7, none⟩) (Kd.R_far (p := ⟨gb1375, 6, none⟩) (Kd.R_far (p := ⟨gb1375, 5, none⟩) (Kd.R_far (p := ⟨gb1375, 4, none⟩) (Kd.R_far (p := ⟨gb1375, 3, none⟩) (Kd.R_far (p := ⟨gb1375, 2, none⟩) (Kd.R_far (p := ⟨gb1375, 1, none⟩) (Kd.R_far (p := ⟨gb1375, 0, none⟩) (Kd.R_types HO1369.out BK1375.out (by decide)) (fun _ hk => hk.2) (.int .i64 t1355)) (fun _ hk => hk.2) (.int .i64 t1356)) (fun _ hk => hk.2) (.slice Ao31 t1357.length co31)) (fun _ hk => hk.2) (.int .i64 t1360)) (fun _ hk => hk.2) (.int .i64 t1361)) (fun _ hk => hk.2) (.string t1362)) (fun _ hk => hk.2) (.slice Ao32 t1363.length co32)) (fun _ hk => hk.2) (.int .i64 t1366)) (fun _ hk => hk.2) (.slice Ao33 t1367.length co33)) (fun _ hk => hk.2) (.slice Ao34 t1370.length co34)) (fun _ hk => hk.2) (.int .i64 t1373)) (fun _ hk => hk.2) (.int .i64 t1374)) (fun _ h_ => h_.1)))); (case side6 => exact (Kd.R_reads' HO1369.out).2.1); (case side7 => refine (Kd.S_reads' (e := 44) (base := w.heap.size) (ok := fun k_ => ((((some k_ ≠ (.slice Ao31 t1357.length co31 : Value).ownBlock ∧ some k_ ≠ (.slice Ao32 t1363.length co32 : Value).ownBlock) ∧ some k_ ≠ (.slice Ao21 t1336.length co21 : Value).ownBlock) ∧ some k_ ≠ (.slice Ao22 t1342.length co22 : Value).ownBlock) ∧ some k_ ≠ (.slice Ao24 t1349.length co24 : Value).ownBlock)) (n := t1370.length) (c := co34) ?_).2.2; exact (by (with_reducible repeat (first | apply Kd.S_alloc | apply Kd.S_drewN | apply Kd.S_drew)); exact (Kd.S_mono (Kd.S_far (p := ⟨gb1375, 11, none⟩) (Kd.S_far (p := ⟨gb1375, 10, none⟩) (Kd.S_far (p := ⟨gb1375, 9, none⟩) (Kd.S_far (p := ⟨gb1375, 8, none⟩) (Kd.S_far (p := ⟨gb1375, 7, none⟩) (Kd.S_far (p := ⟨gb1375, 6, none⟩) (Kd.S_far (p := ⟨gb1375, 5, none⟩) (Kd.S_far (p := ⟨gb1375, 4, none⟩) (Kd.S_far (p := ⟨gb1375, 3, none⟩) (Kd.S_far (p := ⟨gb1375, 2, none⟩) (Kd.S_far (p := ⟨gb1375, 1, none⟩) (Kd.S_far (p := ⟨gb1375, 0, none⟩) (Kd.S_types HO1372.out BK1375.out (by decide)) (fun _ hk => hk.2) (.int .i64 t1355)) (fun _ hk => hk.2) (.int .i64 t1356)) (fun _ hk => hk.2) (.slice Ao31 t1357.length co31)) (fun _ hk => hk.2) (.int .i64 t1360)) (fun _ hk => hk.2) (.int .i64 t1361)) (fun _ hk => hk.2) (.string t1362)) (fun _ hk => hk.2) (.slice Ao32 t1363.length co32)) (fun _ hk => hk.2) (.int .i64 t1366)) (fun _ hk => hk.2) (.slice Ao33 t1367.length co33)) (fun _ hk => hk.2) (.slice Ao34 t1370.length co34)) (fun _ hk => hk.2) (.int .i64 t1373)) (fun _ hk => hk.2) (.int .i64 t1374)) (fun _ h_ => h_.1)))); (case side8 => exact (Kd.S_reads' HO1372.out).2.1); rintro e w35 ⟨rfl, hb⟩; refine ⟨_, rfl, ?_⟩; have n0_ := Aside0.mk (Kd.R_below (by (with_reducible repeat (first | apply Kd.R_alloc | apply Kd.R_drewN | apply Kd.R_drew)); exact (Kd.R_mono (Kd.R_far (p := ⟨gb1375, 11, none⟩) (Kd.R_far (p := ⟨gb1375, 10, none⟩) (Kd.R_far (p := ⟨gb1375, 9, none⟩) (Kd.R_far (p := ⟨gb1375, 8, none⟩) (Kd.R_far (p := ⟨gb1375, 7, none⟩) (Kd.R_far (p := ⟨gb1375, 6, none⟩) (Kd.R_far (p := ⟨gb1375, 5, none⟩) (Kd.R_far (p := ⟨gb1375, 4, none⟩) (Kd.R_far (p := ⟨gb1375, 3, none⟩) (Kd.R_far (p := ⟨gb1375, 2, none⟩) (Kd.R_far (p := ⟨gb1375, 1, none⟩) (Kd.R_far (p := ⟨gb1375, 0, none⟩) (Kd.R_types HO1338.out BK1375.out (by decide)) (fun _ hk => hk.2) (.int .i64 t1355)) (fun _ hk => hk.2) (.int .i64 t1356)) (fun _ hk => hk.2) (.slice Ao31 t1357.length co31)) (fun _ hk => hk.2) (.int .i64 t1360)) (fun _ hk => hk.2) (.int .i64 t1361)) (fun _ hk => hk.2) (.string t1362)) (fun _ hk => hk.2) (.slice Ao32 t1363.length co32)) (fun _ hk => hk.2) (.int .i64 t1366)) (fun _ hk => hk.2) (.slice Ao33 t1367.length co33)) (fun _ hk => hk.2) (.slice Ao34 t1370.length co34)) (fun _ hk => hk.2) (.int .i64 t1373)) (fun _ hk => hk.2) (.int .i64 t1374)) (fun _ h_ => h_.1))) hb); have n1_ := Aside0.mk (Kd.R_below (by (with_reducible repeat (first | apply Kd.R_alloc | apply Kd.R_drewN | apply Kd.R_drew)); exact (Kd.R_mono (Kd.R_far (p := ⟨gb1375, 11, none⟩) (Kd.R_far (p := ⟨gb1375, 10, none⟩) (Kd.R_far (p := ⟨gb1375, 9, none⟩) (Kd.R_far (p := ⟨gb1375, 8, none⟩) (Kd.R_far (p := ⟨gb1375, 7, none⟩) (Kd.R_far (p := ⟨gb1375, 6, none⟩) (Kd.R_far (p := ⟨gb1375, 5, none⟩) (Kd.R_far (p := ⟨gb1375, 4, none⟩) (Kd.R_far (p := ⟨gb1375, 3, none⟩) (Kd.R_far (p := ⟨gb1375, 2, none⟩) (Kd.R_far (p := ⟨gb1375, 1, none⟩) (Kd.R_far (p := ⟨gb1375, 0, none⟩) (Kd.R_types HO1344.out BK1375.out (by decide)) (fun _ hk => hk.2) (.int .i64 t1355)) (fun _ hk => hk.2) (.int .i64 t1356)) (fun _ hk => hk.2) (.slice Ao31 t1357.length co31)) (fun _ hk => hk.2) (.int .i64 t1360)) (fun _ hk => hk.2) (.int .i64 t1361)) (fun _ hk => hk.2) (.string t1362)) (fun _ hk => hk.2) (.slice Ao32 t1363.length co32)) (fun _ hk => hk.2) (.int .i64 t1366)) (fun _ hk => hk.2) (.slice Ao33 t1367.length co33)) (fun _ hk => hk.2) (.slice Ao34 t1370.length co34)) (fun _ hk => hk.2) (.int .i64 t1373)) (fun _ hk => hk.2) (.int .i64 t1374)) (fun _ h_ => h_.1))) hb); have n2_ := Aside0.mk (Kd.R_below (by (with_reducible repeat (first | apply Kd.R_alloc | apply Kd.R_drewN | apply Kd.R_drew)); exact (Kd.R_mono (Kd.R_far (p := ⟨gb1375, 11, none⟩) (Kd.R_far (p := ⟨gb1375, 10, none⟩) (Kd.R_far (p := ⟨gb1375, 9, none⟩) (Kd.R_far (p := ⟨gb1375, 8, none⟩) (Kd.R_far (p := ⟨gb1375, 7, none⟩) (Kd.R_far (p := ⟨gb1375, 6, none⟩) (Kd.R_far (p := ⟨gb1375, 5, none⟩) (Kd.R_far (p := ⟨gb1375, 4, none⟩) (Kd.R_far (p := ⟨gb1375, 3, none⟩) (Kd.R_far (p := ⟨gb1375, 2, none⟩) (Kd.R_far (p := ⟨gb1375, 1, none⟩) (Kd.R_far (p := ⟨gb1375, 0, none⟩) (Kd.R_types HO1348.out BK1375.out (by decide)) (fun _ hk => hk.2) (.int .i64 t1355)) (fun _ hk => hk.2) (.int .i64 t1356)) (fun _ hk => hk.2) (.slice Ao31 t1357.length co31)) (fun _ hk => hk.2) (.int .i64 t1360)) (fun _ hk => hk.2) (.int .i64 t1361)) (fun _ hk => hk.2) (.string t1362)) (fun _ hk => hk.2) (.slice Ao32 t1363.length co32)) (fun _ hk => hk.2) (.int .i64 t1366)) (fun _ hk => hk.2) (.slice Ao33 t1367.length co33)) (fun _ hk => hk.2) (.slice Ao34 t1370.length co34)) (fun _ hk => hk.2) (.int .i64 t1373)) (fun _ hk => hk.2) (.int .i64 t1374)) (fun _ h_ => h_.1))) hb); have n3_ := Aside0.mk (Kd.S_below (by (with_reducible repeat (first | apply Kd.S_alloc | apply Kd.S_drewN | apply Kd.S_drew)); exact (Kd.S_mono (Kd.S_far (p := ⟨gb1375, 11, none⟩) (Kd.S_far (p := ⟨gb1375, 10, none⟩) (Kd.S_far (p := ⟨gb1375, 9, none⟩) (Kd.S_far (p := ⟨gb1375, 8, none⟩) (Kd.S_far (p := ⟨gb1375, 7, none⟩) (Kd.S_far (p := ⟨gb1375, 6, none⟩) (Kd.S_far (p := ⟨gb1375, 5, none⟩) (Kd.S_far (p := ⟨gb1375, 4, none⟩) (Kd.S_far (p := ⟨gb1375, 3, none⟩) (Kd.S_far (p := ⟨gb1375, 2, none⟩) (Kd.S_far (p := ⟨gb1375, 1, none⟩) (Kd.S_far (p := ⟨gb1375, 0, none⟩) (Kd.S_types HO1351.out BK1375.out (by decide)) (fun _ hk => hk.2) (.int .i64 t1355)) (fun _ hk => hk.2) (.int .i64 t1356)) (fun _ hk => hk.2) (.slice Ao31 t1357.length co31)) (fun _ hk => hk.2) (.int .i64 t1360)) (fun _ hk => hk.2) (.int .i64 t1361)) (fun _ hk => hk.2) (.string t1362)) (fun _ hk => hk.2) (.slice Ao32 t1363.length co32)) (fun _ hk => hk.2) (.int .i64 t1366)) (fun _ hk => hk.2) (.slice Ao33 t1367.length co33)) (fun _ hk => hk.2) (.slice Ao34 t1370.length co34)) (fun _ hk => hk.2) (.int .i64 t1373)) (fun _ hk => hk.2) (.int .i64 t1374)) (fun _ h_ => h_.1))) hb); have n4_ := Aside0.mk (Kd.R_below (by (with_reducible repeat (first | apply Kd.R_alloc | apply Kd.R_drewN | apply Kd.R_drew)); exact (Kd.R_mono (Kd.R_far (p := ⟨gb1375, 11, none⟩) (Kd.R_far (p := ⟨gb1375, 10, none⟩) (Kd.R_far (p := ⟨gb1375, 9, none⟩) (Kd.R_far (p := ⟨gb1375, 8, none⟩) (Kd.R_far (p := ⟨gb1375, 7, none⟩) (Kd.R_far (p := ⟨gb1375, 6, none⟩) (Kd.R_far (p := ⟨gb1375, 5, none⟩) (Kd.R_far (p := ⟨gb1375, 4, none⟩) (Kd.R_far (p := ⟨gb1375, 3, none⟩) (Kd.R_far (p := ⟨gb1375, 2, none⟩) (Kd.R_far (p := ⟨gb1375, 1, none⟩) (Kd.R_far (p := ⟨gb1375, 0, none⟩) (Kd.R_types HO1359.out BK1375.out (by decide)) (fun _ hk => hk.2) (.int .i64 t1355)) (fun _ hk => hk.2) (.int .i64 t1356)) (fun _ hk => hk.2) (.slice Ao31 t1357.length co31)) (fun _ hk => hk.2) (.int .i64 t1360)) (fun _ hk => hk.2) (.int .i64 t1361)) (fun _ hk => hk.2) (.string t1362)) (fun _ hk => hk.2) (.slice Ao32 t1363.length co32)) (fun _ hk => hk.2) (.int .i64 t1366)) (fun _ hk => hk.2) (.slice Ao33 t1367.length co33)) (fun _ hk => hk.2) (.slice Ao34 t1370.length co34)) (fun _ hk => hk.2) (.int .i64 t1373)) (fun _ hk => hk.2) (.int .i64 t1374)) (fun _ h_ => h_.1))) hb); have n5_ := Aside0.mk (Kd.R_below (by (with_reducible repeat (first | apply Kd.R_alloc | apply Kd.R_drewN | apply Kd.R_drew)); exact (Kd.R_mono (Kd.R_far (p := ⟨gb1375, 11, none⟩) (Kd.R_far (p := ⟨gb1375, 10, none⟩) (Kd.R_far (p := ⟨gb1375, 9, none⟩) (Kd.R_far (p := ⟨gb1375, 8, none⟩) (Kd.R_far (p := ⟨gb1375, 7, none⟩) (Kd.R_far (p := ⟨gb1375, 6, none⟩) (Kd.R_far (p := ⟨gb1375, 5, none⟩) (Kd.R_far (p := ⟨gb1375, 4, none⟩) (Kd.R_far (p := ⟨gb1375, 3, none⟩) (Kd.R_far (p := ⟨gb1375, 2, none⟩) (Kd.R_far (p := ⟨gb1375, 1, none⟩) (Kd.R_far (p := ⟨gb1375, 0, none⟩) (Kd.R_types HO1365.out BK1375.out (by decide)) (fun _ hk => hk.2) (.int .i64 t1355)) (fun _ hk => hk.2) (.int .i64 t1356)) (fun _ hk => hk.2) (.slice Ao31 t1357.length co31)) (fun _ hk => hk.2) (.int .i64 t1360)) (fun _ hk => hk.2) (.int .i64 t1361)) (fun _ hk => hk.2) (.string t1362)) (fun _ hk => hk.2) (.slice Ao32 t1363.length co32)) (fun _ hk => hk.2) (.int .i64 t1366)) (fun _ hk => hk.2) (.slice Ao33 t1367.length co33)) (fun _ hk => hk.2) (.slice Ao34 t1370.length co34)) (fun _ hk => hk.2) (.int .i64 t1373)) (fun _ hk => hk.2) (.int .i64 t1374)) (fun _ h_ => h_.1))) hb); have n6_ := Aside0.mk (Kd.R_below (by (with_reducible repeat (first | apply Kd.R_alloc | apply Kd.R_drewN | apply Kd.R_drew)); exact (Kd.R_mono (Kd.R_far (p := ⟨gb1375, 11, none⟩) (Kd.R_far (p := ⟨gb1375, 10, none⟩) (Kd.R_far (p := ⟨gb1375, 9, none⟩) (Kd.R_far (p := ⟨gb1375, 8, none⟩) (Kd.R_far (p := ⟨gb1375, 7, none⟩) (Kd.R_far (p := ⟨gb1375, 6, none⟩) (Kd.R_far (p := ⟨gb1375, 5, none⟩) (Kd.R_far (p := ⟨gb1375, 4, none⟩) (Kd.R_far (p := ⟨gb1375, 3, none⟩) (Kd.R_far (p := ⟨gb1375, 2, none⟩) (Kd.R_far (p := ⟨gb1375, 1, none⟩) (Kd.R_far (p := ⟨gb1375, 0, none⟩) (Kd.R_types HO1369.out BK1375.out (by decide)) (fun _ hk => hk.2) (.int .i64 t1355)) (fun _ hk => hk.2) (.int .i64 t1356)) (fun _ hk => hk.2) (.slice Ao31 t1357.length co31)) (fun _ hk => hk.2) (.int .i64 t1360)) (fun _ hk => hk.2) (.int .i64 t1361)) (fun _ hk => hk.2) (.string t1362)) (fun _ hk => hk.2) (.slice Ao32 t1363.length co32)) (fun _ hk => hk.2) (.int .i64 t1366)) (fun _ hk => hk.2) (.slice Ao33 t1367.length co33)) (fun _ hk => hk.2) (.slice Ao34 t1370.length co34)) (fun _ hk => hk.2) (.int .i64 t1373)) (fun _ hk => hk.2) (.int .i64 t1374)) (fun _ h_ => h_.1))) hb); have n7_ := Aside0.mk (Kd.S_below (by (with_reducible repeat (first | apply Kd.S_alloc | apply Kd.S_drewN | apply Kd.S_drew)); exact (Kd.S_mono (Kd.S_far (p := ⟨gb1375, 11, none⟩) (Kd.S_far (p := ⟨gb1375, 10, none⟩) (Kd.S_far (p := ⟨gb1375, 9, none⟩) (Kd.S_far (p := ⟨gb1375, 8, none⟩) (Kd.S_far (p := ⟨gb1375, 7, none⟩) (Kd.S_far (p := ⟨gb1375, 6, none⟩) (Kd.S_far (p := ⟨gb1375, 5, none⟩) (Kd.S_far (p := ⟨gb1375, 4, none⟩) (Kd.S_far (p := ⟨gb1375, 3, none⟩) (Kd.S_far (p := ⟨gb1375, 2, none⟩) (Kd.S_far (p := ⟨gb1375, 1, none⟩) (Kd.S_far (p := ⟨gb1375, 0, none⟩) (Kd.S_types HO1372.out BK1375.out (by decide)) (fun _ hk => hk.2) (.int .i64 t1355)) (fun _ hk => hk.2) (.int .i64 t1356)) (fun _ hk => hk.2) (.slice Ao31 t1357.length co31)) (fun _ hk => hk.2) (.int .i64 t1360)) (fun _ hk => hk.2) (.int .i64 t1361)) (fun _ hk => hk.2) (.string t1362)) (fun _ hk => hk.2) (.slice Ao32 t1363.length co32)) (fun _ hk => hk.2) (.int .i64 t1366)) (fun _ hk => hk.2) (.slice Ao33 t1367.length co33)) (fun _ hk => hk.2) (.slice Ao34 t1370.length co34)) (fun _ hk => hk.2) (.int .i64 t1373)) (fun _ hk => hk.2) (.int .i64 t1374)) (fun _ h_ => h_.1))) hb); have n8_ := Aside0.mk (blk_below (g := gb1332) (o := .cells #[.int .i64 a0_0, .int .i64 a0_1, .slice A0_2 l0_2.length c0_2, .int .i64 a0_3, .int .i64 a0_4, .string a0_5, .slice A0_6 l0_6.length c0_6, .int .i64 a0_7, .slice A0_8 l0_8.length c0_8, .slice A0_9 l0_9.length c0_9, .int .i64 a0_10, .int .i64 a0_11] 93 (0, 0)) (by (with_reducible repeat (first | refine kn_ ?_ _ | refine kd_ ?_ | refine ka_ ?_ _)); refine blk_far ?_ NB1332_1375.out _; (with_reducible repeat (first | refine kn_ ?_ _ | refine kd_ ?_ | refine ka_ ?_ _)); refine blk_far ?_ NB1332_1375.out _; (with_reducible repeat (first | refine kn_ ?_ _ | refine kd_ ?_ | refine ka_ ?_ _)); refine blk_far ?_ NB1332_1375.out _; (with_reducible repeat (first | refine kn_ ?_ _ | refine kd_ ?_ | refine ka_ ?_ _)); refine blk_far ?_ NB1332_1375.out _; (with_reducible repeat (first | refine kn_ ?_ _ | refine kd_ ?_ | refine ka_ ?_ _)); refine blk_far ?_ NB1332_1375.out _; (with_reducible repeat (first | refine kn_ ?_ _ | refine kd_ ?_ | refine ka_ ?_ _)); refine blk_far ?_ NB1332_1375.out _; (with_reducible repeat (first | refine kn_ ?_ _ | refine kd_ ?_ | refine ka_ ?_ _)); refine blk_far ?_ NB1332_1375.out _; (with_reducible repeat (first | refine kn_ ?_ _ | refine kd_ ?_ | refine ka_ ?_ _)); refine blk_far ?_ NB1332_1375.out _; (with_reducible repeat (first | refine kn_ ?_ _ | refine kd_ ?_ | refine ka_ ?_ _)); refine blk_far ?_ NB1332_1375.out _; (with_reducible repeat (first | refine kn_ ?_ _ | refine kd_ ?_ | refine ka_ ?_ _)); refine blk_far ?_ NB1332_1375.out _; (with_reducible repeat (first | refine kn_ ?_ _ | refine kd_ ?_ | refine ka_ ?_ _)); refine blk_far ?_ NB1332_1375.out _; (with_reducible repeat (first | refine kn_ ?_ _ | refine kd_ ?_ | refine ka_ ?_ _)); refine blk_far ?_ NB1332_1375.out _; (with_reducible repeat (first | refine kn_ ?_ _ | refine kd_ ?_ | refine ka_ ?_ _)); exact BK1332.out) hb); have n9_ := Aside0.mk (blk_below (g := gb1375) (o := .cells #[.int .i64 t1355, .int .i64 t1356, .slice Ao31 t1357.length co31, .int .i64 t1360, .int .i64 t1361, .string t1362, .slice Ao32 t1363.length co32, .int .i64 t1366, .slice Ao33 t1367.length co33, .slice Ao34 t1370.length co34, .int .i64 t1373, .int .i64 t1374] 97 (0, 0)) (by (with_reducible repeat (first | refine kn_ ?_ _ | refine kd_ ?_ | refine ka_ ?_ _)); refine blk_put (cs := #[.int .i64 t1355, .int .i64 t1356, .slice Ao31 t1357.length co31, .int .i64 t1360, .int .i64 t1361, .string t1362, .slice Ao32 t1363.length co32, .int .i64 t1366, .slice Ao33 t1367.length co33, .slice Ao34 t1370.length co34, .int .i64 t1373, .int .i64 0]) ?_ 11 _ rfl; (with_reducible repeat (first | refine kn_ ?_ _ | refine kd_ ?_ | refine ka_ ?_ _)); refine blk_put (cs := #[.int .i64 t1355, .int .i64 t1356, .slice Ao31 t1357.length co31, .int .i64 t1360, .int .i64 t1361, .string t1362, .slice Ao32 t1363.length co32, .int .i64 t1366, .slice Ao33 t1367.length co33, .slice Ao34 t1370.length co34, .int .i64 0, .int .i64 0]) ?_ 10 _ rfl; (with_reducible repeat (first | refine kn_ ?_ _ | refine kd_ ?_ | refine ka_ ?_ _)); refine blk_put (cs := #[.int .i64 t1355, .int .i64 t1356, .slice Ao31 t1357.length co31, .int .i64 t1360, .int .i64 t1361, .string t1362, .slice Ao32 t1363.length co32, .int .i64 t1366, .slice Ao33 t1367.length co33, .slice none 0 0, .int .i64 0, .int .i64 0]) ?_ 9 _ rfl; (with_reducible repeat (first | refine kn_ ?_ _ | refine kd_ ?_ | refine ka_ ?_ _)); refine blk_put (cs := #[.int .i64 t1355, .int .i64 t1356, .slice Ao31 t1357.length co31, .int .i64 t1360, .int .i64 t1361, .string t1362, .slice Ao32 t1363.length co32, .int .i64 t1366, .slice none 0 0, .slice none 0 0, .int .i64 0, .int .i64 0]) ?_ 8 _ rfl; (with_reducible repeat (first | refine kn_ ?_ _ | refine kd_ ?_ | refine ka_ ?_ _)); refine blk_put (cs := #[.int .i64 t1355, .int .i64 t1356, .slice Ao31 t1357.length co31, .int .i64 t1360, .int .i64 t1361, .string t1362, .slice Ao32 t1363.length co32, .int .i64 0, .slice none 0 0, .slice none 0 0, .int .i64 0, .int .i64 0]) ?_ 7 _ rfl; (with_reducible repeat (first | refine kn_ ?_ _ | refine kd_ ?_ | refine ka_ ?_ _)); refine blk_put (cs := #[.int .i64 t1355, .int .i64 t1356, .slice Ao31 t1357.length co31, .int .i64 t1360, .int .i64 t1361, .string t1362, .slice none 0 0, .int .i64 0, .slice none 0 0, .slice none 0 0, .int .i64 0, .int .i64 0]) ?_ 6 _ rfl; (with_reducible repeat (first | refine kn_ ?_ _ | refine kd_ ?_ | refine ka_ ?_ _)); refine blk_put (cs := #[.int .i64 t1355, .int .i64 t1356, .slice Ao31 t1357.length co31, .int .i64 t1360, .int .i64 t1361, .string (⟨#[]⟩ : ByteArray), .slice none 0 0, .int .i64 0, .slice none 0 0, .slice none 0 0, .int .i64 0, .int .i64 0]) ?_ 5 _ rfl; (with_reducible repeat (first | refine kn_ ?_ _ | refine kd_ ?_ | refine ka_ ?_ _)); refine blk_put (cs := #[.int .i64 t1355, .int .i64 t1356, .slice Ao31 t1357.length co31, .int .i64 t1360, .int .i64 0, .string (⟨#[]⟩ : ByteArray), .slice none 0 0, .int .i64 0, .slice none 0 0, .slice none 0 0, .int .i64 0, .int .i64 0]) ?_ 4 _ rfl; (with_reducible repeat (first | refine kn_ ?_ _ | refine kd_ ?_ | refine ka_ ?_ _)); refine blk_put (cs := #[.int .i64 t1355, .int .i64 t1356, .slice Ao31 t1357.length co31, .int .i64 0, .int .i64 0, .string (⟨#[]⟩ : ByteArray), .slice none 0 0, .int .i64 0, .slice none 0 0, .slice none 0 0, .int .i64 0, .int .i64 0]) ?_ 3 _ rfl; (with_reducible repeat (first | refine kn_ ?_ _ | refine kd_ ?_ | refine ka_ ?_ _)); refine blk_put (cs := #[.int .i64 t1355, .int .i64 t1356, .slice none 0 0, .int .i64 0, .int .i64 0, .string (⟨#[]⟩ : ByteArray), .slice none 0 0, .int .i64 0, .slice none 0 0, .slice none 0 0, .int .i64 0, .int .i64 0]) ?_ 2 _ rfl; (with_reducible repeat (first | refine kn_ ?_ _ | refine kd_ ?_ | refine ka_ ?_ _)); refine blk_put (cs := #[.int .i64 t1355, .int .i64 0, .slice none 0 0, .int .i64 0, .int .i64 0, .string (⟨#[]⟩ : ByteArray), .slice none 0 0, .int .i64 0, .slice none 0 0, .slice none 0 0, .int .i64 0, .int .i64 0]) ?_ 1 _ rfl; (with_reducible repeat (first | refine kn_ ?_ _ | refine kd_ ?_ | refine ka_ ?_ _)); refine blk_put (cs := #[.int .i64 0, .int .i64 0, .slice none 0 0, .int .i64 0, .int .i64 0, .string (⟨#[]⟩ : ByteArray), .slice none 0 0, .int .i64 0, .slice none 0 0, .slice none 0 0, .int .i64 0, .int .i64 0]) ?_ 0 _ rfl; (with_reducible repeat (first | refine kn_ ?_ _ | refine kd_ ?_ | refine ka_ ?_ _)); exact BK1375.out) hb); have n10_ := Aside0.mk (below_step (by repeat (first | (with_reducible first | exact HB.out | apply ba_ | apply bn_ | apply bd_ | refine below_set ?_ GE1332.out | refine below_set ?_ GE1375.out) | exact HB.out)) hb); clear HO1338 HO1344 HO1348 HO1351 HO1359 HO1365 HO1369 HO1372 BK1332 BK1375 HB; have HO1338 := n0_; have HO1344 := n1_; have HO1348 := n2_; have HO1351 := n3_; have HO1359 := n4_; have HO1365 := n5_; have HO1369 := n6_; have HO1372 := n7_; have BK1332 := n8_; have BK1375 := n9_; have HB := n10_; clear n0_ n1_ n2_ n3_ n4_ n5_ n6_ n7_ n8_ n9_ n10_; (try clear hb); (try clear hb2); (try clear hk); (try clear hi)))
  have n0_ := Aside0.mk (Kd.R_drew HO1338.out)
  have n1_ := Aside0.mk (Kd.R_drew HO1344.out)
  have n2_ := Aside0.mk (Kd.R_drew HO1348.out)
  have n3_ := Aside0.mk (Kd.S_drew HO1351.out)
  have n4_ := Aside0.mk (Kd.R_drew HO1359.out)
  have n5_ := Aside0.mk (Kd.R_drew HO1365.out)
  have n6_ := Aside0.mk (Kd.R_drew HO1369.out)
  have n7_ := Aside0.mk (Kd.S_drew HO1372.out)
  have n8_ := Aside0.mk (blk_drew BK1332.out)
  have n9_ := Aside0.mk (blk_drew BK1375.out)
  have n10_ := Aside0.mk (bd_ HB.out)
  clear HO1338 HO1344 HO1348 HO1351 HO1359 HO1365 HO1369 HO1372 BK1332 BK1375 HB
  have HO1338 := n0_
  have HO1344 := n1_
  have HO1348 := n2_
  have HO1351 := n3_
  have HO1359 := n4_
  have HO1365 := n5_
  have HO1369 := n6_
  have HO1372 := n7_
  have BK1332 := n8_
  have BK1375 := n9_
  have HB := n10_
  clear n0_ n1_ n2_ n3_ n4_ n5_ n6_ n7_ n8_ n9_ n10_
  refine start_ (n := 5) (S := fun w' => w'.cell? ⟨gb1375, 0, none⟩ = some (.int .i64 t1355) ∧ w'.cell? ⟨gb1375, 1, none⟩ = some (.int .i64 t1356) ∧ w'.cell? ⟨gb1375, 2, none⟩ = some (.slice Ao31 t1357.length co31) ∧ w'.cell? ⟨gb1375, 3, none⟩ = some (.int .i64 t1360) ∧ w'.cell? ⟨gb1375, 4, none⟩ = some (.int .i64 t1361) ∧ w'.cell? ⟨gb1375, 5, none⟩ = some (.string t1362) ∧ w'.cell? ⟨gb1375, 6, none⟩ = some (.slice Ao32 t1363.length co32) ∧ w'.cell? ⟨gb1375, 7, none⟩ = some (.int .i64 t1366) ∧ w'.cell? ⟨gb1375, 8, none⟩ = some (.slice Ao33 t1367.length co33) ∧ w'.cell? ⟨gb1375, 9, none⟩ = some (.slice Ao34 t1370.length co34) ∧ w'.cell? ⟨gb1375, 10, none⟩ = some (.int .i64 t1373) ∧ w'.cell? ⟨gb1375, 11, none⟩ = some (.int .i64 t1374) ∧ w'.cell? ⟨gb1332, 0, none⟩ = some (.int .i64 a0_0) ∧ w'.cell? ⟨gb1332, 1, none⟩ = some (.int .i64 a0_1) ∧ w'.cell? ⟨gb1332, 2, none⟩ = some (.slice A0_2 l0_2.length c0_2) ∧ w'.cell? ⟨gb1332, 3, none⟩ = some (.int .i64 a0_3) ∧ w'.cell? ⟨gb1332, 4, none⟩ = some (.int .i64 a0_4) ∧ w'.cell? ⟨gb1332, 5, none⟩ = some (.string a0_5) ∧ w'.cell? ⟨gb1332, 6, none⟩ = some (.slice A0_6 l0_6.length c0_6) ∧ w'.cell? ⟨gb1332, 7, none⟩ = some (.int .i64 a0_7) ∧ w'.cell? ⟨gb1332, 8, none⟩ = some (.slice A0_8 l0_8.length c0_8) ∧ w'.cell? ⟨gb1332, 9, none⟩ = some (.slice A0_9 l0_9.length c0_9) ∧ w'.cell? ⟨gb1332, 10, none⟩ = some (.int .i64 a0_10) ∧ w'.cell? ⟨gb1332, 11, none⟩ = some (.int .i64 a0_11)) (ds := []) #[f_,f_,f_,f_,f_] (by kernel_rfl) rfl rfl ⟨bx_ BK1375.out 0, bx_ BK1375.out 1, bx_ BK1375.out 2, bx_ BK1375.out 3, bx_ BK1375.out 4, bx_ BK1375.out 5, bx_ BK1375.out 6, bx_ BK1375.out 7, bx_ BK1375.out 8, bx_ BK1375.out 9, bx_ BK1375.out 10, bx_ BK1375.out 11, bx_ BK1332.out 0, bx_ BK1332.out 1, bx_ BK1332.out 2, bx_ BK1332.out 3, bx_ BK1332.out 4, bx_ BK1332.out 5, bx_ BK1332.out 6, bx_ BK1332.out 7, bx_ BK1332.out 8, bx_ BK1332.out 9, bx_ BK1332.out 10, bx_ BK1332.out 11⟩ (fun hHeld => ?_)
  generalize w35.drew = w36 at HO1338 HO1344 HO1348 HO1351 HO1359 HO1365 HO1369 HO1372 BK1332 BK1375 HB hHeld ⊢
  refine take_ (i := 0) (N := some 26) (v := ?_) (a' := ?_) #[t_,f_,f_,f_,f_] rfl rfl (by kernel_rfl) (fun _ _ _ h => h) (Or.inl ⟨by rfl, ?_⟩) hHeld ?_ ?_
  rotate_left
  ·
   rintro w' ⟨s0, s1, s2, s3, s4, s5, s6, s7, s8, s9, s10, s11, s12, s13, s14, s15, s16, s17, s18, s19, s20, s21, s22, s23⟩
   go_simp
   with_reducible rfl
  rotate_left
  ·
   simp only [fr_]
   rfl
  refine take_ (i := 1) (N := some 27) (v := ?_) (a' := ?_) #[t_,t_,f_,f_,f_] rfl rfl (by kernel_rfl) (fun _ _ _ h => h) (Or.inl ⟨by rfl, ?_⟩) hHeld ?_ ?_
  rotate_left
  ·
   rintro w' ⟨s0, s1, s2, s3, s4, s5, s6, s7, s8, s9, s10, s11, s12, s13, s14, s15, s16, s17, s18, s19, s20, s21, s22, s23⟩
   go_simp
   with_reducible rfl
  rotate_left
  ·
   simp only [fr_]
   rfl
  refine one_ (i := 2) (N := some 28) #[t_,t_,t_,f_,f_] rfl rfl (by kernel_rfl) (by decide) (fun K hK => ?_)
  refine goes_ Try.func67 (by kernel_rfl) rfl #[.agg #[.int .i64 a0_0, .int .i64 a0_1, .slice A0_2 l0_2.length c0_2, .int .i64 a0_3, .int .i64 a0_4, .string a0_5, .slice A0_6 l0_6.length c0_6, .int .i64 a0_7, .slice A0_8 l0_8.length c0_8, .slice A0_9 l0_9.length c0_9, .int .i64 a0_10, .int .i64 a0_11]] (by rfl) rfl rfl (by (try simp only [mp_]); first | done | rfl | (simp only [List.length_drop, List.length_take]; rfl)) ?_
  with_reducible refine (laws_toTask.calls k a0_0 a0_1 _ _ l0_2 a0_3 a0_4 a0_5 _ _ l0_6 a0_7 _ _ l0_8 _ _ l0_9 a0_10 a0_11 t1377 t1378 t1379 t1382 t1383 t1384 t1385 t1388 t1389 t1392 t1395 t1396 _ ?side1 ?side2 ?side3 ?side4 ?side5 ?side6 ?side7 ?side8 A13.out).mono ?_
  (case side1 => repeat (first | exact (Kd.C_below HR0_2.out HB.out) | (with_reducible first | refine ca_ ?_ _ | refine cn_ ?_ _ | refine cd_ ?_)))
  (case side2 => exact HC0_2.out)
  (case side3 => repeat (first | exact (Kd.C_below HR0_6.out HB.out) | (with_reducible first | refine ca_ ?_ _ | refine cn_ ?_ _ | refine cd_ ?_)))
  (case side4 => exact HC0_6.out)
  (case side5 => repeat (first | exact (Kd.C_below HR0_8.out HB.out) | (with_reducible first | refine ca_ ?_ _ | refine cn_ ?_ _ | refine cd_ ?_)))
  (case side6 => exact HC0_8.out)
  (case side7 => repeat (first | exact (Kd.C_below HR0_9.out HB.out) | (with_reducible first | refine ca_ ?_ _ | refine cn_ ?_ _ | refine cd_ ?_)))
  (case side8 => exact HC0_9.out)
  rintro e w37 ⟨v1380, v1386, v1390, v1393, rfl, ho0, ho1, ho2, ho3, hb⟩
  refine ⟨_, rfl, ?_⟩
  have n0_ := Aside0.mk (Kd.R_mono (Kd.R_told (Kd.R_told (Kd.R_old (rp_ HO1338.out) hb) (Kd.R_base ho0)) (Kd.R_base ho1)) (fun _ h_ => h_.1))
  have n1_ := Aside0.mk (Kd.R_mono (Kd.R_told (Kd.R_told (Kd.R_old (rp_ HO1344.out) hb) (Kd.R_base ho0)) (Kd.R_base ho1)) (fun _ h_ => h_.1))
  have n2_ := Aside0.mk (Kd.R_elder' (rp_ HO1348.out) (Kd.R_base ho2) hb)
  have n3_ := Aside0.mk (Kd.S_mono (Kd.S_told (Kd.S_told (Kd.S_told (Kd.S_old (sp_ HO1351.out) hb) (Kd.R_base ho0)) (Kd.R_base ho1)) (Kd.S_base ho3)) (fun _ h_ => h_.1))
  have n4_ := Aside0.mk (Kd.R_mono (Kd.R_told (Kd.R_told (Kd.R_old (rp_ HO1359.out) hb) (Kd.R_base ho0)) (Kd.R_base ho1)) (fun _ h_ => h_.1))
  have n5_ := Aside0.mk (Kd.R_mono (Kd.R_told (Kd.R_told (Kd.R_old (rp_ HO1365.out) hb) (Kd.R_base ho0)) (Kd.R_base ho1)) (fun _ h_ => h_.1))
  have n6_ := Aside0.mk (Kd.R_elder' (rp_ HO1369.out) (Kd.R_base ho2) hb)
  have n7_ := Aside0.mk (Kd.S_mono (Kd.S_told (Kd.S_told (Kd.S_told (Kd.S_old (sp_ HO1372.out) hb) (Kd.R_base ho0)) (Kd.R_base ho1)) (Kd.S_base ho3)) (fun _ h_ => h_.1))
  have n8_ := Aside0.mk (Kd.R_lower (Kd.R_new' (Kd.R_new' (Kd.R_new' (Kd.R_new' ho0 (Kd.R_lt (rp_ HO1338.out))) (Kd.R_lt (rp_ HO1344.out))) (Kd.R_lt (rp_ HO1359.out))) (Kd.R_lt (rp_ HO1365.out))) (below_size (by repeat (first | (with_reducible first | exact HB.out | apply ba_ | apply bn_ | apply bd_ | refine below_set ?_ GE1332.out | refine below_set ?_ GE1375.out) | exact HB.out))))
  have n9_ := Aside0.mk (Kd.R_lower (Kd.R_new' (Kd.R_new' (Kd.R_new' (Kd.R_new' ho1 (Kd.R_lt (rp_ HO1338.out))) (Kd.R_lt (rp_ HO1344.out))) (Kd.R_lt (rp_ HO1359.out))) (Kd.R_lt (rp_ HO1365.out))) (below_size (by repeat (first | (with_reducible first | exact HB.out | apply ba_ | apply bn_ | apply bd_ | refine below_set ?_ GE1332.out | refine below_set ?_ GE1375.out) | exact HB.out))))
  have n10_ := Aside0.mk (Kd.R_lower (Kd.R_new' (Kd.R_new' ho2 (Kd.R_lt (rp_ HO1348.out))) (Kd.R_lt (rp_ HO1369.out))) (below_size (by repeat (first | (with_reducible first | exact HB.out | apply ba_ | apply bn_ | apply bd_ | refine below_set ?_ GE1332.out | refine below_set ?_ GE1375.out) | exact HB.out))))
  have n11_ := Aside0.mk (Kd.S_lower (Kd.S_new' (Kd.S_new' (Kd.S_new' (Kd.S_new' (Kd.S_new' (Kd.S_new' ho3 (Kd.R_lt (rp_ HO1338.out))) (Kd.R_lt (rp_ HO1344.out))) (Kd.S_lt (sp_ HO1351.out))) (Kd.R_lt (rp_ HO1359.out))) (Kd.R_lt (rp_ HO1365.out))) (Kd.S_lt (sp_ HO1372.out))) (below_size (by repeat (first | (with_reducible first | exact HB.out | apply ba_ | apply bn_ | apply bd_ | refine below_set ?_ GE1332.out | refine below_set ?_ GE1375.out) | exact HB.out))))
  have n12_ := Aside0.mk (bb_ BK1332.out hb)
  have n13_ := Aside0.mk (bb_ BK1375.out hb)
  have n14_ := Aside0.mk (below_step (by repeat (first | (with_reducible first | exact HB.out | apply ba_ | apply bn_ | apply bd_ | refine below_set ?_ GE1332.out | refine below_set ?_ GE1375.out) | exact HB.out)) hb)
  clear HO1338 HO1344 HO1348 HO1351 HO1359 HO1365 HO1369 HO1372 BK1332 BK1375 HB
  have HO1338 := n0_
  have HO1344 := n1_
  have HO1348 := n2_
  have HO1351 := n3_
  have HO1359 := n4_
  have HO1365 := n5_
  have HO1369 := n6_
  have HO1372 := n7_
  have HO1381 := n8_
  have HO1387 := n9_
  have HO1391 := n10_
  have HO1394 := n11_
  have BK1332 := n12_
  have BK1375 := n13_
  have HB := n14_
  clear n0_ n1_ n2_ n3_ n4_ n5_ n6_ n7_ n8_ n9_ n10_ n11_ n12_ n13_ n14_
  (try clear hb)
  (try clear hb2)
  (try clear hk)
  (try clear hi)
  (try clear ho0)
  (try clear ho1)
  (try clear ho2)
  (try clear ho3)
  obtain ⟨Ao38, co38, eo38⟩ := Kd.R_slice HO1381.out
  (first | subst eo38 | (injection eo38 with f1_ f2_ f3_; have f4_ := f1_.symm; have f5_ := f3_.symm; clear f1_ f2_ f3_; subst f4_; subst f5_))
  obtain ⟨Ao39, co39, eo39⟩ := Kd.R_slice HO1387.out
  (first | subst eo39 | (injection eo39 with f1_ f2_ f3_; have f4_ := f1_.symm; have f5_ := f3_.symm; clear f1_ f2_ f3_; subst f4_; subst f5_))
  obtain ⟨Ao40, co40, eo40⟩ := Kd.R_slice HO1391.out
  (first | subst eo40 | (injection eo40 with f1_ f2_ f3_; have f4_ := f1_.symm; have f5_ := f3_.symm; clear f1_ f2_ f3_; subst f4_; subst f5_))
  obtain ⟨Ao41, co41, eo41⟩ := Kd.S_slice HO1394.out
  (first | subst eo41 | (injection eo41 with f1_ f2_ f3_; have f4_ := f1_.symm; have f5_ := f3_.symm; clear f1_ f2_ f3_; subst f4_; subst f5_))
  refine hK.out _ _ ⟨bx_ BK1375.out 0, bx_ BK1375.out 1, bx_ BK1375.out 2, bx_ BK1375.out 3, bx_ BK1375.out 4, bx_ BK1375.out 5, bx_ BK1375.out 6, bx_ BK1375.out 7, bx_ BK1375.out 8, bx_ BK1375.out 9, bx_ BK1375.out 10, bx_ BK1375.out 11, bx_ BK1332.out 0, bx_ BK1332.out 1, bx_ BK1332.out 2, bx_ BK1332.out 3, bx_ BK1332.out 4, bx_ BK1332.out 5, bx_ BK1332.out 6, bx_ BK1332.out 7, bx_ BK1332.out 8, bx_ BK1332.out 9, bx_ BK1332.out 10, bx_ BK1332.out 11⟩ (fun hHeld => ?_)
  clear hK K
  refine norm_ (a' := ?_) ?_ ?_
  rotate_left
  ·
   show Act.put _ (some 28) _ = _
   simp only [fr_]
   rfl
  refine one_ (i := 3) (N := some 29) #[t_,t_,t_,t_,f_] rfl rfl (by kernel_rfl) (by decide) (fun K hK => ?_)
  refine goes_ Try.func69 (by kernel_rfl) rfl #[.agg #[.int .i64 t1355, .int .i64 t1356, .slice Ao31 t1357.length co31, .int .i64 t1360, .int .i64 t1361, .string t1362, .slice Ao32 t1363.length co32, .int .i64 t1366, .slice Ao33 t1367.length co33, .slice Ao34 t1370.length co34, .int .i64 t1373, .int .i64 t1374], .agg #[.int .i64 t1377, .int .i64 t1378, .slice Ao38 t1379.length co38, .int .i64 t1382, .int .i64 t1383, .string t1384, .slice Ao39 t1385.length co39, .int .i64 t1388, .slice Ao40 t1389.length co40, .slice Ao41 t1392.length co41, .int .i64 t1395, .int .i64 t1396]] (by rfl) rfl rfl (by (try simp only [mp_]); first | done | rfl | (simp only [List.length_drop, List.length_take]; rfl)) ?_
  with_reducible refine (laws_eqTask.calls k t1355 t1356 _ _ t1357 t1360 t1361 t1362 _ _ t1363 t1366 _ _ t1367 _ _ t1370 t1373 t1374 t1377 t1378 _ _ t1379 t1382 t1383 t1384 _ _ t1385 t1388 _ _ t1389 _ _ t1392 t1395 t1396 true _ ?side1 ?side2 ?side3 ?side4 ?side5 ?side6 ?side7 ?side8 ?side9 ?side10 ?side11 ?side12 ?side13 ?side14 ?side15 ?side16 A14.out).mono ?_
  (case side1 => repeat (first | exact (Kd.R_reads' HO1359.out).2.2 | (with_reducible first | refine ca_ ?_ _ | refine cn_ ?_ _ | refine cd_ ?_)))
  (case side2 => exact (Kd.R_reads' HO1359.out).2.1)
  (case side3 => repeat (first | exact (Kd.R_reads' HO1365.out).2.2 | (with_reducible first | refine ca_ ?_ _ | refine cn_ ?_ _ | refine cd_ ?_)))
  (case side4 => exact (Kd.R_reads' HO1365.out).2.1)
  (case side5 => repeat (first | exact (Kd.R_reads' HO1369.out).2.2 | (with_reducible first | refine ca_ ?_ _ | refine cn_ ?_ _ | refine cd_ ?_)))
  (case side6 => exact (Kd.R_reads' HO1369.out).2.1)
  (case side7 => repeat (first | exact (Kd.S_reads' HO1372.out).2.2 | (with_reducible first | refine ca_ ?_ _ | refine cn_ ?_ _ | refine cd_ ?_)))
  (case side8 => exact (Kd.S_reads' HO1372.out).2.1)
  (case side9 => repeat (first | exact (Kd.R_reads' HO1381.out).2.2 | (with_reducible first | refine ca_ ?_ _ | refine cn_ ?_ _ | refine cd_ ?_)))
  (case side10 => exact (Kd.R_reads' HO1381.out).2.1)
  (case side11 => repeat (first | exact (Kd.R_reads' HO1387.out).2.2 | (with_reducible first | refine ca_ ?_ _ | refine cn_ ?_ _ | refine cd_ ?_)))
  (case side12 => exact (Kd.R_reads' HO1387.out).2.1)
  (case side13 => repeat (first | exact (Kd.R_reads' HO1391.out).2.2 | (with_reducible first | refine ca_ ?_ _ | refine cn_ ?_ _ | refine cd_ ?_)))
  (case side14 => exact (Kd.R_reads' HO1391.out).2.1)
  (case side15 => repeat (first | exact (Kd.S_reads' HO1394.out).2.2 | (with_reducible first | refine ca_ ?_ _ | refine cn_ ?_ _ | refine cd_ ?_)))
  (case side16 => exact (Kd.S_reads' HO1394.out).2.1)
  rintro e w42 ⟨rfl, hb⟩
  refine ⟨_, rfl, ?_⟩
  have n0_ := Aside0.mk (Kd.R_below (rp_ HO1338.out) hb)
  have n1_ := Aside0.mk (Kd.R_below (rp_ HO1344.out) hb)
  have n2_ := Aside0.mk (Kd.R_below (rp_ HO1348.out) hb)
  have n3_ := Aside0.mk (Kd.S_below (sp_ HO1351.out) hb)
  have n4_ := Aside0.mk (Kd.R_below (rp_ HO1359.out) hb)
  have n5_ := Aside0.mk (Kd.R_below (rp_ HO1365.out) hb)
  have n6_ := Aside0.mk (Kd.R_below (rp_ HO1369.out) hb)
  have n7_ := Aside0.mk (Kd.S_below (sp_ HO1372.out) hb)
  have n8_ := Aside0.mk (Kd.R_below (rp_ HO1381.out) hb)
  have n9_ := Aside0.mk (Kd.R_below (rp_ HO1387.out) hb)
  have n10_ := Aside0.mk (Kd.R_below (rp_ HO1391.out) hb)
  have n11_ := Aside0.mk (Kd.S_below (sp_ HO1394.out) hb)
  have n12_ := Aside0.mk (bb_ BK1332.out hb)
  have n13_ := Aside0.mk (bb_ BK1375.out hb)
  have n14_ := Aside0.mk (below_step (by repeat (first | (with_reducible first | exact HB.out | apply ba_ | apply bn_ | apply bd_ | refine below_set ?_ GE1332.out | refine below_set ?_ GE1375.out) | exact HB.out)) hb)
  clear HO1338 HO1344 HO1348 HO1351 HO1359 HO1365 HO1369 HO1372 HO1381 HO1387 HO1391 HO1394 BK1332 BK1375 HB
  have HO1338 := n0_
  have HO1344 := n1_
  have HO1348 := n2_
  have HO1351 := n3_
  have HO1359 := n4_
  have HO1365 := n5_
  have HO1369 := n6_
  have HO1372 := n7_
  have HO1381 := n8_
  have HO1387 := n9_
  have HO1391 := n10_
  have HO1394 := n11_
  have BK1332 := n12_
  have BK1375 := n13_
  have HB := n14_
  clear n0_ n1_ n2_ n3_ n4_ n5_ n6_ n7_ n8_ n9_ n10_ n11_ n12_ n13_ n14_
  (try clear hb)
  (try clear hb2)
  (try clear hk)
  (try clear hi)
  refine hK.out _ _ ⟨bx_ BK1375.out 0, bx_ BK1375.out 1, bx_ BK1375.out 2, bx_ BK1375.out 3, bx_ BK1375.out 4, bx_ BK1375.out 5, bx_ BK1375.out 6, bx_ BK1375.out 7, bx_ BK1375.out 8, bx_ BK1375.out 9, bx_ BK1375.out 10, bx_ BK1375.out 11, bx_ BK1332.out 0, bx_ BK1332.out 1, bx_ BK1332.out 2, bx_ BK1332.out 3, bx_ BK1332.out 4, bx_ BK1332.out 5, bx_ BK1332.out 6, bx_ BK1332.out 7, bx_ BK1332.out 8, bx_ BK1332.out 9, bx_ BK1332.out 10, bx_ BK1332.out 11⟩ (fun hHeld => ?_)
  clear hK K
  refine norm_ (a' := ?_) ?_ ?_
  rotate_left
  ·
   show Act.put _ (some 29) _ = _
   simp only [fr_]
   rfl
  refine pure_ (i := 4) (N := some 30) (v := ?_) (a' := ?_) #[t_,t_,t_,t_,t_] rfl rfl (by kernel_rfl) (fun _ _ _ h => h) (Or.inl ⟨by rfl, ?_⟩) ?_ ?_
  rotate_left
  ·
   intro w'
   go_simp
   with_reducible rfl
  rotate_left
  ·
   simp only [fr_]
   rfl
  refine done_ (by kernel_rfl) ?_
  try go_wp2
  go_ret
  exact ⟨by first | rfl | (simp [errW_none, errW_some] <;> rfl) | (simp [*, errW_none, errW_some] <;> rfl), by repeat (first | (with_reducible first | exact HB.out | apply ba_ | apply bn_ | apply bd_ | refine below_set ?_ GE1332.out | refine below_set ?_ GE1375.out) | exact HB.out)⟩
 replace c15 := Bool.eq_false_iff.mpr c15
 subst c15
 rw [if_neg (show ¬ (false = true) by decide)] at H
 exact absurd H (by simp)
end Go.Proofs.Ytfholjcelnkleaa.Print
end
section
namespace Go.Proofs.Ytfholjcelnkleaa.Print
open Go.RowKit Go.Proofs.YtfholjcelnkleaaV.PrintWords Go.Proofs.YtfholjcelnkleaaV.PrintLast Go.Proofs.YtfholjcelnkleaaV.PrintMore
set_option linter.unusedVariables false
/-- The pure statement of laws_FnExactTaskOk. -/
def laws_FnExactTaskOk.Pure : Prop := ∀ (a0_0 : Int) (a0_1 : Int) (l0_2 : List (S163)) (a0_3 : Int) (a0_4 : Int) (a0_5 : ByteArray) (l0_6 : List (S163)) (a0_7 : Int) (l0_8 : List Int) (l0_9 : List (S34)) (a0_10 : Int) (a0_11 : Int) (a1 : Int), (Lit.int .i64 a0_0).wf = true → (Lit.int .i64 a0_1).wf = true → (l0_2.length ≤ maxLen ∧ ∀ y ∈ l0_2, B163 y) → (Lit.int .i64 a0_3).wf = true → (Lit.int .i64 a0_4).wf = true → a0_5.size ≤ maxLen → (l0_6.length ≤ maxLen ∧ ∀ y ∈ l0_6, B163 y) → (Lit.int .i64 a0_7).wf = true → (l0_8.length ≤ maxLen ∧ ∀ y ∈ l0_8, (Lit.int .i64 y).wf = true) → (l0_9.length ≤ maxLen ∧ ∀ y ∈ l0_9, B34 y) → (Lit.int .i64 a0_10).wf = true → (Lit.int .i64 a0_11).wf = true → (Lit.int .i64 a1).wf = true → ∃ k, laws_FnExactTaskOk.f k a0_0 a0_1 l0_2 a0_3 a0_4 a0_5 l0_6 a0_7 l0_8 l0_9 a0_10 a0_11 a1 = some true
end Go.Proofs.Ytfholjcelnkleaa.Print
end
section
namespace Go.Proofs.Ytfholjcelnkleaa.Print
open Go.RowKit Go.Proofs.YtfholjcelnkleaaV.PrintWords Go.Proofs.YtfholjcelnkleaaV.PrintLast Go.Proofs.YtfholjcelnkleaaV.PrintMore
set_option linter.unusedVariables false
set_option linter.unusedSimpArgs false
theorem wrap_id {x : Int} (h1 : -9223372036854775808 ≤ x) (h2 : x ≤ 9223372036854775807) : wrap64 x = x := by unfold wrap64; omega
theorem wrap_up (n : Nat) (h : n < 9223372036854775807) : wrap64 ((n : Int) + 1) = ((n + 1 : Nat) : Int) := by unfold wrap64; omega
theorem lt_mid {α : Type} (pre suf : List α) (y : α) : (pre.length : Int) < ((pre ++ y :: suf).length : Int) := by simp only [List.length_append, List.length_cons]; omega
theorem not_lt_end {α : Type} (pre : List α) : ¬ ((pre.length : Int) < ((pre ++ []).length : Int)) := by simp
theorem nn (n : Nat) : (0 : Int) ≤ (n : Int) := by omega
theorem mid_assoc {α : Type} (pre suf : List α) (y : α) : pre ++ y :: suf = (pre ++ [y]) ++ suf := by simp
def cvLabel (x : S163) : S164 := ⟨x.f0, x.f1⟩
def WLabel (x : S163) : Prop := x.f0.size ≤ 1048576 ∧ x.f1.size ≤ 1048576
def WiLabel (x : S164) : Prop := x.f0.size ≤ 4000000 ∧ x.f1.size ≤ 4000000
theorem Wi_cvLabel {x : S163} (h : WLabel x) : WiLabel (cvLabel x) := ⟨Nat.le_trans h.1 (by decide), Nat.le_trans h.2 (by decide)⟩
theorem szLabel_ev (x : S163) (hB : B163 x) (n : Int) (h0 : 0 ≤ n) (h1 : n ≤ 1048576) : ∃ r, Ev (fun k => laws_szLabel.f x.f0 x.f1 n) r ∧ r ≤ n ∧ (0 ≤ r → WLabel x) := by
  have q1 : x.f0.size ≤ 9223372036854775807 := hB.1
  have e1 : wrap64 (n - (x.f0.size : Int)) = n - (x.f0.size : Int) := wrap_id (by omega) (by omega)
  by_cases c1 : n - (x.f0.size : Int) < 0
  · exact ⟨-1, ⟨0, fun k hk => by simp [laws_szLabel.f, e1, c1]⟩, by omega, by omega⟩
  have q2 : x.f1.size ≤ 9223372036854775807 := hB.2
  have e2 : wrap64 ((n - (x.f0.size : Int)) - (x.f1.size : Int)) = (n - (x.f0.size : Int)) - (x.f1.size : Int) := wrap_id (by omega) (by omega)
  by_cases c2 : (n - (x.f0.size : Int)) - (x.f1.size : Int) < 0
  · exact ⟨-1, ⟨0, fun k hk => by simp [laws_szLabel.f, e1, c1, e2, c2]⟩, by omega, by omega⟩
  exact ⟨((n - (x.f0.size : Int)) - (x.f1.size : Int)), ⟨0, fun k hk => by simp [laws_szLabel.f, e1, c1, e2, c2]⟩, by omega, fun _ => ⟨(by omega), (by omega)⟩⟩
theorem toLabel_ev (x : S163) (h : WLabel x) : Ev (fun k => laws_toLabel.f x.f0 x.f1) ((cvLabel x).f0, (cvLabel x).f1) := by
  exact ⟨0, fun k hk => by simp [laws_toLabel.f, cvLabel]⟩
theorem eqLabel_ev (x : S164) (h : WiLabel x) : Ev (fun k => laws_eqLabel.f x.f0 x.f1 x.f0 x.f1) true := by
  exact ⟨0, fun k hk => by simp [laws_eqLabel.f]⟩
theorem rdmidLabell (pre suf : List S163) (y : S163) : rd_T163 (pre ++ y :: suf) (pre.length : Int) = y := by unfold rd_T163; simp
theorem rdmidLabeli (pre suf : List S164) (y : S164) : rd_T164 (pre ++ y :: suf) (pre.length : Int) = y := by unfold rd_T164; simp
theorem szLabelS_l0 : ∀ (suf pre : List S163) (n : Int), 0 ≤ n → n ≤ 1048576 → (∀ y ∈ suf, B163 y) → (pre ++ suf).length < 4611686018427387904 → ∃ r, Ev (fun k => laws_szLabelS.l0 k (pre ++ suf) n (pre.length : Int)) r ∧ r ≤ n ∧ (0 ≤ r → ∀ y ∈ suf, WLabel y)
  | [], pre, n, h0, h1, hB, h => by
    refine ⟨n, Ev.step (f := fun _ => some n) (fun k => ?_) (Ev.now _), Int.le_refl _, fun _ y hy => by cases hy⟩
    simp only [laws_szLabelS.l0]
    rw [if_neg (not_lt_end pre)]
  | y :: suf, pre, n, h0, h1, hB, h => by
    have hp : pre.length < 4611686018427387904 := by simp at h; omega
    have hy := hB y List.mem_cons_self
    obtain ⟨r1, g1, l1, w1⟩ := szLabel_ev y hy n h0 h1
    by_cases c : r1 < 0
    · refine ⟨-1, Ev.step (f := fun k => (laws_szLabel.f y.f0 y.f1 n).bind fun t => if t < 0 then some (-1) else laws_szLabelS.l0 k (pre ++ y :: suf) t (wrap64 ((pre.length : Int) + 1))) (fun k => ?_) (Ev.bind g1 ?_), by omega, by omega⟩
      · simp only [laws_szLabelS.l0]
        rw [if_pos (lt_mid pre suf y), if_pos (nn _), rdmidLabell]
      · simp only [if_pos c]
        exact Ev.now _
    · obtain ⟨r, g, hl, hw⟩ := szLabelS_l0 suf (pre ++ [y]) r1 (by omega) (by omega) (fun z hz => hB z (List.mem_cons_of_mem _ hz)) (by simpa using h)
      refine ⟨r, Ev.step (f := fun k => (laws_szLabel.f y.f0 y.f1 n).bind fun t => if t < 0 then some (-1) else laws_szLabelS.l0 k ((pre ++ [y]) ++ suf) t ((pre ++ [y]).length : Int)) (fun k => ?_) (Ev.bind g1 ?_), by omega, fun hr z hz => ?_⟩
      · simp only [laws_szLabelS.l0]
        rw [if_pos (lt_mid pre suf y), if_pos (nn _), rdmidLabell, wrap_up _ (by omega)]
        simp
      · simp only [if_neg c]
        exact g
      · rcases List.mem_cons.1 hz with rfl | hz
        · exact w1 (by omega)
        · exact hw hr z hz
theorem szLabelS_ev (l : List S163) (hB : l.length ≤ maxLen ∧ ∀ y ∈ l, B163 y) (n : Int) (h0 : 0 ≤ n) (h1 : n ≤ 1048576) : ∃ r, Ev (fun k => laws_szLabelS.f k l n) r ∧ r ≤ n ∧ (0 ≤ r → l.length ≤ 1048576 ∧ ∀ y ∈ l, WLabel y) := by
  have q : l.length ≤ 9223372036854775807 := hB.1
  have e : wrap64 (n - (l.length : Int)) = n - (l.length : Int) := wrap_id (by omega) (by omega)
  by_cases c : n - (l.length : Int) < 0
  · exact ⟨-1, ⟨0, fun k _ => by simp [laws_szLabelS.f, e, c]⟩, by omega, by omega⟩
  · obtain ⟨r, g, hl, hw⟩ := szLabelS_l0 l [] (n - (l.length : Int)) (by omega) (by omega) hB.2 (by simp; omega)
    refine ⟨r, Ev.congr (fun k => ?_) g, by omega, fun hr => ⟨by omega, hw hr⟩⟩
    unfold laws_szLabelS.f
    rw [e, if_neg c]
    rfl
theorem toLabelS_l0 : ∀ (suf pre : List S163), (pre ++ suf).length < 4611686018427387904 → (∀ y ∈ suf, WLabel y) → Ev (fun k => laws_toLabelS.l0 k (pre ++ suf) ((pre.map cvLabel) ++ List.replicate suf.length z164) (pre.length : Int)) ((pre ++ suf).map cvLabel)
  | [], pre, h, hW => by
    refine Ev.step (f := fun _ => some ((pre ++ []).map cvLabel)) (fun k => ?_) (Ev.now _)
    simp only [laws_toLabelS.l0]
    rw [if_neg (not_lt_end pre)]
    simp
  | y :: suf, pre, h, hW => by
    have hp : pre.length < 4611686018427387904 := by simp at h; omega
    have ih := toLabelS_l0 suf (pre ++ [y]) (by simpa using h) (fun z hz => hW z (List.mem_cons_of_mem _ hz))
    have g := toLabel_ev y (hW y List.mem_cons_self)
    refine Ev.step (f := fun k => (laws_toLabel.f y.f0 y.f1).bind fun t => laws_toLabelS.l0 k ((pre ++ [y]) ++ suf) ((pre.map cvLabel) ++ (⟨t.1, t.2⟩ : S164) :: List.replicate suf.length z164) ((pre ++ [y]).length : Int)) (fun k => ?_) (Ev.bind g ?_)
    · simp only [laws_toLabelS.l0]
      rw [if_pos (lt_mid pre suf y), if_pos (nn _), rdmidLabell, wrap_up _ (by omega)]
      congr 1
      funext t
      rw [if_pos (by simp; omega)]
      congr 1
      · simp
      · simp [List.replicate_succ]
      · simp
    · rw [mid_assoc pre suf y]
      have e : (pre.map cvLabel) ++ (cvLabel y) :: List.replicate suf.length z164 = ((pre ++ [y]).map cvLabel) ++ List.replicate suf.length z164 := by simp
      rw [← e] at ih
      exact ih
theorem toLabelS_ev (l : List S163) (h : l.length ≤ 1048576 ∧ ∀ y ∈ l, WLabel y) : Ev (fun k => laws_toLabelS.f k l) (l.map cvLabel) := by
  have h1 := h.1
  refine Ev.congr (fun k => ?_) (toLabelS_l0 l [] (by simp; omega) h.2)
  unfold laws_toLabelS.f
  rw [if_pos (nn l.length), Int.toNat_natCast, if_pos (by omega)]
  rfl
theorem eqLabelS_l0 : ∀ (suf pre : List S164), (pre ++ suf).length < 4611686018427387904 → (∀ y ∈ suf, WiLabel y) → Ev (fun k => laws_eqLabelS.l0 k (pre ++ suf) (pre ++ suf) (pre.length : Int)) true
  | [], pre, h, hW => by
    refine Ev.step (f := fun _ => some true) (fun k => ?_) (Ev.now _)
    simp only [laws_eqLabelS.l0]
    rw [if_neg (not_lt_end pre)]
  | y :: suf, pre, h, hW => by
    have hp : pre.length < 4611686018427387904 := by simp at h; omega
    have ih := eqLabelS_l0 suf (pre ++ [y]) (by simpa using h) (fun z hz => hW z (List.mem_cons_of_mem _ hz))
    have g := eqLabel_ev y (hW y List.mem_cons_self)
    refine Ev.step (f := fun k => (laws_eqLabel.f y.f0 y.f1 y.f0 y.f1).bind fun t => if t = true then laws_eqLabelS.l0 k ((pre ++ [y]) ++ suf) ((pre ++ [y]) ++ suf) ((pre ++ [y]).length : Int) else none) (fun k => ?_) (Ev.bind g ?_)
    · simp only [laws_eqLabelS.l0]
      rw [if_pos (lt_mid pre suf y), if_pos (nn _), if_pos (lt_mid pre suf y), rdmidLabeli, wrap_up _ (by omega)]
      simp
    · simp only [if_true]
      exact ih
theorem eqLabelS_ev (l : List S164) (h : l.length ≤ 4000000 ∧ ∀ y ∈ l, WiLabel y) : Ev (fun k => laws_eqLabelS.f k l l) true := by
  have h1 := h.1
  refine Ev.congr (fun k => ?_) (eqLabelS_l0 l [] (by simp; omega) h.2)
  unfold laws_eqLabelS.f
  rw [if_pos rfl]
  rfl
def cvAlarm (x : S34) : S44 := ⟨(x.f0.map cvLabel), x.f1, x.f2, x.f3⟩
def WAlarm (x : S34) : Prop := (x.f0.length ≤ 1048576 ∧ ∀ y ∈ x.f0, WLabel y) ∧ True ∧ True ∧ x.f3.size ≤ 1048576
def WiAlarm (x : S44) : Prop := (x.f0.length ≤ 4000000 ∧ ∀ y ∈ x.f0, WiLabel y) ∧ True ∧ True ∧ x.f3.size ≤ 4000000
theorem Wi_cvAlarm {x : S34} (h : WAlarm x) : WiAlarm (cvAlarm x) := ⟨⟨by show (List.map cvLabel x.f0).length ≤ 4000000; rw [List.length_map]; exact Nat.le_trans h.1.1 (by decide), fun y hy => by obtain ⟨z, hz, rfl⟩ := List.mem_map.1 hy; exact Wi_cvLabel (h.1.2 z hz)⟩, trivial, trivial, Nat.le_trans h.2.2.2 (by decide)⟩
theorem szAlarm_ev (x : S34) (hB : B34 x) (n : Int) (h0 : 0 ≤ n) (h1 : n ≤ 1048576) : ∃ r, Ev (fun k => laws_szAlarm.f k x.f0 x.f1 x.f2 x.f3 n) r ∧ r ≤ n ∧ (0 ≤ r → WAlarm x) := by
  obtain ⟨r1, ⟨K1, g1⟩, l1, w1⟩ := szLabelS_ev x.f0 hB.1 n (by omega) (by omega)
  by_cases c1 : r1 < 0
  · exact ⟨-1, ⟨K1, fun k hk => by simp [laws_szAlarm.f, g1 k (by omega), c1]⟩, by omega, by omega⟩
  have q2 : x.f3.size ≤ 9223372036854775807 := hB.2.2.2
  have e2 : wrap64 (r1 - (x.f3.size : Int)) = r1 - (x.f3.size : Int) := wrap_id (by omega) (by omega)
  by_cases c2 : r1 - (x.f3.size : Int) < 0
  · exact ⟨-1, ⟨K1, fun k hk => by simp [laws_szAlarm.f, g1 k (by omega), c1, e2, c2]⟩, by omega, by omega⟩
  exact ⟨(r1 - (x.f3.size : Int)), ⟨K1, fun k hk => by simp [laws_szAlarm.f, g1 k (by omega), c1, e2, c2]⟩, by omega, fun _ => ⟨(w1 (by omega)), trivial, trivial, (by omega)⟩⟩
theorem toAlarm_ev (x : S34) (h : WAlarm x) : Ev (fun k => laws_toAlarm.f k x.f0 x.f1 x.f2 x.f3) ((cvAlarm x).f0, (cvAlarm x).f1, (cvAlarm x).f2, (cvAlarm x).f3) := by
  obtain ⟨K0, g0⟩ := toLabelS_ev x.f0 h.1
  exact ⟨K0, fun k hk => by simp [laws_toAlarm.f, cvAlarm, g0 k (by omega)]⟩
theorem eqAlarm_ev (x : S44) (h : WiAlarm x) : Ev (fun k => laws_eqAlarm.f k x.f0 x.f1 x.f2 x.f3 x.f0 x.f1 x.f2 x.f3) true := by
  obtain ⟨K0, g0⟩ := eqLabelS_ev x.f0 h.1
  exact ⟨K0, fun k hk => by simp [laws_eqAlarm.f, g0 k (by omega)]⟩
theorem rdmidAlarml (pre suf : List S34) (y : S34) : rd_T34 (pre ++ y :: suf) (pre.length : Int) = y := by unfold rd_T34; simp
theorem rdmidAlarmi (pre suf : List S44) (y : S44) : rd_T44 (pre ++ y :: suf) (pre.length : Int) = y := by unfold rd_T44; simp
theorem szAlarmS_l0 : ∀ (suf pre : List S34) (n : Int), 0 ≤ n → n ≤ 1048576 → (∀ y ∈ suf, B34 y) → (pre ++ suf).length < 4611686018427387904 → ∃ r, Ev (fun k => laws_szAlarmS.l0 k (pre ++ suf) n (pre.length : Int)) r ∧ r ≤ n ∧ (0 ≤ r → ∀ y ∈ suf, WAlarm y)
  | [], pre, n, h0, h1, hB, h => by
    refine ⟨n, Ev.step (f := fun _ => some n) (fun k => ?_) (Ev.now _), Int.le_refl _, fun _ y hy => by cases hy⟩
    simp only [laws_szAlarmS.l0]
    rw [if_neg (not_lt_end pre)]
  | y :: suf, pre, n, h0, h1, hB, h => by
    have hp : pre.length < 4611686018427387904 := by simp at h; omega
    have hy := hB y List.mem_cons_self
    obtain ⟨r1, g1, l1, w1⟩ := szAlarm_ev y hy n h0 h1
    by_cases c : r1 < 0
    · refine ⟨-1, Ev.step (f := fun k => (laws_szAlarm.f k y.f0 y.f1 y.f2 y.f3 n).bind fun t => if t < 0 then some (-1) else laws_szAlarmS.l0 k (pre ++ y :: suf) t (wrap64 ((pre.length : Int) + 1))) (fun k => ?_) (Ev.bind g1 ?_), by omega, by omega⟩
      · simp only [laws_szAlarmS.l0]
        rw [if_pos (lt_mid pre suf y), if_pos (nn _), rdmidAlarml]
      · simp only [if_pos c]
        exact Ev.now _
    · obtain ⟨r, g, hl, hw⟩ := szAlarmS_l0 suf (pre ++ [y]) r1 (by omega) (by omega) (fun z hz => hB z (List.mem_cons_of_mem _ hz)) (by simpa using h)
      refine ⟨r, Ev.step (f := fun k => (laws_szAlarm.f k y.f0 y.f1 y.f2 y.f3 n).bind fun t => if t < 0 then some (-1) else laws_szAlarmS.l0 k ((pre ++ [y]) ++ suf) t ((pre ++ [y]).length : Int)) (fun k => ?_) (Ev.bind g1 ?_), by omega, fun hr z hz => ?_⟩
      · simp only [laws_szAlarmS.l0]
        rw [if_pos (lt_mid pre suf y), if_pos (nn _), rdmidAlarml, wrap_up _ (by omega)]
        simp
      · simp only [if_neg c]
        exact g
      · rcases List.mem_cons.1 hz with rfl | hz
        · exact w1 (by omega)
        · exact hw hr z hz
theorem szAlarmS_ev (l : List S34) (hB : l.length ≤ maxLen ∧ ∀ y ∈ l, B34 y) (n : Int) (h0 : 0 ≤ n) (h1 : n ≤ 1048576) : ∃ r, Ev (fun k => laws_szAlarmS.f k l n) r ∧ r ≤ n ∧ (0 ≤ r → l.length ≤ 1048576 ∧ ∀ y ∈ l, WAlarm y) := by
  have q : l.length ≤ 9223372036854775807 := hB.1
  have e : wrap64 (n - (l.length : Int)) = n - (l.length : Int) := wrap_id (by omega) (by omega)
  by_cases c : n - (l.length : Int) < 0
  · exact ⟨-1, ⟨0, fun k _ => by simp [laws_szAlarmS.f, e, c]⟩, by omega, by omega⟩
  · obtain ⟨r, g, hl, hw⟩ := szAlarmS_l0 l [] (n - (l.length : Int)) (by omega) (by omega) hB.2 (by simp; omega)
    refine ⟨r, Ev.congr (fun k => ?_) g, by omega, fun hr => ⟨by omega, hw hr⟩⟩
    unfold laws_szAlarmS.f
    rw [e, if_neg c]
    rfl
theorem toAlarmS_l0 : ∀ (suf pre : List S34), (pre ++ suf).length < 4611686018427387904 → (∀ y ∈ suf, WAlarm y) → Ev (fun k => laws_toAlarmS.l0 k (pre ++ suf) ((pre.map cvAlarm) ++ List.replicate suf.length z44) (pre.length : Int)) ((pre ++ suf).map cvAlarm)
  | [], pre, h, hW => by
    refine Ev.step (f := fun _ => some ((pre ++ []).map cvAlarm)) (fun k => ?_) (Ev.now _)
    simp only [laws_toAlarmS.l0]
    rw [if_neg (not_lt_end pre)]
    simp
  | y :: suf, pre, h, hW => by
    have hp : pre.length < 4611686018427387904 := by simp at h; omega
    have ih := toAlarmS_l0 suf (pre ++ [y]) (by simpa using h) (fun z hz => hW z (List.mem_cons_of_mem _ hz))
    have g := toAlarm_ev y (hW y List.mem_cons_self)
    refine Ev.step (f := fun k => (laws_toAlarm.f k y.f0 y.f1 y.f2 y.f3).bind fun t => laws_toAlarmS.l0 k ((pre ++ [y]) ++ suf) ((pre.map cvAlarm) ++ (⟨t.1, t.2.1, t.2.2.1, t.2.2.2⟩ : S44) :: List.replicate suf.length z44) ((pre ++ [y]).length : Int)) (fun k => ?_) (Ev.bind g ?_)
    · simp only [laws_toAlarmS.l0]
      rw [if_pos (lt_mid pre suf y), if_pos (nn _), rdmidAlarml, wrap_up _ (by omega)]
      congr 1
      funext t
      rw [if_pos (by simp; omega)]
      congr 1
      · simp
      · simp [List.replicate_succ]
      · simp
    · rw [mid_assoc pre suf y]
      have e : (pre.map cvAlarm) ++ (cvAlarm y) :: List.replicate suf.length z44 = ((pre ++ [y]).map cvAlarm) ++ List.replicate suf.length z44 := by simp
      rw [← e] at ih
      exact ih
theorem toAlarmS_ev (l : List S34) (h : l.length ≤ 1048576 ∧ ∀ y ∈ l, WAlarm y) : Ev (fun k => laws_toAlarmS.f k l) (l.map cvAlarm) := by
  have h1 := h.1
  refine Ev.congr (fun k => ?_) (toAlarmS_l0 l [] (by simp; omega) h.2)
  unfold laws_toAlarmS.f
  rw [if_pos (nn l.length), Int.toNat_natCast, if_pos (by omega)]
  rfl
theorem eqAlarmS_l0 : ∀ (suf pre : List S44), (pre ++ suf).length < 4611686018427387904 → (∀ y ∈ suf, WiAlarm y) → Ev (fun k => laws_eqAlarmS.l0 k (pre ++ suf) (pre ++ suf) (pre.length : Int)) true
  | [], pre, h, hW => by
    refine Ev.step (f := fun _ => some true) (fun k => ?_) (Ev.now _)
    simp only [laws_eqAlarmS.l0]
    rw [if_neg (not_lt_end pre)]
  | y :: suf, pre, h, hW => by
    have hp : pre.length < 4611686018427387904 := by simp at h; omega
    have ih := eqAlarmS_l0 suf (pre ++ [y]) (by simpa using h) (fun z hz => hW z (List.mem_cons_of_mem _ hz))
    have g := eqAlarm_ev y (hW y List.mem_cons_self)
    refine Ev.step (f := fun k => (laws_eqAlarm.f k y.f0 y.f1 y.f2 y.f3 y.f0 y.f1 y.f2 y.f3).bind fun t => if t = true then laws_eqAlarmS.l0 k ((pre ++ [y]) ++ suf) ((pre ++ [y]) ++ suf) ((pre ++ [y]).length : Int) else none) (fun k => ?_) (Ev.bind g ?_)
    · simp only [laws_eqAlarmS.l0]
      rw [if_pos (lt_mid pre suf y), if_pos (nn _), if_pos (lt_mid pre suf y), rdmidAlarmi, wrap_up _ (by omega)]
      simp
    · simp only [if_true]
      exact ih
theorem eqAlarmS_ev (l : List S44) (h : l.length ≤ 4000000 ∧ ∀ y ∈ l, WiAlarm y) : Ev (fun k => laws_eqAlarmS.f k l l) true := by
  have h1 := h.1
  refine Ev.congr (fun k => ?_) (eqAlarmS_l0 l [] (by simp; omega) h.2)
  unfold laws_eqAlarmS.f
  rw [if_pos rfl]
  rfl
theorem rdmidInt (pre suf : List Int) (y : Int) : rd (pre ++ y :: suf) (pre.length : Int) = y := by unfold rd; simp
theorem szIntS_ev (l : List Int) (hB : l.length ≤ maxLen ∧ ∀ y ∈ l, (Lit.int .i64 y).wf = true) (n : Int) (h0 : 0 ≤ n) (h1 : n ≤ 1048576) : ∃ r, Ev (fun k => laws_szIntS.f l n) r ∧ r ≤ n ∧ (0 ≤ r → l.length ≤ 1048576 ∧ ∀ y ∈ l, True) := by
  have q : l.length ≤ 9223372036854775807 := hB.1
  have e : wrap64 (n - (l.length : Int)) = n - (l.length : Int) := wrap_id (by omega) (by omega)
  by_cases c : n - (l.length : Int) < 0
  · exact ⟨-1, ⟨0, fun k _ => by simp [laws_szIntS.f, e, c]⟩, by omega, by omega⟩
  · exact ⟨n - (l.length : Int), ⟨0, fun k _ => by simp [laws_szIntS.f, e, c]⟩, by omega, fun hr => ⟨by omega, fun y hy => trivial⟩⟩
theorem toIntS_l0 : ∀ (suf pre : List Int), (pre ++ suf).length < 4611686018427387904 → (∀ y ∈ suf, True) → Ev (fun k => laws_toIntS.l0 k (pre ++ suf) (pre ++ List.replicate suf.length 0) (pre.length : Int)) (pre ++ suf)
  | [], pre, h, hW => by
    refine Ev.step (f := fun _ => some (pre ++ [])) (fun k => ?_) (Ev.now _)
    simp only [laws_toIntS.l0]
    rw [if_neg (not_lt_end pre)]
    simp
  | y :: suf, pre, h, hW => by
    have hp : pre.length < 4611686018427387904 := by simp at h; omega
    have ih := toIntS_l0 suf (pre ++ [y]) (by simpa using h) (fun z hz => hW z (List.mem_cons_of_mem _ hz))
    refine Ev.step (f := fun k => laws_toIntS.l0 k ((pre ++ [y]) ++ suf) ((pre ++ [y]) ++ List.replicate suf.length 0) ((pre ++ [y]).length : Int)) (fun k => ?_) (by rw [mid_assoc pre suf y]; exact ih)
    simp only [laws_toIntS.l0]
    rw [if_pos (lt_mid pre suf y), if_pos (nn _), rdmidInt, wrap_up _ (by omega), if_pos (by simp; omega)]
    congr 1
    · simp
    · simp [List.replicate_succ]
    · simp
theorem toIntS_ev (l : List Int) (h : l.length ≤ 1048576 ∧ ∀ y ∈ l, True) : Ev (fun k => laws_toIntS.f k l) l := by
  have h1 := h.1
  refine Ev.congr (fun k => ?_) (toIntS_l0 l [] (by simp; omega) h.2)
  unfold laws_toIntS.f
  rw [if_pos (nn l.length), Int.toNat_natCast, if_pos (by omega)]
  rfl
theorem eqIntS_l0 : ∀ (suf pre : List Int), (pre ++ suf).length < 4611686018427387904 → (∀ y ∈ suf, True) → Ev (fun k => laws_eqIntS.l0 k (pre ++ suf) (pre ++ suf) (pre.length : Int)) true
  | [], pre, h, hW => by
    refine Ev.step (f := fun _ => some true) (fun k => ?_) (Ev.now _)
    simp only [laws_eqIntS.l0]
    rw [if_neg (not_lt_end pre)]
  | y :: suf, pre, h, hW => by
    have hp : pre.length < 4611686018427387904 := by simp at h; omega
    have ih := eqIntS_l0 suf (pre ++ [y]) (by simpa using h) (fun z hz => hW z (List.mem_cons_of_mem _ hz))
    refine Ev.step (f := fun k => laws_eqIntS.l0 k ((pre ++ [y]) ++ suf) ((pre ++ [y]) ++ suf) ((pre ++ [y]).length : Int)) (fun k => ?_) ih
    simp only [laws_eqIntS.l0]
    rw [if_pos (lt_mid pre suf y), if_pos (nn _), if_pos (lt_mid pre suf y), wrap_up _ (by omega)]
    simp
theorem eqIntS_ev (l : List Int) (h : l.length ≤ 4000000 ∧ ∀ y ∈ l, True) : Ev (fun k => laws_eqIntS.f k l l) true := by
  have h1 := h.1
  refine Ev.congr (fun k => ?_) (eqIntS_l0 l [] (by simp; omega) h.2)
  unfold laws_eqIntS.f
  rw [if_pos rfl]
  rfl
def cvTask (x : S93) : S97 := ⟨x.f0, x.f1, (cvAlarm x.f2), (x.f3.map cvLabel), x.f4, x.f5, (x.f6.map cvAlarm), x.f7, x.f8⟩
def WTask (x : S93) : Prop := True ∧ True ∧ WAlarm x.f2 ∧ (x.f3.length ≤ 1048576 ∧ ∀ y ∈ x.f3, WLabel y) ∧ True ∧ (x.f5.length ≤ 1048576 ∧ ∀ y ∈ x.f5, True) ∧ (x.f6.length ≤ 1048576 ∧ ∀ y ∈ x.f6, WAlarm y) ∧ True ∧ True
def WiTask (x : S97) : Prop := True ∧ True ∧ WiAlarm x.f2 ∧ (x.f3.length ≤ 4000000 ∧ ∀ y ∈ x.f3, WiLabel y) ∧ True ∧ (x.f5.length ≤ 4000000 ∧ ∀ y ∈ x.f5, True) ∧ (x.f6.length ≤ 4000000 ∧ ∀ y ∈ x.f6, WiAlarm y) ∧ True ∧ True
theorem Wi_cvTask {x : S93} (h : WTask x) : WiTask (cvTask x) := ⟨trivial, trivial, Wi_cvAlarm h.2.2.1, ⟨by show (List.map cvLabel x.f3).length ≤ 4000000; rw [List.length_map]; exact Nat.le_trans h.2.2.2.1.1 (by decide), fun y hy => by obtain ⟨z, hz, rfl⟩ := List.mem_map.1 hy; exact Wi_cvLabel (h.2.2.2.1.2 z hz)⟩, trivial, ⟨Nat.le_trans h.2.2.2.2.2.1.1 (by decide), fun y hy => trivial⟩, ⟨by show (List.map cvAlarm x.f6).length ≤ 4000000; rw [List.length_map]; exact Nat.le_trans h.2.2.2.2.2.2.1.1 (by decide), fun y hy => by obtain ⟨z, hz, rfl⟩ := List.mem_map.1 hy; exact Wi_cvAlarm (h.2.2.2.2.2.2.1.2 z hz)⟩, trivial, trivial⟩
theorem szTask_ev (x : S93) (hB : B93 x) (n : Int) (h0 : 0 ≤ n) (h1 : n ≤ 1048576) : ∃ r, Ev (fun k => laws_szTask.f k x.f0 x.f1 x.f2.f0 x.f2.f1 x.f2.f2 x.f2.f3 x.f3 x.f4 x.f5 x.f6 x.f7 x.f8 n) r ∧ r ≤ n ∧ (0 ≤ r → WTask x) := by
  obtain ⟨r1, ⟨K1, g1⟩, l1, w1⟩ := szAlarm_ev x.f2 hB.2.2.1 n (by omega) (by omega)
  by_cases c1 : r1 < 0
  · exact ⟨-1, ⟨K1, fun k hk => by simp [laws_szTask.f, g1 k (by omega), c1]⟩, by omega, by omega⟩
  obtain ⟨r2, ⟨K2, g2⟩, l2, w2⟩ := szLabelS_ev x.f3 hB.2.2.2.1 r1 (by omega) (by omega)
  by_cases c2 : r2 < 0
  · exact ⟨-1, ⟨K1 + K2, fun k hk => by simp [laws_szTask.f, g1 k (by omega), c1, g2 k (by omega), c2]⟩, by omega, by omega⟩
  obtain ⟨r3, ⟨K3, g3⟩, l3, w3⟩ := szIntS_ev x.f5 hB.2.2.2.2.2.1 r2 (by omega) (by omega)
  by_cases c3 : r3 < 0
  · exact ⟨-1, ⟨K1 + K2 + K3, fun k hk => by simp [laws_szTask.f, g1 k (by omega), c1, g2 k (by omega), c2, g3 k (by omega), c3]⟩, by omega, by omega⟩
  obtain ⟨r4, ⟨K4, g4⟩, l4, w4⟩ := szAlarmS_ev x.f6 hB.2.2.2.2.2.2.1 r3 (by omega) (by omega)
  by_cases c4 : r4 < 0
  · exact ⟨-1, ⟨K1 + K2 + K3 + K4, fun k hk => by simp [laws_szTask.f, g1 k (by omega), c1, g2 k (by omega), c2, g3 k (by omega), c3, g4 k (by omega), c4]⟩, by omega, by omega⟩
  exact ⟨r4, ⟨K1 + K2 + K3 + K4, fun k hk => by simp [laws_szTask.f, g1 k (by omega), c1, g2 k (by omega), c2, g3 k (by omega), c3, g4 k (by omega), c4]⟩, by omega, fun _ => ⟨trivial, trivial, (w1 (by omega)), (w2 (by omega)), trivial, (w3 (by omega)), (w4 (by omega)), trivial, trivial⟩⟩
theorem toTask_ev (x : S93) (h : WTask x) : Ev (fun k => laws_toTask.f k x.f0 x.f1 x.f2.f0 x.f2.f1 x.f2.f2 x.f2.f3 x.f3 x.f4 x.f5 x.f6 x.f7 x.f8) ((cvTask x).f0, (cvTask x).f1, (cvTask x).f2.f0, (cvTask x).f2.f1, (cvTask x).f2.f2, (cvTask x).f2.f3, (cvTask x).f3, (cvTask x).f4, (cvTask x).f5, (cvTask x).f6, (cvTask x).f7, (cvTask x).f8) := by
  obtain ⟨K2, g2⟩ := toAlarm_ev x.f2 h.2.2.1
  obtain ⟨K3, g3⟩ := toLabelS_ev x.f3 h.2.2.2.1
  obtain ⟨K5, g5⟩ := toIntS_ev x.f5 h.2.2.2.2.2.1
  obtain ⟨K6, g6⟩ := toAlarmS_ev x.f6 h.2.2.2.2.2.2.1
  exact ⟨K2 + K3 + K5 + K6, fun k hk => by simp [laws_toTask.f, cvTask, g2 k (by omega), g3 k (by omega), g5 k (by omega), g6 k (by omega)]⟩
theorem eqTask_ev (x : S97) (h : WiTask x) : Ev (fun k => laws_eqTask.f k x.f0 x.f1 x.f2.f0 x.f2.f1 x.f2.f2 x.f2.f3 x.f3 x.f4 x.f5 x.f6 x.f7 x.f8 x.f0 x.f1 x.f2.f0 x.f2.f1 x.f2.f2 x.f2.f3 x.f3 x.f4 x.f5 x.f6 x.f7 x.f8) true := by
  obtain ⟨K2, g2⟩ := eqAlarm_ev x.f2 h.2.2.1
  obtain ⟨K3, g3⟩ := eqLabelS_ev x.f3 h.2.2.2.1
  obtain ⟨K5, g5⟩ := eqIntS_ev x.f5 h.2.2.2.2.2.1
  obtain ⟨K6, g6⟩ := eqAlarmS_ev x.f6 h.2.2.2.2.2.2.1
  exact ⟨K2 + K3 + K5 + K6, fun k hk => by simp [laws_eqTask.f, g2 k (by omega), g3 k (by omega), g5 k (by omega), g6 k (by omega)]⟩
/-- A loop that goes on or stops with an answer. -/
def scan {ρ : Type} (step : Nat → Option ρ) (fin : ρ) : Nat → Nat → ρ
  | 0, _ => fin
  | d + 1, i => match step i with
    | some r => r
    | none => scan step fin d (i + 1)
/-- What one round does. -/
def goOn {ρ : Type} (o : Option ρ) (next : Option ρ) : Option ρ := match o with
  | some r => some r
  | none => next
theorem scan_ev2 {ρ : Type} {F : Nat → Int → Option ρ} {n : Nat} {step : Nat → Option ρ} {fin : ρ} (hend : ∃ K, ∀ k, K ≤ k → F (k + 1) (n : Int) = some fin)
    (hstep : ∀ i, i < n → ∃ K, ∀ k, K ≤ k → F (k + 1) (i : Int) = goOn (step i) (F k ((i + 1 : Nat) : Int))) : ∀ d i, d + i = n → Ev (fun k => F k (i : Int)) (scan step fin d i)
  | 0, i, h => by
    obtain rfl : i = n := by omega
    obtain ⟨K, hK⟩ := hend
    refine ⟨K + 1, fun k hk => ?_⟩
    obtain ⟨m, rfl⟩ : ∃ m, k = m + 1 := ⟨k - 1, by omega⟩
    exact hK m (by omega)
  | d + 1, i, h => by
    obtain ⟨K, hK⟩ := hstep i (by omega)
    unfold scan
    cases hs : step i with
    | some r =>
      refine ⟨K + 1, fun k hk => ?_⟩
      obtain ⟨m, rfl⟩ : ∃ m, k = m + 1 := ⟨k - 1, by omega⟩
      have := hK m (by omega)
      rw [hs] at this
      exact this
    | none =>
      obtain ⟨K', hK'⟩ := scan_ev2 hend hstep d (i + 1) (by omega)
      refine ⟨max K K' + 1, fun k hk => ?_⟩
      obtain ⟨m, rfl⟩ : ∃ m, k = m + 1 := ⟨k - 1, by omega⟩
      have := hK m (by omega)
      rw [hs] at this
      exact this.trans (hK' m (by omega))
theorem scan_ev {ρ : Type} {F : Nat → Int → Option ρ} {n : Nat} {step : Nat → Option ρ} {fin : ρ} (hend : ∀ k, F (k + 1) (n : Int) = some fin)
    (hstep : ∀ i, i < n → ∃ K, ∀ k, K ≤ k → F (k + 1) (i : Int) = goOn (step i) (F k ((i + 1 : Nat) : Int))) : ∀ d i, d + i = n → Ev (fun k => F k (i : Int)) (scan step fin d i) := scan_ev2 ⟨0, fun k _ => hend k⟩ hstep
theorem scan_congr {ρ : Type} {s s' : Nat → Option ρ} {f : ρ} : ∀ d i, (∀ j, i ≤ j → j < i + d → s j = s' j) → scan s f d i = scan s' f d i
  | 0, _, _ => rfl
  | d + 1, i, h => by
    unfold scan
    rw [h i (Nat.le_refl _) (by omega)]
    cases s' i with
    | some r => rfl
    | none => exact scan_congr d (i + 1) (fun j h1 h2 => h j (by omega) (by omega))
/-- All of a list, and e. -/
theorem scan_all {α : Type} (p : α → Bool) (z : α) (e : Bool) : ∀ (suf pre : List α), scan (fun i => if p ((pre ++ suf).getD i z) = true then none else some false) e suf.length pre.length = (suf.all p && e)
  | [], pre => by simp [scan]
  | y :: suf, pre => by
    have ih := scan_all p z e suf (pre ++ [y])
    simp only [List.append_assoc, List.singleton_append, List.length_append, List.length_singleton] at ih
    simp only [List.length_cons, scan]
    rw [show (pre ++ y :: suf).getD pre.length z = y by simp]
    cases hp : p y with
    | true => simp only [if_true]; rw [ih]; simp [hp]
    | false => simp [hp]
theorem scan_all0 {α : Type} (p : α → Bool) (z : α) (e : Bool) (l : List α) : scan (fun i => if p (l.getD i z) = true then none else some false) e l.length 0 = (l.all p && e) := scan_all p z e l []
/-- Two lists of one length, element by element. -/
theorem scan_same {α β : Type} [DecidableEq β] (f : α → β) (z : α) : ∀ (a b pa pb : List α), a.length = b.length → pa.length = pb.length →
    scan (fun i => if f ((pa ++ a).getD i z) = f ((pb ++ b).getD i z) then none else some false) true a.length pa.length = decide (a.map f = b.map f)
  | [], [], pa, pb, _, _ => by simp [scan]
  | [], _ :: _, _, _, h, _ => by simp at h
  | _ :: _, [], _, _, h, _ => by simp at h
  | x :: a, y :: b, pa, pb, h, h2 => by
    have ih := scan_same f z a b (pa ++ [x]) (pb ++ [y]) (by simpa using h) (by simp [h2])
    simp only [List.append_assoc, List.singleton_append, List.length_append, List.length_singleton] at ih
    simp only [List.length_cons, scan]
    rw [show (pa ++ x :: a).getD pa.length z = x by simp, show (pb ++ y :: b).getD pa.length z = y by rw [h2]; simp]
    by_cases he : f x = f y
    · simp only [if_pos he]; rw [ih]; simp [he]
    · simp [he]
theorem scan_same0 {α β : Type} [DecidableEq β] (f : α → β) (z : α) (a b : List α) (h : a.length = b.length) : scan (fun i => if f (a.getD i z) = f (b.getD i z) then none else some false) true a.length 0 = decide (a.map f = b.map f) := scan_same f z a b [] [] h rfl
theorem getD_eq {α : Type} (l : List α) (i : Nat) (z : α) (h : i < l.length) : l.getD i z = l[i] := by simp [List.getD_eq_getElem?_getD, List.getElem?_eq_getElem h]
theorem getD_mem {α : Type} (l : List α) (i : Nat) (z : α) (h : i < l.length) : l.getD i z ∈ l := by rw [getD_eq l i z h]; exact List.getElem_mem h
theorem rdnLabel (l : List S164) (i : Nat) : rd_T164 l (i : Int) = l.getD i z164 := by unfold rd_T164; simp
theorem inEq (a b c : Int) : impl_in.f a b c = some (decide (b ≤ a) && decide (a ≤ c)) := by
  unfold impl_in.f
  by_cases h : a ≥ b
  · rw [if_pos h]; simp [show b ≤ a from h]
  · rw [if_neg h]; simp [show ¬ b ≤ a from h]
theorem l1InEq (a b c : Int) : spec_l1In.f a b c = some (decide (b ≤ a) && decide (a ≤ c)) := by
  unfold spec_l1In.f
  by_cases h : a ≥ b
  · rw [if_pos h]; simp [show b ≤ a from h]
  · rw [if_neg h]; simp [show ¬ b ≤ a from h]
/-- Each byte of a name. -/
def nameStep {ρ : Type} (no : ρ) (s : ByteArray) (i : Nat) : Option ρ := if (bt s (i : Int)) < 97 then some no else if (bt s (i : Int)) > 122 then some no else none
def nameOk (s : ByteArray) : Bool := (decide (1 ≤ (s.size : Int)) && decide ((s.size : Int) ≤ 8)) && scan (nameStep false s) true s.size 0
/-- Where nothing stops a loop but with 'false', its end may wait. -/
theorem scan_end {step : Nat → Option Bool} (h : ∀ i r, step i = some r → r = false) (e : Bool) : ∀ d i, scan step e d i = (e && scan step true d i)
  | 0, i => by simp [scan]
  | d + 1, i => by
    unfold scan
    cases hs : step i with
    | some r => rw [h i r hs]; simp
    | none => exact scan_end h e d (i + 1)
theorem nameStep_false (s : ByteArray) (i : Nat) (r : Bool) (h : nameStep false s i = some r) : r = false := by
  unfold nameStep at h
  split at h
  · injection h with h; exact h.symm
  · split at h
    · injection h with h; exact h.symm
    · cases h
theorem implNameOk_ev (s : ByteArray) (h : s.size < 4611686018427387904) : Ev (fun k => impl_NameOk.f k s) (nameOk s) := by
  unfold impl_NameOk.f nameOk
  simp only [inEq, Option.bind_some]
  cases hc : (decide (1 ≤ (s.size : Int)) && decide ((s.size : Int) ≤ 8)) with
  | false => simp only [Bool.false_eq_true, if_false, Bool.false_and]; exact Ev.now _
  | true =>
    simp only [if_true, Bool.true_and]
    refine scan_ev (F := fun k i => impl_NameOk.l0 k s i) (n := s.size) (fun k => ?_) (fun i hi => ⟨0, fun k _ => ?_⟩) s.size 0 (by omega)
    · simp only [impl_NameOk.l0]; rw [if_neg (by omega)]
    · simp only [impl_NameOk.l0, nameStep]
      rw [if_pos (by omega), if_pos (by omega), wrap_up i (by omega)]
      split
      · rfl
      · split <;> rfl
theorem specNameOk_ev (s : ByteArray) (h : s.size < 4611686018427387904) : Ev (fun k => spec_NameOk.f k s) (nameOk s) := by
  unfold spec_NameOk.f nameOk
  rw [← scan_end (nameStep_false s)]
  refine scan_ev (F := fun k i => spec_NameOk.l0 k s i) (n := s.size) (fun k => ?_) (fun i hi => ⟨0, fun k _ => ?_⟩) s.size 0 (by omega)
  · simp only [spec_NameOk.l0]; rw [if_neg (by omega), l1InEq]; rfl
  · simp only [spec_NameOk.l0, nameStep]
    rw [if_pos (by omega), if_pos (by omega), wrap_up i (by omega)]
    split
    · rfl
    · split <;> rfl
/-- Each byte of a plain text. -/
def plainStep {ρ : Type} (no : ρ) (s : ByteArray) (i : Nat) : Option ρ := if (bt s (i : Int)) < 32 then some no else if (bt s (i : Int)) > 126 then some no else if (bt s (i : Int)) = 34 then some no else if (bt s (i : Int)) = 92 then some no else none
def plainOk (s : ByteArray) : Bool := decide ((s.size : Int) ≤ 12) && scan (plainStep false s) true s.size 0
theorem plainStep_false (s : ByteArray) (i : Nat) (r : Bool) (h : plainStep false s i = some r) : r = false := by
  unfold plainStep at h
  repeat (split at h; (injection h with h; exact h.symm))
  cases h
theorem implPlainOk_ev (s : ByteArray) (h : s.size < 4611686018427387904) : Ev (fun k => impl_PlainOk.f k s) (plainOk s) := by
  unfold impl_PlainOk.f plainOk
  by_cases hc : (s.size : Int) > 12
  · simp only [if_pos hc, decide_eq_false (show ¬ (s.size : Int) ≤ 12 by omega), Bool.false_and]; exact Ev.now _
  · simp only [if_neg hc, decide_eq_true (show (s.size : Int) ≤ 12 by omega), Bool.true_and]
    refine scan_ev (F := fun k i => impl_PlainOk.l0 k s i) (n := s.size) (fun k => ?_) (fun i hi => ⟨0, fun k _ => ?_⟩) s.size 0 (by omega)
    · simp only [impl_PlainOk.l0]; rw [if_neg (by omega)]
    · simp only [impl_PlainOk.l0, plainStep]
      rw [if_pos (by omega), if_pos (by omega), wrap_up i (by omega)]
      repeat (split; rfl)
      rfl
theorem specPlainOk_ev (s : ByteArray) (h : s.size < 4611686018427387904) : Ev (fun k => spec_PlainOk.f k s) (plainOk s) := by
  unfold spec_PlainOk.f plainOk
  rw [← scan_end (plainStep_false s)]
  refine scan_ev (F := fun k i => spec_PlainOk.l0 k s i) (n := s.size) (fun k => ?_) (fun i hi => ⟨0, fun k _ => ?_⟩) s.size 0 (by omega)
  · simp only [spec_PlainOk.l0]; rw [if_neg (by omega)]
  · simp only [spec_PlainOk.l0, plainStep]
    rw [if_pos (by omega), if_pos (by omega), wrap_up i (by omega)]
    repeat (split; rfl)
    rfl
def labelOk (x : S164) : Bool := nameOk x.f0 && plainOk x.f1
theorem implLabelOk_ev (x : S164) (h : WiLabel x) : Ev (fun k => impl_LabelOk.f k x.f0 x.f1) (labelOk x) := by
  have h1 := h.1
  have h2 := h.2
  obtain ⟨K1, g1⟩ := implNameOk_ev x.f0 (by omega)
  obtain ⟨K2, g2⟩ := implPlainOk_ev x.f1 (by omega)
  refine ⟨K1 + K2, fun k hk => ?_⟩
  have e1 := g1 k (by omega)
  have e2 := g2 k (by omega)
  simp only at e1 e2
  simp only [impl_LabelOk.f, e1, e2, Option.bind_some, labelOk]
  cases nameOk x.f0 <;> simp
theorem specLabelOk_ev (x : S164) (h : WiLabel x) : Ev (fun k => spec_LabelOk.f k x.f0 x.f1) (labelOk x) := by
  have h1 := h.1
  have h2 := h.2
  obtain ⟨K1, g1⟩ := specNameOk_ev x.f0 (by omega)
  obtain ⟨K2, g2⟩ := specPlainOk_ev x.f1 (by omega)
  refine ⟨K1 + K2, fun k hk => ?_⟩
  have e1 := g1 k (by omega)
  have e2 := g2 k (by omega)
  simp only at e1 e2
  simp only [spec_LabelOk.f, e1, e2, Option.bind_some, labelOk]
  cases nameOk x.f0 <;> simp
/-- Is label i right, behind the one before it? -/
def setBit (l : List S164) (i : Nat) : Bool := labelOk (l.getD i z164) && (decide (i = 0) || Op.bytesLess (l.getD (i - 1) z164).f0.toList (l.getD i z164).f0.toList)
def setStep (l : List S164) (i : Nat) : Option Bool := if setBit l i = true then none else some false
def setOk (l : List S164) : Bool := decide ((l.length : Int) ≤ 4) && scan (setStep l) true l.length 0
theorem setStep_false (l : List S164) (i : Nat) (r : Bool) (h : setStep l i = some r) : r = false := by
  unfold setStep at h
  split at h
  · cases h
  · injection h with h; exact h.symm
theorem scan_stop {step : Nat → Option Bool} (hf : ∀ i r, step i = some r → r = false) : ∀ d i j, i ≤ j → j < i + d → step j = some false → scan step true d i = false
  | 0, i, j, h1, h2, _ => by omega
  | d + 1, i, j, h1, h2, h3 => by
    unfold scan
    cases hs : step i with
    | some r => exact hf i r hs
    | none =>
      by_cases e : i = j
      · subst e; rw [hs] at h3; cases h3
      · exact scan_stop hf d (i + 1) j (by omega) (by omega) h3
theorem sub1 (i : Nat) (h : 0 < i) (hi : i < 4611686018427387904) : wrap64 ((i : Int) - 1) = ((i - 1 : Nat) : Int) := by rw [wrap_id (by omega) (by omega)]; omega
theorem implSetOk_ev (l : List S164) (h : l.length ≤ 4000000 ∧ ∀ y ∈ l, WiLabel y) : Ev (fun k => impl_SetOk.f k l) (setOk l) := by
  have h1 := h.1
  have hx : setOk l = scan (fun i => if 4 ≤ i then some false else setStep l i) true l.length 0 := by
    unfold setOk
    by_cases h4 : l.length ≤ 4
    · rw [decide_eq_true (show (l.length : Int) ≤ 4 by omega), Bool.true_and]
      exact scan_congr _ _ (fun j _ hj => by rw [if_neg (by omega)])
    · rw [decide_eq_false (show ¬ (l.length : Int) ≤ 4 by omega), Bool.false_and]
      exact (scan_stop (step := fun i => if 4 ≤ i then some false else setStep l i) (fun i r hr => by
        by_cases hi : 4 ≤ i
        · simp only [if_pos hi] at hr; injection hr with hr; exact hr.symm
        · simp only [if_neg hi] at hr; exact setStep_false l i r hr) l.length 0 4 (by omega) (by omega) (by simp)).symm
  rw [hx]
  unfold impl_SetOk.f
  refine scan_ev (F := fun k i => impl_SetOk.l0 k l l (l.length : Int) i) (n := l.length) (fun k => ?_) (fun i hi => ?_) l.length 0 (by omega)
  · simp only [impl_SetOk.l0]; rw [if_neg (by omega)]
  · obtain ⟨K, g⟩ := implLabelOk_ev (l.getD i z164) (h.2 _ (getD_mem l i _ hi))
    refine ⟨K, fun k hk => ?_⟩
    have e := g k hk
    simp only at e
    simp only [impl_SetOk.l0]
    rw [if_pos (by omega), if_pos (by omega), if_pos (by omega)]
    by_cases h4 : 4 ≤ i
    · rw [if_pos (by omega), if_pos h4]; rfl
    · rw [if_neg (by omega), if_neg h4, rdnLabel, e, Option.bind_some, wrap_up i (by omega)]
      unfold setStep setBit
      cases hl : labelOk (l.getD i z164) with
      | false => simp [goOn]
      | true =>
        by_cases h0 : i = 0
        · subst h0; simp [goOn]
        · rw [if_pos rfl, if_pos (by omega), sub1 i (by omega) (by omega), if_pos (by omega), if_pos (by omega), rdnLabel, decide_eq_false h0]
          cases Op.bytesLess (l.getD (i - 1) z164).f0.toList (l.getD i z164).f0.toList <;> simp [goOn]
theorem specSetOk_ev (l : List S164) (h : l.length ≤ 4000000 ∧ ∀ y ∈ l, WiLabel y) : Ev (fun k => spec_SetOk.f k l) (setOk l) := by
  have h1 := h.1
  unfold spec_SetOk.f setOk
  rw [← scan_end (setStep_false l)]
  refine scan_ev (F := fun k i => spec_SetOk.l0 k l i) (n := l.length) (fun k => ?_) (fun i hi => ?_) l.length 0 (by omega)
  · simp only [spec_SetOk.l0]; rw [if_neg (by omega)]
  · obtain ⟨K, g⟩ := specLabelOk_ev (l.getD i z164) (h.2 _ (getD_mem l i _ hi))
    refine ⟨K, fun k hk => ?_⟩
    have e := g k hk
    simp only at e
    simp only [spec_SetOk.l0, spec_Less.f]
    rw [if_pos (by omega), if_pos (by omega), rdnLabel, e, Option.bind_some, wrap_up i (by omega)]
    unfold setStep setBit
    cases hl : labelOk (l.getD i z164) with
    | false => simp [goOn]
    | true =>
      by_cases h0 : i = 0
      · subst h0; simp [goOn]
      · rw [if_pos rfl, if_pos (by omega), sub1 i (by omega) (by omega), if_pos (by omega), if_pos (by omega), rdnLabel, decide_eq_false h0]
        cases Op.bytesLess (l.getD (i - 1) z164).f0.toList (l.getD i z164).f0.toList <;> simp [goOn]
def alarmOk (x : S44) : Bool := setOk x.f0 && (decide ((x.f0.length : Int) > 0) && ((decide (0 ≤ x.f1) && decide (x.f1 ≤ 99999)) && ((decide (x.f1 ≤ x.f2) && decide (x.f2 ≤ 99999)) && plainOk x.f3)))
theorem implAlarmOk_ev (x : S44) (h : WiAlarm x) : Ev (fun k => impl_AlarmOk.f k x.f0 x.f1 x.f2 x.f3) (alarmOk x) := by
  have h3 := h.2.2.2
  obtain ⟨K1, g1⟩ := implSetOk_ev x.f0 h.1
  obtain ⟨K2, g2⟩ := implPlainOk_ev x.f3 (by omega)
  refine ⟨K1 + K2, fun k hk => ?_⟩
  have e1 := g1 k (by omega)
  have e2 := g2 k (by omega)
  simp only at e1 e2
  simp only [impl_AlarmOk.f, e1, e2, Option.bind_some, alarmOk, inEq]
  by_cases hl : (x.f0.length : Int) > 0
  · rw [if_pos hl, decide_eq_true hl]
    cases setOk x.f0 <;> cases (decide (0 ≤ x.f1) && decide (x.f1 ≤ 99999)) <;> cases (decide (x.f1 ≤ x.f2) && decide (x.f2 ≤ 99999)) <;> simp
  · rw [if_neg hl, decide_eq_false hl]
    cases setOk x.f0 <;> simp
theorem specAlarmOk_ev (x : S44) (h : WiAlarm x) : Ev (fun k => spec_AlarmOk.f k x.f0 x.f1 x.f2 x.f3) (alarmOk x) := by
  have h3 := h.2.2.2
  obtain ⟨K1, g1⟩ := specSetOk_ev x.f0 h.1
  obtain ⟨K2, g2⟩ := specPlainOk_ev x.f3 (by omega)
  refine ⟨K1 + K2, fun k hk => ?_⟩
  have e1 := g1 k (by omega)
  have e2 := g2 k (by omega)
  simp only at e1 e2
  simp only [spec_AlarmOk.f, e1, e2, Option.bind_some, alarmOk, l1InEq]
  by_cases hl : (x.f0.length : Int) > 0
  · rw [if_pos hl, decide_eq_true hl]
    cases setOk x.f0 <;> cases (decide (0 ≤ x.f1) && decide (x.f1 ≤ 99999)) <;> cases (decide (x.f1 ≤ x.f2) && decide (x.f2 ≤ 99999)) <;> simp
  · rw [if_neg hl, decide_eq_false hl]
    cases setOk x.f0 <;> simp
theorem rdnAlarm (l : List S44) (i : Nat) : rd_T44 l (i : Int) = l.getD i z44 := by unfold rd_T44; simp
/-- A label as two lists of bytes; an alarm as what it holds. -/
def lab (x : S164) : List UInt8 × List UInt8 := (x.f0.toList, x.f1.toList)
def sameSet (a b : List S164) : Bool := decide (a.map lab = b.map lab)
theorem map_ne_of_length {α β : Type} {f : α → β} {a b : List α} (h : ¬ a.length = b.length) : ¬ (a.map f = b.map f) := fun e => h (by simpa using congrArg List.length e)
theorem labNe (x y : S164) : ((!(x.f0.toList == y.f0.toList) || (!(x.f1.toList == y.f1.toList))) = true) ↔ ¬ lab x = lab y := by
  unfold lab
  simp only [Prod.mk.injEq, Bool.or_eq_true, Bool.not_eq_true', beq_eq_false_iff_ne]
  constructor
  · rintro (h | h) ⟨h1, h2⟩
    · exact h h1
    · exact h h2
  · intro h
    by_cases h1 : x.f0.toList = y.f0.toList
    · exact .inr fun h2 => h ⟨h1, h2⟩
    · exact .inl h1
theorem implSameSet_ev (a b : List S164) (h : a.length < 4611686018427387904) : Ev (fun k => impl_SameSet.f k a b) (sameSet a b) := by
  unfold impl_SameSet.f sameSet
  by_cases hl : a.length = b.length
  · simp only [if_pos (show (a.length : Int) = (b.length : Int) by omega)]
    rw [← scan_same0 lab z164 a b hl]
    refine scan_ev (F := fun k i => impl_SameSet.l0 k a b (a.length : Int) i) (n := a.length) (fun k => ?_) (fun i hi => ⟨0, fun k _ => ?_⟩) a.length 0 (by omega)
    · simp only [impl_SameSet.l0]; rw [if_neg (by omega)]
    · simp only [impl_SameSet.l0]
      rw [if_pos (by omega), if_pos (by omega), if_pos (by omega), if_pos (by omega), rdnLabel, rdnLabel, wrap_up i (by omega)]
      by_cases hc : lab (a.getD i z164) = lab (b.getD i z164)
      · rw [if_neg (fun e => (labNe _ _).1 e hc), if_pos hc]; rfl
      · rw [if_pos ((labNe _ _).2 hc), if_neg hc]; rfl
  · simp only [if_neg (show ¬ (a.length : Int) = (b.length : Int) by omega), decide_eq_false (map_ne_of_length hl)]
    exact Ev.now _
theorem specSameSet_ev (a b : List S164) (h : a.length < 4611686018427387904) : Ev (fun k => spec_SameSet.f k a b) (sameSet a b) := by
  unfold spec_SameSet.f sameSet
  by_cases hl : a.length = b.length
  · simp only [if_pos (show (a.length : Int) = (b.length : Int) by omega)]
    rw [← scan_same0 lab z164 a b hl]
    refine scan_ev (F := fun k i => spec_SameSet.l0 k a b i) (n := a.length) (fun k => ?_) (fun i hi => ⟨0, fun k _ => ?_⟩) a.length 0 (by omega)
    · simp only [spec_SameSet.l0]; rw [if_neg (by omega)]
    · simp only [spec_SameSet.l0]
      rw [if_pos (by omega), if_pos (by omega), if_pos (by omega), rdnLabel, rdnLabel, wrap_up i (by omega)]
      by_cases hc : lab (a.getD i z164) = lab (b.getD i z164)
      · rw [if_neg (fun e => (labNe _ _).1 e hc), if_pos hc]; rfl
      · rw [if_pos ((labNe _ _).2 hc), if_neg hc]; rfl
  · simp only [if_neg (show ¬ (a.length : Int) = (b.length : Int) by omega), decide_eq_false (map_ne_of_length hl)]
    exact Ev.now _
def alarmsOk (l : List S44) : Bool := l.all alarmOk
theorem implAlarmsOk_ev (l : List S44) (h : l.length ≤ 4000000 ∧ ∀ y ∈ l, WiAlarm y) : Ev (fun k => impl_alarmsOk.f k l) (alarmsOk l) := by
  have h1 := h.1
  unfold impl_alarmsOk.f alarmsOk
  rw [show l.all alarmOk = (l.all alarmOk && true) by simp, ← scan_all0 alarmOk z44 true l]
  refine scan_ev (F := fun k i => impl_alarmsOk.l0 k l (l.length : Int) i) (n := l.length) (fun k => ?_) (fun i hi => ?_) l.length 0 (by omega)
  · simp only [impl_alarmsOk.l0]; rw [if_neg (by omega)]
  · obtain ⟨K, g⟩ := implAlarmOk_ev (l.getD i z44) (h.2 _ (getD_mem l i _ hi))
    refine ⟨K, fun k hk => ?_⟩
    have e := g k hk
    simp only at e
    simp only [impl_alarmsOk.l0]
    rw [if_pos (by omega), if_pos (by omega), if_pos (by omega), rdnAlarm, e, Option.bind_some, wrap_up i (by omega)]
    cases alarmOk (l.getD i z44) <;> simp [goOn]
def alm (x : S44) : List (List UInt8 × List UInt8) × Int × Int × List UInt8 := (x.f0.map lab, x.f1, x.f2, x.f3.toList)
def sameAlarm (a b : S44) : Bool := decide (alm a = alm b)
def sameAlarms (a b : List S44) : Bool := decide (a.map alm = b.map alm)
theorem sameAlarm_eq (x y : S44) : sameAlarm x y = (sameSet x.f0 y.f0 && (decide (x.f1 = y.f1) && (decide (x.f2 = y.f2) && (x.f3.toList == y.f3.toList)))) := by
  unfold sameAlarm sameSet alm
  simp only [Prod.mk.injEq]
  rw [Bool.eq_iff_iff]
  simp
theorem implSameAlarm_ev (x y : S44) (h : x.f0.length < 4611686018427387904) : Ev (fun k => impl_SameAlarm.f k x.f0 x.f1 x.f2 x.f3 y.f0 y.f1 y.f2 y.f3) (sameAlarm x y) := by
  obtain ⟨K, hK⟩ := implSameSet_ev x.f0 y.f0 h
  refine ⟨K, fun k hk => ?_⟩
  have h2 := hK k hk
  simp only at h2
  rw [sameAlarm_eq]
  simp only [impl_SameAlarm.f, h2, Option.bind_some]
  cases sameSet x.f0 y.f0 <;> by_cases h3 : x.f1 = y.f1 <;> by_cases h4 : x.f2 = y.f2 <;> simp [h3, h4]
theorem specSameAlarm_ev (x y : S44) (h : x.f0.length < 4611686018427387904) : Ev (fun k => spec_SameAlarm.f k x.f0 x.f1 x.f2 x.f3 y.f0 y.f1 y.f2 y.f3) (sameAlarm x y) := by
  obtain ⟨K, hK⟩ := specSameSet_ev x.f0 y.f0 h
  refine ⟨K, fun k hk => ?_⟩
  have h2 := hK k hk
  simp only at h2
  rw [sameAlarm_eq]
  simp only [spec_SameAlarm.f, h2, Option.bind_some]
  cases sameSet x.f0 y.f0 <;> by_cases h3 : x.f1 = y.f1 <;> by_cases h4 : x.f2 = y.f2 <;> simp [h3, h4]
theorem implSameAlarms_ev (a b : List S44) (h : a.length ≤ 4000000 ∧ ∀ y ∈ a, WiAlarm y) : Ev (fun k => impl_sameAlarms.f k a b) (sameAlarms a b) := by
  have h1 := h.1
  unfold impl_sameAlarms.f sameAlarms
  by_cases hl : a.length = b.length
  · simp only [if_pos (show (a.length : Int) = (b.length : Int) by omega)]
    rw [← scan_same0 alm z44 a b hl]
    refine scan_ev (F := fun k i => impl_sameAlarms.l0 k a b (a.length : Int) i) (n := a.length) (fun k => ?_) (fun i hi => ?_) a.length 0 (by omega)
    · simp only [impl_sameAlarms.l0]; rw [if_neg (by omega)]
    · have hw := (h.2 _ (getD_mem a i z44 hi)).1.1
      obtain ⟨K, hK⟩ := implSameAlarm_ev (a.getD i z44) (b.getD i z44) (by omega)
      refine ⟨K, fun k hk => ?_⟩
      have h2 := hK k hk
      simp only at h2
      simp only [impl_sameAlarms.l0]
      rw [if_pos (by omega), if_pos (by omega), if_pos (by omega), if_pos (by omega), rdnAlarm, rdnAlarm, wrap_up i (by omega), h2, Option.bind_some]
      unfold sameAlarm
      by_cases hc : alm (a.getD i z44) = alm (b.getD i z44)
      · rw [decide_eq_true hc, if_pos hc]; rfl
      · rw [decide_eq_false hc, if_neg hc]; rfl
  · simp only [if_neg (show ¬ (a.length : Int) = (b.length : Int) by omega), decide_eq_false (map_ne_of_length hl)]
    exact Ev.now _
/-- A truth as a number. -/
def bi (b : Bool) : Int := if b = true then 1 else 0
theorem bi_iff (b : Bool) : b = true ↔ bi b = 1 := by cases b <;> simp [bi]
def noNeg (l : List Int) : Bool := l.all fun v => decide (0 ≤ v)
def zeroA (a : S44) : Bool := sameAlarm a z44
/-- What each kind of task is asked for; n: who has it. -/
def C0 (t : S97) (_n : Int) : Prop := t.f1 = 0 ∧ bi (zeroA t.f2) = 1 ∧ (t.f3.length : Int) = 0 ∧ t.f4 = 0 ∧ (t.f5.length : Int) = 0 ∧ (t.f6.length : Int) = 0 ∧ t.f7 = 0 ∧ t.f8 = 0
def C1 (t : S97) (n : Int) : Prop := n < 3 ∧ bi (alarmOk t.f2) = 1 ∧ (t.f3.length : Int) = 0 ∧ t.f4 = 0 ∧ (t.f5.length : Int) = 0 ∧ (t.f6.length : Int) = 0 ∧ t.f7 = 0
def C2 (t : S97) (n : Int) : Prop := n < 3 ∧ t.f1 < 2 ∧ bi (zeroA t.f2) = 1 ∧ bi (setOk t.f3) = 1 ∧ t.f4 = 0 ∧ (t.f5.length : Int) = 0 ∧ (t.f6.length : Int) = 0 ∧ t.f7 = 0
def C3 (t : S97) (n : Int) : Prop := n < 3 ∧ bi (zeroA t.f2) = 1 ∧ (t.f3.length : Int) = 0 ∧ t.f7 = 0 ∧ bi (noNeg t.f5) = 1 ∧ bi (alarmsOk t.f6) = 1 ∧ (t.f5.length : Int) = t.f4 ∧ (t.f1 = 2 → 1 ≤ t.f4 ∧ t.f4 ≤ 3) ∧ (¬ t.f1 = 2 → t.f4 ≤ 2)
def C4 (t : S97) (n : Int) : Prop := n < 3 ∧ t.f1 < 2 ∧ bi (zeroA t.f2) = 1 ∧ (t.f3.length : Int) = 0 ∧ t.f7 = 0 ∧ 0 ≤ t.f4 ∧ t.f4 ≤ 2 ∧ (t.f5.length : Int) = 0 ∧ (t.f6.length : Int) = 0
def C5 (t : S97) (n : Int) : Prop := n = 3 ∧ t.f1 < 2 ∧ bi (alarmOk t.f2) = 1 ∧ (t.f3.length : Int) = 0 ∧ t.f4 = 0 ∧ (t.f5.length : Int) = 0 ∧ (t.f6.length : Int) = 0 ∧ t.f7 = 0
def C6 (t : S97) (n : Int) : Prop := n = 4 ∧ t.f1 < 2 ∧ bi (zeroA t.f2) = 1 ∧ (t.f3.length : Int) = 0 ∧ t.f4 = 0 ∧ (t.f5.length : Int) = 0 ∧ (t.f6.length : Int) = 0 ∧ 0 ≤ t.f7
/-- Is the task right for this kind of receiver? -/
def taskP (t : S97) (n : Int) : Prop :=
  (0 ≤ n ∧ n ≤ 4 ∧ 0 ≤ t.f1 ∧ t.f1 ≤ 2 ∧ 0 ≤ t.f8) ∧ (if t.f0 = 0 then C0 t n else if t.f0 = 1 then C1 t n else if t.f0 = 2 then C2 t n else if t.f0 = 3 then C3 t n else if t.f0 = 4 then C4 t n else if t.f0 = 5 then C5 t n else if t.f0 = 6 then C6 t n else False)
open Classical in
noncomputable def taskOk (t : S97) (n : Int) : Bool := decide (taskP t n)
theorem taskOk_iff (t : S97) (n : Int) : taskOk t n = true ↔ taskP t n := by unfold taskOk; simp
theorem taskOk_of {t : S97} {n : Int} {b : Bool} {D : Prop} (hd : taskP t n ↔ D) (h : b = true ↔ D) : some b = some (taskOk t n) := congrArg some (Bool.eq_iff_iff.mpr (h.trans (hd.symm.trans (taskOk_iff t n).symm)))
theorem kinds7 (x : Int) : x = 0 ∨ x = 1 ∨ x = 2 ∨ x = 3 ∨ x = 4 ∨ x = 5 ∨ x = 6 ∨ (x ≠ 0 ∧ x ≠ 1 ∧ x ≠ 2 ∧ x ≠ 3 ∧ x ≠ 4 ∧ x ≠ 5 ∧ x ≠ 6) := by omega
theorem ite_of {α : Type} {c : Prop} [Decidable c] {a b x : α} (h1 : c → a = x) (h2 : ¬ c → b = x) : (if c then a else b) = x := by
  by_cases h : c
  · rw [if_pos h]; exact h1 h
  · rw [if_neg h]; exact h2 h
theorem task_facts (t : S97) : ((t.f6.length : Int) = 0 → bi (alarmsOk t.f6) = 1) ∧ ((t.f5.length : Int) = 0 → bi (noNeg t.f5) = 1) :=
  ⟨fun h => by rw [List.length_eq_zero_iff.1 (show t.f6.length = 0 by omega)]; rfl, fun h => by rw [List.length_eq_zero_iff.1 (show t.f5.length = 0 by omega)]; rfl⟩
theorem specIn (a b c : Int) : spec_l1In.f a b c = some (decide (b ≤ a ∧ a ≤ c)) := by
  unfold spec_l1In.f
  by_cases h : a ≥ b
  · rw [if_pos h]; congr 1; simp [show b ≤ a from h]
  · rw [if_neg h]; congr 1; simp [show ¬ b ≤ a from h]
theorem implIn (a b c : Int) : impl_in.f a b c = some (decide (b ≤ a ∧ a ≤ c)) := by
  unfold impl_in.f
  by_cases h : a ≥ b
  · rw [if_pos h]; congr 1; simp [show b ≤ a from h]
  · rw [if_neg h]; congr 1; simp [show ¬ b ≤ a from h]
theorem rd_nat (l : List Int) (i : Nat) : rd l (i : Int) = l.getD i 0 := by unfold rd; simp
theorem specGot_ev (l : List S44) (h : l.length ≤ 4000000 ∧ ∀ y ∈ l, WiAlarm y) : Ev (fun k => spec_l14Got.f k l) (alarmsOk l) := by
  have h1 := h.1
  unfold spec_l14Got.f alarmsOk
  rw [show l.all alarmOk = (l.all alarmOk && true) by simp, ← scan_all0 alarmOk z44 true l]
  refine scan_ev (F := fun k i => spec_l14Got.l0 k l i) (n := l.length) (fun k => ?_) (fun i hi => ?_) l.length 0 (by omega)
  · simp only [spec_l14Got.l0]; rw [if_neg (by omega)]
  · obtain ⟨K, g⟩ := specAlarmOk_ev (l.getD i z44) (h.2 _ (getD_mem l i _ hi))
    refine ⟨K, fun k hk => ?_⟩
    have e := g k hk
    simp only at e
    simp only [spec_l14Got.l0]
    rw [if_pos (by omega), if_pos (by omega), rdnAlarm, e, Option.bind_some, wrap_up i (by omega)]
    cases alarmOk (l.getD i z44) <;> simp [goOn]
theorem specZero_ev (a : S44) (h : WiAlarm a) : Ev (fun k => spec_l14Zero.f k a.f0 a.f1 a.f2 a.f3) (zeroA a) := by
  have h1 := h.1.1
  obtain ⟨K, g⟩ := specSameAlarm_ev a z44 (by omega)
  refine ⟨K, fun k hk => ?_⟩
  have e := g k hk
  simp only at e
  have e2 : spec_SameAlarm.f k a.f0 a.f1 a.f2 a.f3 ([] : List S164) 0 0 (⟨#[]⟩ : ByteArray) = some (zeroA a) := e
  simp only [spec_l14Zero.f, e2, Option.bind_some]
def seenV (t : S97) : Bool := noNeg t.f5 && (if t.f1 = 2 then (decide (1 ≤ (t.f5.length : Int) ∧ (t.f5.length : Int) ≤ 3) && (t.f4 == (t.f5.length : Int))) else (decide ((t.f5.length : Int) = t.f4) && decide (t.f4 ≤ 2)))
theorem seenV_iff (t : S97) : seenV t = true ↔ bi (noNeg t.f5) = 1 ∧ ((t.f1 = 2 ∧ 1 ≤ (t.f5.length : Int) ∧ (t.f5.length : Int) ≤ 3 ∧ t.f4 = (t.f5.length : Int)) ∨ (¬ t.f1 = 2 ∧ (t.f5.length : Int) = t.f4 ∧ t.f4 ≤ 2)) := by
  unfold seenV
  rw [Bool.and_eq_true, bi_iff (noNeg t.f5)]
  by_cases h : t.f1 = 2
  · rw [if_pos h]; simp only [Bool.and_eq_true, decide_eq_true_eq, beq_iff_eq]; omega
  · rw [if_neg h]; simp only [Bool.and_eq_true, decide_eq_true_eq]; omega
theorem specSeen_ev (t : S97) (h : WiTask t) : Ev (fun k => spec_l14Seen.f k t.f0 t.f1 t.f2.f0 t.f2.f1 t.f2.f2 t.f2.f3 t.f3 t.f4 t.f5 t.f6 t.f7 t.f8) (seenV t) := by
  have h1 := h.2.2.2.2.2.1.1
  unfold spec_l14Seen.f seenV noNeg
  rw [← scan_all0 (fun v => decide (0 ≤ v)) (0 : Int) _ t.f5]
  refine scan_ev (F := fun k i => spec_l14Seen.l0 k i t.f0 t.f1 t.f2.f0 t.f2.f1 t.f2.f2 t.f2.f3 t.f3 t.f4 t.f5 t.f6 t.f7 t.f8) (n := t.f5.length) (fun k => ?_) (fun i hi => ⟨0, fun k _ => ?_⟩) t.f5.length 0 (by omega)
  · simp only [spec_l14Seen.l0]
    rw [if_neg (by omega)]
    by_cases h2 : t.f1 = 2
    · rw [if_pos h2, if_pos h2, specIn, Option.bind_some]
      by_cases h3 : 1 ≤ (t.f5.length : Int) ∧ (t.f5.length : Int) ≤ 3
      · rw [decide_eq_true h3, if_pos rfl, Bool.true_and]
      · rw [decide_eq_false h3, if_neg (by simp), Bool.false_and]
    · rw [if_neg h2, if_neg h2]
      by_cases h3 : (t.f5.length : Int) = t.f4
      · rw [if_pos h3, decide_eq_true h3, Bool.true_and]
      · rw [if_neg h3, decide_eq_false h3, Bool.false_and]
  · simp only [spec_l14Seen.l0]
    rw [if_pos (by omega), if_pos (by omega), rd_nat, wrap_up i (by omega)]
    by_cases hv : t.f5.getD i 0 < 0
    · rw [if_pos hv, decide_eq_false (show ¬ 0 ≤ t.f5.getD i 0 by omega)]; rfl
    · rw [if_neg hv, decide_eq_true (show 0 ≤ t.f5.getD i 0 by omega)]; rfl
theorem specTaskOk_ev (t : S97) (n : Int) (h : WiTask t) : Ev (fun k => spec_TaskOk.f k t.f0 t.f1 t.f2.f0 t.f2.f1 t.f2.f2 t.f2.f3 t.f3 t.f4 t.f5 t.f6 t.f7 t.f8 n) (taskOk t n) := by
  obtain ⟨K1, g1⟩ := specGot_ev t.f6 h.2.2.2.2.2.2.1
  obtain ⟨K2, g2⟩ := specZero_ev t.f2 h.2.2.1
  obtain ⟨K3, g3⟩ := specAlarmOk_ev t.f2 h.2.2.1
  obtain ⟨K4, g4⟩ := specSetOk_ev t.f3 h.2.2.2.1
  obtain ⟨K5, g5⟩ := specSeen_ev t h
  obtain ⟨c1, c2⟩ := task_facts t
  refine ⟨K1 + K2 + K3 + K4 + K5 + 2, fun k hk => ?_⟩
  obtain ⟨k, rfl⟩ : ∃ m, k = m + 2 := ⟨k - 2, by omega⟩
  have e1 := g1 (k + 2) (by omega)
  have e2 := g2 k (by omega)
  have e3 := g3 k (by omega)
  have e4 := g4 k (by omega)
  have e5 := g5 k (by omega)
  simp only at e1 e2 e3 e4 e5
  clear g1 g2 g3 g4 g5 hk h
  have hj : ∀ b : Bool, spec_TaskOk.j1 (k + 1) n b t.f0 t.f1 t.f2.f0 t.f2.f1 t.f2.f2 t.f2.f3 t.f3 t.f4 t.f5 t.f6 t.f7 t.f8 = some (if t.f0 = 0 then (decide (t.f1 = 0) && (zeroA t.f2 && (decide ((t.f3.length : Int) = 0) && (b && (decide (t.f7 = 0) && decide (t.f8 = 0)))))) else if t.f0 = 1 then (decide (n < 3) && (alarmOk t.f2 && (decide ((t.f3.length : Int) = 0) && (b && decide (t.f7 = 0))))) else if t.f0 = 2 then (decide (n < 3) && (decide (t.f1 < 2) && (zeroA t.f2 && (setOk t.f3 && (b && decide (t.f7 = 0)))))) else if t.f0 = 3 then (decide (n < 3) && (zeroA t.f2 && (decide ((t.f3.length : Int) = 0) && (decide (t.f7 = 0) && seenV t)))) else if t.f0 = 4 then (decide (n < 3) && (decide (t.f1 < 2) && (zeroA t.f2 && (decide ((t.f3.length : Int) = 0) && (decide (t.f7 = 0) && (decide (t.f4 ≤ 2) && (decide ((t.f5.length : Int) = 0) && decide ((t.f6.length : Int) = 0)))))))) else if t.f0 = 5 then (decide (n = 3) && (decide (t.f1 < 2) && (alarmOk t.f2 && (decide ((t.f3.length : Int) = 0) && (b && decide (t.f7 = 0)))))) else if t.f0 = 6 then (decide (n = 4) && (decide (t.f1 < 2) && (zeroA t.f2 && (decide ((t.f3.length : Int) = 0) && b)))) else false) := fun b => by
    simp only [spec_TaskOk.j1, e2, e3, e4, e5, Option.bind_some]
    generalize (t.f3.length : Int) = m3
    generalize (t.f5.length : Int) = m5
    generalize (t.f6.length : Int) = m6
    rcases kinds7 t.f0 with h | h | h | h | h | h | h | ⟨h0, h1, h2, h3, h4, h5, h6⟩
    · simp only [h, if_true]; by_cases q1 : t.f1 = 0 <;> by_cases q2 : m3 = 0 <;> by_cases q3 : t.f7 = 0 <;> cases zeroA t.f2 <;> cases b <;> simp [q1, q2, q3] <;> rfl
    · simp only [h, Int.reduceEq, if_true, if_false]; by_cases q1 : n < 3 <;> by_cases q2 : m3 = 0 <;> cases alarmOk t.f2 <;> cases b <;> simp [q1, q2] <;> rfl
    · simp only [h, Int.reduceEq, if_true, if_false]; by_cases q1 : n < 3 <;> by_cases q2 : t.f1 < 2 <;> cases zeroA t.f2 <;> cases setOk t.f3 <;> cases b <;> simp [q1, q2] <;> rfl
    · simp only [h, Int.reduceEq, if_true, if_false]; by_cases q1 : n < 3 <;> by_cases q2 : m3 = 0 <;> by_cases q3 : t.f7 = 0 <;> cases zeroA t.f2 <;> simp [q1, q2, q3]
    · simp only [h, Int.reduceEq, if_true, if_false]; by_cases q1 : n < 3 <;> by_cases q2 : t.f1 < 2 <;> by_cases q3 : m3 = 0 <;> by_cases q4 : t.f7 = 0 <;> by_cases q5 : t.f4 ≤ 2 <;> by_cases q6 : m5 = 0 <;> cases zeroA t.f2 <;> simp [q1, q2, q3, q4, q5, q6] <;> rfl
    · simp only [h, Int.reduceEq, if_true, if_false]; by_cases q1 : n = 3 <;> by_cases q2 : t.f1 < 2 <;> by_cases q3 : m3 = 0 <;> cases alarmOk t.f2 <;> cases b <;> simp [q1, q2, q3] <;> rfl
    · simp only [h, Int.reduceEq, if_true, if_false]; by_cases q1 : n = 4 <;> by_cases q2 : t.f1 < 2 <;> by_cases q3 : m3 = 0 <;> cases zeroA t.f2 <;> simp [q1, q2, q3]
    · rw [if_neg h0, if_neg h1, if_neg h2, if_neg h3, if_neg h4, if_neg h5, if_neg h6, if_neg h0, if_neg h1, if_neg h2, if_neg h3, if_neg h4, if_neg h5, if_neg h6]
  have hf : spec_TaskOk.f (k + 2) t.f0 t.f1 t.f2.f0 t.f2.f1 t.f2.f2 t.f2.f3 t.f3 t.f4 t.f5 t.f6 t.f7 t.f8 n = if (0 ≤ n ∧ n ≤ 4 ∧ 0 ≤ t.f1 ∧ t.f1 ≤ 2 ∧ 0 ≤ t.f8) ∧ alarmsOk t.f6 = true ∧ 0 ≤ t.f4 ∧ 0 ≤ t.f7 then spec_TaskOk.j1 (k + 1) n (decide (t.f4 = 0) && (decide ((t.f5.length : Int) = 0) && decide ((t.f6.length : Int) = 0))) t.f0 t.f1 t.f2.f0 t.f2.f1 t.f2.f2 t.f2.f3 t.f3 t.f4 t.f5 t.f6 t.f7 t.f8 else some false := by
    simp only [spec_TaskOk.f, specIn, e1, Option.bind_some]
    by_cases q1 : t.f8 < 0
    · rw [if_pos q1, if_neg (by omega)]; simp only [spec_TaskOk.j0, if_true]
    rw [if_neg q1]
    by_cases q2 : 0 ≤ t.f1 ∧ t.f1 ≤ 2
    · rw [decide_eq_true q2, if_pos rfl]
      by_cases q3 : 0 ≤ n ∧ n ≤ 4
      · rw [decide_eq_true q3, if_pos rfl]
        by_cases q4 : alarmsOk t.f6 = true
        · rw [if_pos q4]
          by_cases q5 : t.f4 < 0
          · rw [if_pos q5, if_neg (by omega)]; simp only [spec_TaskOk.j0, if_true]
          · rw [if_neg q5]
            by_cases q6 : t.f7 < 0
            · rw [decide_eq_true q6, if_neg (by omega)]; simp only [spec_TaskOk.j0, if_true]
            · rw [decide_eq_false q6, if_pos ⟨by omega, q4, by omega, by omega⟩]
              simp only [spec_TaskOk.j0, Bool.false_eq_true, if_false]
              by_cases q7 : t.f4 = 0
              · by_cases q8 : (t.f5.length : Int) = 0
                · rw [if_pos q7, if_pos q8, decide_eq_true q7, decide_eq_true q8]; rfl
                · rw [if_pos q7, if_neg q8, decide_eq_true q7, decide_eq_false q8]; rfl
              · rw [if_neg q7, decide_eq_false q7]; rfl
        · rw [if_neg q4, if_neg (fun hh => q4 hh.2.1)]; simp only [spec_TaskOk.j0, if_true]
      · rw [decide_eq_false q3, if_neg (by simp), if_neg (by omega)]; simp only [spec_TaskOk.j0, if_true]
    · rw [decide_eq_false q2, if_neg (by simp), if_neg (by omega)]; simp only [spec_TaskOk.j0, if_true]
  show spec_TaskOk.f (k + 2) t.f0 t.f1 t.f2.f0 t.f2.f1 t.f2.f2 t.f2.f3 t.f3 t.f4 t.f5 t.f6 t.f7 t.f8 n = _
  rw [hf, hj]
  clear hf hj e1 e2 e3 e4 e5
  refine ite_of (fun q => ?_) (fun q => ?_)
  · rw [bi_iff (alarmsOk t.f6)] at q
    rcases kinds7 t.f0 with h | h | h | h | h | h | h | ⟨h0, h1, h2, h3, h4, h5, h6⟩
    · refine taskOk_of (D := _ ∧ C0 t n) (by unfold taskP; rw [if_pos h]) ?_
      rw [if_pos h]; unfold C0; simp only [Bool.and_eq_true, decide_eq_true_eq, bi_iff (zeroA t.f2)]; omega
    · refine taskOk_of (D := _ ∧ C1 t n) (by unfold taskP; simp only [h, Int.reduceEq, if_true, if_false]; exact Iff.rfl) ?_
      simp only [h, Int.reduceEq, if_true, if_false, C1, Bool.and_eq_true, decide_eq_true_eq, bi_iff (alarmOk t.f2)]; omega
    · refine taskOk_of (D := _ ∧ C2 t n) (by unfold taskP; simp only [h, Int.reduceEq, if_true, if_false]; exact Iff.rfl) ?_
      simp only [h, Int.reduceEq, if_true, if_false, C2, Bool.and_eq_true, decide_eq_true_eq, bi_iff (zeroA t.f2), bi_iff (setOk t.f3)]; omega
    · refine taskOk_of (D := _ ∧ C3 t n) (by unfold taskP; simp only [h, Int.reduceEq, if_true, if_false]; exact Iff.rfl) ?_
      simp only [h, Int.reduceEq, if_true, if_false, C3, Bool.and_eq_true, decide_eq_true_eq, bi_iff (zeroA t.f2), seenV_iff]; omega
    · refine taskOk_of (D := _ ∧ C4 t n) (by unfold taskP; simp only [h, Int.reduceEq, if_true, if_false]; exact Iff.rfl) ?_
      simp only [h, Int.reduceEq, if_true, if_false, C4, Bool.and_eq_true, decide_eq_true_eq, bi_iff (zeroA t.f2)]; omega
    · refine taskOk_of (D := _ ∧ C5 t n) (by unfold taskP; simp only [h, Int.reduceEq, if_true, if_false]; exact Iff.rfl) ?_
      simp only [h, Int.reduceEq, if_true, if_false, C5, Bool.and_eq_true, decide_eq_true_eq, bi_iff (alarmOk t.f2)]; omega
    · refine taskOk_of (D := _ ∧ C6 t n) (by unfold taskP; simp only [h, Int.reduceEq, if_true, if_false]; exact Iff.rfl) ?_
      simp only [h, Int.reduceEq, if_true, if_false, C6, Bool.and_eq_true, decide_eq_true_eq, bi_iff (zeroA t.f2)]; omega
    · refine taskOk_of (D := False) (by unfold taskP; rw [if_neg h0, if_neg h1, if_neg h2, if_neg h3, if_neg h4, if_neg h5, if_neg h6]; exact ⟨fun hh => hh.2, fun hh => hh.elim⟩) ?_
      rw [if_neg h0, if_neg h1, if_neg h2, if_neg h3, if_neg h4, if_neg h5, if_neg h6]; simp
  · rw [bi_iff (alarmsOk t.f6)] at q
    refine taskOk_of (D := False) (iff_false_intro (fun hp => q ?_)) (by simp)
    unfold taskP at hp
    refine ⟨hp.1, ?_⟩
    have hp2 := hp.2
    rcases kinds7 t.f0 with h | h | h | h | h | h | h | ⟨h0, h1, h2, h3, h4, h5, h6⟩
    · rw [if_pos h] at hp2; unfold C0 at hp2; omega
    · simp only [h, Int.reduceEq, if_true, if_false, C1] at hp2; omega
    · simp only [h, Int.reduceEq, if_true, if_false, C2] at hp2; omega
    · simp only [h, Int.reduceEq, if_true, if_false, C3] at hp2; omega
    · simp only [h, Int.reduceEq, if_true, if_false, C4] at hp2; omega
    · simp only [h, Int.reduceEq, if_true, if_false, C5] at hp2; omega
    · simp only [h, Int.reduceEq, if_true, if_false, C6] at hp2; omega
    · rw [if_neg h0, if_neg h1, if_neg h2, if_neg h3, if_neg h4, if_neg h5, if_neg h6] at hp2; exact hp2.elim
/-- Two tasks are the same. -/
def sameTask (a b : S97) : Bool := decide (a.f0 = b.f0) && (decide (a.f1 = b.f1) && (sameAlarm a.f2 b.f2 && (sameSet a.f3 b.f3 && (decide (a.f4 = b.f4) && (decide (a.f5 = b.f5) && (sameAlarms a.f6 b.f6 && (decide (a.f7 = b.f7) && decide (a.f8 = b.f8))))))))
theorem implSameInts_ev (a b : List Int) (h : a.length ≤ 4000000) : Ev (fun k => impl_sameInts.f k a b) (decide (a = b)) := by
  unfold impl_sameInts.f
  by_cases hl : a.length = b.length
  · simp only [if_pos (show (a.length : Int) = (b.length : Int) by omega)]
    have e : decide (a = b) = decide (a.map id = b.map id) := by rw [List.map_id, List.map_id]
    rw [e, ← scan_same0 id (0 : Int) a b hl]
    refine scan_ev (F := fun k i => impl_sameInts.l0 k a b (a.length : Int) i) (n := a.length) (fun k => ?_) (fun i hi => ⟨0, fun k _ => ?_⟩) a.length 0 (by omega)
    · simp only [impl_sameInts.l0]; rw [if_neg (by omega)]
    · simp only [impl_sameInts.l0]
      rw [if_pos (by omega), if_pos (by omega), if_pos (by omega), if_pos (by omega), rd_nat, rd_nat, wrap_up i (by omega)]
      by_cases hc : a.getD i 0 = b.getD i 0
      · rw [if_pos hc, if_pos (show id (a.getD i 0) = id (b.getD i 0) from hc)]; rfl
      · rw [if_neg hc, if_neg (show ¬ id (a.getD i 0) = id (b.getD i 0) from hc)]; rfl
  · simp only [if_neg (show ¬ (a.length : Int) = (b.length : Int) by omega), decide_eq_false (show ¬ a = b from fun e => hl (by rw [e]))]
    exact Ev.now _
theorem implSameTask_ev (a b : S97) (h : WiTask a) : Ev (fun k => impl_sameTask.f k a.f0 a.f1 a.f2.f0 a.f2.f1 a.f2.f2 a.f2.f3 a.f3 a.f4 a.f5 a.f6 a.f7 a.f8 b.f0 b.f1 b.f2.f0 b.f2.f1 b.f2.f2 b.f2.f3 b.f3 b.f4 b.f5 b.f6 b.f7 b.f8) (sameTask a b) := by
  obtain ⟨K1, g1⟩ := implSameAlarm_ev a.f2 b.f2 (by have := h.2.2.1.1.1; omega)
  obtain ⟨K2, g2⟩ := implSameSet_ev a.f3 b.f3 (by have := h.2.2.2.1.1; omega)
  obtain ⟨K3, g3⟩ := implSameInts_ev a.f5 b.f5 h.2.2.2.2.2.1.1
  obtain ⟨K4, g4⟩ := implSameAlarms_ev a.f6 b.f6 h.2.2.2.2.2.2.1
  refine ⟨K1 + K2 + K3 + K4, fun k hk => ?_⟩
  have e1 := g1 k (by omega)
  have e2 := g2 k (by omega)
  have e3 := g3 k (by omega)
  have e4 := g4 k (by omega)
  simp only at e1 e2 e3 e4
  simp only [impl_sameTask.f, e1, e2, e3, e4, Option.bind_some, sameTask]
  generalize sameAlarm a.f2 b.f2 = x1
  generalize sameSet a.f3 b.f3 = x2
  generalize decide (a.f5 = b.f5) = x3
  generalize sameAlarms a.f6 b.f6 = x4
  by_cases q1 : a.f0 = b.f0
  · by_cases q2 : a.f1 = b.f1
    · rw [if_pos q1, if_pos q2, decide_eq_true q1, decide_eq_true q2]
      cases x1
      · rfl
      cases x2
      · rfl
      by_cases q3 : a.f4 = b.f4
      · simp only [if_true, if_pos q3, decide_eq_true q3, Bool.true_and]
        cases x3
        · rfl
        cases x4
        · rfl
        by_cases q4 : a.f7 = b.f7
        · simp only [if_true, if_pos q4, decide_eq_true q4, Bool.true_and]; rfl
        · simp only [if_true, if_neg q4, decide_eq_false q4, Bool.true_and, Bool.false_and]
      · simp only [if_true, if_neg q3, decide_eq_false q3, Bool.true_and, Bool.false_and]
    · rw [if_pos q1, if_neg q2, decide_eq_true q1, decide_eq_false q2]; rfl
  · rw [if_neg q1, decide_eq_false q1]; rfl
def snapOk (t : S97) : Bool := noNeg t.f5 && (decide ((t.f5.length : Int) = t.f4) && (alarmsOk t.f6 && (if t.f1 = 2 then decide (1 ≤ t.f4 ∧ t.f4 ≤ 3) else decide (0 ≤ t.f4 ∧ t.f4 ≤ 2))))
theorem implSnapOk_ev (t : S97) (h : WiTask t) : Ev (fun k => impl_snapOk.f k t.f0 t.f1 t.f2.f0 t.f2.f1 t.f2.f2 t.f2.f3 t.f3 t.f4 t.f5 t.f6 t.f7 t.f8) (snapOk t) := by
  have h1 := h.2.2.2.2.2.1.1
  obtain ⟨K, g⟩ := implAlarmsOk_ev t.f6 h.2.2.2.2.2.2.1
  unfold impl_snapOk.f snapOk noNeg
  rw [← scan_all0 (fun v => decide (0 ≤ v)) (0 : Int) _ t.f5]
  refine scan_ev2 (F := fun k i => impl_snapOk.l0 k t.f5 (t.f5.length : Int) i t.f0 t.f1 t.f2.f0 t.f2.f1 t.f2.f2 t.f2.f3 t.f3 t.f4 t.f5 t.f6 t.f7 t.f8) (n := t.f5.length) ⟨K + 1, fun k hk => ?_⟩ (fun i hi => ⟨0, fun k _ => ?_⟩) t.f5.length 0 (by omega)
  · obtain ⟨k, rfl⟩ : ∃ m, k = m + 1 := ⟨k - 1, by omega⟩
    have e := g (k + 1) (by omega)
    simp only at e
    simp only [impl_snapOk.l0]
    rw [if_neg (by omega)]
    by_cases q : (t.f5.length : Int) = t.f4
    · rw [if_pos q, e, Option.bind_some, decide_eq_true q, Bool.true_and]
      cases alarmsOk t.f6
      · simp only [impl_snapOk.j1, Bool.not_false, if_true, Bool.false_and]
      · simp only [impl_snapOk.j1, Bool.not_true, Bool.false_eq_true, if_false, implIn, Option.bind_some, Bool.true_and]
        by_cases q2 : t.f1 = 2
        · rw [if_pos q2, if_pos q2]
        · rw [if_neg q2, if_neg q2]
    · rw [if_neg q, decide_eq_false q, Bool.false_and]; simp only [impl_snapOk.j1, if_true]
  · simp only [impl_snapOk.l0]
    rw [if_pos (by omega), if_pos (by omega), if_pos (by omega), rd_nat, wrap_up i (by omega)]
    by_cases hv : t.f5.getD i 0 < 0
    · rw [if_pos hv, decide_eq_false (show ¬ 0 ≤ t.f5.getD i 0 by omega)]; rfl
    · rw [if_neg hv, decide_eq_true (show 0 ≤ t.f5.getD i 0 by omega)]; rfl
theorem sameSet_nil (l : List S164) : sameSet l [] = decide ((l.length : Int) = 0) := by
  cases l with
  | nil => rfl
  | cons y ys => rw [decide_eq_false (by simp only [List.length_cons]; omega)]; unfold sameSet; rw [decide_eq_false (by simp)]
theorem sameAlarms_nil (l : List S44) : sameAlarms l [] = decide ((l.length : Int) = 0) := by
  cases l with
  | nil => rfl
  | cons y ys => rw [decide_eq_false (by simp only [List.length_cons]; omega)]; unfold sameAlarms; rw [decide_eq_false (by simp)]
theorem ints_nil (l : List Int) : decide (l = []) = decide ((l.length : Int) = 0) := by
  cases l with
  | nil => rfl
  | cons y ys => rw [decide_eq_false (show ¬ (y :: ys = []) by simp), decide_eq_false (show ¬ (((y :: ys).length : Int) = 0) by simp only [List.length_cons]; omega)]
theorem sameSet_self (l : List S164) : sameSet l l = true := by unfold sameSet; exact decide_eq_true rfl
theorem sameAlarm_self (a : S44) : sameAlarm a a = true := by unfold sameAlarm; exact decide_eq_true rfl
theorem sameAlarms_self (l : List S44) : sameAlarms l l = true := by unfold sameAlarms; exact decide_eq_true rfl
def onlyT (t : S97) (a : S44) (l : List S164) (i : Int) (s : List Int) (g : List S44) (m : Int) : S97 := ⟨t.f0, t.f1, a, l, i, s, g, m, t.f8⟩
theorem same_only (t : S97) (a : S44) (l : List S164) (i : Int) (s : List Int) (g : List S44) (m : Int) : sameTask t ⟨t.f0, t.f1, a, l, i, s, g, m, t.f8⟩ = (sameAlarm t.f2 a && (sameSet t.f3 l && (decide (t.f4 = i) && (decide (t.f5 = s) && (sameAlarms t.f6 g && decide (t.f7 = m)))))) := by
  unfold sameTask; simp only [decide_true, Bool.true_and, Bool.and_true]
theorem zeroA_eq (t : S97) : sameAlarm t.f2 ⟨[], 0, 0, ⟨#[]⟩⟩ = zeroA t.f2 := rfl
theorem same_zero (t : S97) : sameTask t ⟨0, 0, ⟨[], 0, 0, ⟨#[]⟩⟩, [], 0, [], [], 0, 0⟩ = (decide (t.f0 = 0) && (decide (t.f1 = 0) && (zeroA t.f2 && (decide ((t.f3.length : Int) = 0) && (decide (t.f4 = 0) && (decide ((t.f5.length : Int) = 0) && (decide ((t.f6.length : Int) = 0) && (decide (t.f7 = 0) && decide (t.f8 = 0))))))))) := by
  unfold sameTask; rw [← ints_nil, ← sameSet_nil, ← sameAlarms_nil]; rfl
theorem snapOk_iff (t : S97) : snapOk t = true ↔ bi (noNeg t.f5) = 1 ∧ (t.f5.length : Int) = t.f4 ∧ bi (alarmsOk t.f6) = 1 ∧ (t.f1 = 2 → 1 ≤ t.f4 ∧ t.f4 ≤ 3) ∧ (¬ t.f1 = 2 → 0 ≤ t.f4 ∧ t.f4 ≤ 2) := by
  unfold snapOk
  rw [Bool.and_eq_true, bi_iff (noNeg t.f5), Bool.and_eq_true, Bool.and_eq_true, bi_iff (alarmsOk t.f6), decide_eq_true_eq]
  by_cases h : t.f1 = 2
  · rw [if_pos h, decide_eq_true_eq]; omega
  · rw [if_neg h, decide_eq_true_eq]; omega
theorem implTaskOk_ev (t : S97) (n : Int) (h : WiTask t) : Ev (fun k => impl_TaskOk.f k t.f0 t.f1 t.f2.f0 t.f2.f1 t.f2.f2 t.f2.f3 t.f3 t.f4 t.f5 t.f6 t.f7 t.f8 n) (taskOk t n) := by
  obtain ⟨K1, g1⟩ := implAlarmOk_ev t.f2 h.2.2.1
  obtain ⟨K2, g2⟩ := implSetOk_ev t.f3 h.2.2.2.1
  obtain ⟨K3, g3⟩ := implSnapOk_ev t h
  obtain ⟨M0, f0⟩ := implSameTask_ev t z97 h
  obtain ⟨M1, f1⟩ := implSameTask_ev t (onlyT t t.f2 [] 0 [] [] 0) h
  obtain ⟨M2, f2⟩ := implSameTask_ev t (onlyT t z44 t.f3 0 [] [] 0) h
  obtain ⟨M3, f3⟩ := implSameTask_ev t (onlyT t z44 [] t.f4 t.f5 t.f6 0) h
  obtain ⟨M4, f4⟩ := implSameTask_ev t (onlyT t z44 [] t.f4 [] [] 0) h
  obtain ⟨M6, f6⟩ := implSameTask_ev t (onlyT t z44 [] 0 [] [] t.f7) h
  obtain ⟨M7, f7⟩ := implSameTask_ev t (onlyT t z44 [] 0 [] [] 0) h
  obtain ⟨c1, c2⟩ := task_facts t
  refine ⟨K1 + K2 + K3 + M0 + M1 + M2 + M3 + M4 + M6 + M7 + 6, fun k hk => ?_⟩
  obtain ⟨k, rfl⟩ : ∃ m, k = m + 6 := ⟨k - 6, by omega⟩
  have a1 := g1 (k + 5) (by omega)
  have a5 := g1 (k + 1) (by omega)
  have s2 := g2 (k + 4) (by omega)
  have s3 := g3 (k + 3) (by omega)
  have e0 := f0 (k + 6) (by omega)
  have e1 := f1 (k + 5) (by omega)
  have e2 := f2 (k + 4) (by omega)
  have e3 := f3 (k + 3) (by omega)
  have e4 := f4 (k + 2) (by omega)
  have e5 := f1 (k + 1) (by omega)
  have e6 := f6 k (by omega)
  have e7 := f7 k (by omega)
  simp only [onlyT, z97, z44] at a1 a5 s2 s3 e0 e1 e2 e3 e4 e5 e6 e7
  clear g1 g2 g3 f0 f1 f2 f3 f4 f6 f7 hk h
  show impl_TaskOk.f (k + 6) t.f0 t.f1 t.f2.f0 t.f2.f1 t.f2.f2 t.f2.f3 t.f3 t.f4 t.f5 t.f6 t.f7 t.f8 n = _
  unfold impl_TaskOk.f
  rw [implIn]
  simp only [Option.bind_some]
  by_cases hn : 0 ≤ n ∧ n ≤ 4
  · rw [decide_eq_true hn, if_pos rfl]
    simp only [impl_TaskOk.j0, impl_TaskOk.j1, impl_TaskOk.j2, impl_TaskOk.j3, impl_TaskOk.j4, impl_TaskOk.j5, a1, a5, s2, s3, e0, e1, e2, e3, e4, e5, e6, e7, implIn, Option.bind_some, same_only, same_zero, sameAlarm_self, sameSet_self, sameAlarms_self, zeroA_eq, sameSet_nil, sameAlarms_nil, ints_nil, decide_true, decide_eq_true_eq, beq_iff_eq, Bool.true_and, Bool.and_true, Bool.false_eq_true, if_false, bi_iff (alarmOk t.f2), bi_iff (setOk t.f3), snapOk_iff]
    clear a1 a5 s2 s3 e0 e1 e2 e3 e4 e5 e6 e7
    rcases kinds7 t.f0 with h | h | h | h | h | h | h | ⟨h0, h1, h2, h3, h4, h5, h6⟩
    · rw [if_pos h]
      refine taskOk_of (D := _ ∧ C0 t n) (by unfold taskP; rw [if_pos h]) ?_
      unfold C0; simp only [Bool.and_eq_true, decide_eq_true_eq, bi_iff (zeroA t.f2)]; omega
    · simp only [h, Int.reduceEq, if_true, if_false]
      repeat' (with_reducible refine ite_of (fun _ => ?_) (fun _ => ?_))
      all_goals (refine taskOk_of (D := _ ∧ C1 t n) (by unfold taskP; simp only [h, Int.reduceEq, if_true, if_false]; exact Iff.rfl) ?_; simp only [C1, Bool.and_eq_true, decide_eq_true_eq, Bool.false_eq_true, false_iff]; omega)
    · simp only [h, Int.reduceEq, if_true, if_false]
      repeat' (with_reducible refine ite_of (fun _ => ?_) (fun _ => ?_))
      all_goals (refine taskOk_of (D := _ ∧ C2 t n) (by unfold taskP; simp only [h, Int.reduceEq, if_true, if_false]; exact Iff.rfl) ?_; simp only [C2, Bool.and_eq_true, decide_eq_true_eq, Bool.false_eq_true, false_iff, bi_iff (zeroA t.f2)]; omega)
    · simp only [h, Int.reduceEq, if_true, if_false]
      repeat' (with_reducible refine ite_of (fun _ => ?_) (fun _ => ?_))
      all_goals (refine taskOk_of (D := _ ∧ C3 t n) (by unfold taskP; simp only [h, Int.reduceEq, if_true, if_false]; exact Iff.rfl) ?_; simp only [C3, Bool.and_eq_true, decide_eq_true_eq, Bool.false_eq_true, false_iff, bi_iff (zeroA t.f2)]; omega)
    · simp only [h, Int.reduceEq, if_true, if_false]
      repeat' (with_reducible refine ite_of (fun _ => ?_) (fun _ => ?_))
      all_goals (refine taskOk_of (D := _ ∧ C4 t n) (by unfold taskP; simp only [h, Int.reduceEq, if_true, if_false]; exact Iff.rfl) ?_; simp only [C4, Bool.and_eq_true, decide_eq_true_eq, Bool.false_eq_true, false_iff, bi_iff (zeroA t.f2)]; omega)
    · simp only [h, Int.reduceEq, if_true, if_false]
      repeat' (with_reducible refine ite_of (fun _ => ?_) (fun _ => ?_))
      all_goals (refine taskOk_of (D := _ ∧ C5 t n) (by unfold taskP; simp only [h, Int.reduceEq, if_true, if_false]; exact Iff.rfl) ?_; simp only [C5, Bool.and_eq_true, decide_eq_true_eq, Bool.false_eq_true, false_iff]; omega)
    · simp only [h, Int.reduceEq, if_true, if_false]
      repeat' (with_reducible refine ite_of (fun _ => ?_) (fun _ => ?_))
      all_goals (refine taskOk_of (D := _ ∧ C6 t n) (by unfold taskP; simp only [h, Int.reduceEq, if_true, if_false]; exact Iff.rfl) ?_; simp only [C6, Bool.and_eq_true, decide_eq_true_eq, Bool.false_eq_true, false_iff, bi_iff (zeroA t.f2)]; omega)
    · simp only [if_neg h0, if_neg h1, if_neg h2, if_neg h3, if_neg h4, if_neg h5, if_neg h6]
      refine taskOk_of (D := False) (by unfold taskP; rw [if_neg h0, if_neg h1, if_neg h2, if_neg h3, if_neg h4, if_neg h5, if_neg h6]; exact ⟨fun hh => hh.2, fun hh => hh.elim⟩) (by simp)
  · rw [decide_eq_false hn, if_neg (by simp)]
    exact taskOk_of (D := False) (iff_false_intro (fun hp => hn ⟨hp.1.1, hp.1.2.1⟩)) (by simp)
end Go.Proofs.Ytfholjcelnkleaa.Print
end
section
/- The law FnExactTaskOk answers true for all arguments that can be read: the pure statement, without Go and memory. No condition. -/
namespace Go.Proofs.Ytfholjcelnkleaa.Print
open Go.RowKit Go.Proofs.YtfholjcelnkleaaV.PrintWords Go.Proofs.YtfholjcelnkleaaV.PrintLast Go.Proofs.YtfholjcelnkleaaV.PrintMore
set_option linter.unusedVariables false
set_option linter.unusedSimpArgs false
theorem pure_FnExactTaskOk : laws_FnExactTaskOk.Pure := by
  intro p0_0 p0_1 p0_2 p0_3 p0_4 p0_5 p0_6 p0_7 p0_8 p0_9 p0_10 p0_11 p1 hp0_0 hp0_1 hp0_2 hp0_3 hp0_4 hp0_5 hp0_6 hp0_7 hp0_8 hp0_9 hp0_10 hp0_11 hp1
  obtain ⟨r0, ⟨K0, g0⟩, le0, w0⟩ := szTask_ev (⟨p0_0, p0_1, ⟨p0_2, p0_3, p0_4, p0_5⟩, p0_6, p0_7, p0_8, p0_9, p0_10, p0_11⟩ : S93) ⟨hp0_0, hp0_1, ⟨hp0_2, hp0_3, hp0_4, hp0_5⟩, hp0_6, hp0_7, hp0_8, hp0_9, hp0_10, hp0_11⟩ 1048576 (by omega) (by omega)
  simp only at g0
  by_cases c0 : r0 < 0
  · exact ⟨K0, by simp [laws_FnExactTaskOk.f, g0 (K0) (by omega), c0]⟩
  obtain ⟨L0, f0⟩ := toTask_ev (⟨p0_0, p0_1, ⟨p0_2, p0_3, p0_4, p0_5⟩, p0_6, p0_7, p0_8, p0_9, p0_10, p0_11⟩ : S93) (w0 (by omega))
  obtain ⟨L1, f1⟩ := eqTask_ev (cvTask (⟨p0_0, p0_1, ⟨p0_2, p0_3, p0_4, p0_5⟩, p0_6, p0_7, p0_8, p0_9, p0_10, p0_11⟩ : S93)) (Wi_cvTask (w0 (by omega)))
  obtain ⟨L2, f2⟩ := specTaskOk_ev (cvTask (⟨p0_0, p0_1, ⟨p0_2, p0_3, p0_4, p0_5⟩, p0_6, p0_7, p0_8, p0_9, p0_10, p0_11⟩ : S93)) p1 (Wi_cvTask (w0 (by omega)))
  obtain ⟨L3, f3⟩ := implTaskOk_ev (cvTask (⟨p0_0, p0_1, ⟨p0_2, p0_3, p0_4, p0_5⟩, p0_6, p0_7, p0_8, p0_9, p0_10, p0_11⟩ : S93)) p1 (Wi_cvTask (w0 (by omega)))
  have G0 := fun m => g0 (K0 + L0 + L1 + L2 + L3 + m) (by omega)
  have F0 := fun m => f0 (K0 + L0 + L1 + L2 + L3 + m) (by omega)
  have F1 := fun m => f1 (K0 + L0 + L1 + L2 + L3 + m) (by omega)
  have F2 := fun m => f2 (K0 + L0 + L1 + L2 + L3 + m) (by omega)
  have F3 := fun m => f3 (K0 + L0 + L1 + L2 + L3 + m) (by omega)
  simp only at F0 F1 F2 F3
  exact ⟨K0 + L0 + L1 + L2 + L3 + 3, by simp [laws_FnExactTaskOk.f, G0, F0, F1, F2, F3, c0]⟩

end Go.Proofs.Ytfholjcelnkleaa.Print
end
