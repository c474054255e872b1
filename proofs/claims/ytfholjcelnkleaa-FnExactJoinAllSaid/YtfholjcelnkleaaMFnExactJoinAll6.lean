import Derived.Test.YtfholjcelnkleaaMFnExactJoinAll1
import Derived.Test.YtfholjcelnkleaaMFnExactJoinAll2
import Derived.Test.YtfholjcelnkleaaMFnExactJoinAll4
import Derived.Test.YtfholjcelnkleaaMFnExactJoinAll5
import Derived.Test.YtfholjcelnkleaaMFnExactJoinAll3
section
namespace Go.Proofs.Ytfholjcelnkleaa.Print
open Go.RowKit Go.Proofs.YtfholjcelnkleaaV.PrintWords Go.Proofs.YtfholjcelnkleaaV.PrintLast Go.Proofs.YtfholjcelnkleaaV.PrintMore
attribute [local go_sem] max2_int min2_int max_two min_two max_three min_three max_four min_four
set_option linter.unusedVariables false
set_option linter.unusedSimpArgs false
set_option maxHeartbeats 8000000
set_option maxRecDepth 100000
def laws_FnExactJoinAll.f (k : Nat) (l0 : List (S69)) (l1_0 : List (S163)) (a1_1 : Int) (a1_2 : Int) (a1_3 : ByteArray) (l2 : List ByteArray) (a3 : Int) (a4 : Int) : Option (Bool) := (laws_szGroupS.f k l0 1048576).bind fun t1504 => (if t1504 < 0 then (some true) else ((laws_szAlarm.f k l1_0 a1_1 a1_2 a1_3 t1504).bind fun t1505 => (if t1505 < 0 then (some true) else ((laws_szStringS.f k l2 t1505).bind fun t1506 => (if t1506 < 0 then (some true) else ((laws_toGroupS.f k l0).bind fun t1507 => ((laws_toAlarm.f k l1_0 a1_1 a1_2 a1_3).bind fun bt1510 => ((laws_toStringS.f k l2).bind fun t1516 => ((spec_JoinAll.f k t1507 bt1510.1 bt1510.2.1 bt1510.2.2.1 bt1510.2.2.2 t1516 a3 a4).bind fun bt1519 => ((laws_toGroupS.f k l0).bind fun t1523 => ((laws_toAlarm.f k l1_0 a1_1 a1_2 a1_3).bind fun bt1526 => ((laws_toStringS.f k l2).bind fun t1533 => ((impl_JoinAll.f k t1523 bt1526.1 bt1526.2.1 bt1526.2.2.1 bt1526.2.2.2 t1533 a3 a4).bind fun bt1536 => ((laws_eqGroupS.f k bt1536.1 bt1519.1).bind fun t1540 => (if t1540 = true then (if (bt1536.2 != bt1519.2) = true then (none) else ((laws_toGroupS.f k l0).bind fun t1541 => ((laws_eqGroupS.f k t1523 t1541).bind fun t1544 => (if t1544 = true then ((laws_toAlarm.f k l1_0 a1_1 a1_2 a1_3).bind fun bt1545 => ((laws_eqAlarm.f k bt1526.1 bt1526.2.1 bt1526.2.2.1 bt1526.2.2.2 bt1545.1 bt1545.2.1 bt1545.2.2.1 bt1545.2.2.2).bind fun t1551 => (if t1551 = true then ((laws_toStringS.f k l2).bind fun t1552 => ((laws_eqStringS.f k t1533 t1552).bind fun t1555 => (if t1555 = true then ((laws_markGroupS.f k t1523 1).bind fun bt1556 => ((laws_markAlarm.f k bt1526.1 bt1526.2.1 bt1526.2.2.1 bt1526.2.2.2 bt1556.1).bind fun bt1558 => ((laws_markStringS.f k t1533 bt1558.1).bind fun bt1560 => (if bt1560.1 < 0 then (none) else ((laws_eqGroupS.f k bt1536.1 bt1519.1).bind fun t1562 => (if t1562 = true then ((laws_markGroupS.f k bt1536.1 1).bind fun bt1563 => ((laws_heldGroupS.f k bt1563.2 1).bind fun t1565 => (if t1565 < 0 then (none) else (if t1565 = bt1563.1 then ((laws_toGroupS.f k l0).bind fun t1566 => ((laws_toAlarm.f k l1_0 a1_1 a1_2 a1_3).bind fun bt1569 => ((laws_toStringS.f k l2).bind fun t1575 => ((impl_JoinAll.f k t1566 bt1569.1 bt1569.2.1 bt1569.2.2.1 bt1569.2.2.2 t1575 a3 a4).bind fun bt1578 => ((laws_eqGroupS.f k bt1578.1 bt1519.1).bind fun t1582 => (if t1582 = true then (if (bt1578.2 != bt1519.2) = true then (none) else ((laws_heldGroupS.f k bt1563.2 1).bind fun t1583 => (if t1583 < 0 then (none) else (if t1583 = bt1563.1 then (some true) else (none))))) else (none))))))) else (none))))) else (none))))))) else (none)))) else (none)))) else (none))))) else (none))))))))))))))))
theorem laws_FnExactJoinAll.mono : ∀ a0 a1 a2 a3 a4 a5 a6 a7 k, LeO (laws_FnExactJoinAll.f k a0 a1 a2 a3 a4 a5 a6 a7) (laws_FnExactJoinAll.f (k + 1) a0 a1 a2 a3 a4 a5 a6 a7) := by
 intro a0 a1 a2 a3 a4 a5 a6 a7 k
 unfold laws_FnExactJoinAll.f
 repeat' first
   | (with_reducible exact impl_JoinAll.mono _ _ _ _ _ _ _ _ _)
   | (with_reducible exact laws_eqAlarm.mono _ _ _ _ _ _ _ _ _)
   | (with_reducible exact laws_eqGroupS.mono _ _ _)
   | (with_reducible exact laws_eqStringS.mono _ _ _)
   | (with_reducible exact laws_heldGroupS.mono _ _ _)
   | (with_reducible exact laws_markAlarm.mono _ _ _ _ _ _)
   | (with_reducible exact laws_markGroupS.mono _ _ _)
   | (with_reducible exact laws_markStringS.mono _ _ _)
   | (with_reducible exact laws_szAlarm.mono _ _ _ _ _ _)
   | (with_reducible exact laws_szGroupS.mono _ _ _)
   | (with_reducible exact laws_szStringS.mono _ _ _)
   | (with_reducible exact laws_toAlarm.mono _ _ _ _ _)
   | (with_reducible exact laws_toGroupS.mono _ _)
   | (with_reducible exact laws_toStringS.mono _ _)
   | (with_reducible exact spec_JoinAll.mono _ _ _ _ _ _ _ _ _)
   | (with_reducible exact LeO.refl _)
   | (with_reducible exact LeO.none _)
   | (with_reducible refine LeO.ite ?_ ?_)
   | (with_reducible refine LeO.bind ?_ (fun _ => ?_))
   | exact impl_JoinAll.mono _ _ _ _ _ _ _ _ _
   | exact laws_eqAlarm.mono _ _ _ _ _ _ _ _ _
   | exact laws_eqGroupS.mono _ _ _
   | exact laws_eqStringS.mono _ _ _
   | exact laws_heldGroupS.mono _ _ _
   | exact laws_markAlarm.mono _ _ _ _ _ _
   | exact laws_markGroupS.mono _ _ _
   | exact laws_markStringS.mono _ _ _
   | exact laws_szAlarm.mono _ _ _ _ _ _
   | exact laws_szGroupS.mono _ _ _
   | exact laws_szStringS.mono _ _ _
   | exact laws_toAlarm.mono _ _ _ _ _
   | exact laws_toGroupS.mono _ _
   | exact laws_toStringS.mono _ _
   | exact spec_JoinAll.mono _ _ _ _ _ _ _ _ _
def laws_FnExactJoinAll.T11 : Bool × List (List Nat × List Nat) := (true, [([], []), ([0], [0]), ([], []), ([2, 1], [2]), ([], []), ([4, 3], [4]), ([], []), ([], []), ([1, 3, 5, 6, 7, 5], [1, 3, 5, 6, 7]), ([8], [8]), ([9], [9]), ([9], [9]), ([10, 8, 0, 1, 2, 3, 4, 5, 6, 7, 8, 9, 10], [10]), ([11, 12, 0, 1, 2, 3, 4, 5, 6, 7, 8, 9, 10, 11, 12], [11])])
def laws_FnExactJoinAll.B11 : List Nat := [0, 1, 0, 7, 0, 31, 0, 0, 255, 511, 1023, 1023, 2047, 8191]
theorem laws_FnExactJoinAll.tab11 : rtab .any (opsOf Try.f12 11) = laws_FnExactJoinAll.T11 := by kernel_rfl
theorem laws_FnExactJoinAll.bits11 : waitsOk laws_FnExactJoinAll.T11.2 laws_FnExactJoinAll.B11 = true := by kernel_rfl
def laws_FnExactJoinAll.T38 : Bool × List (List Nat × List Nat) := (true, [([], []), ([0], [0]), ([], []), ([2, 1], [2]), ([], []), ([4, 3], [4]), ([], []), ([], []), ([1, 3, 5, 6, 7, 5], [1, 3, 5, 6, 7]), ([8], [8]), ([9], [9]), ([9], [9]), ([10, 8, 0, 1, 2, 3, 4, 5, 6, 7, 8, 9, 10], [10]), ([11, 12, 0, 1, 2, 3, 4, 5, 6, 7, 8, 9, 10, 11, 12], [11])])
def laws_FnExactJoinAll.B38 : List Nat := [0, 1, 0, 7, 0, 31, 0, 0, 255, 511, 1023, 1023, 2047, 8191]
theorem laws_FnExactJoinAll.tab38 : rtab .any (opsOf Try.f12 38) = laws_FnExactJoinAll.T38 := by kernel_rfl
theorem laws_FnExactJoinAll.bits38 : waitsOk laws_FnExactJoinAll.T38.2 laws_FnExactJoinAll.B38 = true := by kernel_rfl
theorem laws_FnExactJoinAll.calls (k : Nat) (A0 : Option Addr) (c0 : Nat) (l0 : List (S69)) (A1_0 : Option Addr) (c1_0 : Nat) (l1_0 : List (S163)) (a1_1 : Int) (a1_2 : Int) (a1_3 : ByteArray) (A2 : Option Addr) (c2 : Nat) (l2 : List ByteArray) (a3 : Int) (a4 : Int) (r : Bool) (w : World) (hr0 : Kd.C k69 w A0 l0.length l0) (hc0 : l0.length ≤ c0) (hr1_0 : Kd.C k163 w A1_0 l1_0.length l1_0) (hc1_0 : l1_0.length ≤ c1_0) (hr2 : Kd.C Kd.string w A2 l2.length l2) (hc2 : l2.length ≤ c2) (h : laws_FnExactJoinAll.f k l0 l1_0 a1_1 a1_2 a1_3 l2 a3 a4 = some r) :
  Calls Try.prog 12 #[.slice A0 l0.length c0, .agg #[.slice A1_0 l1_0.length c1_0, .int .i64 a1_1, .int .i64 a1_2, .string a1_3], .slice A2 l2.length c2, .int .i64 a3, .int .i64 a4] w fun e w' => e = .returned (.bool r) ∧ Below w.heap.size w w' := by
 have hu34 := Try.underlying34
 have hu44 := Try.underlying44
 have HR0 := Aside0.mk hr0
 have HC0 := Aside0.mk hc0
 clear hr0 hc0
 have HR1_0 := Aside0.mk hr1_0
 have HC1_0 := Aside0.mk hc1_0
 clear hr1_0 hc1_0
 have HR2 := Aside0.mk hr2
 have HC2 := Aside0.mk hc2
 clear hr2 hc2
 have HB := Aside0.mk (Below.refl w.heap.size w)
 have H : ((laws_szGroupS.f k l0 1048576).bind fun t1504 => (if t1504 < 0 then (some true) else ((laws_szAlarm.f k l1_0 a1_1 a1_2 a1_3 t1504).bind fun t1505 => (if t1505 < 0 then (some true) else ((laws_szStringS.f k l2 t1505).bind fun t1506 => (if t1506 < 0 then (some true) else ((laws_toGroupS.f k l0).bind fun t1507 => ((laws_toAlarm.f k l1_0 a1_1 a1_2 a1_3).bind fun bt1510 => ((laws_toStringS.f k l2).bind fun t1516 => ((spec_JoinAll.f k t1507 bt1510.1 bt1510.2.1 bt1510.2.2.1 bt1510.2.2.2 t1516 a3 a4).bind fun bt1519 => ((laws_toGroupS.f k l0).bind fun t1523 => ((laws_toAlarm.f k l1_0 a1_1 a1_2 a1_3).bind fun bt1526 => ((laws_toStringS.f k l2).bind fun t1533 => ((impl_JoinAll.f k t1523 bt1526.1 bt1526.2.1 bt1526.2.2.1 bt1526.2.2.2 t1533 a3 a4).bind fun bt1536 => ((laws_eqGroupS.f k bt1536.1 bt1519.1).bind fun t1540 => (if t1540 = true then (if (bt1536.2 != bt1519.2) = true then (none) else ((laws_toGroupS.f k l0).bind fun t1541 => ((laws_eqGroupS.f k t1523 t1541).bind fun t1544 => (if t1544 = true then ((laws_toAlarm.f k l1_0 a1_1 a1_2 a1_3).bind fun bt1545 => ((laws_eqAlarm.f k bt1526.1 bt1526.2.1 bt1526.2.2.1 bt1526.2.2.2 bt1545.1 bt1545.2.1 bt1545.2.2.1 bt1545.2.2.2).bind fun t1551 => (if t1551 = true then ((laws_toStringS.f k l2).bind fun t1552 => ((laws_eqStringS.f k t1533 t1552).bind fun t1555 => (if t1555 = true then ((laws_markGroupS.f k t1523 1).bind fun bt1556 => ((laws_markAlarm.f k bt1526.1 bt1526.2.1 bt1526.2.2.1 bt1526.2.2.2 bt1556.1).bind fun bt1558 => ((laws_markStringS.f k t1533 bt1558.1).bind fun bt1560 => (if bt1560.1 < 0 then (none) else ((laws_eqGroupS.f k bt1536.1 bt1519.1).bind fun t1562 => (if t1562 = true then ((laws_markGroupS.f k bt1536.1 1).bind fun bt1563 => ((laws_heldGroupS.f k bt1563.2 1).bind fun t1565 => (if t1565 < 0 then (none) else (if t1565 = bt1563.1 then ((laws_toGroupS.f k l0).bind fun t1566 => ((laws_toAlarm.f k l1_0 a1_1 a1_2 a1_3).bind fun bt1569 => ((laws_toStringS.f k l2).bind fun t1575 => ((impl_JoinAll.f k t1566 bt1569.1 bt1569.2.1 bt1569.2.2.1 bt1569.2.2.2 t1575 a3 a4).bind fun bt1578 => ((laws_eqGroupS.f k bt1578.1 bt1519.1).bind fun t1582 => (if t1582 = true then (if (bt1578.2 != bt1519.2) = true then (none) else ((laws_heldGroupS.f k bt1563.2 1).bind fun t1583 => (if t1583 < 0 then (none) else (if t1583 = bt1563.1 then (some true) else (none))))) else (none))))))) else (none))))) else (none))))))) else (none)))) else (none)))) else (none))))) else (none))))))))))))))))) = some r := h
 clear h
 replace H := Option.bind_eq_some_iff.mp H
 obtain ⟨t1504, A60, H⟩ := H
 have A6 := Aside0.mk A60
 clear A60
 by_cases c7 : t1504 < 0
 ·
  rw [if_pos c7] at H
  have c7b0 := decide_eq_true c7
  clear c7
  obtain rfl := Option.some.inj H
  go_enter Try.func12, Try.ntmps12
  go_wp2_with (first | ((with_reducible refine gate_dst (N := 6) rfl ?_); refine box_event ?hg (N := 6) ?hd (cs := #[.slice A1_0 l1_0.length c1_0, .int .i64 a1_1, .int .i64 a1_2, .string a1_3]) (t := 34) ?hr ?_; (case hd => rfl); (case hg => rfl); (case hr => first | (go_simp; done) | (go_simp; rfl)); intro gb1503 hg w8 hbox hb; have BK1503 := Aside0.mk (hbox); have GW1503 := Aside0.mk ((by rw [hg]; exact (below_size (hb_ HB.out)) : w.heap.size ≤ gb1503)); replace HB := Aside0.mk (below_step (hb_ HB.out) hb); have GE1503 := GW1503; clear hb hbox hg) | ((with_reducible refine gate_callee (f := 60) rfl ?_); refine goesL_ (some 26) rfl rfl Try.func60 (by kernel_rfl) rfl #[.slice A0 l0.length c0, .int .i64 1048576] rfl (by (try simp only [mp_]); first | done | rfl | (simp only [List.length_drop, List.length_take]; rfl)) ?_; (with_reducible refine (laws_szGroupS.calls k _ _ l0 1048576 t1504 _ ?side1 ?side2 A6.out).mono ?_); (case side1 => exact cp_ ((Kd.C_below HR0.out HB.out))); (case side2 => exact HC0.out); rintro e w9 ⟨rfl, hb⟩; refine ⟨_, rfl, ?_⟩; replace HB := Aside0.mk (below_step (hb_ HB.out) hb); (try clear hb); (try clear hb2); (try clear hk); (try clear hi)))
  go_ret
  exact ⟨by first | rfl | (simp [errW_none, errW_some] <;> rfl) | (simp [*, errW_none, errW_some] <;> rfl), by exact hb_ HB.out⟩
 rw [if_neg c7] at H
 have c7b0 : decide (t1504 < 0) = false := decide_eq_false c7
 clear c7
 replace H := Option.bind_eq_some_iff.mp H
 obtain ⟨t1505, A100, H⟩ := H
 have A10 := Aside0.mk A100
 clear A100
 by_cases c11 : t1505 < 0
 ·
  rw [if_pos c11] at H
  have c11b0 := decide_eq_true c11
  clear c11
  obtain rfl := Option.some.inj H
  go_enter Try.func12, Try.ntmps12
  go_wp2_with (first | ((with_reducible refine gate_dst (N := 6) rfl ?_); refine box_event ?hg (N := 6) ?hd (cs := #[.slice A1_0 l1_0.length c1_0, .int .i64 a1_1, .int .i64 a1_2, .string a1_3]) (t := 34) ?hr ?_; (case hd => rfl); (case hg => rfl); (case hr => first | (go_simp; done) | (go_simp; rfl)); intro gb1503 hg w12 hbox hb; have BK1503 := Aside0.mk (hbox); have GW1503 := Aside0.mk ((by rw [hg]; exact (below_size (hb_ HB.out)) : w.heap.size ≤ gb1503)); replace HB := Aside0.mk (below_step (hb_ HB.out) hb); have GE1503 := GW1503; clear hb hbox hg) | ((with_reducible refine gate_callee (f := 60) rfl ?_); refine goesL_ (some 26) rfl rfl Try.func60 (by kernel_rfl) rfl #[.slice A0 l0.length c0, .int .i64 1048576] rfl (by (try simp only [mp_]); first | done | rfl | (simp only [List.length_drop, List.length_take]; rfl)) ?_; (with_reducible refine (laws_szGroupS.calls k _ _ l0 1048576 t1504 _ ?side1 ?side2 A6.out).mono ?_); (case side1 => exact cp_ ((Kd.C_below HR0.out HB.out))); (case side2 => exact HC0.out); rintro e w13 ⟨rfl, hb⟩; refine ⟨_, rfl, ?_⟩; replace BK1503 := Aside0.mk (bb_ BK1503.out hb); replace HB := Aside0.mk (below_step (by repeat (first | (with_reducible first | exact HB.out | apply ba_ | apply bn_ | apply bd_ | apply bs_ GE1503) | exact HB.out)) hb); (try clear hb); (try clear hb2); (try clear hk); (try clear hi); obtain ⟨hcz14_0, hcz14_1, hcz14_2, hcz14_3, hfz14_0, hfz14_1, hfz14_2, hfz14_3⟩ := bc4_ BK1503.out) | ((with_reducible refine gate_callee (f := 21) rfl ?_); refine goesL_ (some 31) rfl rfl Try.func21 (by kernel_rfl) rfl #[.agg #[.slice A1_0 l1_0.length c1_0, .int .i64 a1_1, .int .i64 a1_2, .string a1_3], .int .i64 t1504] rfl (by (try simp only [mp_]); first | done | rfl | (simp only [List.length_drop, List.length_take]; rfl)) ?_; (with_reducible refine (laws_szAlarm.calls k _ _ l1_0 a1_1 a1_2 a1_3 t1504 t1505 _ ?side1 ?side2 A10.out).mono ?_); (case side1 => exact cp_ ((Kd.C_below HR1_0.out HB.out))); (case side2 => exact HC1_0.out); rintro e w15 ⟨rfl, hb⟩; refine ⟨_, rfl, ?_⟩; replace HB := Aside0.mk (below_step (hb_ HB.out) hb); (try clear hb); (try clear hb2); (try clear hk); (try clear hi)))
  go_ret
  exact ⟨by first | rfl | (simp [errW_none, errW_some] <;> rfl) | (simp [*, errW_none, errW_some] <;> rfl), by exact hb_ HB.out⟩
 rw [if_neg c11] at H
 have c11b0 : decide (t1505 < 0) = false := decide_eq_false c11
 clear c11
 replace H := Option.bind_eq_some_iff.mp H
 obtain ⟨t1506, A160, H⟩ := H
 have A16 := Aside0.mk A160
 clear A160
 by_cases c17 : t1506 < 0
 ·
  rw [if_pos c17] at H
  have c17b0 := decide_eq_true c17
  clear c17
  obtain rfl := Option.some.inj H
  go_enter Try.func12, Try.ntmps12
  go_wp2_with (first | ((with_reducible refine gate_dst (N := 6) rfl ?_); refine box_event ?hg (N := 6) ?hd (cs := #[.slice A1_0 l1_0.length c1_0, .int .i64 a1_1, .int .i64 a1_2, .string a1_3]) (t := 34) ?hr ?_; (case hd => rfl); (case hg => rfl); (case hr => first | (go_simp; done) | (go_simp; rfl)); intro gb1503 hg w18 hbox hb; have BK1503 := Aside0.mk (hbox); have GW1503 := Aside0.mk ((by rw [hg]; exact (below_size (hb_ HB.out)) : w.heap.size ≤ gb1503)); replace HB := Aside0.mk (below_step (hb_ HB.out) hb); have GE1503 := GW1503; clear hb hbox hg) | ((with_reducible refine gate_callee (f := 60) rfl ?_); refine goesL_ (some 26) rfl rfl Try.func60 (by kernel_rfl) rfl #[.slice A0 l0.length c0, .int .i64 1048576] rfl (by (try simp only [mp_]); first | done | rfl | (simp only [List.length_drop, List.length_take]; rfl)) ?_; (with_reducible refine (laws_szGroupS.calls k _ _ l0 1048576 t1504 _ ?side1 ?side2 A6.out).mono ?_); (case side1 => exact cp_ ((Kd.C_below HR0.out HB.out))); (case side2 => exact HC0.out); rintro e w19 ⟨rfl, hb⟩; refine ⟨_, rfl, ?_⟩; replace BK1503 := Aside0.mk (bb_ BK1503.out hb); replace HB := Aside0.mk (below_step (by repeat (first | (with_reducible first | exact HB.out | apply ba_ | apply bn_ | apply bd_ | apply bs_ GE1503) | exact HB.out)) hb); (try clear hb); (try clear hb2); (try clear hk); (try clear hi); obtain ⟨hcz20_0, hcz20_1, hcz20_2, hcz20_3, hfz20_0, hfz20_1, hfz20_2, hfz20_3⟩ := bc4_ BK1503.out) | ((with_reducible refine gate_callee (f := 21) rfl ?_); refine goesL_ (some 31) rfl rfl Try.func21 (by kernel_rfl) rfl #[.agg #[.slice A1_0 l1_0.length c1_0, .int .i64 a1_1, .int .i64 a1_2, .string a1_3], .int .i64 t1504] rfl (by (try simp only [mp_]); first | done | rfl | (simp only [List.length_drop, List.length_take]; rfl)) ?_; (with_reducible refine (laws_szAlarm.calls k _ _ l1_0 a1_1 a1_2 a1_3 t1504 t1505 _ ?side1 ?side2 A10.out).mono ?_); (case side1 => exact cp_ ((Kd.C_below HR1_0.out HB.out))); (case side2 => exact HC1_0.out); rintro e w21 ⟨rfl, hb⟩; refine ⟨_, rfl, ?_⟩; replace HB := Aside0.mk (below_step (hb_ HB.out) hb); (try clear hb); (try clear hb2); (try clear hk); (try clear hi)) | ((with_reducible refine gate_callee (f := 49) rfl ?_); refine goesL_ (some 36) rfl rfl Try.func49 (by kernel_rfl) rfl #[.slice A2 l2.length c2, .int .i64 t1505] rfl (by (try simp only [mp_]); first | done | rfl | (simp only [List.length_drop, List.length_take]; rfl)) ?_; (with_reducible refine (laws_szStringS.calls k _ _ l2 t1505 t1506 _ ?side1 ?side2 A16.out).mono ?_); (case side1 => exact cp_ ((Kd.C_below HR2.out HB.out))); (case side2 => exact HC2.out); rintro e w' ⟨rfl, ⟨nd, rfl⟩⟩; refine ⟨_, rfl, ?_⟩))
  go_ret
  exact ⟨by first | rfl | (simp [errW_none, errW_some] <;> rfl) | (simp [*, errW_none, errW_some] <;> rfl), by exact hb_ HB.out⟩
 rw [if_neg c17] at H
 have c17b0 : decide (t1506 < 0) = false := decide_eq_false c17
 clear c17
 replace H := Option.bind_eq_some_iff.mp H
 obtain ⟨t1507, A220, H⟩ := H
 have A22 := Aside0.mk A220
 clear A220
 replace H := Option.bind_eq_some_iff.mp H
 obtain ⟨⟨t1510, t1513, t1514, t1515⟩, A230, H⟩ := H
 have A23 := Aside0.mk A230
 clear A230
 replace H := Option.bind_eq_some_iff.mp H
 obtain ⟨t1516, A240, H⟩ := H
 have A24 := Aside0.mk A240
 clear A240
 replace H := Option.bind_eq_some_iff.mp H
 obtain ⟨⟨t1519, t1522⟩, A250, H⟩ := H
 have A25 := Aside0.mk A250
 clear A250
 replace H := Option.bind_eq_some_iff.mp H
 obtain ⟨t1523, A260, H⟩ := H
 have A26 := Aside0.mk A260
 clear A260
 replace H := Option.bind_eq_some_iff.mp H
 obtain ⟨⟨t1526, t1529, t1530, t1531⟩, A270, H⟩ := H
 have A27 := Aside0.mk A270
 clear A270
 replace H := Option.bind_eq_some_iff.mp H
 obtain ⟨t1533, A280, H⟩ := H
 have A28 := Aside0.mk A280
 clear A280
 replace H := Option.bind_eq_some_iff.mp H
 obtain ⟨⟨t1536, t1539⟩, A290, H⟩ := H
 have A29 := Aside0.mk A290
 clear A290
 replace H := Option.bind_eq_some_iff.mp H
 obtain ⟨t1540, A300, H⟩ := H
 have A30 := Aside0.mk A300
 clear A300
 by_cases c31 : t1540 = true
 ·
  subst c31
  rw [if_pos rfl] at H
  by_cases c32 : (t1539 != t1522) = true
  ·
   rw [if_pos c32] at H
   exact absurd H (by simp)
  rw [if_neg c32] at H
  have c32b0 : (t1539 != t1522) = false := by simpa using c32
  (try (have c32b1 : decide (t1539 = t1522) = true := by simpa using c32))
  (try (have c32b2 : (t1539 == t1522) = true := by simpa using c32))
  clear c32
  replace H := Option.bind_eq_some_iff.mp H
  obtain ⟨t1541, A330, H⟩ := H
  have A33 := Aside0.mk A330
  clear A330
  replace H := Option.bind_eq_some_iff.mp H
  obtain ⟨t1544, A340, H⟩ := H
  have A34 := Aside0.mk A340
  clear A340
  by_cases c35 : t1544 = true
  ·
   subst c35
   rw [if_pos rfl] at H
   replace H := Option.bind_eq_some_iff.mp H
   obtain ⟨⟨t1545, t1548, t1549, t1550⟩, A360, H⟩ := H
   have A36 := Aside0.mk A360
   clear A360
   replace H := Option.bind_eq_some_iff.mp H
   obtain ⟨t1551, A370, H⟩ := H
   have A37 := Aside0.mk A370
   clear A370
   by_cases c38 : t1551 = true
   ·
    subst c38
    rw [if_pos rfl] at H
    replace H := Option.bind_eq_some_iff.mp H
    obtain ⟨t1552, A390, H⟩ := H
    have A39 := Aside0.mk A390
    clear A390
    replace H := Option.bind_eq_some_iff.mp H
    obtain ⟨t1555, A400, H⟩ := H
    have A40 := Aside0.mk A400
    clear A400
    by_cases c41 : t1555 = true
    ·
     subst c41
     rw [if_pos rfl] at H
     replace H := Option.bind_eq_some_iff.mp H
     obtain ⟨⟨t1556, t1557⟩, A420, H⟩ := H
     have A42 := Aside0.mk A420
     clear A420
     replace H := Option.bind_eq_some_iff.mp H
     obtain ⟨⟨t1558, t1559⟩, A430, H⟩ := H
     have A43 := Aside0.mk A430
     clear A430
     replace H := Option.bind_eq_some_iff.mp H
     obtain ⟨⟨t1560, t1561⟩, A440, H⟩ := H
     have A44 := Aside0.mk A440
     clear A440
     by_cases c45 : t1560 < 0
     ·
      rw [if_pos c45] at H
      exact absurd H (by simp)
     rw [if_neg c45] at H
     have c45b0 : decide (t1560 < 0) = false := decide_eq_false c45
     clear c45
     replace H := Option.bind_eq_some_iff.mp H
     obtain ⟨t1562, A460, H⟩ := H
     have A46 := Aside0.mk A460
     clear A460
     by_cases c47 : t1562 = true
     ·
      subst c47
      rw [if_pos rfl] at H
      replace H := Option.bind_eq_some_iff.mp H
      obtain ⟨⟨t1563, t1564⟩, A480, H⟩ := H
      have A48 := Aside0.mk A480
      clear A480
      replace H := Option.bind_eq_some_iff.mp H
      obtain ⟨t1565, A490, H⟩ := H
      have A49 := Aside0.mk A490
      clear A490
      by_cases c50 : t1565 < 0
      ·
       rw [if_pos c50] at H
       exact absurd H (by simp)
      rw [if_neg c50] at H
      have c50b0 : decide (t1565 < 0) = false := decide_eq_false c50
      clear c50
      by_cases c51 : t1565 = t1563
      ·
       rw [if_pos c51] at H
       have c51b0 : (t1565 == t1563) = true := beq_iff_eq.mpr c51
       have c51b1 : (t1565 != t1563) = false := bne_eq_false_iff_eq.mpr c51
       clear c51
       replace H := Option.bind_eq_some_iff.mp H
       obtain ⟨t1566, A520, H⟩ := H
       have A52 := Aside0.mk A520
       clear A520
       replace H := Option.bind_eq_some_iff.mp H
       obtain ⟨⟨t1569, t1572, t1573, t1574⟩, A530, H⟩ := H
       have A53 := Aside0.mk A530
       clear A530
       replace H := Option.bind_eq_some_iff.mp H
       obtain ⟨t1575, A540, H⟩ := H
       have A54 := Aside0.mk A540
       clear A540
       replace H := Option.bind_eq_some_iff.mp H
       obtain ⟨⟨t1578, t1581⟩, A550, H⟩ := H
       have A55 := Aside0.mk A550
       clear A550
       replace H := Option.bind_eq_some_iff.mp H
       obtain ⟨t1582, A560, H⟩ := H
       have A56 := Aside0.mk A560
       clear A560
       by_cases c57 : t1582 = true
       ·
        subst c57
        rw [if_pos rfl] at H
        by_cases c58 : (t1581 != t1522) = true
        ·
         rw [if_pos c58] at H
         exact absurd H (by simp)
        rw [if_neg c58] at H
        have c58b0 : (t1581 != t1522) = false := by simpa using c58
        (try (have c58b1 : decide (t1581 = t1522) = true := by simpa using c58))
        (try (have c58b2 : (t1581 == t1522) = true := by simpa using c58))
        clear c58
        replace H := Option.bind_eq_some_iff.mp H
        obtain ⟨t1583, A590, H⟩ := H
        have A59 := Aside0.mk A590
        clear A590
        by_cases c60 : t1583 < 0
        ·
         rw [if_pos c60] at H
         exact absurd H (by simp)
        rw [if_neg c60] at H
        have c60b0 : decide (t1583 < 0) = false := decide_eq_false c60
        clear c60
        by_cases c61 : t1583 = t1563
        ·
         rw [if_pos c61] at H
         have c61b0 : (t1583 == t1563) = true := beq_iff_eq.mpr c61
         have c61b1 : (t1583 != t1563) = false := bne_eq_false_iff_eq.mpr c61
         clear c61
         obtain rfl := Option.some.inj H
         go_enter Try.func12, Try.ntmps12
         try go_wp2_with (first | ((with_reducible refine gate_dst (N := 6) rfl ?_); refine box_event ?hg (N := 6) ?hd (cs := #[.slice A1_0 l1_0.length c1_0, .int .i64 a1_1, .int .i64 a1_2, .string a1_3]) (t := 34) ?hr ?_; (case hd => rfl); (case hg => rfl); (case hr => first | (go_simp; done) | (go_simp; rfl)); intro gb1503 hg w62 hbox hb; have BK1503 := Aside0.mk (hbox); have GW1503 := Aside0.mk ((by rw [hg]; exact (below_size (hb_ HB.out)) : w.heap.size ≤ gb1503)); replace HB := Aside0.mk (below_step (hb_ HB.out) hb); have GE1503 := GW1503; clear hb hbox hg) | ((with_reducible refine gate_callee (f := 60) rfl ?_); refine goesL_ (some 26) rfl rfl Try.func60 (by kernel_rfl) rfl #[.slice A0 l0.length c0, .int .i64 1048576] rfl (by (try simp only [mp_]); first | done | rfl | (simp only [List.length_drop, List.length_take]; rfl)) ?_; (with_reducible refine (laws_szGroupS.calls k _ _ l0 1048576 t1504 _ ?side1 ?side2 A6.out).mono ?_); (case side1 => exact cp_ ((Kd.C_below HR0.out HB.out))); (case side2 => exact HC0.out); rintro e w63 ⟨rfl, hb⟩; refine ⟨_, rfl, ?_⟩; replace BK1503 := Aside0.mk (bb_ BK1503.out hb); replace HB := Aside0.mk (below_step (by repeat (first | (with_reducible first | exact HB.out | apply ba_ | apply bn_ | apply bd_ | apply bs_ GE1503) | exact HB.out)) hb); (try clear hb); (try clear hb2); (try clear hk); (try clear hi); obtain ⟨hcz64_0, hcz64_1, hcz64_2, hcz64_3, hfz64_0, hfz64_1, hfz64_2, hfz64_3⟩ := bc4_ BK1503.out) | ((with_reducible refine gate_callee (f := 21) rfl ?_); refine goesL_ (some 31) rfl rfl Try.func21 (by kernel_rfl) rfl #[.agg #[.slice A1_0 l1_0.length c1_0, .int .i64 a1_1, .int .i64 a1_2, .string a1_3], .int .i64 t1504] rfl (by (try simp only [mp_]); first | done | rfl | (simp only [List.length_drop, List.length_take]; rfl)) ?_; (with_reducible refine (laws_szAlarm.calls k _ _ l1_0 a1_1 a1_2 a1_3 t1504 t1505 _ ?side1 ?side2 A10.out).mono ?_); (case side1 => exact cp_ ((Kd.C_below HR1_0.out HB.out))); (case side2 => exact HC1_0.out); rintro e w65 ⟨rfl, hb⟩; refine ⟨_, rfl, ?_⟩; replace BK1503 := Aside0.mk (bb_ BK1503.out hb); replace HB := Aside0.mk (below_step (by repeat (first | (with_reducible first | exact HB.out | apply ba_ | apply bn_ | apply bd_ | apply bs_ GE1503) | exact HB.out)) hb); (try clear hb); (try clear hb2); (try clear hk); (try clear hi)) | ((with_reducible refine gate_callee (f := 49) rfl ?_); refine goesL_ (some 36) rfl rfl Try.func49 (by kernel_rfl) rfl #[.slice A2 l2.length c2, .int .i64 t1505] rfl (by (try simp only [mp_]); first | done | rfl | (simp only [List.length_drop, List.length_take]; rfl)) ?_; (with_reducible refine (laws_szStringS.calls k _ _ l2 t1505 t1506 _ ?side1 ?side2 A16.out).mono ?_); (case side1 => exact cp_ ((Kd.C_below HR2.out HB.out))); (case side2 => exact HC2.out); rintro e w' ⟨rfl, ⟨nd, rfl⟩⟩; refine ⟨_, rfl, ?_⟩; (try (rw [drewN_self w65]; generalize hq_ : World.drewN w65 _ = w65; replace BK1503 : Aside0 (w65.heap[gb1503]? = some (.cells #[.slice A1_0 l1_0.length c1_0, .int .i64 a1_1, .int .i64 a1_2, .string a1_3] 34 (0, 0))) := ⟨by rw [← hq_]; exact (pb_ BK1503.out)⟩; replace HB : Aside0 (Below w.heap.size w w65) := ⟨by rw [← hq_]; exact (by repeat (first | (with_reducible first | exact HB.out | apply ba_ | apply bn_ | apply bd_ | apply bs_ GE1503) | exact HB.out))⟩; clear hq_))))
         replace BK1503 := Aside0.mk (blk_drew BK1503.out)
         replace HB := Aside0.mk (bd_ HB.out)
         refine start_ (n := 14) (S := fun w' => w'.cell? ⟨gb1503, 0, none⟩ = some (.slice A1_0 l1_0.length c1_0) ∧ w'.cell? ⟨gb1503, 1, none⟩ = some (.int .i64 a1_1) ∧ w'.cell? ⟨gb1503, 2, none⟩ = some (.int .i64 a1_2) ∧ w'.cell? ⟨gb1503, 3, none⟩ = some (.string a1_3)) (ds := []) #[f_,f_,f_,f_,f_,f_,f_,f_,f_,f_,f_,f_,f_,f_] (by kernel_rfl) rfl rfl ⟨bx_ BK1503.out 0, bx_ BK1503.out 1, bx_ BK1503.out 2, bx_ BK1503.out 3⟩ (fun hHeld => ?_); refine with_tabW laws_FnExactJoinAll.tab11 laws_FnExactJoinAll.bits11 (fun HT_ HW_ => ?_)
         generalize w65.drew = w66 at BK1503 HB hHeld ⊢
         refine pu_ 0 40 ?_ (b_ 1 13) rfl rfl HT_.out ?_ ?_ ?_ ?_; rotate_left; intro w'; go_simp; with_reducible rfl; rotate_left; simp only [fr_]; rfl
         refine pu_ 4 44 ?_ #[t_,f_,f_,f_,t_,f_,f_,f_,f_,f_,f_,f_,f_,f_] rfl rfl HT_.out ?_ ?_ ?_ ?_; rotate_left; intro w'; go_simp; with_reducible rfl; rotate_left; simp only [fr_]; rfl
         refine pu_ 6 46 ?_ #[t_,f_,f_,f_,t_,f_,t_,f_,f_,f_,f_,f_,f_,f_] rfl rfl HT_.out ?_ ?_ ?_ ?_; rotate_left; intro w'; go_simp; with_reducible rfl; rotate_left; simp only [fr_]; rfl
         refine pu_ 7 47 ?_ #[t_,f_,f_,f_,t_,f_,t_,t_,f_,f_,f_,f_,f_,f_] rfl rfl HT_.out ?_ ?_ ?_ ?_; rotate_left; intro w'; go_simp; with_reducible rfl; rotate_left; simp only [fr_]; rfl
         refine take_ (i := 2) (N := some 42) (v := ?_) (a' := ?_) #[t_,f_,t_,f_,t_,f_,t_,t_,f_,f_,f_,f_,f_,f_] rfl rfl (take_ofW HT_.out HW_.out (by kernel_rfl)) (fun _ _ _ h => h) (Or.inl ⟨by rfl, ?_⟩) hHeld ?_ ?_
         rotate_left
         ·
          rintro w' ⟨s0, s1, s2, s3⟩
          go_simp
          with_reducible rfl
         rotate_left
         ·
          simp only [fr_]
          rfl
         refine one_ (i := 1) (N := some 41) #[t_,t_,t_,f_,t_,f_,t_,t_,f_,f_,f_,f_,f_,f_] rfl rfl (one_of HT_.out (by kernel_rfl)) (by decide) (fun K hK => ?_)
         refine goes_ Try.func62 (by kernel_rfl) rfl #[.slice A0 l0.length c0] (by rfl) rfl rfl (by (try simp only [mp_]); first | done | rfl | (simp only [List.length_drop, List.length_take]; rfl)) ?_
         with_reducible refine (laws_toGroupS.calls k _ _ l0 t1507 _ ?side1 ?side2 A22.out).mono ?_
         (case side1 => exact cp_ ((Kd.C_below HR0.out HB.out)))
         (case side2 => exact HC0.out)
         rintro e w67 ⟨v1508, rfl, ho0, hb⟩
         refine ⟨_, rfl, ?_⟩
         obtain ⟨gbz1508, hz1508⟩ := Kd.S_name ho0
         have HO1509 := Aside0.mk (Kd.S_lower (Kd.S_gez hz1508 ho0) (below_size (by repeat (first | (with_reducible first | exact HB.out | apply ba_ | apply bn_ | apply bd_ | apply bs_ GE1503) | exact HB.out))))
         replace BK1503 := Aside0.mk (bb_ BK1503.out hb)
         replace HB := Aside0.mk (below_step (by repeat (first | (with_reducible first | exact HB.out | apply ba_ | apply bn_ | apply bd_ | apply bs_ GE1503) | exact HB.out)) hb)
         (try clear hb)
         (try clear hb2)
         (try clear hk)
         (try clear hi)
         (try clear ho0)
         refine hK.out _ _ ⟨bx_ BK1503.out 0, bx_ BK1503.out 1, bx_ BK1503.out 2, bx_ BK1503.out 3⟩ (fun hHeld => ?_)
         clear hK K
         refine norm_ (a' := ?_) ?_ ?_
         rotate_left
         ·
          show Act.put _ (some 41) _ = _
          simp only [fr_]
          rfl
         refine one_ (i := 3) (N := some 43) #[t_,t_,t_,t_,t_,f_,t_,t_,f_,f_,f_,f_,f_,f_] rfl rfl (one_of HT_.out (by kernel_rfl)) (by decide) (fun K hK => ?_)
         refine goes_ Try.func24 (by kernel_rfl) rfl #[.agg #[.slice A1_0 l1_0.length c1_0, .int .i64 a1_1, .int .i64 a1_2, .string a1_3]] (by rfl) rfl rfl (by (try simp only [mp_]); first | done | rfl | (simp only [List.length_drop, List.length_take]; rfl)) ?_
         with_reducible refine (laws_toAlarm.calls k _ _ l1_0 a1_1 a1_2 a1_3 t1510 t1513 t1514 t1515 _ ?side1 ?side2 A23.out).mono ?_
         (case side1 => exact cp_ ((Kd.C_below HR1_0.out HB.out)))
         (case side2 => exact HC1_0.out)
         rintro e w68 ⟨v1511, rfl, ho0, hb⟩
         refine ⟨_, rfl, ?_⟩
         obtain ⟨gbz1511, hz1511⟩ := Kd.R_name ho0
         replace HO1509 := Aside0.mk (Kd.S_below (Kd.S_ltz hz1511 (sp_ HO1509.out)) hb)
         have HO1512 := Aside0.mk (Kd.R_lower (Kd.R_gez hz1511 ho0) (below_size (by repeat (first | (with_reducible first | exact HB.out | apply ba_ | apply bn_ | apply bd_ | apply bs_ GE1503) | exact HB.out))))
         replace BK1503 := Aside0.mk (bb_ BK1503.out hb)
         replace HB := Aside0.mk (below_step (by repeat (first | (with_reducible first | exact HB.out | apply ba_ | apply bn_ | apply bd_ | apply bs_ GE1503) | exact HB.out)) hb)
         (try clear hb)
         (try clear hb2)
         (try clear hk)
         (try clear hi)
         (try clear ho0)
         refine hK.out _ _ ⟨bx_ BK1503.out 0, bx_ BK1503.out 1, bx_ BK1503.out 2, bx_ BK1503.out 3⟩ (fun hHeld => ?_)
         clear hK K
         refine norm_ (a' := ?_) ?_ ?_
         rotate_left
         ·
          show Act.put _ (some 43) _ = _
          simp only [fr_]
          rfl
         refine one_ (i := 5) (N := some 45) #[t_,t_,t_,t_,t_,t_,t_,t_,f_,f_,f_,f_,f_,f_] rfl rfl (one_of HT_.out (by kernel_rfl)) (by decide) (fun K hK => ?_)
         refine goes_ Try.func52 (by kernel_rfl) rfl #[.slice A2 l2.length c2] (by rfl) rfl rfl (by (try simp only [mp_]); first | done | rfl | (simp only [List.length_drop, List.length_take]; rfl)) ?_
         with_reducible refine (laws_toStringS.calls k _ _ l2 t1516 _ ?side1 ?side2 A24.out).mono ?_
         (case side1 => exact cp_ ((Kd.C_below HR2.out HB.out)))
         (case side2 => exact HC2.out)
         rintro e w69 ⟨v1517, rfl, ho0, hb⟩
         refine ⟨_, rfl, ?_⟩
         obtain ⟨gbz1517, hz1517⟩ := Kd.R_name ho0
         replace HO1509 := Aside0.mk (Kd.S_below (Kd.S_ltz hz1517 (sp_ HO1509.out)) hb)
         replace HO1512 := Aside0.mk (Kd.R_below (Kd.R_ltz hz1517 (rp_ HO1512.out)) hb)
         have HO1518 := Aside0.mk (Kd.R_lower (Kd.R_gez hz1517 ho0) (below_size (by repeat (first | (with_reducible first | exact HB.out | apply ba_ | apply bn_ | apply bd_ | apply bs_ GE1503) | exact HB.out))))
         replace BK1503 := Aside0.mk (bb_ BK1503.out hb)
         replace HB := Aside0.mk (below_step (by repeat (first | (with_reducible first | exact HB.out | apply ba_ | apply bn_ | apply bd_ | apply bs_ GE1503) | exact HB.out)) hb)
         (try clear hb)
         (try clear hb2)
         (try clear hk)
         (try clear hi)
         (try clear ho0)
         obtain ⟨Ao70, co70, eo70⟩ := Kd.S_slice HO1509.out
         (first | subst eo70 | (injection eo70 with f1_ f2_ f3_; have f4_ := f1_.symm; have f5_ := f3_.symm; clear f1_ f2_ f3_; subst f4_; subst f5_))
         obtain ⟨Ao71, co71, eo71⟩ := Kd.R_slice HO1512.out
         (first | subst eo71 | (injection eo71 with f1_ f2_ f3_; have f4_ := f1_.symm; have f5_ := f3_.symm; clear f1_ f2_ f3_; subst f4_; subst f5_))
         obtain ⟨Ao72, co72, eo72⟩ := Kd.R_slice HO1518.out
         (first | subst eo72 | (injection eo72 with f1_ f2_ f3_; have f4_ := f1_.symm; have f5_ := f3_.symm; clear f1_ f2_ f3_; subst f4_; subst f5_))
         refine hK.out _ _ ⟨bx_ BK1503.out 0, bx_ BK1503.out 1, bx_ BK1503.out 2, bx_ BK1503.out 3⟩ (fun hHeld => ?_)
         clear hK K
         refine norm_ (a' := ?_) ?_ ?_
         rotate_left
         ·
          show Act.put _ (some 45) _ = _
          simp only [fr_]
          rfl
         refine one_ (i := 8) (N := some 48) #[t_,t_,t_,t_,t_,t_,t_,t_,t_,f_,f_,f_,f_,f_] rfl rfl (one_of HT_.out (by kernel_rfl)) (by decide) (fun K hK => ?_)
         refine goes_ Try.func70 (by kernel_rfl) rfl #[.slice Ao70 t1507.length co70, .agg #[.slice Ao71 t1510.length co71, .int .i64 t1513, .int .i64 t1514, .string t1515], .slice Ao72 t1516.length co72, .int .i64 a3, .int .i64 a4] (by rfl) rfl rfl (by (try simp only [mp_]); first | done | rfl | (simp only [List.length_drop, List.length_take]; rfl)) ?_
         with_reducible refine (spec_JoinAll.calls k _ _ t1507 _ _ t1510 t1513 t1514 t1515 _ _ t1516 a3 a4 t1519 t1522 _ ?side1 ?side2 ?side3 ?side4 ?side5 ?side6 A25.out).mono ?_
         (case side1 => exact cp_ ((Kd.S_reads' HO1509.out).2.2))
         (case side2 => exact (Kd.S_reads' HO1509.out).2.1)
         (case side3 => exact cp_ ((Kd.R_reads' HO1512.out).2.2))
         (case side4 => exact (Kd.R_reads' HO1512.out).2.1)
         (case side5 => exact cp_ ((Kd.R_reads' HO1518.out).2.2))
         (case side6 => exact (Kd.R_reads' HO1518.out).2.1)
         rintro e w73 ⟨v1520, rfl, ho0, hb⟩
         refine ⟨_, rfl, ?_⟩
         obtain ⟨gbz1520, hz1520⟩ := Kd.S_name ho0
         replace HO1509 := Aside0.mk (Kd.S_below (Kd.S_ltz hz1520 (sp_ HO1509.out)) hb)
         replace HO1512 := Aside0.mk (Kd.R_below (Kd.R_ltz hz1520 (rp_ HO1512.out)) hb)
         replace HO1518 := Aside0.mk (Kd.R_below (Kd.R_ltz hz1520 (rp_ HO1518.out)) hb)
         have HO1521 := Aside0.mk (Kd.S_lower (Kd.S_gez hz1520 ho0) (below_size (by repeat (first | (with_reducible first | exact HB.out | apply ba_ | apply bn_ | apply bd_ | apply bs_ GE1503) | exact HB.out))))
         replace BK1503 := Aside0.mk (bb_ BK1503.out hb)
         replace HB := Aside0.mk (below_step (by repeat (first | (with_reducible first | exact HB.out | apply ba_ | apply bn_ | apply bd_ | apply bs_ GE1503) | exact HB.out)) hb)
         (try clear hb)
         (try clear hb2)
         (try clear hk)
         (try clear hi)
         (try clear ho0)
         refine hK.out _ _ ⟨bx_ BK1503.out 0, bx_ BK1503.out 1, bx_ BK1503.out 2, bx_ BK1503.out 3⟩ (fun hHeld => ?_)
         clear hK K
         refine norm_ (a' := ?_) ?_ ?_
         rotate_left
         ·
          show Act.put _ (some 48) _ = _
          simp only [fr_]
          rfl
         refine pu_ 9 39 ?_ (b_ 10 4) rfl rfl HT_.out ?_ ?_ ?_ ?_; rotate_left; intro w'; go_simp; with_reducible rfl; rotate_left; simp only [fr_]; rfl
         refine pu_ 10 49 ?_ (b_ 11 3) rfl rfl HT_.out ?_ ?_ ?_ ?_; rotate_left; intro w'; go_simp; with_reducible rfl; rotate_left; simp only [fr_]; rfl
         refine pu_ 11 50 ?_ (b_ 12 2) rfl rfl HT_.out ?_ ?_ ?_ ?_; rotate_left; intro w'; go_simp; with_reducible rfl; rotate_left; simp only [fr_]; rfl
         refine pu_ 12 12 ?_ (b_ 13 1) rfl rfl HT_.out ?_ ?_ ?_ ?_; rotate_left; intro w'; go_simp; with_reducible rfl; rotate_left; simp only [fr_]; rfl
         refine pu_ 13 13 ?_ (b_ 14 0) rfl rfl HT_.out ?_ ?_ ?_ ?_; rotate_left; intro w'; go_simp; with_reducible rfl; rotate_left; simp only [fr_]; rfl
         refine done_ (done_of HT_.out (by kernel_rfl)) ?_
         try go_wp2_with (first | ((with_reducible refine gate_callee (f := 62) rfl ?_); refine goesL_ (some 52) rfl rfl Try.func62 (by kernel_rfl) rfl #[.slice A0 l0.length c0] rfl (by (try simp only [mp_]); first | done | rfl | (simp only [List.length_drop, List.length_take]; rfl)) ?_; (with_reducible refine (laws_toGroupS.calls k _ _ l0 t1523 _ ?side1 ?side2 A26.out).mono ?_); (case side1 => exact cp_ ((Kd.C_below HR0.out HB.out))); (case side2 => exact HC0.out); rintro e w74 ⟨v1524, rfl, ho0, hb⟩; refine ⟨_, rfl, ?_⟩; obtain ⟨gbz1524, hz1524⟩ := Kd.S_name ho0; replace HO1521 := Aside0.mk (Kd.S_below (Kd.S_ltz hz1524 (sp_ HO1521.out)) hb); have HO1525 := Aside0.mk (Kd.S_lower (Kd.S_gez hz1524 ho0) (below_size (by repeat (first | (with_reducible first | exact HB.out | apply ba_ | apply bn_ | apply bd_ | apply bs_ GE1503) | exact HB.out)))); replace BK1503 := Aside0.mk (bb_ BK1503.out hb); replace HB := Aside0.mk (below_step (by repeat (first | (with_reducible first | exact HB.out | apply ba_ | apply bn_ | apply bd_ | apply bs_ GE1503) | exact HB.out)) hb); (try clear hb); (try clear hb2); (try clear hk); (try clear hi); (try clear ho0); obtain ⟨hcz75_0, hcz75_1, hcz75_2, hcz75_3, hfz75_0, hfz75_1, hfz75_2, hfz75_3⟩ := bc4_ BK1503.out) | ((with_reducible refine gate_callee (f := 24) rfl ?_); refine goesL_ (some 54) rfl rfl Try.func24 (by kernel_rfl) rfl #[.agg #[.slice A1_0 l1_0.length c1_0, .int .i64 a1_1, .int .i64 a1_2, .string a1_3]] rfl (by (try simp only [mp_]); first | done | rfl | (simp only [List.length_drop, List.length_take]; rfl)) ?_; (with_reducible refine (laws_toAlarm.calls k _ _ l1_0 a1_1 a1_2 a1_3 t1526 t1529 t1530 t1531 _ ?side1 ?side2 A27.out).mono ?_); (case side1 => exact cp_ ((Kd.C_below HR1_0.out HB.out))); (case side2 => exact HC1_0.out); rintro e w76 ⟨v1527, rfl, ho0, hb⟩; refine ⟨_, rfl, ?_⟩; obtain ⟨gbz1527, hz1527⟩ := Kd.R_name ho0; replace HO1521 := Aside0.mk (Kd.S_below (Kd.S_ltz hz1527 (sp_ HO1521.out)) hb); replace HO1525 := Aside0.mk (Kd.S_below (Kd.S_ltz hz1527 (sp_ HO1525.out)) hb); have HO1528 := Aside0.mk (Kd.R_lower (Kd.R_gez hz1527 ho0) (below_size (by repeat (first | (with_reducible first | exact HB.out | apply ba_ | apply bn_ | apply bd_ | apply bs_ GE1503) | exact HB.out)))); replace BK1503 := Aside0.mk (bb_ BK1503.out hb); replace HB := Aside0.mk (below_step (by repeat (first | (with_reducible first | exact HB.out | apply ba_ | apply bn_ | apply bd_ | apply bs_ GE1503) | exact HB.out)) hb); (try clear hb); (try clear hb2); (try clear hk); (try clear hi); (try clear ho0)) | ((with_reducible refine gate_dst (N := 15) rfl ?_); refine box_event ?hg (N := 15) ?hd (cs := #[.slice none 0 0, .int .i64 0, .int .i64 0, .string (⟨#[]⟩ : ByteArray)]) (t := 44) ?hr ?_; (case hd => rfl); (case hg => rfl); (case hr => first | (go_simp; done) | (go_simp; rfl)); intro gb1532 hg w77 hbox hb; replace HO1521 := Aside0.mk (Kd.S_below (Kd.S_elderB (sp_ HO1521.out) gb1532 (Nat.le_of_eq hg.symm)) hb); replace HO1525 := Aside0.mk (Kd.S_below (Kd.S_elderB (sp_ HO1525.out) gb1532 (Nat.le_of_eq hg.symm)) hb); replace HO1528 := Aside0.mk (Kd.R_below (rp_ HO1528.out) hb); have BK1532 := Aside0.mk (hbox); have GW1532 := Aside0.mk ((by rw [hg]; exact (below_size (by repeat (first | (with_reducible first | exact HB.out | apply ba_ | apply bn_ | apply bd_ | apply bs_ GE1503) | exact HB.out))) : w.heap.size ≤ gb1532)); replace HB := Aside0.mk (below_step (by repeat (first | (with_reducible first | exact HB.out | apply ba_ | apply bn_ | apply bd_ | apply bs_ GE1503) | exact HB.out)) hb); have GE1532 := GW1532; have NB1503_1532 := Aside0.mk (nl_ BK1503.out hg); replace BK1503 := Aside0.mk (bb_ BK1503.out hb); have NB1532_1503 := Aside0.mk (NB1503_1532.out.symm); clear hb hbox hg; obtain ⟨Ao78, co78, eo78⟩ := Kd.R_slice HO1528.out; subst eo78; have hnb79 := NB1532_1503.out; have hnc79 := NB1503_1532.out; obtain ⟨hcz80_0, hcz80_1, hcz80_2, hcz80_3, hfz80_0, hfz80_1, hfz80_2, hfz80_3⟩ := bc4_ BK1532.out) | ((with_reducible refine gate_callee (f := 52) rfl ?_); refine goesL_ (some 56) rfl rfl Try.func52 (by kernel_rfl) rfl #[.slice A2 l2.length c2] rfl (by (try simp only [mp_]); first | done | rfl | (simp only [List.length_drop, List.length_take]; rfl)) ?_; (with_reducible refine (laws_toStringS.calls k _ _ l2 t1533 _ ?side1 ?side2 A28.out).mono ?_); (case side1 => exact Kd.C_below HR2.out (by repeat (first | (with_reducible first | exact HB.out | apply ba_ | apply bn_ | apply bd_ | apply bs_ GE1503 | apply bs_ GE1532) | exact HB.out))); (case side2 => exact HC2.out); rintro e w81 ⟨v1534, rfl, ho0, hb⟩; refine ⟨_, rfl, ?_⟩; obtain ⟨gbz1534, hz1534⟩ := Kd.R_name ho0; replace HO1521 := Aside0.mk (Kd.S_below (Kd.S_ltz hz1534 (by (with_reducible repeat (first | apply Kd.S_alloc | apply Kd.S_drewN | apply Kd.S_drew)); exact (Kd.S_mono (Kd.S_far (p := ⟨gb1532, 3, none⟩) (Kd.S_far (p := ⟨gb1532, 2, none⟩) (Kd.S_far (p := ⟨gb1532, 1, none⟩) (Kd.S_far (p := ⟨gb1532, 0, none⟩) (Kd.S_mono HO1521.out (fun k_ hk => (⟨hk, hk.2⟩ : _ ∧ k_ ≠ gb1532))) (fun _ hk => hk.2) (.slice Ao78 t1526.length co78)) (fun _ hk => hk.2) (.int .i64 t1529)) (fun _ hk => hk.2) (.int .i64 t1530)) (fun _ hk => hk.2) (.string t1531)) (fun _ h_ => h_.1)))) hb); replace HO1525 := Aside0.mk (Kd.S_below (Kd.S_ltz hz1534 (by (with_reducible repeat (first | apply Kd.S_alloc | apply Kd.S_drewN | apply Kd.S_drew)); exact (Kd.S_mono (Kd.S_far (p := ⟨gb1532, 3, none⟩) (Kd.S_far (p := ⟨gb1532, 2, none⟩) (Kd.S_far (p := ⟨gb1532, 1, none⟩) (Kd.S_far (p := ⟨gb1532, 0, none⟩) (Kd.S_mono HO1525.out (fun k_ hk => (⟨hk, hk.2⟩ : _ ∧ k_ ≠ gb1532))) (fun _ hk => hk.2) (.slice Ao78 t1526.length co78)) (fun _ hk => hk.2) (.int .i64 t1529)) (fun _ hk => hk.2) (.int .i64 t1530)) (fun _ hk => hk.2) (.string t1531)) (fun _ h_ => h_.1)))) hb); replace HO1528 := Aside0.mk (Kd.R_below (Kd.R_ltz hz1534 (by (with_reducible repeat (first | apply Kd.R_alloc | apply Kd.R_drewN | apply Kd.R_drew)); exact (Kd.R_mono (Kd.R_far (p := ⟨gb1532, 3, none⟩) (Kd.R_far (p := ⟨gb1532, 2, none⟩) (Kd.R_far (p := ⟨gb1532, 1, none⟩) (Kd.R_far (p := ⟨gb1532, 0, none⟩) (Kd.R_types HO1528.out BK1532.out (by decide)) (fun _ hk => hk.2) (.slice Ao78 t1526.length co78)) (fun _ hk => hk.2) (.int .i64 t1529)) (fun _ hk => hk.2) (.int .i64 t1530)) (fun _ hk => hk.2) (.string t1531)) (fun _ h_ => h_.1)))) hb); have HO1535 := Aside0.mk (Kd.R_lower (Kd.R_gez hz1534 ho0) (below_size (by repeat (first | (with_reducible first | exact HB.out | apply ba_ | apply bn_ | apply bd_ | apply bs_ GE1503 | apply bs_ GE1532) | exact HB.out)))); replace BK1503 := Aside0.mk (blk_below (g := gb1503) (o := .cells #[.slice A1_0 l1_0.length c1_0, .int .i64 a1_1, .int .i64 a1_2, .string a1_3] 34 (0, 0)) (by (with_reducible repeat (first | refine kn_ ?_ _ | refine kd_ ?_ | refine ka_ ?_ _)); refine blk_far ?_ NB1503_1532.out _; (with_reducible repeat (first | refine kn_ ?_ _ | refine kd_ ?_ | refine ka_ ?_ _)); refine blk_far ?_ NB1503_1532.out _; (with_reducible repeat (first | refine kn_ ?_ _ | refine kd_ ?_ | refine ka_ ?_ _)); refine blk_far ?_ NB1503_1532.out _; (with_reducible repeat (first | refine kn_ ?_ _ | refine kd_ ?_ | refine ka_ ?_ _)); refine blk_far ?_ NB1503_1532.out _; (with_reducible repeat (first | refine kn_ ?_ _ | refine kd_ ?_ | refine ka_ ?_ _)); exact BK1503.out) hb); replace BK1532 := Aside0.mk (blk_below (g := gb1532) (o := .cells #[.slice Ao78 t1526.length co78, .int .i64 t1529, .int .i64 t1530, .string t1531] 44 (0, 0)) (by (with_reducible repeat (first | refine kn_ ?_ _ | refine kd_ ?_ | refine ka_ ?_ _)); refine blk_put (cs := #[.slice Ao78 t1526.length co78, .int .i64 t1529, .int .i64 t1530, .string (⟨#[]⟩ : ByteArray)]) ?_ 3 _ rfl; (with_reducible repeat (first | refine kn_ ?_ _ | refine kd_ ?_ | refine ka_ ?_ _)); refine blk_put (cs := #[.slice Ao78 t1526.length co78, .int .i64 t1529, .int .i64 0, .string (⟨#[]⟩ : ByteArray)]) ?_ 2 _ rfl; (with_reducible repeat (first | refine kn_ ?_ _ | refine kd_ ?_ | refine ka_ ?_ _)); refine blk_put (cs := #[.slice Ao78 t1526.length co78, .int .i64 0, .int .i64 0, .string (⟨#[]⟩ : ByteArray)]) ?_ 1 _ rfl; (with_reducible repeat (first | refine kn_ ?_ _ | refine kd_ ?_ | refine ka_ ?_ _)); refine blk_put (cs := #[.slice none 0 0, .int .i64 0, .int .i64 0, .string (⟨#[]⟩ : ByteArray)]) ?_ 0 _ rfl; (with_reducible repeat (first | refine kn_ ?_ _ | refine kd_ ?_ | refine ka_ ?_ _)); exact BK1532.out) hb); replace HB := Aside0.mk (below_step (by repeat (first | (with_reducible first | exact HB.out | apply ba_ | apply bn_ | apply bd_ | apply bs_ GE1503 | apply bs_ GE1532) | exact HB.out)) hb); (try clear hb); (try clear hb2); (try clear hk); (try clear hi); (try clear ho0); obtain ⟨hcz82_0, hcz82_1, hcz82_2, hcz82_3, hfz82_0, hfz82_1, hfz82_2, hfz82_3⟩ := bc4_ BK1532.out; obtain ⟨Ao83, co83, eo83⟩ := Kd.S_slice HO1525.out; subst eo83; obtain ⟨Ao84, co84, eo84⟩ := Kd.R_slice HO1535.out; subst eo84) | ((with_reducible refine gate_callee (f := 71) rfl ?_); refine goesL_ (some 63) rfl rfl Try.func71 (by kernel_rfl) rfl #[.slice Ao83 t1523.length co83, .agg #[.slice Ao78 t1526.length co78, .int .i64 t1529, .int .i64 t1530, .string t1531], .slice Ao84 t1533.length co84, .int .i64 a3, .int .i64 a4] rfl (by (try simp only [mp_]); first | done | rfl | (simp only [List.length_drop, List.length_take]; rfl)) ?_; (with_reducible refine (impl_JoinAll.calls k _ _ t1523 _ _ t1526 t1529 t1530 t1531 _ _ t1533 a3 a4 t1536 t1539 _ ?side1 ?side2 ?side3 ?side4 ?side5 ?side6 A29.out).mono ?_); (case side1 => exact cp_ ((Kd.S_reads' HO1525.out).2.2)); (case side2 => exact (Kd.S_reads' HO1525.out).2.1); (case side3 => exact cp_ ((Kd.R_reads' HO1528.out).2.2)); (case side4 => exact (Kd.R_reads' HO1528.out).2.1); (case side5 => exact cp_ ((Kd.R_reads' HO1535.out).2.2)); (case side6 => exact (Kd.R_reads' HO1535.out).2.1); rintro e w85 ⟨v1537, rfl, ho0, hb⟩; refine ⟨_, rfl, ?_⟩; obtain ⟨gbz1537, hz1537⟩ := Kd.S_name ho0; replace HO1521 := Aside0.mk (Kd.S_below (Kd.S_ltz hz1537 (sp_ HO1521.out)) hb); replace HO1525 := Aside0.mk (Kd.S_below (Kd.S_ltz hz1537 (sp_ HO1525.out)) hb); replace HO1528 := Aside0.mk (Kd.R_below (Kd.R_ltz hz1537 (rp_ HO1528.out)) hb); replace HO1535 := Aside0.mk (Kd.R_below (Kd.R_ltz hz1537 (rp_ HO1535.out)) hb); have HO1538 := Aside0.mk (Kd.S_lower (Kd.S_newB (Kd.S_gez hz1537 ho0) (g := gb1532) (o := .cells #[.slice Ao78 t1526.length co78, .int .i64 t1529, .int .i64 t1530, .string t1531] 44 (0, 0)) (pb_ BK1532.out)) (below_size (by repeat (first | (with_reducible first | exact HB.out | apply ba_ | apply bn_ | apply bd_ | apply bs_ GE1503 | apply bs_ GE1532) | exact HB.out)))); replace BK1503 := Aside0.mk (bb_ BK1503.out hb); replace BK1532 := Aside0.mk (bb_ BK1532.out hb); replace HB := Aside0.mk (below_step (by repeat (first | (with_reducible first | exact HB.out | apply ba_ | apply bn_ | apply bd_ | apply bs_ GE1503 | apply bs_ GE1532) | exact HB.out)) hb); (try clear hb); (try clear hb2); (try clear hk); (try clear hi); (try clear ho0); obtain ⟨Ao86, co86, eo86⟩ := Kd.S_slice HO1538.out; subst eo86; obtain ⟨Ao87, co87, eo87⟩ := Kd.S_slice HO1521.out; subst eo87) | ((with_reducible refine gate_callee (f := 64) rfl ?_); refine goesL_ (some 68) rfl rfl Try.func64 (by kernel_rfl) rfl #[.slice Ao86 t1536.length co86, .slice Ao87 t1519.length co87] rfl (by (try simp only [mp_]); first | done | rfl | (simp only [List.length_drop, List.length_take]; rfl)) ?_; (with_reducible refine (laws_eqGroupS.calls k _ _ t1536 _ _ t1519 true _ ?side1 ?side2 ?side3 ?side4 A30.out).mono ?_); (case side1 => exact cp_ ((Kd.S_reads' HO1538.out).2.2)); (case side2 => exact (Kd.S_reads' HO1538.out).2.1); (case side3 => exact cp_ ((Kd.S_reads' HO1521.out).2.2)); (case side4 => exact (Kd.S_reads' HO1521.out).2.1); rintro e w88 ⟨rfl, hb⟩; refine ⟨_, rfl, ?_⟩; replace HO1521 := Aside0.mk (Kd.S_below (sp_ HO1521.out) hb); replace HO1525 := Aside0.mk (Kd.S_below (sp_ HO1525.out) hb); replace HO1528 := Aside0.mk (Kd.R_below (rp_ HO1528.out) hb); replace HO1535 := Aside0.mk (Kd.R_below (rp_ HO1535.out) hb); replace HO1538 := Aside0.mk (Kd.S_below (sp_ HO1538.out) hb); replace BK1503 := Aside0.mk (bb_ BK1503.out hb); replace BK1532 := Aside0.mk (bb_ BK1532.out hb); replace HB := Aside0.mk (below_step (by repeat (first | (with_reducible first | exact HB.out | apply ba_ | apply bn_ | apply bd_ | apply bs_ GE1503 | apply bs_ GE1532) | exact HB.out)) hb); (try clear hb); (try clear hb2); (try clear hk); (try clear hi)) | ((with_reducible refine gate_callee (f := 62) rfl ?_); refine goesL_ (some 77) rfl rfl Try.func62 (by kernel_rfl) rfl #[.slice A0 l0.length c0] rfl (by (try simp only [mp_]); first | done | rfl | (simp only [List.length_drop, List.length_take]; rfl)) ?_; (with_reducible refine (laws_toGroupS.calls k _ _ l0 t1541 _ ?side1 ?side2 A33.out).mono ?_); (case side1 => exact cp_ ((Kd.C_below HR0.out HB.out))); (case side2 => exact HC0.out); rintro e w89 ⟨v1542, rfl, ho0, hb⟩; refine ⟨_, rfl, ?_⟩; obtain ⟨gbz1542, hz1542⟩ := Kd.S_name ho0; replace HO1521 := Aside0.mk (Kd.S_below (Kd.S_ltz hz1542 (sp_ HO1521.out)) hb); replace HO1525 := Aside0.mk (Kd.S_below (Kd.S_ltz hz1542 (sp_ HO1525.out)) hb); replace HO1528 := Aside0.mk (Kd.R_below (Kd.R_ltz hz1542 (rp_ HO1528.out)) hb); replace HO1535 := Aside0.mk (Kd.R_below (Kd.R_ltz hz1542 (rp_ HO1535.out)) hb); replace HO1538 := Aside0.mk (Kd.S_below (Kd.S_ltz hz1542 (sp_ HO1538.out)) hb); have HO1543 := Aside0.mk (Kd.S_lower (Kd.S_newB (Kd.S_gez hz1542 ho0) (g := gb1532) (o := .cells #[.slice Ao78 t1526.length co78, .int .i64 t1529, .int .i64 t1530, .string t1531] 44 (0, 0)) (pb_ BK1532.out)) (below_size (by repeat (first | (with_reducible first | exact HB.out | apply ba_ | apply bn_ | apply bd_ | apply bs_ GE1503 | apply bs_ GE1532) | exact HB.out)))); replace BK1503 := Aside0.mk (bb_ BK1503.out hb); replace BK1532 := Aside0.mk (bb_ BK1532.out hb); replace HB := Aside0.mk (below_step (by repeat (first | (with_reducible first | exact HB.out | apply ba_ | apply bn_ | apply bd_ | apply bs_ GE1503 | apply bs_ GE1532) | exact HB.out)) hb); (try clear hb); (try clear hb2); (try clear hk); (try clear hi); (try clear ho0); obtain ⟨Ao90, co90, eo90⟩ := Kd.S_slice HO1543.out; subst eo90) | ((with_reducible refine gate_callee (f := 64) rfl ?_); refine goesL_ (some 78) rfl rfl Try.func64 (by kernel_rfl) rfl #[.slice Ao83 t1523.length co83, .slice Ao90 t1541.length co90] rfl (by (try simp only [mp_]); first | done | rfl | (simp only [List.length_drop, List.length_take]; rfl)) ?_; (with_reducible refine (laws_eqGroupS.calls k _ _ t1523 _ _ t1541 true _ ?side1 ?side2 ?side3 ?side4 A34.out).mono ?_); (case side1 => exact cp_ ((Kd.S_reads' HO1525.out).2.2)); (case side2 => exact (Kd.S_reads' HO1525.out).2.1); (case side3 => exact cp_ ((Kd.S_reads' HO1543.out).2.2)); (case side4 => exact (Kd.S_reads' HO1543.out).2.1); rintro e w91 ⟨rfl, hb⟩; refine ⟨_, rfl, ?_⟩; replace HO1521 := Aside0.mk (Kd.S_below (sp_ HO1521.out) hb); replace HO1525 := Aside0.mk (Kd.S_below (sp_ HO1525.out) hb); replace HO1528 := Aside0.mk (Kd.R_below (rp_ HO1528.out) hb); replace HO1535 := Aside0.mk (Kd.R_below (rp_ HO1535.out) hb); replace HO1538 := Aside0.mk (Kd.S_below (sp_ HO1538.out) hb); replace HO1543 := Aside0.mk (Kd.S_below (sp_ HO1543.out) hb); replace BK1503 := Aside0.mk (bb_ BK1503.out hb); replace BK1532 := Aside0.mk (bb_ BK1532.out hb); replace HB := Aside0.mk (below_step (by repeat (first | (with_reducible first | exact HB.out | apply ba_ | apply bn_ | apply bd_ | apply bs_ GE1503 | apply bs_ GE1532) | exact HB.out)) hb); (try clear hb); (try clear hb2); (try clear hk); (try clear hi)))
         replace HO1521 := Aside0.mk (Kd.S_drew HO1521.out)
         replace HO1525 := Aside0.mk (Kd.S_drew HO1525.out)
         replace HO1528 := Aside0.mk (Kd.R_drew HO1528.out)
         replace HO1535 := Aside0.mk (Kd.R_drew HO1535.out)
         replace HO1538 := Aside0.mk (Kd.S_drew HO1538.out)
         replace BK1503 := Aside0.mk (blk_drew BK1503.out)
         replace BK1532 := Aside0.mk (blk_drew BK1532.out)
         replace HB := Aside0.mk (bd_ HB.out)
         refine start_ (n := 5) (S := fun w' => w'.cell? ⟨gb1532, 0, none⟩ = some (.slice Ao78 t1526.length co78) ∧ w'.cell? ⟨gb1532, 1, none⟩ = some (.int .i64 t1529) ∧ w'.cell? ⟨gb1532, 2, none⟩ = some (.int .i64 t1530) ∧ w'.cell? ⟨gb1532, 3, none⟩ = some (.string t1531) ∧ w'.cell? ⟨gb1503, 0, none⟩ = some (.slice A1_0 l1_0.length c1_0) ∧ w'.cell? ⟨gb1503, 1, none⟩ = some (.int .i64 a1_1) ∧ w'.cell? ⟨gb1503, 2, none⟩ = some (.int .i64 a1_2) ∧ w'.cell? ⟨gb1503, 3, none⟩ = some (.string a1_3)) (ds := []) #[f_,f_,f_,f_,f_] (by kernel_rfl) rfl rfl ⟨bx_ BK1532.out 0, bx_ BK1532.out 1, bx_ BK1532.out 2, bx_ BK1532.out 3, bx_ BK1503.out 0, bx_ BK1503.out 1, bx_ BK1503.out 2, bx_ BK1503.out 3⟩ (fun hHeld => ?_)
         generalize w91.drew = w92 at HO1521 HO1525 HO1528 HO1535 HO1538 BK1503 BK1532 HB hHeld ⊢
         refine take_ (i := 0) (N := some 80) (v := ?_) (a' := ?_) #[t_,f_,f_,f_,f_] rfl rfl (by kernel_rfl) (fun _ _ _ h => h) (Or.inl ⟨by rfl, ?_⟩) hHeld ?_ ?_
         rotate_left
         ·
          rintro w' ⟨s0, s1, s2, s3, s4, s5, s6, s7⟩
          go_simp
          with_reducible rfl
         rotate_left
         ·
          simp only [fr_]
          rfl
         refine take_ (i := 1) (N := some 81) (v := ?_) (a' := ?_) #[t_,t_,f_,f_,f_] rfl rfl (by kernel_rfl) (fun _ _ _ h => h) (Or.inl ⟨by rfl, ?_⟩) hHeld ?_ ?_
         rotate_left
         ·
          rintro w' ⟨s0, s1, s2, s3, s4, s5, s6, s7⟩
          go_simp
          with_reducible rfl
         rotate_left
         ·
          simp only [fr_]
          rfl
         refine one_ (i := 2) (N := some 82) #[t_,t_,t_,f_,f_] rfl rfl (by kernel_rfl) (by decide) (fun K hK => ?_)
         refine goes_ Try.func24 (by kernel_rfl) rfl #[.agg #[.slice A1_0 l1_0.length c1_0, .int .i64 a1_1, .int .i64 a1_2, .string a1_3]] (by rfl) rfl rfl (by (try simp only [mp_]); first | done | rfl | (simp only [List.length_drop, List.length_take]; rfl)) ?_
         with_reducible refine (laws_toAlarm.calls k _ _ l1_0 a1_1 a1_2 a1_3 t1545 t1548 t1549 t1550 _ ?side1 ?side2 A36.out).mono ?_
         (case side1 => exact cp_ ((Kd.C_below HR1_0.out HB.out)))
         (case side2 => exact HC1_0.out)
         rintro e w93 ⟨v1546, rfl, ho0, hb⟩
         refine ⟨_, rfl, ?_⟩
         obtain ⟨gbz1546, hz1546⟩ := Kd.R_name ho0
         replace HO1521 := Aside0.mk (Kd.S_below (Kd.S_ltz hz1546 (sp_ HO1521.out)) hb)
         replace HO1525 := Aside0.mk (Kd.S_below (Kd.S_ltz hz1546 (sp_ HO1525.out)) hb)
         replace HO1528 := Aside0.mk (Kd.R_below (Kd.R_ltz hz1546 (rp_ HO1528.out)) hb)
         replace HO1535 := Aside0.mk (Kd.R_below (Kd.R_ltz hz1546 (rp_ HO1535.out)) hb)
         replace HO1538 := Aside0.mk (Kd.S_below (Kd.S_ltz hz1546 (sp_ HO1538.out)) hb)
         have HO1547 := Aside0.mk (Kd.R_lower (Kd.R_gez hz1546 ho0) (below_size (by repeat (first | (with_reducible first | exact HB.out | apply ba_ | apply bn_ | apply bd_ | apply bs_ GE1503 | apply bs_ GE1532) | exact HB.out))))
         replace BK1503 := Aside0.mk (bb_ BK1503.out hb)
         replace BK1532 := Aside0.mk (bb_ BK1532.out hb)
         replace HB := Aside0.mk (below_step (by repeat (first | (with_reducible first | exact HB.out | apply ba_ | apply bn_ | apply bd_ | apply bs_ GE1503 | apply bs_ GE1532) | exact HB.out)) hb)
         (try clear hb)
         (try clear hb2)
         (try clear hk)
         (try clear hi)
         (try clear ho0)
         obtain ⟨Ao94, co94, eo94⟩ := Kd.R_slice HO1547.out
         (first | subst eo94 | (injection eo94 with f1_ f2_ f3_; have f4_ := f1_.symm; have f5_ := f3_.symm; clear f1_ f2_ f3_; subst f4_; subst f5_))
         refine hK.out _ _ ⟨bx_ BK1532.out 0, bx_ BK1532.out 1, bx_ BK1532.out 2, bx_ BK1532.out 3, bx_ BK1503.out 0, bx_ BK1503.out 1, bx_ BK1503.out 2, bx_ BK1503.out 3⟩ (fun hHeld => ?_)
         clear hK K
         refine norm_ (a' := ?_) ?_ ?_
         rotate_left
         ·
          show Act.put _ (some 82) _ = _
          simp only [fr_]
          rfl
         refine one_ (i := 3) (N := some 83) #[t_,t_,t_,t_,f_] rfl rfl (by kernel_rfl) (by decide) (fun K hK => ?_)
         refine goes_ Try.func27 (by kernel_rfl) rfl #[.agg #[.slice Ao78 t1526.length co78, .int .i64 t1529, .int .i64 t1530, .string t1531], .agg #[.slice Ao94 t1545.length co94, .int .i64 t1548, .int .i64 t1549, .string t1550]] (by rfl) rfl rfl (by (try simp only [mp_]); first | done | rfl | (simp only [List.length_drop, List.length_take]; rfl)) ?_
         with_reducible refine (laws_eqAlarm.calls k _ _ t1526 t1529 t1530 t1531 _ _ t1545 t1548 t1549 t1550 true _ ?side1 ?side2 ?side3 ?side4 A37.out).mono ?_
         (case side1 => exact cp_ ((Kd.R_reads' HO1528.out).2.2))
         (case side2 => exact (Kd.R_reads' HO1528.out).2.1)
         (case side3 => exact cp_ ((Kd.R_reads' HO1547.out).2.2))
         (case side4 => exact (Kd.R_reads' HO1547.out).2.1)
         rintro e w95 ⟨rfl, hb⟩
         refine ⟨_, rfl, ?_⟩
         replace HO1521 := Aside0.mk (Kd.S_below (sp_ HO1521.out) hb)
         replace HO1525 := Aside0.mk (Kd.S_below (sp_ HO1525.out) hb)
         replace HO1528 := Aside0.mk (Kd.R_below (rp_ HO1528.out) hb)
         replace HO1535 := Aside0.mk (Kd.R_below (rp_ HO1535.out) hb)
         replace HO1538 := Aside0.mk (Kd.S_below (sp_ HO1538.out) hb)
         replace HO1547 := Aside0.mk (Kd.R_below (rp_ HO1547.out) hb)
         replace BK1503 := Aside0.mk (bb_ BK1503.out hb)
         replace BK1532 := Aside0.mk (bb_ BK1532.out hb)
         replace HB := Aside0.mk (below_step (by repeat (first | (with_reducible first | exact HB.out | apply ba_ | apply bn_ | apply bd_ | apply bs_ GE1503 | apply bs_ GE1532) | exact HB.out)) hb)
         (try clear hb)
         (try clear hb2)
         (try clear hk)
         (try clear hi)
         refine hK.out _ _ ⟨bx_ BK1532.out 0, bx_ BK1532.out 1, bx_ BK1532.out 2, bx_ BK1532.out 3, bx_ BK1503.out 0, bx_ BK1503.out 1, bx_ BK1503.out 2, bx_ BK1503.out 3⟩ (fun hHeld => ?_)
         clear hK K
         refine norm_ (a' := ?_) ?_ ?_
         rotate_left
         ·
          show Act.put _ (some 83) _ = _
          simp only [fr_]
          rfl
         refine pure_ (i := 4) (N := some 84) (v := ?_) (a' := ?_) #[t_,t_,t_,t_,t_] rfl rfl (by kernel_rfl) (fun _ _ _ h => h) (Or.inl ⟨by rfl, ?_⟩) ?_ ?_
         rotate_left
         ·
          intro w'
          go_simp
          with_reducible rfl
         rotate_left
         ·
          simp only [fr_]
          rfl
         refine done_ (by kernel_rfl) ?_
         try go_wp2_with (first | ((with_reducible refine gate_callee (f := 52) rfl ?_); refine goesL_ (some 87) rfl rfl Try.func52 (by kernel_rfl) rfl #[.slice A2 l2.length c2] rfl (by (try simp only [mp_]); first | done | rfl | (simp only [List.length_drop, List.length_take]; rfl)) ?_; (with_reducible refine (laws_toStringS.calls k _ _ l2 t1552 _ ?side1 ?side2 A39.out).mono ?_); (case side1 => exact cp_ ((Kd.C_below HR2.out HB.out))); (case side2 => exact HC2.out); rintro e w96 ⟨v1553, rfl, ho0, hb⟩; refine ⟨_, rfl, ?_⟩; obtain ⟨gbz1553, hz1553⟩ := Kd.R_name ho0; replace HO1521 := Aside0.mk (Kd.S_below (Kd.S_ltz hz1553 (sp_ HO1521.out)) hb); replace HO1525 := Aside0.mk (Kd.S_below (Kd.S_ltz hz1553 (sp_ HO1525.out)) hb); replace HO1528 := Aside0.mk (Kd.R_below (Kd.R_ltz hz1553 (rp_ HO1528.out)) hb); replace HO1535 := Aside0.mk (Kd.R_below (Kd.R_ltz hz1553 (rp_ HO1535.out)) hb); replace HO1538 := Aside0.mk (Kd.S_below (Kd.S_ltz hz1553 (sp_ HO1538.out)) hb); have HO1554 := Aside0.mk (Kd.R_lower (Kd.R_gez hz1553 ho0) (below_size (by repeat (first | (with_reducible first | exact HB.out | apply ba_ | apply bn_ | apply bd_ | apply bs_ GE1503 | apply bs_ GE1532) | exact HB.out)))); replace BK1503 := Aside0.mk (bb_ BK1503.out hb); replace BK1532 := Aside0.mk (bb_ BK1532.out hb); replace HB := Aside0.mk (below_step (by repeat (first | (with_reducible first | exact HB.out | apply ba_ | apply bn_ | apply bd_ | apply bs_ GE1503 | apply bs_ GE1532) | exact HB.out)) hb); (try clear hb); (try clear hb2); (try clear hk); (try clear hi); (try clear ho0); obtain ⟨Ao97, co97, eo97⟩ := Kd.R_slice HO1554.out; subst eo97) | ((with_reducible refine gate_callee (f := 55) rfl ?_); refine goesL_ (some 88) rfl rfl Try.func55 (by kernel_rfl) rfl #[.slice Ao84 t1533.length co84, .slice Ao97 t1552.length co97] rfl (by (try simp only [mp_]); first | done | rfl | (simp only [List.length_drop, List.length_take]; rfl)) ?_; (with_reducible refine (laws_eqStringS.calls k _ _ t1533 _ _ t1552 true _ ?side1 ?side2 ?side3 ?side4 A40.out).mono ?_); (case side1 => exact cp_ ((Kd.R_reads' HO1535.out).2.2)); (case side2 => exact (Kd.R_reads' HO1535.out).2.1); (case side3 => exact cp_ ((Kd.R_reads' HO1554.out).2.2)); (case side4 => exact (Kd.R_reads' HO1554.out).2.1); rintro e w' ⟨rfl, ⟨nd, rfl⟩⟩; refine ⟨_, rfl, ?_⟩; obtain ⟨PXP98, hPXP98, hPlP98⟩ := Kd.S_fp HO1525.out) | ((with_reducible refine gate_callee (f := 72) rfl ?_); refine goesL_ (some 92) rfl rfl Try.func72 (by kernel_rfl) rfl #[.slice Ao83 t1523.length co83, .int .i64 1] rfl (by (try simp only [mp_]); first | done | rfl | (simp only [List.length_drop, List.length_take]; rfl)) ?_; (with_reducible refine (laws_markGroupS.calls k PXP98 (.slice Ao83 t1523.length co83) t1523 1 t1556 t1557 w _ ?side1 ?side2 A42.out).mono ?_); (case side1 => repeat (first | (with_reducible first | exact HB.out | apply ba_ | apply bn_ | apply bd_ | apply bs_ GE1503 | apply bs_ GE1532) | exact HB.out)); (case side2 => exact hPXP98); rintro e w99 ⟨rfl, hy0, hb, hkp⟩; refine ⟨_, rfl, ?_⟩; replace BK1503 := Aside0.mk (blk_kept (pb_ BK1503.out) hkp (fun hs_ => (fun e_ => no_blk (pb_ BK1503.out) (by decide) (hPlP98 _ e_).2.2) hs_)); replace HO1521 := Aside0.mk (Kd.S_mono (ok' := fun k_ => k_ ≠ gb1532 ∧ gbz1520 ≤ k_ ∧ k_ < gbz1524 ∧ k_ < gbz1527 ∧ k_ < gbz1534 ∧ k_ < gbz1537 ∧ k_ < gbz1542 ∧ k_ < gbz1546 ∧ k_ < gbz1553) (Kd.S_keptB (HO1521.out) hkp (fun k_ hk_ hs_ => (fun e_ => Nat.lt_irrefl _ (Nat.lt_of_lt_of_le hk_.1.1.1.1.1.1.1.2 (hPlP98 _ e_).1.1.1.1.1.1.1.1.2)) hs_)) (fun k_ hk_ => ⟨hk_.1.1.1.1.1.1.2, hk_.1.1.1.1.1.1.1.1.1.2, hk_.1.1.1.1.1.1.1.1.2, hk_.1.1.1.1.1.1.1.2, hk_.1.1.1.1.1.2, hk_.1.1.1.1.2, hk_.1.1.1.2, hk_.1.1.2, hk_.1.2⟩)); replace HO1525 := Aside0.mk (Kd.S_mono hy0 (fun k_ hk_ => (hPlP98 k_ hk_).1)); replace HO1528 := Aside0.mk (Kd.R_mono (ok' := fun k_ => gbz1527 ≤ k_ ∧ k_ < gbz1534 ∧ k_ < gbz1537 ∧ k_ < gbz1542 ∧ k_ < gbz1546 ∧ k_ < gbz1553) (Kd.R_keptB (HO1528.out) hkp (fun k_ hk_ hs_ => (fun e_ => Nat.lt_irrefl _ (Nat.lt_of_lt_of_le (hPlP98 _ e_).1.1.1.1.1.1.1.2 hk_.1.1.1.1.1.2)) hs_)) (fun k_ hk_ => ⟨hk_.1.1.1.1.1.1.2, hk_.1.1.1.1.1.2, hk_.1.1.1.1.2, hk_.1.1.1.2, hk_.1.1.2, hk_.1.2⟩)); replace BK1532 := Aside0.mk (blk_kept (pb_ BK1532.out) hkp (fun hs_ => (fun e_ => ((hPlP98 _ e_).1.1.1.1.1.1.2) rfl) hs_)); replace HO1535 := Aside0.mk (Kd.R_mono (ok' := fun k_ => gbz1534 ≤ k_ ∧ k_ < gbz1537 ∧ k_ < gbz1542 ∧ k_ < gbz1546 ∧ k_ < gbz1553) (Kd.R_keptB (HO1535.out) hkp (fun k_ hk_ hs_ => (fun e_ => Nat.lt_irrefl _ (Nat.lt_of_lt_of_le (hPlP98 _ e_).1.1.1.1.1.2 hk_.1.1.1.1.2)) hs_)) (fun k_ hk_ => ⟨hk_.1.1.1.1.1.2, hk_.1.1.1.1.2, hk_.1.1.1.2, hk_.1.1.2, hk_.1.2⟩)); replace HO1538 := Aside0.mk (Kd.S_mono (ok' := fun k_ => k_ ≠ gb1532 ∧ gbz1537 ≤ k_ ∧ k_ < gbz1542 ∧ k_ < gbz1546 ∧ k_ < gbz1553) (Kd.S_keptB (HO1538.out) hkp (fun k_ hk_ hs_ => (fun e_ => Nat.lt_irrefl _ (Nat.lt_of_lt_of_le (hPlP98 _ e_).1.1.1.1.2 hk_.1.1.1.1.2)) hs_)) (fun k_ hk_ => ⟨hk_.1.1.1.1.2, hk_.1.1.1.1.1.2, hk_.1.1.1.2, hk_.1.1.2, hk_.1.2⟩)); replace HB := Aside0.mk (hb); (try clear hb); (try clear hkp); (try clear hy0); obtain ⟨hcz100_0, hcz100_1, hcz100_2, hcz100_3, hfz100_0, hfz100_1, hfz100_2, hfz100_3⟩ := bc4_ BK1532.out; obtain ⟨PXP101, hPXP101, hPlP101⟩ := Kd.R_fpt rfl HO1528.out) | ((with_reducible refine gate_callee (f := 29) rfl ?_); refine goesL_ (some 95) rfl rfl Try.func29 (by kernel_rfl) rfl #[.agg #[.slice Ao78 t1526.length co78, .int .i64 t1529, .int .i64 t1530, .string t1531], .int .i64 t1556] rfl (by (try simp only [mp_]); first | done | rfl | (simp only [List.length_drop, List.length_take]; rfl)) ?_; (with_reducible refine (laws_markAlarm.calls k PXP101 (.slice Ao78 t1526.length co78) t1526 t1529 t1530 t1531 t1556 t1558 t1559 w _ ?side1 ?side2 A43.out).mono ?_); (case side1 => repeat (first | (with_reducible first | exact HB.out | apply ba_ | apply bn_ | apply bd_ | apply bs_ GE1503 | apply bs_ GE1532) | exact HB.out)); (case side2 => exact hPXP101); rintro e w102 ⟨rfl, hy0, hb, hkp⟩; refine ⟨_, rfl, ?_⟩; replace BK1503 := Aside0.mk (blk_kept (pb_ BK1503.out) hkp (fun hs_ => (fun e_ => no_blk (pb_ BK1503.out) (by decide) (hPlP101 _ e_).2.2) hs_)); replace HO1521 := Aside0.mk (Kd.S_mono (ok' := fun k_ => k_ ≠ gb1532 ∧ gbz1520 ≤ k_ ∧ k_ < gbz1524 ∧ k_ < gbz1527 ∧ k_ < gbz1534 ∧ k_ < gbz1537 ∧ k_ < gbz1542 ∧ k_ < gbz1546 ∧ k_ < gbz1553) (Kd.S_keptB (HO1521.out) hkp (fun k_ hk_ hs_ => (fun e_ => Nat.lt_irrefl _ (Nat.lt_of_lt_of_le hk_.2.2.2.1 (hPlP101 _ e_).1.1.1)) hs_)) (fun k_ hk_ => ⟨hk_.1.1, hk_.1.2.1, hk_.1.2.2.1, hk_.1.2.2.2.1, hk_.1.2.2.2.2.1, hk_.1.2.2.2.2.2.1, hk_.1.2.2.2.2.2.2.1, hk_.1.2.2.2.2.2.2.2.1, hk_.1.2.2.2.2.2.2.2.2⟩)); replace HO1528 := Aside0.mk (Kd.R_reok rfl hy0 (fun k_ e_ => HO1528.out.1 k_ e_)); replace BK1532 := Aside0.mk (blk_kept (pb_ BK1532.out) hkp (fun hs_ => (fun e_ => no_blk (pb_ BK1532.out) (by decide) (hPlP101 _ e_).2.2) hs_)); replace HO1535 := Aside0.mk (Kd.R_mono (ok' := fun k_ => gbz1534 ≤ k_ ∧ k_ < gbz1537 ∧ k_ < gbz1542 ∧ k_ < gbz1546 ∧ k_ < gbz1553) (Kd.R_keptB (HO1535.out) hkp (fun k_ hk_ hs_ => (fun e_ => Nat.lt_irrefl _ (Nat.lt_of_lt_of_le (hPlP101 _ e_).1.1.2.1 hk_.1)) hs_)) (fun k_ hk_ => ⟨hk_.1.1, hk_.1.2.1, hk_.1.2.2.1, hk_.1.2.2.2.1, hk_.1.2.2.2.2⟩)); replace HO1538 := Aside0.mk (Kd.S_mono (ok' := fun k_ => k_ ≠ gb1532 ∧ gbz1537 ≤ k_ ∧ k_ < gbz1542 ∧ k_ < gbz1546 ∧ k_ < gbz1553) (Kd.S_keptB (HO1538.out) hkp (fun k_ hk_ hs_ => (fun e_ => Nat.lt_irrefl _ (Nat.lt_of_lt_of_le (hPlP101 _ e_).1.1.2.2.1 hk_.2.1)) hs_)) (fun k_ hk_ => ⟨hk_.1.1, hk_.1.2.1, hk_.1.2.2.1, hk_.1.2.2.2.1, hk_.1.2.2.2.2⟩)); replace HB := Aside0.mk (hb); (try clear hb); (try clear hkp); (try clear hy0); obtain ⟨PXP103, hPXP103, hPlP103⟩ := Kd.R_fpt rfl HO1535.out) | ((with_reducible refine gate_callee (f := 73) rfl ?_); refine goesL_ (some 98) rfl rfl Try.func73 (by kernel_rfl) rfl #[.slice Ao84 t1533.length co84, .int .i64 t1558] rfl (by (try simp only [mp_]); first | done | rfl | (simp only [List.length_drop, List.length_take]; rfl)) ?_; (with_reducible refine (laws_markStringS.calls k PXP103 (.slice Ao84 t1533.length co84) t1533 t1558 t1560 t1561 w _ ?side1 ?side2 A44.out).mono ?_); (case side1 => repeat (first | (with_reducible first | exact HB.out | apply ba_ | apply bn_ | apply bd_ | apply bs_ GE1503 | apply bs_ GE1532) | exact HB.out)); (case side2 => exact hPXP103); rintro e w104 ⟨rfl, hy0, hb, hkp⟩; refine ⟨_, rfl, ?_⟩; replace BK1503 := Aside0.mk (blk_kept (pb_ BK1503.out) hkp (fun hs_ => (fun e_ => no_blk (pb_ BK1503.out) (by decide) (hPlP103 _ e_).2.2) hs_)); replace HO1521 := Aside0.mk (Kd.S_mono (ok' := fun k_ => k_ ≠ gb1532 ∧ gbz1520 ≤ k_ ∧ k_ < gbz1524 ∧ k_ < gbz1527 ∧ k_ < gbz1534 ∧ k_ < gbz1537 ∧ k_ < gbz1542 ∧ k_ < gbz1546 ∧ k_ < gbz1553) (Kd.S_keptB (HO1521.out) hkp (fun k_ hk_ hs_ => (fun e_ => Nat.lt_irrefl _ (Nat.lt_of_lt_of_le hk_.2.2.2.2.1 (hPlP103 _ e_).1.1.1)) hs_)) (fun k_ hk_ => ⟨hk_.1.1, hk_.1.2.1, hk_.1.2.2.1, hk_.1.2.2.2.1, hk_.1.2.2.2.2.1, hk_.1.2.2.2.2.2.1, hk_.1.2.2.2.2.2.2.1, hk_.1.2.2.2.2.2.2.2.1, hk_.1.2.2.2.2.2.2.2.2⟩)); replace BK1532 := Aside0.mk (blk_kept (pb_ BK1532.out) hkp (fun hs_ => (fun e_ => no_blk (pb_ BK1532.out) (by decide) (hPlP103 _ e_).2.2) hs_)); replace HO1535 := Aside0.mk (Kd.R_reok rfl hy0 (fun k_ e_ => HO1535.out.1 k_ e_)); replace HO1538 := Aside0.mk (Kd.S_mono (ok' := fun k_ => k_ ≠ gb1532 ∧ gbz1537 ≤ k_ ∧ k_ < gbz1542 ∧ k_ < gbz1546 ∧ k_ < gbz1553) (Kd.S_keptB (HO1538.out) hkp (fun k_ hk_ hs_ => (fun e_ => Nat.lt_irrefl _ (Nat.lt_of_lt_of_le (hPlP103 _ e_).1.1.2.1 hk_.2.1)) hs_)) (fun k_ hk_ => ⟨hk_.1.1, hk_.1.2.1, hk_.1.2.2.1, hk_.1.2.2.2.1, hk_.1.2.2.2.2⟩)); replace HB := Aside0.mk (hb); (try clear hb); (try clear hkp); (try clear hy0)) | (go_at_call 64; (with_reducible refine (laws_eqGroupS.calls k _ _ t1536 _ _ t1519 true _ ?side1 ?side2 ?side3 ?side4 A46.out).mono ?_); (case side1 => exact cp_ ((Kd.S_reads' HO1538.out).2.2)); (case side2 => exact (Kd.S_reads' HO1538.out).2.1); (case side3 => exact cp_ ((Kd.S_reads' HO1521.out).2.2)); (case side4 => exact (Kd.S_reads' HO1521.out).2.1); rintro e w105 ⟨rfl, hb⟩; replace HO1521 := Aside0.mk (Kd.S_below (sp_ HO1521.out) hb); replace HO1538 := Aside0.mk (Kd.S_below (sp_ HO1538.out) hb); replace BK1503 := Aside0.mk (bb_ BK1503.out hb); replace BK1532 := Aside0.mk (bb_ BK1532.out hb); replace HB := Aside0.mk (below_step (by repeat (first | (with_reducible first | exact HB.out | apply ba_ | apply bn_ | apply bd_ | apply bs_ GE1503 | apply bs_ GE1532) | exact HB.out)) hb); (try clear hb); (try clear hb2); (try clear hk); (try clear hi); obtain ⟨PXP106, hPXP106, hPlP106⟩ := Kd.S_fp HO1538.out) | ((with_reducible refine gate_callee (f := 72) rfl ?_); refine goesL_ (some 114) rfl rfl Try.func72 (by kernel_rfl) rfl #[.slice Ao86 t1536.length co86, .int .i64 1] rfl (by (try simp only [mp_]); first | done | rfl | (simp only [List.length_drop, List.length_take]; rfl)) ?_; (with_reducible refine (laws_markGroupS.calls k PXP106 (.slice Ao86 t1536.length co86) t1536 1 t1563 t1564 w _ ?side1 ?side2 A48.out).mono ?_); (case side1 => repeat (first | (with_reducible first | exact HB.out | apply ba_ | apply bn_ | apply bd_ | apply bs_ GE1503 | apply bs_ GE1532) | exact HB.out)); (case side2 => exact hPXP106); rintro e w107 ⟨rfl, hy0, hb, hkp⟩; refine ⟨_, rfl, ?_⟩; replace BK1503 := Aside0.mk (blk_kept (pb_ BK1503.out) hkp (fun hs_ => (fun e_ => no_blk (pb_ BK1503.out) (by decide) (hPlP106 _ e_).2.2) hs_)); replace HO1521 := Aside0.mk (Kd.S_mono (ok' := fun k_ => k_ ≠ gb1532 ∧ gbz1520 ≤ k_ ∧ k_ < gbz1524 ∧ k_ < gbz1527 ∧ k_ < gbz1534 ∧ k_ < gbz1537 ∧ k_ < gbz1542 ∧ k_ < gbz1546 ∧ k_ < gbz1553) (Kd.S_keptB (HO1521.out) hkp (fun k_ hk_ hs_ => (fun e_ => Nat.lt_irrefl _ (Nat.lt_of_lt_of_le hk_.2.2.2.2.2.1 (hPlP106 _ e_).1.2.1)) hs_)) (fun k_ hk_ => ⟨hk_.1.1, hk_.1.2.1, hk_.1.2.2.1, hk_.1.2.2.2.1, hk_.1.2.2.2.2.1, hk_.1.2.2.2.2.2.1, hk_.1.2.2.2.2.2.2.1, hk_.1.2.2.2.2.2.2.2.1, hk_.1.2.2.2.2.2.2.2.2⟩)); replace BK1532 := Aside0.mk (blk_kept (pb_ BK1532.out) hkp (fun hs_ => (fun e_ => ((hPlP106 _ e_).1.1) rfl) hs_)); replace HO1538 := Aside0.mk (Kd.S_mono hy0 (fun k_ hk_ => (hPlP106 k_ hk_).1)); replace HB := Aside0.mk (hb); (try clear hb); (try clear hkp); (try clear hy0)) | ((with_reducible refine gate_callee (f := 74) rfl ?_); refine goesL_ (some 117) rfl rfl Try.func74 (by kernel_rfl) rfl #[.slice Ao86 t1564.length co86, .int .i64 1] rfl (by (try simp only [mp_]); first | done | (rw [show t1564.length = t1536.length from (Kd.S_reads' HO1538.out).1.symm] <;> rfl) | rfl | (simp only [List.length_drop, List.length_take]; rfl)) ?_; (with_reducible refine (laws_heldGroupS.calls k _ _ t1564 1 t1565 _ ?side1 ?side2 A49.out).mono ?_); (case side1 => exact cp_ ((Kd.S_reads' HO1538.out).2.2)); (case side2 => rw [show t1564.length = t1536.length from (Kd.S_reads' HO1538.out).1.symm]; exact (Kd.S_reads' HO1538.out).2.1); rintro e w108 ⟨rfl, hb⟩; refine ⟨_, rfl, ?_⟩; replace HO1521 := Aside0.mk (Kd.S_below (sp_ HO1521.out) hb); replace HO1538 := Aside0.mk (Kd.S_below (sp_ HO1538.out) hb); replace BK1503 := Aside0.mk (bb_ BK1503.out hb); replace BK1532 := Aside0.mk (bb_ BK1532.out hb); replace HB := Aside0.mk (below_step (by repeat (first | (with_reducible first | exact HB.out | apply ba_ | apply bn_ | apply bd_ | apply bs_ GE1503 | apply bs_ GE1532) | exact HB.out)) hb); (try clear hb); (try clear hb2); (try clear hk); (try clear hi)))
         replace HO1521 := Aside0.mk (Kd.S_drew HO1521.out)
         replace HO1538 := Aside0.mk (Kd.S_drew HO1538.out)
         replace BK1503 := Aside0.mk (blk_drew BK1503.out)
         replace BK1532 := Aside0.mk (blk_drew BK1532.out)
         replace HB := Aside0.mk (bd_ HB.out)
         refine start_ (n := 14) (S := fun w' => w'.cell? ⟨gb1503, 0, none⟩ = some (.slice A1_0 l1_0.length c1_0) ∧ w'.cell? ⟨gb1503, 1, none⟩ = some (.int .i64 a1_1) ∧ w'.cell? ⟨gb1503, 2, none⟩ = some (.int .i64 a1_2) ∧ w'.cell? ⟨gb1503, 3, none⟩ = some (.string a1_3)) (ds := []) #[f_,f_,f_,f_,f_,f_,f_,f_,f_,f_,f_,f_,f_,f_] (by kernel_rfl) rfl rfl ⟨bx_ BK1503.out 0, bx_ BK1503.out 1, bx_ BK1503.out 2, bx_ BK1503.out 3⟩ (fun hHeld => ?_); refine with_tabW laws_FnExactJoinAll.tab38 laws_FnExactJoinAll.bits38 (fun HT_ HW_ => ?_)
         generalize w108.drew = w109 at HO1521 HO1538 BK1503 BK1532 HB hHeld ⊢
         refine pu_ 0 124 ?_ (b_ 1 13) rfl rfl HT_.out ?_ ?_ ?_ ?_; rotate_left; intro w'; go_simp; with_reducible rfl; rotate_left; simp only [fr_]; rfl
         refine pu_ 4 128 ?_ #[t_,f_,f_,f_,t_,f_,f_,f_,f_,f_,f_,f_,f_,f_] rfl rfl HT_.out ?_ ?_ ?_ ?_; rotate_left; intro w'; go_simp; with_reducible rfl; rotate_left; simp only [fr_]; rfl
         refine pu_ 6 130 ?_ #[t_,f_,f_,f_,t_,f_,t_,f_,f_,f_,f_,f_,f_,f_] rfl rfl HT_.out ?_ ?_ ?_ ?_; rotate_left; intro w'; go_simp; with_reducible rfl; rotate_left; simp only [fr_]; rfl
         refine pu_ 7 131 ?_ #[t_,f_,f_,f_,t_,f_,t_,t_,f_,f_,f_,f_,f_,f_] rfl rfl HT_.out ?_ ?_ ?_ ?_; rotate_left; intro w'; go_simp; with_reducible rfl; rotate_left; simp only [fr_]; rfl
         refine take_ (i := 2) (N := some 126) (v := ?_) (a' := ?_) #[t_,f_,t_,f_,t_,f_,t_,t_,f_,f_,f_,f_,f_,f_] rfl rfl (take_ofW HT_.out HW_.out (by kernel_rfl)) (fun _ _ _ h => h) (Or.inl ⟨by rfl, ?_⟩) hHeld ?_ ?_
         rotate_left
         ·
          rintro w' ⟨s0, s1, s2, s3⟩
          go_simp
          with_reducible rfl
         rotate_left
         ·
          simp only [fr_]
          rfl
         refine one_ (i := 1) (N := some 125) #[t_,t_,t_,f_,t_,f_,t_,t_,f_,f_,f_,f_,f_,f_] rfl rfl (one_of HT_.out (by kernel_rfl)) (by decide) (fun K hK => ?_)
         refine goes_ Try.func62 (by kernel_rfl) rfl #[.slice A0 l0.length c0] (by rfl) rfl rfl (by (try simp only [mp_]); first | done | rfl | (simp only [List.length_drop, List.length_take]; rfl)) ?_
         with_reducible refine (laws_toGroupS.calls k _ _ l0 t1566 _ ?side1 ?side2 A52.out).mono ?_
         (case side1 => exact cp_ ((Kd.C_below HR0.out HB.out)))
         (case side2 => exact HC0.out)
         rintro e w110 ⟨v1567, rfl, ho0, hb⟩
         refine ⟨_, rfl, ?_⟩
         obtain ⟨gbz1567, hz1567⟩ := Kd.S_name ho0
         replace HO1521 := Aside0.mk (Kd.S_below (Kd.S_ltz hz1567 (sp_ HO1521.out)) hb)
         replace HO1538 := Aside0.mk (Kd.S_below (Kd.S_ltz hz1567 (sp_ HO1538.out)) hb)
         have HO1568 := Aside0.mk (Kd.S_lower (Kd.S_newB (Kd.S_gez hz1567 ho0) (g := gb1532) (o := .cells #[.slice Ao78 t1526.length co78, .int .i64 t1529, .int .i64 t1530, .string t1531] 44 (0, 0)) (pb_ BK1532.out)) (below_size (by repeat (first | (with_reducible first | exact HB.out | apply ba_ | apply bn_ | apply bd_ | apply bs_ GE1503 | apply bs_ GE1532) | exact HB.out))))
         replace BK1503 := Aside0.mk (bb_ BK1503.out hb)
         replace BK1532 := Aside0.mk (bb_ BK1532.out hb)
         replace HB := Aside0.mk (below_step (by repeat (first | (with_reducible first | exact HB.out | apply ba_ | apply bn_ | apply bd_ | apply bs_ GE1503 | apply bs_ GE1532) | exact HB.out)) hb)
         (try clear hb)
         (try clear hb2)
         (try clear hk)
         (try clear hi)
         (try clear ho0)
         refine hK.out _ _ ⟨bx_ BK1503.out 0, bx_ BK1503.out 1, bx_ BK1503.out 2, bx_ BK1503.out 3⟩ (fun hHeld => ?_)
         clear hK K
         refine norm_ (a' := ?_) ?_ ?_
         rotate_left
         ·
          show Act.put _ (some 125) _ = _
          simp only [fr_]
          rfl
         refine one_ (i := 3) (N := some 127) #[t_,t_,t_,t_,t_,f_,t_,t_,f_,f_,f_,f_,f_,f_] rfl rfl (one_of HT_.out (by kernel_rfl)) (by decide) (fun K hK => ?_)
         refine goes_ Try.func24 (by kernel_rfl) rfl #[.agg #[.slice A1_0 l1_0.length c1_0, .int .i64 a1_1, .int .i64 a1_2, .string a1_3]] (by rfl) rfl rfl (by (try simp only [mp_]); first | done | rfl | (simp only [List.length_drop, List.length_take]; rfl)) ?_
         with_reducible refine (laws_toAlarm.calls k _ _ l1_0 a1_1 a1_2 a1_3 t1569 t1572 t1573 t1574 _ ?side1 ?side2 A53.out).mono ?_
         (case side1 => exact cp_ ((Kd.C_below HR1_0.out HB.out)))
         (case side2 => exact HC1_0.out)
         rintro e w111 ⟨v1570, rfl, ho0, hb⟩
         refine ⟨_, rfl, ?_⟩
         obtain ⟨gbz1570, hz1570⟩ := Kd.R_name ho0
         replace HO1521 := Aside0.mk (Kd.S_below (Kd.S_ltz hz1570 (sp_ HO1521.out)) hb)
         replace HO1538 := Aside0.mk (Kd.S_below (Kd.S_ltz hz1570 (sp_ HO1538.out)) hb)
         replace HO1568 := Aside0.mk (Kd.S_below (Kd.S_ltz hz1570 (sp_ HO1568.out)) hb)
         have HO1571 := Aside0.mk (Kd.R_lower (Kd.R_gez hz1570 ho0) (below_size (by repeat (first | (with_reducible first | exact HB.out | apply ba_ | apply bn_ | apply bd_ | apply bs_ GE1503 | apply bs_ GE1532) | exact HB.out))))
         replace BK1503 := Aside0.mk (bb_ BK1503.out hb)
         replace BK1532 := Aside0.mk (bb_ BK1532.out hb)
         replace HB := Aside0.mk (below_step (by repeat (first | (with_reducible first | exact HB.out | apply ba_ | apply bn_ | apply bd_ | apply bs_ GE1503 | apply bs_ GE1532) | exact HB.out)) hb)
         (try clear hb)
         (try clear hb2)
         (try clear hk)
         (try clear hi)
         (try clear ho0)
         refine hK.out _ _ ⟨bx_ BK1503.out 0, bx_ BK1503.out 1, bx_ BK1503.out 2, bx_ BK1503.out 3⟩ (fun hHeld => ?_)
         clear hK K
         refine norm_ (a' := ?_) ?_ ?_
         rotate_left
         ·
          show Act.put _ (some 127) _ = _
          simp only [fr_]
          rfl
         refine one_ (i := 5) (N := some 129) #[t_,t_,t_,t_,t_,t_,t_,t_,f_,f_,f_,f_,f_,f_] rfl rfl (one_of HT_.out (by kernel_rfl)) (by decide) (fun K hK => ?_)
         refine goes_ Try.func52 (by kernel_rfl) rfl #[.slice A2 l2.length c2] (by rfl) rfl rfl (by (try simp only [mp_]); first | done | rfl | (simp only [List.length_drop, List.length_take]; rfl)) ?_
         with_reducible refine (laws_toStringS.calls k _ _ l2 t1575 _ ?side1 ?side2 A54.out).mono ?_
         (case side1 => exact cp_ ((Kd.C_below HR2.out HB.out)))
         (case side2 => exact HC2.out)
         rintro e w112 ⟨v1576, rfl, ho0, hb⟩
         refine ⟨_, rfl, ?_⟩
         obtain ⟨gbz1576, hz1576⟩ := Kd.R_name ho0
         replace HO1521 := Aside0.mk (Kd.S_below (Kd.S_ltz hz1576 (sp_ HO1521.out)) hb)
         replace HO1538 := Aside0.mk (Kd.S_below (Kd.S_ltz hz1576 (sp_ HO1538.out)) hb)
         replace HO1568 := Aside0.mk (Kd.S_below (Kd.S_ltz hz1576 (sp_ HO1568.out)) hb)
         replace HO1571 := Aside0.mk (Kd.R_below (Kd.R_ltz hz1576 (rp_ HO1571.out)) hb)
         have HO1577 := Aside0.mk (Kd.R_lower (Kd.R_gez hz1576 ho0) (below_size (by repeat (first | (with_reducible first | exact HB.out | apply ba_ | apply bn_ | apply bd_ | apply bs_ GE1503 | apply bs_ GE1532) | exact HB.out))))
         replace BK1503 := Aside0.mk (bb_ BK1503.out hb)
         replace BK1532 := Aside0.mk (bb_ BK1532.out hb)
         replace HB := Aside0.mk (below_step (by repeat (first | (with_reducible first | exact HB.out | apply ba_ | apply bn_ | apply bd_ | apply bs_ GE1503 | apply bs_ GE1532) | exact HB.out)) hb)
         (try clear hb)
         (try clear hb2)
         (try clear hk)
         (try clear hi)
         (try clear ho0)
         obtain ⟨Ao113, co113, eo113⟩ := Kd.S_slice HO1568.out
         (first | subst eo113 | (injection eo113 with f1_ f2_ f3_; have f4_ := f1_.symm; have f5_ := f3_.symm; clear f1_ f2_ f3_; subst f4_; subst f5_))
         obtain ⟨Ao114, co114, eo114⟩ := Kd.R_slice HO1571.out
         (first | subst eo114 | (injection eo114 with f1_ f2_ f3_; have f4_ := f1_.symm; have f5_ := f3_.symm; clear f1_ f2_ f3_; subst f4_; subst f5_))
         obtain ⟨Ao115, co115, eo115⟩ := Kd.R_slice HO1577.out
         (first | subst eo115 | (injection eo115 with f1_ f2_ f3_; have f4_ := f1_.symm; have f5_ := f3_.symm; clear f1_ f2_ f3_; subst f4_; subst f5_))
         refine hK.out _ _ ⟨bx_ BK1503.out 0, bx_ BK1503.out 1, bx_ BK1503.out 2, bx_ BK1503.out 3⟩ (fun hHeld => ?_)
         clear hK K
         refine norm_ (a' := ?_) ?_ ?_
         rotate_left
         ·
          show Act.put _ (some 129) _ = _
          simp only [fr_]
          rfl
         refine one_ (i := 8) (N := some 132) #[t_,t_,t_,t_,t_,t_,t_,t_,t_,f_,f_,f_,f_,f_] rfl rfl (one_of HT_.out (by kernel_rfl)) (by decide) (fun K hK => ?_)
         refine goes_ Try.func71 (by kernel_rfl) rfl #[.slice Ao113 t1566.length co113, .agg #[.slice Ao114 t1569.length co114, .int .i64 t1572, .int .i64 t1573, .string t1574], .slice Ao115 t1575.length co115, .int .i64 a3, .int .i64 a4] (by rfl) rfl rfl (by (try simp only [mp_]); first | done | rfl | (simp only [List.length_drop, List.length_take]; rfl)) ?_
         with_reducible refine (impl_JoinAll.calls k _ _ t1566 _ _ t1569 t1572 t1573 t1574 _ _ t1575 a3 a4 t1578 t1581 _ ?side1 ?side2 ?side3 ?side4 ?side5 ?side6 A55.out).mono ?_
         (case side1 => exact cp_ ((Kd.S_reads' HO1568.out).2.2))
         (case side2 => exact (Kd.S_reads' HO1568.out).2.1)
         (case side3 => exact cp_ ((Kd.R_reads' HO1571.out).2.2))
         (case side4 => exact (Kd.R_reads' HO1571.out).2.1)
         (case side5 => exact cp_ ((Kd.R_reads' HO1577.out).2.2))
         (case side6 => exact (Kd.R_reads' HO1577.out).2.1)
         rintro e w116 ⟨v1579, rfl, ho0, hb⟩
         refine ⟨_, rfl, ?_⟩
         obtain ⟨gbz1579, hz1579⟩ := Kd.S_name ho0
         replace HO1521 := Aside0.mk (Kd.S_below (Kd.S_ltz hz1579 (sp_ HO1521.out)) hb)
         replace HO1538 := Aside0.mk (Kd.S_below (Kd.S_ltz hz1579 (sp_ HO1538.out)) hb)
         replace HO1568 := Aside0.mk (Kd.S_below (Kd.S_ltz hz1579 (sp_ HO1568.out)) hb)
         replace HO1571 := Aside0.mk (Kd.R_below (Kd.R_ltz hz1579 (rp_ HO1571.out)) hb)
         replace HO1577 := Aside0.mk (Kd.R_below (Kd.R_ltz hz1579 (rp_ HO1577.out)) hb)
         have HO1580 := Aside0.mk (Kd.S_lower (Kd.S_newB (Kd.S_gez hz1579 ho0) (g := gb1532) (o := .cells #[.slice Ao78 t1526.length co78, .int .i64 t1529, .int .i64 t1530, .string t1531] 44 (0, 0)) (pb_ BK1532.out)) (below_size (by repeat (first | (with_reducible first | exact HB.out | apply ba_ | apply bn_ | apply bd_ | apply bs_ GE1503 | apply bs_ GE1532) | exact HB.out))))
         replace BK1503 := Aside0.mk (bb_ BK1503.out hb)
         replace BK1532 := Aside0.mk (bb_ BK1532.out hb)
         replace HB := Aside0.mk (below_step (by repeat (first | (with_reducible first | exact HB.out | apply ba_ | apply bn_ | apply bd_ | apply bs_ GE1503 | apply bs_ GE1532) | exact HB.out)) hb)
         (try clear hb)
         (try clear hb2)
         (try clear hk)
         (try clear hi)
         (try clear ho0)
         refine hK.out _ _ ⟨bx_ BK1503.out 0, bx_ BK1503.out 1, bx_ BK1503.out 2, bx_ BK1503.out 3⟩ (fun hHeld => ?_)
         clear hK K
         refine norm_ (a' := ?_) ?_ ?_
         rotate_left
         ·
          show Act.put _ (some 132) _ = _
          simp only [fr_]
          rfl
         refine pu_ 9 123 ?_ (b_ 10 4) rfl rfl HT_.out ?_ ?_ ?_ ?_; rotate_left; intro w'; go_simp; with_reducible rfl; rotate_left; simp only [fr_]; rfl
         refine pu_ 10 133 ?_ (b_ 11 3) rfl rfl HT_.out ?_ ?_ ?_ ?_; rotate_left; intro w'; go_simp; with_reducible rfl; rotate_left; simp only [fr_]; rfl
         refine pu_ 11 134 ?_ (b_ 12 2) rfl rfl HT_.out ?_ ?_ ?_ ?_; rotate_left; intro w'; go_simp; with_reducible rfl; rotate_left; simp only [fr_]; rfl
         refine pu_ 12 22 ?_ (b_ 13 1) rfl rfl HT_.out ?_ ?_ ?_ ?_; rotate_left; intro w'; go_simp; with_reducible rfl; rotate_left; simp only [fr_]; rfl
         refine pu_ 13 23 ?_ (b_ 14 0) rfl rfl HT_.out ?_ ?_ ?_ ?_; rotate_left; intro w'; go_simp; with_reducible rfl; rotate_left; simp only [fr_]; rfl
         refine done_ (done_of HT_.out (by kernel_rfl)) ?_
         obtain ⟨Ao117, co117, eo117⟩ := Kd.S_slice HO1580.out
         subst eo117
         try go_wp2_with (first | ((with_reducible refine gate_callee (f := 64) rfl ?_); refine goesL_ (some 137) rfl rfl Try.func64 (by kernel_rfl) rfl #[.slice Ao117 t1578.length co117, .slice Ao87 t1519.length co87] rfl (by (try simp only [mp_]); first | done | rfl | (simp only [List.length_drop, List.length_take]; rfl)) ?_; (with_reducible refine (laws_eqGroupS.calls k _ _ t1578 _ _ t1519 true _ ?side1 ?side2 ?side3 ?side4 A56.out).mono ?_); (case side1 => exact cp_ ((Kd.S_reads' HO1580.out).2.2)); (case side2 => exact (Kd.S_reads' HO1580.out).2.1); (case side3 => exact cp_ ((Kd.S_reads' HO1521.out).2.2)); (case side4 => exact (Kd.S_reads' HO1521.out).2.1); rintro e w118 ⟨rfl, hb⟩; refine ⟨_, rfl, ?_⟩; replace HO1521 := Aside0.mk (Kd.S_below (sp_ HO1521.out) hb); replace HO1538 := Aside0.mk (Kd.S_below (sp_ HO1538.out) hb); replace HO1580 := Aside0.mk (Kd.S_below (sp_ HO1580.out) hb); replace BK1532 := Aside0.mk (bb_ BK1532.out hb); replace HB := Aside0.mk (below_step (by repeat (first | (with_reducible first | exact HB.out | apply ba_ | apply bn_ | apply bd_ | apply bs_ GE1532) | exact HB.out)) hb); (try clear hb); (try clear hb2); (try clear hk); (try clear hi)) | ((with_reducible refine gate_callee (f := 74) rfl ?_); refine goesL_ (some 146) rfl rfl Try.func74 (by kernel_rfl) rfl #[.slice Ao86 t1564.length co86, .int .i64 1] rfl (by (try simp only [mp_]); first | done | (rw [show t1564.length = t1536.length from (Kd.S_reads' HO1538.out).1.symm] <;> rfl) | rfl | (simp only [List.length_drop, List.length_take]; rfl)) ?_; (with_reducible refine (laws_heldGroupS.calls k _ _ t1564 1 t1583 _ ?side1 ?side2 A59.out).mono ?_); (case side1 => exact cp_ ((Kd.S_reads' HO1538.out).2.2)); (case side2 => rw [show t1564.length = t1536.length from (Kd.S_reads' HO1538.out).1.symm]; exact (Kd.S_reads' HO1538.out).2.1); rintro e w119 ⟨rfl, hb⟩; refine ⟨_, rfl, ?_⟩; replace HO1538 := Aside0.mk (Kd.S_below (sp_ HO1538.out) hb); replace BK1532 := Aside0.mk (bb_ BK1532.out hb); replace HB := Aside0.mk (below_step (by repeat (first | (with_reducible first | exact HB.out | apply ba_ | apply bn_ | apply bd_ | apply bs_ GE1532) | exact HB.out)) hb); (try clear hb); (try clear hb2); (try clear hk); (try clear hi)))
         go_ret
         exact ⟨by first | rfl | (simp [errW_none, errW_some] <;> rfl) | (simp [*, errW_none, errW_some] <;> rfl), by repeat (first | (with_reducible first | exact HB.out | apply ba_ | apply bn_ | apply bd_ | apply bs_ GE1532) | exact HB.out)⟩
        rw [if_neg c61] at H
        exact absurd H (by simp)
       replace c57 := Bool.eq_false_iff.mpr c57
       subst c57
       rw [if_neg (show ¬ (false = true) by decide)] at H
       exact absurd H (by simp)
      rw [if_neg c51] at H
      exact absurd H (by simp)
     replace c47 := Bool.eq_false_iff.mpr c47
     subst c47
     rw [if_neg (show ¬ (false = true) by decide)] at H
     exact absurd H (by simp)
    replace c41 := Bool.eq_false_iff.mpr c41
    subst c41
    rw [if_neg (show ¬ (false = true) by decide)] at H
    exact absurd H (by simp)
   replace c38 := Bool.eq_false_iff.mpr c38
   subst c38
   rw [if_neg (show ¬ (false = true) by decide)] at H
   exact absurd H (by simp)
  replace c35 := Bool.eq_false_iff.mpr c35
  subst c35
  rw [if_neg (show ¬ (false = true) by decide)] at H
  exact absurd H (by simp)
 replace c31 := Bool.eq_false_iff.mpr c31
 subst c31
 rw [if_neg (show ¬ (false = true) by decide)] at H
 exact absurd H (by simp)
end Go.Proofs.Ytfholjcelnkleaa.Print
end
section
namespace Go.Proofs.Ytfholjcelnkleaa.Print
open Go.RowKit Go.Proofs.YtfholjcelnkleaaV.PrintWords Go.Proofs.YtfholjcelnkleaaV.PrintLast Go.Proofs.YtfholjcelnkleaaV.PrintMore
set_option linter.unusedVariables false
/-- The pure statement of laws_FnExactJoinAll. -/
def laws_FnExactJoinAll.Pure : Prop := ∀ (l0 : List (S69)) (l1_0 : List (S163)) (a1_1 : Int) (a1_2 : Int) (a1_3 : ByteArray) (l2 : List ByteArray) (a3 : Int) (a4 : Int), (l0.length ≤ maxLen ∧ ∀ y ∈ l0, B69 y) → (l1_0.length ≤ maxLen ∧ ∀ y ∈ l1_0, B163 y) → (Lit.int .i64 a1_1).wf = true → (Lit.int .i64 a1_2).wf = true → a1_3.size ≤ maxLen → (l2.length ≤ maxLen ∧ ∀ y ∈ l2, y.size ≤ maxLen) → (Lit.int .i64 a3).wf = true → (Lit.int .i64 a4).wf = true → ∃ k, laws_FnExactJoinAll.f k l0 l1_0 a1_1 a1_2 a1_3 l2 a3 a4 = some true
end Go.Proofs.Ytfholjcelnkleaa.Print
end
section
namespace Go.Proofs.Ytfholjcelnkleaa.Print
open Go.RowKit Go.Proofs.YtfholjcelnkleaaV.PrintWords Go.Proofs.YtfholjcelnkleaaV.PrintLast Go.Proofs.YtfholjcelnkleaaV.PrintMore
set_option linter.unusedVariables false
set_option linter.unusedSimpArgs false
theorem wrap_id {x : Int} (h1 : -9223372036854775808 ≤ x) (h2 : x ≤ 9223372036854775807) : wrap64 x = x := by unfold wrap64; omega
theorem wrap_up (n : Nat) (h : n < 9223372036854775807) : wrap64 ((n : Int) + 1) = ((n + 1 : Nat) : Int) := by unfold wrap64; omega
theorem set_mid {α : Type} (pre suf : List α) (y v : α) : (pre ++ y :: suf).set pre.length v = pre ++ v :: suf := by simp
theorem lt_mid {α : Type} (pre suf : List α) (y : α) : (pre.length : Int) < ((pre ++ y :: suf).length : Int) := by simp only [List.length_append, List.length_cons]; omega
theorem not_lt_end {α : Type} (pre : List α) : ¬ ((pre.length : Int) < ((pre ++ []).length : Int)) := by simp
theorem nn (n : Nat) : (0 : Int) ≤ (n : Int) := by omega
theorem mid_assoc {α : Type} (pre suf : List α) (y : α) : pre ++ y :: suf = (pre ++ [y]) ++ suf := by simp
def cvLabel (x : S163) : S164 := ⟨x.f0, x.f1⟩
def WLabel (x : S163) : Prop := x.f0.size ≤ 1048576 ∧ x.f1.size ≤ 1048576
def WiLabel (x : S164) : Prop := x.f0.size ≤ 4000000 ∧ x.f1.size ≤ 4000000
theorem Wi_cvLabel {x : S163} (h : WLabel x) : WiLabel (cvLabel x) := ⟨Nat.le_trans h.1 (by decide), Nat.le_trans h.2 (by decide)⟩
theorem szLabel_ev (x : S163) (hB : B163 x) (n : Int) (h0 : 0 ≤ n) (h1 : n ≤ 1048576) : ∃ r, Ev (fun k => laws_szLabel.f x.f0 x.f1 n) r ∧ r ≤ n ∧ (0 ≤ r → WLabel x) := by
  have q1 : x.f0.size ≤ 9223372036854775807 := hB.1
  have e1 : wrap64 (n - (x.f0.size : Int)) = n - (x.f0.size : Int) := wrap_id (by omega) (by omega)
  by_cases c1 : n - (x.f0.size : Int) < 0
  · exact ⟨-1, ⟨0, fun k hk => by simp [laws_szLabel.f, e1, c1]⟩, by omega, by omega⟩
  have q2 : x.f1.size ≤ 9223372036854775807 := hB.2
  have e2 : wrap64 ((n - (x.f0.size : Int)) - (x.f1.size : Int)) = (n - (x.f0.size : Int)) - (x.f1.size : Int) := wrap_id (by omega) (by omega)
  by_cases c2 : (n - (x.f0.size : Int)) - (x.f1.size : Int) < 0
  · exact ⟨-1, ⟨0, fun k hk => by simp [laws_szLabel.f, e1, c1, e2, c2]⟩, by omega, by omega⟩
  exact ⟨((n - (x.f0.size : Int)) - (x.f1.size : Int)), ⟨0, fun k hk => by simp [laws_szLabel.f, e1, c1, e2, c2]⟩, by omega, fun _ => ⟨(by omega), (by omega)⟩⟩
theorem toLabel_ev (x : S163) (h : WLabel x) : Ev (fun k => laws_toLabel.f x.f0 x.f1) ((cvLabel x).f0, (cvLabel x).f1) := by
  exact ⟨0, fun k hk => by simp [laws_toLabel.f, cvLabel]⟩
theorem eqLabel_ev (x : S164) (h : WiLabel x) : Ev (fun k => laws_eqLabel.f x.f0 x.f1 x.f0 x.f1) true := by
  exact ⟨0, fun k hk => by simp [laws_eqLabel.f]⟩
theorem rdmidLabell (pre suf : List S163) (y : S163) : rd_T163 (pre ++ y :: suf) (pre.length : Int) = y := by unfold rd_T163; simp
theorem rdmidLabeli (pre suf : List S164) (y : S164) : rd_T164 (pre ++ y :: suf) (pre.length : Int) = y := by unfold rd_T164; simp
theorem szLabelS_l0 : ∀ (suf pre : List S163) (n : Int), 0 ≤ n → n ≤ 1048576 → (∀ y ∈ suf, B163 y) → (pre ++ suf).length < 4611686018427387904 → ∃ r, Ev (fun k => laws_szLabelS.l0 k (pre ++ suf) n (pre.length : Int)) r ∧ r ≤ n ∧ (0 ≤ r → ∀ y ∈ suf, WLabel y)
  | [], pre, n, h0, h1, hB, h => by
    refine ⟨n, Ev.step (f := fun _ => some n) (fun k => ?_) (Ev.now _), Int.le_refl _, fun _ y hy => by cases hy⟩
    simp only [laws_szLabelS.l0]
    rw [if_neg (not_lt_end pre)]
  | y :: suf, pre, n, h0, h1, hB, h => by
    have hp : pre.length < 4611686018427387904 := by simp at h; omega
    have hy := hB y List.mem_cons_self
    obtain ⟨r1, g1, l1, w1⟩ := szLabel_ev y hy n h0 h1
    by_cases c : r1 < 0
    · refine ⟨-1, Ev.step (f := fun k => (laws_szLabel.f y.f0 y.f1 n).bind fun t => if t < 0 then some (-1) else laws_szLabelS.l0 k (pre ++ y :: suf) t (wrap64 ((pre.length : Int) + 1))) (fun k => ?_) (Ev.bind g1 ?_), by omega, by omega⟩
      · simp only [laws_szLabelS.l0]
        rw [if_pos (lt_mid pre suf y), if_pos (nn _), rdmidLabell]
      · simp only [if_pos c]
        exact Ev.now _
    · obtain ⟨r, g, hl, hw⟩ := szLabelS_l0 suf (pre ++ [y]) r1 (by omega) (by omega) (fun z hz => hB z (List.mem_cons_of_mem _ hz)) (by simpa using h)
      refine ⟨r, Ev.step (f := fun k => (laws_szLabel.f y.f0 y.f1 n).bind fun t => if t < 0 then some (-1) else laws_szLabelS.l0 k ((pre ++ [y]) ++ suf) t ((pre ++ [y]).length : Int)) (fun k => ?_) (Ev.bind g1 ?_), by omega, fun hr z hz => ?_⟩
      · simp only [laws_szLabelS.l0]
        rw [if_pos (lt_mid pre suf y), if_pos (nn _), rdmidLabell, wrap_up _ (by omega)]
        simp
      · simp only [if_neg c]
        exact g
      · rcases List.mem_cons.1 hz with rfl | hz
        · exact w1 (by omega)
        · exact hw hr z hz
theorem szLabelS_ev (l : List S163) (hB : l.length ≤ maxLen ∧ ∀ y ∈ l, B163 y) (n : Int) (h0 : 0 ≤ n) (h1 : n ≤ 1048576) : ∃ r, Ev (fun k => laws_szLabelS.f k l n) r ∧ r ≤ n ∧ (0 ≤ r → l.length ≤ 1048576 ∧ ∀ y ∈ l, WLabel y) := by
  have q : l.length ≤ 9223372036854775807 := hB.1
  have e : wrap64 (n - (l.length : Int)) = n - (l.length : Int) := wrap_id (by omega) (by omega)
  by_cases c : n - (l.length : Int) < 0
  · exact ⟨-1, ⟨0, fun k _ => by simp [laws_szLabelS.f, e, c]⟩, by omega, by omega⟩
  · obtain ⟨r, g, hl, hw⟩ := szLabelS_l0 l [] (n - (l.length : Int)) (by omega) (by omega) hB.2 (by simp; omega)
    refine ⟨r, Ev.congr (fun k => ?_) g, by omega, fun hr => ⟨by omega, hw hr⟩⟩
    unfold laws_szLabelS.f
    rw [e, if_neg c]
    rfl
theorem toLabelS_l0 : ∀ (suf pre : List S163), (pre ++ suf).length < 4611686018427387904 → (∀ y ∈ suf, WLabel y) → Ev (fun k => laws_toLabelS.l0 k (pre ++ suf) ((pre.map cvLabel) ++ List.replicate suf.length z164) (pre.length : Int)) ((pre ++ suf).map cvLabel)
  | [], pre, h, hW => by
    refine Ev.step (f := fun _ => some ((pre ++ []).map cvLabel)) (fun k => ?_) (Ev.now _)
    simp only [laws_toLabelS.l0]
    rw [if_neg (not_lt_end pre)]
    simp
  | y :: suf, pre, h, hW => by
    have hp : pre.length < 4611686018427387904 := by simp at h; omega
    have ih := toLabelS_l0 suf (pre ++ [y]) (by simpa using h) (fun z hz => hW z (List.mem_cons_of_mem _ hz))
    have g := toLabel_ev y (hW y List.mem_cons_self)
    refine Ev.step (f := fun k => (laws_toLabel.f y.f0 y.f1).bind fun t => laws_toLabelS.l0 k ((pre ++ [y]) ++ suf) ((pre.map cvLabel) ++ (⟨t.1, t.2⟩ : S164) :: List.replicate suf.length z164) ((pre ++ [y]).length : Int)) (fun k => ?_) (Ev.bind g ?_)
    · simp only [laws_toLabelS.l0]
      rw [if_pos (lt_mid pre suf y), if_pos (nn _), rdmidLabell, wrap_up _ (by omega)]
      congr 1
      funext t
      rw [if_pos (by simp; omega)]
      congr 1
      · simp
      · simp [List.replicate_succ]
      · simp
    · rw [mid_assoc pre suf y]
      have e : (pre.map cvLabel) ++ (cvLabel y) :: List.replicate suf.length z164 = ((pre ++ [y]).map cvLabel) ++ List.replicate suf.length z164 := by simp
      rw [← e] at ih
      exact ih
theorem toLabelS_ev (l : List S163) (h : l.length ≤ 1048576 ∧ ∀ y ∈ l, WLabel y) : Ev (fun k => laws_toLabelS.f k l) (l.map cvLabel) := by
  have h1 := h.1
  refine Ev.congr (fun k => ?_) (toLabelS_l0 l [] (by simp; omega) h.2)
  unfold laws_toLabelS.f
  rw [if_pos (nn l.length), Int.toNat_natCast, if_pos (by omega)]
  rfl
theorem eqLabelS_l0 : ∀ (suf pre : List S164), (pre ++ suf).length < 4611686018427387904 → (∀ y ∈ suf, WiLabel y) → Ev (fun k => laws_eqLabelS.l0 k (pre ++ suf) (pre ++ suf) (pre.length : Int)) true
  | [], pre, h, hW => by
    refine Ev.step (f := fun _ => some true) (fun k => ?_) (Ev.now _)
    simp only [laws_eqLabelS.l0]
    rw [if_neg (not_lt_end pre)]
  | y :: suf, pre, h, hW => by
    have hp : pre.length < 4611686018427387904 := by simp at h; omega
    have ih := eqLabelS_l0 suf (pre ++ [y]) (by simpa using h) (fun z hz => hW z (List.mem_cons_of_mem _ hz))
    have g := eqLabel_ev y (hW y List.mem_cons_self)
    refine Ev.step (f := fun k => (laws_eqLabel.f y.f0 y.f1 y.f0 y.f1).bind fun t => if t = true then laws_eqLabelS.l0 k ((pre ++ [y]) ++ suf) ((pre ++ [y]) ++ suf) ((pre ++ [y]).length : Int) else none) (fun k => ?_) (Ev.bind g ?_)
    · simp only [laws_eqLabelS.l0]
      rw [if_pos (lt_mid pre suf y), if_pos (nn _), if_pos (lt_mid pre suf y), rdmidLabeli, wrap_up _ (by omega)]
      simp
    · simp only [if_true]
      exact ih
theorem eqLabelS_ev (l : List S164) (h : l.length ≤ 4000000 ∧ ∀ y ∈ l, WiLabel y) : Ev (fun k => laws_eqLabelS.f k l l) true := by
  have h1 := h.1
  refine Ev.congr (fun k => ?_) (eqLabelS_l0 l [] (by simp; omega) h.2)
  unfold laws_eqLabelS.f
  rw [if_pos rfl]
  rfl
def cvAlarm (x : S34) : S44 := ⟨(x.f0.map cvLabel), x.f1, x.f2, x.f3⟩
def WAlarm (x : S34) : Prop := (x.f0.length ≤ 1048576 ∧ ∀ y ∈ x.f0, WLabel y) ∧ True ∧ True ∧ x.f3.size ≤ 1048576
def WiAlarm (x : S44) : Prop := (x.f0.length ≤ 4000000 ∧ ∀ y ∈ x.f0, WiLabel y) ∧ True ∧ True ∧ x.f3.size ≤ 4000000
theorem Wi_cvAlarm {x : S34} (h : WAlarm x) : WiAlarm (cvAlarm x) := ⟨⟨by show (List.map cvLabel x.f0).length ≤ 4000000; rw [List.length_map]; exact Nat.le_trans h.1.1 (by decide), fun y hy => by obtain ⟨z, hz, rfl⟩ := List.mem_map.1 hy; exact Wi_cvLabel (h.1.2 z hz)⟩, trivial, trivial, Nat.le_trans h.2.2.2 (by decide)⟩
theorem szAlarm_ev (x : S34) (hB : B34 x) (n : Int) (h0 : 0 ≤ n) (h1 : n ≤ 1048576) : ∃ r, Ev (fun k => laws_szAlarm.f k x.f0 x.f1 x.f2 x.f3 n) r ∧ r ≤ n ∧ (0 ≤ r → WAlarm x) := by
  obtain ⟨r1, ⟨K1, g1⟩, l1, w1⟩ := szLabelS_ev x.f0 hB.1 n (by omega) (by omega)
  by_cases c1 : r1 < 0
  · exact ⟨-1, ⟨K1, fun k hk => by simp [laws_szAlarm.f, g1 k (by omega), c1]⟩, by omega, by omega⟩
  have q2 : x.f3.size ≤ 9223372036854775807 := hB.2.2.2
  have e2 : wrap64 (r1 - (x.f3.size : Int)) = r1 - (x.f3.size : Int) := wrap_id (by omega) (by omega)
  by_cases c2 : r1 - (x.f3.size : Int) < 0
  · exact ⟨-1, ⟨K1, fun k hk => by simp [laws_szAlarm.f, g1 k (by omega), c1, e2, c2]⟩, by omega, by omega⟩
  exact ⟨(r1 - (x.f3.size : Int)), ⟨K1, fun k hk => by simp [laws_szAlarm.f, g1 k (by omega), c1, e2, c2]⟩, by omega, fun _ => ⟨(w1 (by omega)), trivial, trivial, (by omega)⟩⟩
theorem toAlarm_ev (x : S34) (h : WAlarm x) : Ev (fun k => laws_toAlarm.f k x.f0 x.f1 x.f2 x.f3) ((cvAlarm x).f0, (cvAlarm x).f1, (cvAlarm x).f2, (cvAlarm x).f3) := by
  obtain ⟨K0, g0⟩ := toLabelS_ev x.f0 h.1
  exact ⟨K0, fun k hk => by simp [laws_toAlarm.f, cvAlarm, g0 k (by omega)]⟩
theorem eqAlarm_ev (x : S44) (h : WiAlarm x) : Ev (fun k => laws_eqAlarm.f k x.f0 x.f1 x.f2 x.f3 x.f0 x.f1 x.f2 x.f3) true := by
  obtain ⟨K0, g0⟩ := eqLabelS_ev x.f0 h.1
  exact ⟨K0, fun k hk => by simp [laws_eqAlarm.f, g0 k (by omega)]⟩
theorem markText_l0 : ∀ (n : Nat) (x : Int) (acc : ByteArray), 0 ≤ x → x.toNat = n → acc.size + n < 4611686018427387904 → ∃ s, Ev (fun k => laws_markText.l0 k x acc) s := by
  intro n
  induction n using Nat.strongRecOn with
  | _ n ih =>
    intro x acc h0 hx hs
    by_cases c : x > 0
    · have e : wrap64 (Int.tdiv x 10) = x / 10 := by rw [Int.tdiv_eq_ediv_of_nonneg h0]; exact wrap_id (by omega) (by omega)
      have hz : (strOfNums [(wrap64 (48 + (Int.tmod x 10))) % 256]).size = 1 := by rw [strOfNums_size]; rfl
      have hsz : ((strOfNums [(wrap64 (48 + (Int.tmod x 10))) % 256]) ++ acc).size = 1 + acc.size := by rw [ByteArray.size_append, hz]
      obtain ⟨s, g⟩ := ih (x / 10).toNat (by omega) (x / 10) ((strOfNums [(wrap64 (48 + (Int.tmod x 10))) % 256]) ++ acc) (by omega) rfl (by rw [hsz]; omega)
      refine ⟨s, Ev.step (fun k => ?_) g⟩
      simp only [laws_markText.l0]
      rw [if_pos c, Option.bind_some, if_pos (by rw [hz]; omega), e]
    · refine ⟨(⟨#[109]⟩ : ByteArray) ++ acc, Ev.step (f := fun _ => some ((⟨#[109]⟩ : ByteArray) ++ acc)) (fun k => ?_) (Ev.now _)⟩
      simp only [laws_markText.l0]
      rw [if_neg c, if_pos (by omega)]
theorem markText_some (x : Int) (h0 : 0 ≤ x) (h1 : x < 4611686018427387904) : ∃ s, Ev (fun k => laws_markText.f k x) s := by
  by_cases c : x ≤ 0
  · exact ⟨⟨#[109, 48]⟩, 0, fun k _ => by show laws_markText.f k x = _; unfold laws_markText.f; exact if_pos c⟩
  · obtain ⟨s, g⟩ := markText_l0 x.toNat x ⟨#[]⟩ h0 rfl (by have : (⟨#[]⟩ : ByteArray).size = 0 := rfl; omega)
    exact ⟨s, Ev.congr (fun k => by show laws_markText.f k x = laws_markText.l0 k x ⟨#[]⟩; unfold laws_markText.f; exact if_neg c) g⟩
open Classical in
noncomputable def mkText (x : Int) : ByteArray := if h : ∃ s, Ev (fun k => laws_markText.f k x) s then h.choose else ⟨#[]⟩
theorem markText_ev (x : Int) (h0 : 0 ≤ x) (h1 : x < 4611686018427387904) : Ev (fun k => laws_markText.f k x) (mkText x) := by
  have h := markText_some x h0 h1
  unfold mkText
  rw [dif_pos h]
  exact h.choose_spec
def cnLabels : List S164 → Nat
  | [] => 0
  | _ :: ys => 2 + cnLabels ys
noncomputable def mkLabels : Int → List S164 → List S164
  | _, [] => []
  | k0, _ :: ys => ⟨mkText k0, mkText (k0 + 1)⟩ :: mkLabels (k0 + 2) ys
theorem cnLabels_le : ∀ (l : List S164), l.length ≤ cnLabels l
  | [] => Nat.le_refl _
  | y :: ys => by have := cnLabels_le ys; simp only [cnLabels, List.length_cons]; omega
theorem rdmmLabel (pre suf : List S164) (y : S164) : rd_T164 (pre ++ y :: suf) (pre.length : Int) = y := by unfold rd_T164; simp
theorem markLabelS_l0 : ∀ (suf pre : List S164) (k0 : Int), 0 ≤ k0 → k0 + (cnLabels suf : Int) < 4611686018427387904 → (pre ++ suf).length < 4611686018427387904 → Ev (fun k => laws_markLabelS.l0 k (pre ++ suf) k0 (pre.length : Int)) (k0 + (cnLabels suf : Int), pre ++ mkLabels k0 suf)
  | [], pre, k0, h0, h1, h => by
    refine Ev.step (f := fun _ => some (k0, pre ++ [])) (fun k => ?_) (by rw [show (k0 + (cnLabels [] : Int), pre ++ mkLabels k0 []) = (k0, pre ++ []) from by simp [cnLabels, mkLabels]]; exact Ev.now _)
    simp only [laws_markLabelS.l0]
    rw [if_neg (not_lt_end pre)]
  | y :: suf, pre, k0, h0, h1, h => by
    have hp : pre.length < 4611686018427387904 := by simp at h; omega
    have hc : cnLabels (y :: suf) = 2 + cnLabels suf := rfl
    rw [hc] at h1 ⊢
    obtain ⟨K, g⟩ := markLabelS_l0 suf (pre ++ [(⟨mkText k0, mkText (k0 + 1)⟩ : S164)]) (k0 + 2) (by omega) (by omega) (by simpa using h)
    obtain ⟨K0, g0⟩ := markText_ev k0 (by omega) (by omega)
    obtain ⟨K1, g1⟩ := markText_ev (k0 + 1) (by omega) (by omega)
    refine ⟨K + K0 + K1 + 1, fun k hk => ?_⟩
    obtain ⟨k, rfl⟩ : ∃ m, k = m + 1 := ⟨k - 1, by omega⟩
    have G := g k (by omega)
    have G0 := g0 k (by omega)
    have G1 := g1 k (by omega)
    dsimp only at G G0 G1
    have w0 : wrap64 (k0 + 1) = (k0 + 1) := (wrap_id (by omega) (by omega)).trans (by omega)
    have w1 : wrap64 ((k0 + 1) + 1) = (k0 + 2) := (wrap_id (by omega) (by omega)).trans (by omega)
    simp only [laws_markLabelS.l0]
    rw [if_pos (lt_mid pre suf y)]
    simp only [nn, if_true, rdmmLabel, Option.bind_some, Int.toNat_natCast, set_mid, wrap_up pre.length (by omega), G0, G1, w0, w1]
    have eL : pre ++ (⟨mkText k0, mkText (k0 + 1)⟩ : S164) :: suf = (pre ++ [(⟨mkText k0, mkText (k0 + 1)⟩ : S164)]) ++ suf := by simp
    have eN : ((pre.length + 1 : Nat) : Int) = ((pre ++ [(⟨mkText k0, mkText (k0 + 1)⟩ : S164)]).length : Int) := by simp
    rw [eL, eN, G]
    refine congrArg some (Prod.ext ?_ ?_)
    · simp only []; push_cast; omega
    · simp [mkLabels]
theorem markLabelS_ev (l : List S164) (k0 : Int) (h0 : 0 ≤ k0) (h1 : k0 + (cnLabels l : Int) < 4611686018427387904) : Ev (fun k => laws_markLabelS.f k l k0) (k0 + (cnLabels l : Int), mkLabels k0 l) := by
  have := cnLabels_le l
  exact Ev.congr (fun k => by unfold laws_markLabelS.f; rfl) (markLabelS_l0 l [] k0 h0 h1 (by simp; omega))
theorem heldLabelS_l0 : ∀ (suf pre : List S164) (k0 : Int), 0 ≤ k0 → k0 + (cnLabels suf : Int) < 4611686018427387904 → (pre ++ suf).length < 4611686018427387904 → Ev (fun k => laws_heldLabelS.l0 k (pre ++ mkLabels k0 suf) k0 (pre.length : Int)) (k0 + (cnLabels suf : Int))
  | [], pre, k0, h0, h1, h => by
    refine Ev.step (f := fun _ => some k0) (fun k => ?_) (by simpa [cnLabels] using Ev.now k0)
    rw [show mkLabels k0 [] = [] from rfl]
    simp only [laws_heldLabelS.l0]
    rw [if_neg (not_lt_end pre)]
  | y :: suf, pre, k0, h0, h1, h => by
    have hp : pre.length < 4611686018427387904 := by simp at h; omega
    have hc : cnLabels (y :: suf) = 2 + cnLabels suf := rfl
    rw [hc] at h1 ⊢
    obtain ⟨K, g⟩ := heldLabelS_l0 suf (pre ++ [(⟨mkText k0, mkText (k0 + 1)⟩ : S164)]) (k0 + 2) (by omega) (by omega) (by simpa using h)
    obtain ⟨K0, g0⟩ := markText_ev k0 (by omega) (by omega)
    obtain ⟨K1, g1⟩ := markText_ev (k0 + 1) (by omega) (by omega)
    refine ⟨K + K0 + K1 + 1, fun k hk => ?_⟩
    obtain ⟨k, rfl⟩ : ∃ m, k = m + 1 := ⟨k - 1, by omega⟩
    have G := g k (by omega)
    have G0 := g0 k (by omega)
    have G1 := g1 k (by omega)
    dsimp only at G G0 G1
    have w0 : wrap64 (k0 + 1) = (k0 + 1) := (wrap_id (by omega) (by omega)).trans (by omega)
    have w1 : wrap64 ((k0 + 1) + 1) = (k0 + 2) := (wrap_id (by omega) (by omega)).trans (by omega)
    rw [show mkLabels k0 (y :: suf) = ⟨mkText k0, mkText (k0 + 1)⟩ :: mkLabels (k0 + 2) suf from rfl]
    simp only [laws_heldLabelS.l0]
    rw [if_pos (lt_mid pre _ _)]
    simp only [nn, if_true, if_false, rdmmLabel, Option.bind_some, wrap_up pre.length (by omega), G0, G1, w0, w1, bne_self_eq_false, Bool.false_eq_true]
    have eL : pre ++ (⟨mkText k0, mkText (k0 + 1)⟩ : S164) :: mkLabels (k0 + 2) suf = (pre ++ [(⟨mkText k0, mkText (k0 + 1)⟩ : S164)]) ++ mkLabels (k0 + 2) suf := by simp
    have eN : ((pre.length + 1 : Nat) : Int) = ((pre ++ [(⟨mkText k0, mkText (k0 + 1)⟩ : S164)]).length : Int) := by simp
    rw [eL, eN, G]
    refine congrArg some ?_
    push_cast; omega
theorem heldLabelS_ev (l : List S164) (k0 : Int) (h0 : 0 ≤ k0) (h1 : k0 + (cnLabels l : Int) < 4611686018427387904) : Ev (fun k => laws_heldLabelS.f k (mkLabels k0 l) k0) (k0 + (cnLabels l : Int)) := by
  have := cnLabels_le l
  exact Ev.congr (fun k => by unfold laws_heldLabelS.f; rfl) (heldLabelS_l0 l [] k0 h0 h1 (by simp; omega))
theorem rdmidAlarml (pre suf : List S34) (y : S34) : rd_T34 (pre ++ y :: suf) (pre.length : Int) = y := by unfold rd_T34; simp
theorem rdmidAlarmi (pre suf : List S44) (y : S44) : rd_T44 (pre ++ y :: suf) (pre.length : Int) = y := by unfold rd_T44; simp
theorem szAlarmS_l0 : ∀ (suf pre : List S34) (n : Int), 0 ≤ n → n ≤ 1048576 → (∀ y ∈ suf, B34 y) → (pre ++ suf).length < 4611686018427387904 → ∃ r, Ev (fun k => laws_szAlarmS.l0 k (pre ++ suf) n (pre.length : Int)) r ∧ r ≤ n ∧ (0 ≤ r → ∀ y ∈ suf, WAlarm y)
  | [], pre, n, h0, h1, hB, h => by
    refine ⟨n, Ev.step (f := fun _ => some n) (fun k => ?_) (Ev.now _), Int.le_refl _, fun _ y hy => by cases hy⟩
    simp only [laws_szAlarmS.l0]
    rw [if_neg (not_lt_end pre)]
  | y :: suf, pre, n, h0, h1, hB, h => by
    have hp : pre.length < 4611686018427387904 := by simp at h; omega
    have hy := hB y List.mem_cons_self
    obtain ⟨r1, g1, l1, w1⟩ := szAlarm_ev y hy n h0 h1
    by_cases c : r1 < 0
    · refine ⟨-1, Ev.step (f := fun k => (laws_szAlarm.f k y.f0 y.f1 y.f2 y.f3 n).bind fun t => if t < 0 then some (-1) else laws_szAlarmS.l0 k (pre ++ y :: suf) t (wrap64 ((pre.length : Int) + 1))) (fun k => ?_) (Ev.bind g1 ?_), by omega, by omega⟩
      · simp only [laws_szAlarmS.l0]
        rw [if_pos (lt_mid pre suf y), if_pos (nn _), rdmidAlarml]
      · simp only [if_pos c]
        exact Ev.now _
    · obtain ⟨r, g, hl, hw⟩ := szAlarmS_l0 suf (pre ++ [y]) r1 (by omega) (by omega) (fun z hz => hB z (List.mem_cons_of_mem _ hz)) (by simpa using h)
      refine ⟨r, Ev.step (f := fun k => (laws_szAlarm.f k y.f0 y.f1 y.f2 y.f3 n).bind fun t => if t < 0 then some (-1) else laws_szAlarmS.l0 k ((pre ++ [y]) ++ suf) t ((pre ++ [y]).length : Int)) (fun k => ?_) (Ev.bind g1 ?_), by omega, fun hr z hz => ?_⟩
      · simp only [laws_szAlarmS.l0]
        rw [if_pos (lt_mid pre suf y), if_pos (nn _), rdmidAlarml, wrap_up _ (by omega)]
        simp
      · simp only [if_neg c]
        exact g
      · rcases List.mem_cons.1 hz with rfl | hz
        · exact w1 (by omega)
        · exact hw hr z hz
theorem szAlarmS_ev (l : List S34) (hB : l.length ≤ maxLen ∧ ∀ y ∈ l, B34 y) (n : Int) (h0 : 0 ≤ n) (h1 : n ≤ 1048576) : ∃ r, Ev (fun k => laws_szAlarmS.f k l n) r ∧ r ≤ n ∧ (0 ≤ r → l.length ≤ 1048576 ∧ ∀ y ∈ l, WAlarm y) := by
  have q : l.length ≤ 9223372036854775807 := hB.1
  have e : wrap64 (n - (l.length : Int)) = n - (l.length : Int) := wrap_id (by omega) (by omega)
  by_cases c : n - (l.length : Int) < 0
  · exact ⟨-1, ⟨0, fun k _ => by simp [laws_szAlarmS.f, e, c]⟩, by omega, by omega⟩
  · obtain ⟨r, g, hl, hw⟩ := szAlarmS_l0 l [] (n - (l.length : Int)) (by omega) (by omega) hB.2 (by simp; omega)
    refine ⟨r, Ev.congr (fun k => ?_) g, by omega, fun hr => ⟨by omega, hw hr⟩⟩
    unfold laws_szAlarmS.f
    rw [e, if_neg c]
    rfl
theorem toAlarmS_l0 : ∀ (suf pre : List S34), (pre ++ suf).length < 4611686018427387904 → (∀ y ∈ suf, WAlarm y) → Ev (fun k => laws_toAlarmS.l0 k (pre ++ suf) ((pre.map cvAlarm) ++ List.replicate suf.length z44) (pre.length : Int)) ((pre ++ suf).map cvAlarm)
  | [], pre, h, hW => by
    refine Ev.step (f := fun _ => some ((pre ++ []).map cvAlarm)) (fun k => ?_) (Ev.now _)
    simp only [laws_toAlarmS.l0]
    rw [if_neg (not_lt_end pre)]
    simp
  | y :: suf, pre, h, hW => by
    have hp : pre.length < 4611686018427387904 := by simp at h; omega
    have ih := toAlarmS_l0 suf (pre ++ [y]) (by simpa using h) (fun z hz => hW z (List.mem_cons_of_mem _ hz))
    have g := toAlarm_ev y (hW y List.mem_cons_self)
    refine Ev.step (f := fun k => (laws_toAlarm.f k y.f0 y.f1 y.f2 y.f3).bind fun t => laws_toAlarmS.l0 k ((pre ++ [y]) ++ suf) ((pre.map cvAlarm) ++ (⟨t.1, t.2.1, t.2.2.1, t.2.2.2⟩ : S44) :: List.replicate suf.length z44) ((pre ++ [y]).length : Int)) (fun k => ?_) (Ev.bind g ?_)
    · simp only [laws_toAlarmS.l0]
      rw [if_pos (lt_mid pre suf y), if_pos (nn _), rdmidAlarml, wrap_up _ (by omega)]
      congr 1
      funext t
      rw [if_pos (by simp; omega)]
      congr 1
      · simp
      · simp [List.replicate_succ]
      · simp
    · rw [mid_assoc pre suf y]
      have e : (pre.map cvAlarm) ++ (cvAlarm y) :: List.replicate suf.length z44 = ((pre ++ [y]).map cvAlarm) ++ List.replicate suf.length z44 := by simp
      rw [← e] at ih
      exact ih
theorem toAlarmS_ev (l : List S34) (h : l.length ≤ 1048576 ∧ ∀ y ∈ l, WAlarm y) : Ev (fun k => laws_toAlarmS.f k l) (l.map cvAlarm) := by
  have h1 := h.1
  refine Ev.congr (fun k => ?_) (toAlarmS_l0 l [] (by simp; omega) h.2)
  unfold laws_toAlarmS.f
  rw [if_pos (nn l.length), Int.toNat_natCast, if_pos (by omega)]
  rfl
theorem eqAlarmS_l0 : ∀ (suf pre : List S44), (pre ++ suf).length < 4611686018427387904 → (∀ y ∈ suf, WiAlarm y) → Ev (fun k => laws_eqAlarmS.l0 k (pre ++ suf) (pre ++ suf) (pre.length : Int)) true
  | [], pre, h, hW => by
    refine Ev.step (f := fun _ => some true) (fun k => ?_) (Ev.now _)
    simp only [laws_eqAlarmS.l0]
    rw [if_neg (not_lt_end pre)]
  | y :: suf, pre, h, hW => by
    have hp : pre.length < 4611686018427387904 := by simp at h; omega
    have ih := eqAlarmS_l0 suf (pre ++ [y]) (by simpa using h) (fun z hz => hW z (List.mem_cons_of_mem _ hz))
    have g := eqAlarm_ev y (hW y List.mem_cons_self)
    refine Ev.step (f := fun k => (laws_eqAlarm.f k y.f0 y.f1 y.f2 y.f3 y.f0 y.f1 y.f2 y.f3).bind fun t => if t = true then laws_eqAlarmS.l0 k ((pre ++ [y]) ++ suf) ((pre ++ [y]) ++ suf) ((pre ++ [y]).length : Int) else none) (fun k => ?_) (Ev.bind g ?_)
    · simp only [laws_eqAlarmS.l0]
      rw [if_pos (lt_mid pre suf y), if_pos (nn _), if_pos (lt_mid pre suf y), rdmidAlarmi, wrap_up _ (by omega)]
      simp
    · simp only [if_true]
      exact ih
theorem eqAlarmS_ev (l : List S44) (h : l.length ≤ 4000000 ∧ ∀ y ∈ l, WiAlarm y) : Ev (fun k => laws_eqAlarmS.f k l l) true := by
  have h1 := h.1
  refine Ev.congr (fun k => ?_) (eqAlarmS_l0 l [] (by simp; omega) h.2)
  unfold laws_eqAlarmS.f
  rw [if_pos rfl]
  rfl
def cvGroup (x : S69) : S75 := ⟨x.f0, (x.f1.map cvLabel), x.f2, x.f3, (x.f4.map cvAlarm)⟩
def WGroup (x : S69) : Prop := True ∧ (x.f1.length ≤ 1048576 ∧ ∀ y ∈ x.f1, WLabel y) ∧ True ∧ True ∧ (x.f4.length ≤ 1048576 ∧ ∀ y ∈ x.f4, WAlarm y)
def WiGroup (x : S75) : Prop := True ∧ (x.f1.length ≤ 4000000 ∧ ∀ y ∈ x.f1, WiLabel y) ∧ True ∧ True ∧ (x.f4.length ≤ 4000000 ∧ ∀ y ∈ x.f4, WiAlarm y)
theorem Wi_cvGroup {x : S69} (h : WGroup x) : WiGroup (cvGroup x) := ⟨trivial, ⟨by show (List.map cvLabel x.f1).length ≤ 4000000; rw [List.length_map]; exact Nat.le_trans h.2.1.1 (by decide), fun y hy => by obtain ⟨z, hz, rfl⟩ := List.mem_map.1 hy; exact Wi_cvLabel (h.2.1.2 z hz)⟩, trivial, trivial, ⟨by show (List.map cvAlarm x.f4).length ≤ 4000000; rw [List.length_map]; exact Nat.le_trans h.2.2.2.2.1 (by decide), fun y hy => by obtain ⟨z, hz, rfl⟩ := List.mem_map.1 hy; exact Wi_cvAlarm (h.2.2.2.2.2 z hz)⟩⟩
theorem szGroup_ev (x : S69) (hB : B69 x) (n : Int) (h0 : 0 ≤ n) (h1 : n ≤ 1048576) : ∃ r, Ev (fun k => laws_szGroup.f k x.f0 x.f1 x.f2 x.f3 x.f4 n) r ∧ r ≤ n ∧ (0 ≤ r → WGroup x) := by
  obtain ⟨r1, ⟨K1, g1⟩, l1, w1⟩ := szLabelS_ev x.f1 hB.2.1 n (by omega) (by omega)
  by_cases c1 : r1 < 0
  · exact ⟨-1, ⟨K1, fun k hk => by simp [laws_szGroup.f, g1 k (by omega), c1]⟩, by omega, by omega⟩
  obtain ⟨r2, ⟨K2, g2⟩, l2, w2⟩ := szAlarmS_ev x.f4 hB.2.2.2.2 r1 (by omega) (by omega)
  by_cases c2 : r2 < 0
  · exact ⟨-1, ⟨K1 + K2, fun k hk => by simp [laws_szGroup.f, g1 k (by omega), c1, g2 k (by omega), c2]⟩, by omega, by omega⟩
  exact ⟨r2, ⟨K1 + K2, fun k hk => by simp [laws_szGroup.f, g1 k (by omega), c1, g2 k (by omega), c2]⟩, by omega, fun _ => ⟨trivial, (w1 (by omega)), trivial, trivial, (w2 (by omega))⟩⟩
theorem toGroup_ev (x : S69) (h : WGroup x) : Ev (fun k => laws_toGroup.f k x.f0 x.f1 x.f2 x.f3 x.f4) ((cvGroup x).f0, (cvGroup x).f1, (cvGroup x).f2, (cvGroup x).f3, (cvGroup x).f4) := by
  obtain ⟨K1, g1⟩ := toLabelS_ev x.f1 h.2.1
  obtain ⟨K4, g4⟩ := toAlarmS_ev x.f4 h.2.2.2.2
  exact ⟨K1 + K4, fun k hk => by simp [laws_toGroup.f, cvGroup, g1 k (by omega), g4 k (by omega)]⟩
theorem eqGroup_ev (x : S75) (h : WiGroup x) : Ev (fun k => laws_eqGroup.f k x.f0 x.f1 x.f2 x.f3 x.f4 x.f0 x.f1 x.f2 x.f3 x.f4) true := by
  obtain ⟨K1, g1⟩ := eqLabelS_ev x.f1 h.2.1
  obtain ⟨K4, g4⟩ := eqAlarmS_ev x.f4 h.2.2.2.2
  exact ⟨K1 + K4, fun k hk => by simp [laws_eqGroup.f, g1 k (by omega), g4 k (by omega)]⟩
theorem rdmidGroupl (pre suf : List S69) (y : S69) : rd_T69 (pre ++ y :: suf) (pre.length : Int) = y := by unfold rd_T69; simp
theorem rdmidGroupi (pre suf : List S75) (y : S75) : rd_T75 (pre ++ y :: suf) (pre.length : Int) = y := by unfold rd_T75; simp
theorem szGroupS_l0 : ∀ (suf pre : List S69) (n : Int), 0 ≤ n → n ≤ 1048576 → (∀ y ∈ suf, B69 y) → (pre ++ suf).length < 4611686018427387904 → ∃ r, Ev (fun k => laws_szGroupS.l0 k (pre ++ suf) n (pre.length : Int)) r ∧ r ≤ n ∧ (0 ≤ r → ∀ y ∈ suf, WGroup y)
  | [], pre, n, h0, h1, hB, h => by
    refine ⟨n, Ev.step (f := fun _ => some n) (fun k => ?_) (Ev.now _), Int.le_refl _, fun _ y hy => by cases hy⟩
    simp only [laws_szGroupS.l0]
    rw [if_neg (not_lt_end pre)]
  | y :: suf, pre, n, h0, h1, hB, h => by
    have hp : pre.length < 4611686018427387904 := by simp at h; omega
    have hy := hB y List.mem_cons_self
    obtain ⟨r1, g1, l1, w1⟩ := szGroup_ev y hy n h0 h1
    by_cases c : r1 < 0
    · refine ⟨-1, Ev.step (f := fun k => (laws_szGroup.f k y.f0 y.f1 y.f2 y.f3 y.f4 n).bind fun t => if t < 0 then some (-1) else laws_szGroupS.l0 k (pre ++ y :: suf) t (wrap64 ((pre.length : Int) + 1))) (fun k => ?_) (Ev.bind g1 ?_), by omega, by omega⟩
      · simp only [laws_szGroupS.l0]
        rw [if_pos (lt_mid pre suf y), if_pos (nn _), rdmidGroupl]
      · simp only [if_pos c]
        exact Ev.now _
    · obtain ⟨r, g, hl, hw⟩ := szGroupS_l0 suf (pre ++ [y]) r1 (by omega) (by omega) (fun z hz => hB z (List.mem_cons_of_mem _ hz)) (by simpa using h)
      refine ⟨r, Ev.step (f := fun k => (laws_szGroup.f k y.f0 y.f1 y.f2 y.f3 y.f4 n).bind fun t => if t < 0 then some (-1) else laws_szGroupS.l0 k ((pre ++ [y]) ++ suf) t ((pre ++ [y]).length : Int)) (fun k => ?_) (Ev.bind g1 ?_), by omega, fun hr z hz => ?_⟩
      · simp only [laws_szGroupS.l0]
        rw [if_pos (lt_mid pre suf y), if_pos (nn _), rdmidGroupl, wrap_up _ (by omega)]
        simp
      · simp only [if_neg c]
        exact g
      · rcases List.mem_cons.1 hz with rfl | hz
        · exact w1 (by omega)
        · exact hw hr z hz
theorem szGroupS_ev (l : List S69) (hB : l.length ≤ maxLen ∧ ∀ y ∈ l, B69 y) (n : Int) (h0 : 0 ≤ n) (h1 : n ≤ 1048576) : ∃ r, Ev (fun k => laws_szGroupS.f k l n) r ∧ r ≤ n ∧ (0 ≤ r → l.length ≤ 1048576 ∧ ∀ y ∈ l, WGroup y) := by
  have q : l.length ≤ 9223372036854775807 := hB.1
  have e : wrap64 (n - (l.length : Int)) = n - (l.length : Int) := wrap_id (by omega) (by omega)
  by_cases c : n - (l.length : Int) < 0
  · exact ⟨-1, ⟨0, fun k _ => by simp [laws_szGroupS.f, e, c]⟩, by omega, by omega⟩
  · obtain ⟨r, g, hl, hw⟩ := szGroupS_l0 l [] (n - (l.length : Int)) (by omega) (by omega) hB.2 (by simp; omega)
    refine ⟨r, Ev.congr (fun k => ?_) g, by omega, fun hr => ⟨by omega, hw hr⟩⟩
    unfold laws_szGroupS.f
    rw [e, if_neg c]
    rfl
theorem toGroupS_l0 : ∀ (suf pre : List S69), (pre ++ suf).length < 4611686018427387904 → (∀ y ∈ suf, WGroup y) → Ev (fun k => laws_toGroupS.l0 k (pre ++ suf) ((pre.map cvGroup) ++ List.replicate suf.length z75) (pre.length : Int)) ((pre ++ suf).map cvGroup)
  | [], pre, h, hW => by
    refine Ev.step (f := fun _ => some ((pre ++ []).map cvGroup)) (fun k => ?_) (Ev.now _)
    simp only [laws_toGroupS.l0]
    rw [if_neg (not_lt_end pre)]
    simp
  | y :: suf, pre, h, hW => by
    have hp : pre.length < 4611686018427387904 := by simp at h; omega
    have ih := toGroupS_l0 suf (pre ++ [y]) (by simpa using h) (fun z hz => hW z (List.mem_cons_of_mem _ hz))
    have g := toGroup_ev y (hW y List.mem_cons_self)
    refine Ev.step (f := fun k => (laws_toGroup.f k y.f0 y.f1 y.f2 y.f3 y.f4).bind fun t => laws_toGroupS.l0 k ((pre ++ [y]) ++ suf) ((pre.map cvGroup) ++ (⟨t.1, t.2.1, t.2.2.1, t.2.2.2.1, t.2.2.2.2⟩ : S75) :: List.replicate suf.length z75) ((pre ++ [y]).length : Int)) (fun k => ?_) (Ev.bind g ?_)
    · simp only [laws_toGroupS.l0]
      rw [if_pos (lt_mid pre suf y), if_pos (nn _), rdmidGroupl, wrap_up _ (by omega)]
      congr 1
      funext t
      rw [if_pos (by simp; omega)]
      congr 1
      · simp
      · simp [List.replicate_succ]
      · simp
    · rw [mid_assoc pre suf y]
      have e : (pre.map cvGroup) ++ (cvGroup y) :: List.replicate suf.length z75 = ((pre ++ [y]).map cvGroup) ++ List.replicate suf.length z75 := by simp
      rw [← e] at ih
      exact ih
theorem toGroupS_ev (l : List S69) (h : l.length ≤ 1048576 ∧ ∀ y ∈ l, WGroup y) : Ev (fun k => laws_toGroupS.f k l) (l.map cvGroup) := by
  have h1 := h.1
  refine Ev.congr (fun k => ?_) (toGroupS_l0 l [] (by simp; omega) h.2)
  unfold laws_toGroupS.f
  rw [if_pos (nn l.length), Int.toNat_natCast, if_pos (by omega)]
  rfl
theorem eqGroupS_l0 : ∀ (suf pre : List S75), (pre ++ suf).length < 4611686018427387904 → (∀ y ∈ suf, WiGroup y) → Ev (fun k => laws_eqGroupS.l0 k (pre ++ suf) (pre ++ suf) (pre.length : Int)) true
  | [], pre, h, hW => by
    refine Ev.step (f := fun _ => some true) (fun k => ?_) (Ev.now _)
    simp only [laws_eqGroupS.l0]
    rw [if_neg (not_lt_end pre)]
  | y :: suf, pre, h, hW => by
    have hp : pre.length < 4611686018427387904 := by simp at h; omega
    have ih := eqGroupS_l0 suf (pre ++ [y]) (by simpa using h) (fun z hz => hW z (List.mem_cons_of_mem _ hz))
    have g := eqGroup_ev y (hW y List.mem_cons_self)
    refine Ev.step (f := fun k => (laws_eqGroup.f k y.f0 y.f1 y.f2 y.f3 y.f4 y.f0 y.f1 y.f2 y.f3 y.f4).bind fun t => if t = true then laws_eqGroupS.l0 k ((pre ++ [y]) ++ suf) ((pre ++ [y]) ++ suf) ((pre ++ [y]).length : Int) else none) (fun k => ?_) (Ev.bind g ?_)
    · simp only [laws_eqGroupS.l0]
      rw [if_pos (lt_mid pre suf y), if_pos (nn _), if_pos (lt_mid pre suf y), rdmidGroupi, wrap_up _ (by omega)]
      simp
    · simp only [if_true]
      exact ih
theorem eqGroupS_ev (l : List S75) (h : l.length ≤ 4000000 ∧ ∀ y ∈ l, WiGroup y) : Ev (fun k => laws_eqGroupS.f k l l) true := by
  have h1 := h.1
  refine Ev.congr (fun k => ?_) (eqGroupS_l0 l [] (by simp; omega) h.2)
  unfold laws_eqGroupS.f
  rw [if_pos rfl]
  rfl
theorem Wi_mapGroup {l : List S69} (h : l.length ≤ 1048576 ∧ ∀ y ∈ l, WGroup y) : (l.map cvGroup).length ≤ 4000000 ∧ ∀ y ∈ l.map cvGroup, WiGroup y :=
  ⟨by rw [List.length_map]; exact Nat.le_trans h.1 (by decide), fun y hy => by obtain ⟨z, hz, rfl⟩ := List.mem_map.1 hy; exact Wi_cvGroup (h.2 z hz)⟩
theorem rdmidString (pre suf : List ByteArray) (y : ByteArray) : rdOf ByteArray.empty (pre ++ y :: suf) (pre.length : Int) = y := by unfold rdOf; simp
theorem szStringS_l0 : ∀ (suf pre : List ByteArray) (n : Int), 0 ≤ n → n ≤ 1048576 → (∀ y ∈ suf, y.size ≤ maxLen) → (pre ++ suf).length < 4611686018427387904 → ∃ r, Ev (fun k => laws_szStringS.l0 k (pre ++ suf) n (pre.length : Int)) r ∧ r ≤ n ∧ (0 ≤ r → ∀ y ∈ suf, y.size ≤ 1048576)
  | [], pre, n, h0, h1, hB, h => by
    refine ⟨n, Ev.step (f := fun _ => some n) (fun k => ?_) (Ev.now _), Int.le_refl _, fun _ y hy => by cases hy⟩
    simp only [laws_szStringS.l0]
    rw [if_neg (not_lt_end pre)]
  | y :: suf, pre, n, h0, h1, hB, h => by
    have hp : pre.length < 4611686018427387904 := by simp at h; omega
    have hy := hB y List.mem_cons_self
    have q : y.size ≤ 9223372036854775807 := hy
    have e : wrap64 (n - (y.size : Int)) = n - (y.size : Int) := wrap_id (by omega) (by omega)
    by_cases c : n - (y.size : Int) < 0
    · refine ⟨-1, Ev.step (f := fun _ => some (-1)) (fun k => ?_) (Ev.now _), by omega, by omega⟩
      simp only [laws_szStringS.l0]
      rw [if_pos (lt_mid pre suf y), if_pos (nn _), rdmidString, e, if_pos c]
    · obtain ⟨r, g, hl, hw⟩ := szStringS_l0 suf (pre ++ [y]) (n - (y.size : Int)) (by omega) (by omega) (fun z hz => hB z (List.mem_cons_of_mem _ hz)) (by simpa using h)
      refine ⟨r, Ev.step (f := fun k => laws_szStringS.l0 k ((pre ++ [y]) ++ suf) (n - (y.size : Int)) ((pre ++ [y]).length : Int)) (fun k => ?_) g, by omega, fun hr z hz => ?_⟩
      · simp only [laws_szStringS.l0]
        rw [if_pos (lt_mid pre suf y), if_pos (nn _), rdmidString, e, if_neg c, wrap_up _ (by omega)]
        simp
      · rcases List.mem_cons.1 hz with rfl | hz
        · omega
        · exact hw hr z hz
theorem szStringS_ev (l : List ByteArray) (hB : l.length ≤ maxLen ∧ ∀ y ∈ l, y.size ≤ maxLen) (n : Int) (h0 : 0 ≤ n) (h1 : n ≤ 1048576) : ∃ r, Ev (fun k => laws_szStringS.f k l n) r ∧ r ≤ n ∧ (0 ≤ r → l.length ≤ 1048576 ∧ ∀ y ∈ l, y.size ≤ 1048576) := by
  have q : l.length ≤ 9223372036854775807 := hB.1
  have e : wrap64 (n - (l.length : Int)) = n - (l.length : Int) := wrap_id (by omega) (by omega)
  by_cases c : n - (l.length : Int) < 0
  · exact ⟨-1, ⟨0, fun k _ => by simp [laws_szStringS.f, e, c]⟩, by omega, by omega⟩
  · obtain ⟨r, g, hl, hw⟩ := szStringS_l0 l [] (n - (l.length : Int)) (by omega) (by omega) hB.2 (by simp; omega)
    refine ⟨r, Ev.congr (fun k => ?_) g, by omega, fun hr => ⟨by omega, hw hr⟩⟩
    unfold laws_szStringS.f
    rw [e, if_neg c]
    rfl
theorem toStringS_l0 : ∀ (suf pre : List ByteArray), (pre ++ suf).length < 4611686018427387904 → (∀ y ∈ suf, y.size ≤ 1048576) → Ev (fun k => laws_toStringS.l0 k (pre ++ suf) (pre ++ List.replicate suf.length (⟨#[]⟩ : ByteArray)) (pre.length : Int)) (pre ++ suf)
  | [], pre, h, hW => by
    refine Ev.step (f := fun _ => some (pre ++ [])) (fun k => ?_) (Ev.now _)
    simp only [laws_toStringS.l0]
    rw [if_neg (not_lt_end pre)]
    simp
  | y :: suf, pre, h, hW => by
    have hp : pre.length < 4611686018427387904 := by simp at h; omega
    have ih := toStringS_l0 suf (pre ++ [y]) (by simpa using h) (fun z hz => hW z (List.mem_cons_of_mem _ hz))
    refine Ev.step (f := fun k => laws_toStringS.l0 k ((pre ++ [y]) ++ suf) ((pre ++ [y]) ++ List.replicate suf.length (⟨#[]⟩ : ByteArray)) ((pre ++ [y]).length : Int)) (fun k => ?_) (by rw [mid_assoc pre suf y]; exact ih)
    simp only [laws_toStringS.l0]
    rw [if_pos (lt_mid pre suf y), if_pos (nn _), rdmidString, wrap_up _ (by omega), if_pos (by simp; omega)]
    congr 1
    · simp
    · simp [List.replicate_succ]
    · simp
theorem toStringS_ev (l : List ByteArray) (h : l.length ≤ 1048576 ∧ ∀ y ∈ l, y.size ≤ 1048576) : Ev (fun k => laws_toStringS.f k l) l := by
  have h1 := h.1
  refine Ev.congr (fun k => ?_) (toStringS_l0 l [] (by simp; omega) h.2)
  unfold laws_toStringS.f
  rw [if_pos (nn l.length), Int.toNat_natCast, if_pos (by omega)]
  rfl
theorem eqStringS_l0 : ∀ (suf pre : List ByteArray), (pre ++ suf).length < 4611686018427387904 → (∀ y ∈ suf, y.size ≤ 4000000) → Ev (fun k => laws_eqStringS.l0 k (pre ++ suf) (pre ++ suf) (pre.length : Int)) true
  | [], pre, h, hW => by
    refine Ev.step (f := fun _ => some true) (fun k => ?_) (Ev.now _)
    simp only [laws_eqStringS.l0]
    rw [if_neg (not_lt_end pre)]
  | y :: suf, pre, h, hW => by
    have hp : pre.length < 4611686018427387904 := by simp at h; omega
    have ih := eqStringS_l0 suf (pre ++ [y]) (by simpa using h) (fun z hz => hW z (List.mem_cons_of_mem _ hz))
    refine Ev.step (f := fun k => laws_eqStringS.l0 k ((pre ++ [y]) ++ suf) ((pre ++ [y]) ++ suf) ((pre ++ [y]).length : Int)) (fun k => ?_) ih
    simp only [laws_eqStringS.l0]
    rw [if_pos (lt_mid pre suf y), if_pos (nn _), if_pos (lt_mid pre suf y), wrap_up _ (by omega)]
    simp
theorem eqStringS_ev (l : List ByteArray) (h : l.length ≤ 4000000 ∧ ∀ y ∈ l, y.size ≤ 4000000) : Ev (fun k => laws_eqStringS.f k l l) true := by
  have h1 := h.1
  refine Ev.congr (fun k => ?_) (eqStringS_l0 l [] (by simp; omega) h.2)
  unfold laws_eqStringS.f
  rw [if_pos rfl]
  rfl
theorem Wi_mapString {l : List ByteArray} (h : l.length ≤ 1048576 ∧ ∀ y ∈ l, y.size ≤ 1048576) : l.length ≤ 4000000 ∧ ∀ y ∈ l, y.size ≤ 4000000 := ⟨Nat.le_trans h.1 (by decide), fun y hy => Nat.le_trans (h.2 y hy) (by decide)⟩
noncomputable def mkStrings : Int → List ByteArray → List ByteArray
  | _, [] => []
  | k0, _ :: ys => mkText k0 :: mkStrings (k0 + 1) ys
theorem markStringS_l0 : ∀ (suf pre : List ByteArray) (k0 : Int), 0 ≤ k0 → k0 + (suf.length : Int) < 4611686018427387904 → (pre ++ suf).length < 4611686018427387904 → Ev (fun k => laws_markStringS.l0 k (pre ++ suf) k0 (pre.length : Int)) (k0 + (suf.length : Int), pre ++ mkStrings k0 suf)
  | [], pre, k0, h0, h1, h => by
    refine Ev.step (f := fun _ => some (k0, pre ++ [])) (fun k => ?_) (by rw [show (k0 + (([] : List ByteArray).length : Int), pre ++ mkStrings k0 []) = (k0, pre ++ []) from by simp [mkStrings]]; exact Ev.now _)
    simp only [laws_markStringS.l0]
    rw [if_neg (not_lt_end pre)]
  | y :: suf, pre, k0, h0, h1, h => by
    have hp : pre.length < 4611686018427387904 := by simp at h; omega
    have hc : (y :: suf).length = suf.length + 1 := rfl
    rw [hc] at h1 ⊢
    obtain ⟨K, g⟩ := markStringS_l0 suf (pre ++ [mkText k0]) (k0 + 1) (by omega) (by omega) (by simpa using h)
    obtain ⟨K0, g0⟩ := markText_ev k0 (by omega) (by omega)
    refine ⟨K + K0 + 1, fun k hk => ?_⟩
    obtain ⟨k, rfl⟩ : ∃ m, k = m + 1 := ⟨k - 1, by omega⟩
    have G := g k (by omega)
    have G0 := g0 k (by omega)
    dsimp only at G G0
    have w0 : wrap64 (k0 + 1) = (k0 + 1) := wrap_id (by omega) (by omega)
    simp only [laws_markStringS.l0]
    rw [if_pos (lt_mid pre suf y)]
    simp only [nn, if_true, Option.bind_some, Int.toNat_natCast, set_mid, wrap_up pre.length (by omega), G0, w0]
    have eL : pre ++ mkText k0 :: suf = (pre ++ [mkText k0]) ++ suf := by simp
    have eN : ((pre.length + 1 : Nat) : Int) = ((pre ++ [mkText k0]).length : Int) := by simp
    rw [eL, eN, G]
    refine congrArg some (Prod.ext ?_ ?_)
    · simp only []; push_cast; omega
    · simp [mkStrings]
theorem markStringS_ev (l : List ByteArray) (k0 : Int) (h0 : 0 ≤ k0) (h1 : k0 + (l.length : Int) < 4611686018427387904) : Ev (fun k => laws_markStringS.f k l k0) (k0 + (l.length : Int), mkStrings k0 l) := by
  unfold laws_markStringS.f
  have := markStringS_l0 l [] k0 h0 h1 (by simp; omega)
  simpa using this
def cnAlarms : List S44 → Nat
  | [] => 0
  | y :: ys => cnLabels y.f0 + 3 + cnAlarms ys
noncomputable def mkAlarms : Int → List S44 → List S44
  | _, [] => []
  | k0, y :: ys => ⟨mkLabels k0 y.f0, (k0 + (cnLabels y.f0 : Int)), (k0 + (cnLabels y.f0 : Int) + 1), mkText (k0 + (cnLabels y.f0 : Int) + 2)⟩ :: mkAlarms (k0 + (cnLabels y.f0 : Int) + 3) ys
theorem cnAlarms_le : ∀ (l : List S44), l.length ≤ cnAlarms l
  | [] => Nat.le_refl _
  | y :: ys => by have := cnAlarms_le ys; simp only [cnAlarms, List.length_cons]; omega
theorem rdmmAlarm (pre suf : List S44) (y : S44) : rd_T44 (pre ++ y :: suf) (pre.length : Int) = y := by unfold rd_T44; simp
theorem markAlarmS_l0 : ∀ (suf pre : List S44) (k0 : Int), 0 ≤ k0 → k0 + (cnAlarms suf : Int) < 4611686018427387904 → (pre ++ suf).length < 4611686018427387904 → Ev (fun k => laws_markAlarmS.l0 k (pre ++ suf) k0 (pre.length : Int)) (k0 + (cnAlarms suf : Int), pre ++ mkAlarms k0 suf)
  | [], pre, k0, h0, h1, h => by
    refine Ev.step (f := fun _ => some (k0, pre ++ [])) (fun k => ?_) (by rw [show (k0 + (cnAlarms [] : Int), pre ++ mkAlarms k0 []) = (k0, pre ++ []) from by simp [cnAlarms, mkAlarms]]; exact Ev.now _)
    simp only [laws_markAlarmS.l0]
    rw [if_neg (not_lt_end pre)]
  | y :: suf, pre, k0, h0, h1, h => by
    have hp : pre.length < 4611686018427387904 := by simp at h; omega
    have hc : cnAlarms (y :: suf) = cnLabels y.f0 + 3 + cnAlarms suf := rfl
    rw [hc] at h1 ⊢
    obtain ⟨K, g⟩ := markAlarmS_l0 suf (pre ++ [(⟨mkLabels k0 y.f0, (k0 + (cnLabels y.f0 : Int)), (k0 + (cnLabels y.f0 : Int) + 1), mkText (k0 + (cnLabels y.f0 : Int) + 2)⟩ : S44)]) (k0 + (cnLabels y.f0 : Int) + 3) (by omega) (by omega) (by simpa using h)
    obtain ⟨K0, g0⟩ := markLabelS_ev y.f0 k0 (by omega) (by omega)
    obtain ⟨K1, g1⟩ := markText_ev (k0 + (cnLabels y.f0 : Int) + 2) (by omega) (by omega)
    refine ⟨K + K0 + K1 + 1, fun k hk => ?_⟩
    obtain ⟨k, rfl⟩ : ∃ m, k = m + 1 := ⟨k - 1, by omega⟩
    have G := g k (by omega)
    have G0 := g0 k (by omega)
    have G1 := g1 k (by omega)
    dsimp only at G G0 G1
    have w1 : wrap64 ((k0 + (cnLabels y.f0 : Int)) + 1) = (k0 + (cnLabels y.f0 : Int) + 1) := (wrap_id (by omega) (by omega)).trans (by omega)
    have w2 : wrap64 ((k0 + (cnLabels y.f0 : Int) + 1) + 1) = (k0 + (cnLabels y.f0 : Int) + 2) := (wrap_id (by omega) (by omega)).trans (by omega)
    have w3 : wrap64 ((k0 + (cnLabels y.f0 : Int) + 2) + 1) = (k0 + (cnLabels y.f0 : Int) + 3) := (wrap_id (by omega) (by omega)).trans (by omega)
    simp only [laws_markAlarmS.l0]
    rw [if_pos (lt_mid pre suf y)]
    simp only [nn, if_true, rdmmAlarm, Option.bind_some, Int.toNat_natCast, set_mid, wrap_up pre.length (by omega), G0, G1, w1, w2, w3]
    have eL : pre ++ (⟨mkLabels k0 y.f0, (k0 + (cnLabels y.f0 : Int)), (k0 + (cnLabels y.f0 : Int) + 1), mkText (k0 + (cnLabels y.f0 : Int) + 2)⟩ : S44) :: suf = (pre ++ [(⟨mkLabels k0 y.f0, (k0 + (cnLabels y.f0 : Int)), (k0 + (cnLabels y.f0 : Int) + 1), mkText (k0 + (cnLabels y.f0 : Int) + 2)⟩ : S44)]) ++ suf := by simp
    have eN : ((pre.length + 1 : Nat) : Int) = ((pre ++ [(⟨mkLabels k0 y.f0, (k0 + (cnLabels y.f0 : Int)), (k0 + (cnLabels y.f0 : Int) + 1), mkText (k0 + (cnLabels y.f0 : Int) + 2)⟩ : S44)]).length : Int) := by simp
    rw [eL, eN, G]
    refine congrArg some (Prod.ext ?_ ?_)
    · simp only []; push_cast; omega
    · simp [mkAlarms]
theorem markAlarmS_ev (l : List S44) (k0 : Int) (h0 : 0 ≤ k0) (h1 : k0 + (cnAlarms l : Int) < 4611686018427387904) : Ev (fun k => laws_markAlarmS.f k l k0) (k0 + (cnAlarms l : Int), mkAlarms k0 l) := by
  have := cnAlarms_le l
  exact Ev.congr (fun k => by unfold laws_markAlarmS.f; rfl) (markAlarmS_l0 l [] k0 h0 h1 (by simp; omega))
theorem heldAlarmS_l0 : ∀ (suf pre : List S44) (k0 : Int), 0 ≤ k0 → k0 + (cnAlarms suf : Int) < 4611686018427387904 → (pre ++ suf).length < 4611686018427387904 → Ev (fun k => laws_heldAlarmS.l0 k (pre ++ mkAlarms k0 suf) k0 (pre.length : Int)) (k0 + (cnAlarms suf : Int))
  | [], pre, k0, h0, h1, h => by
    refine Ev.step (f := fun _ => some k0) (fun k => ?_) (by simpa [cnAlarms] using Ev.now k0)
    rw [show mkAlarms k0 [] = [] from rfl]
    simp only [laws_heldAlarmS.l0]
    rw [if_neg (not_lt_end pre)]
  | y :: suf, pre, k0, h0, h1, h => by
    have hp : pre.length < 4611686018427387904 := by simp at h; omega
    have hc : cnAlarms (y :: suf) = cnLabels y.f0 + 3 + cnAlarms suf := rfl
    rw [hc] at h1 ⊢
    obtain ⟨K, g⟩ := heldAlarmS_l0 suf (pre ++ [(⟨mkLabels k0 y.f0, (k0 + (cnLabels y.f0 : Int)), (k0 + (cnLabels y.f0 : Int) + 1), mkText (k0 + (cnLabels y.f0 : Int) + 2)⟩ : S44)]) (k0 + (cnLabels y.f0 : Int) + 3) (by omega) (by omega) (by simpa using h)
    obtain ⟨K0, g0⟩ := heldLabelS_ev y.f0 k0 (by omega) (by omega)
    obtain ⟨K1, g1⟩ := markText_ev (k0 + (cnLabels y.f0 : Int) + 2) (by omega) (by omega)
    refine ⟨K + K0 + K1 + 1, fun k hk => ?_⟩
    obtain ⟨k, rfl⟩ : ∃ m, k = m + 1 := ⟨k - 1, by omega⟩
    have G := g k (by omega)
    have G0 := g0 k (by omega)
    have G1 := g1 k (by omega)
    dsimp only at G G0 G1
    have w1 : wrap64 ((k0 + (cnLabels y.f0 : Int)) + 1) = (k0 + (cnLabels y.f0 : Int) + 1) := (wrap_id (by omega) (by omega)).trans (by omega)
    have w2 : wrap64 ((k0 + (cnLabels y.f0 : Int) + 1) + 1) = (k0 + (cnLabels y.f0 : Int) + 2) := (wrap_id (by omega) (by omega)).trans (by omega)
    have w3 : wrap64 ((k0 + (cnLabels y.f0 : Int) + 2) + 1) = (k0 + (cnLabels y.f0 : Int) + 3) := (wrap_id (by omega) (by omega)).trans (by omega)
    have n0 : ¬ (k0 + (cnLabels y.f0 : Int) < 0) := by omega
    rw [show mkAlarms k0 (y :: suf) = ⟨mkLabels k0 y.f0, (k0 + (cnLabels y.f0 : Int)), (k0 + (cnLabels y.f0 : Int) + 1), mkText (k0 + (cnLabels y.f0 : Int) + 2)⟩ :: mkAlarms (k0 + (cnLabels y.f0 : Int) + 3) suf from rfl]
    simp only [laws_heldAlarmS.l0]
    rw [if_pos (lt_mid pre _ _)]
    simp only [nn, if_true, if_false, rdmmAlarm, Option.bind_some, wrap_up pre.length (by omega), G0, G1, w1, w2, w3, n0, bne_self_eq_false, Bool.false_eq_true]
    have eL : pre ++ (⟨mkLabels k0 y.f0, (k0 + (cnLabels y.f0 : Int)), (k0 + (cnLabels y.f0 : Int) + 1), mkText (k0 + (cnLabels y.f0 : Int) + 2)⟩ : S44) :: mkAlarms (k0 + (cnLabels y.f0 : Int) + 3) suf = (pre ++ [(⟨mkLabels k0 y.f0, (k0 + (cnLabels y.f0 : Int)), (k0 + (cnLabels y.f0 : Int) + 1), mkText (k0 + (cnLabels y.f0 : Int) + 2)⟩ : S44)]) ++ mkAlarms (k0 + (cnLabels y.f0 : Int) + 3) suf := by simp
    have eN : ((pre.length + 1 : Nat) : Int) = ((pre ++ [(⟨mkLabels k0 y.f0, (k0 + (cnLabels y.f0 : Int)), (k0 + (cnLabels y.f0 : Int) + 1), mkText (k0 + (cnLabels y.f0 : Int) + 2)⟩ : S44)]).length : Int) := by simp
    rw [eL, eN, G]
    refine congrArg some ?_
    push_cast; omega
theorem heldAlarmS_ev (l : List S44) (k0 : Int) (h0 : 0 ≤ k0) (h1 : k0 + (cnAlarms l : Int) < 4611686018427387904) : Ev (fun k => laws_heldAlarmS.f k (mkAlarms k0 l) k0) (k0 + (cnAlarms l : Int)) := by
  have := cnAlarms_le l
  exact Ev.congr (fun k => by unfold laws_heldAlarmS.f; rfl) (heldAlarmS_l0 l [] k0 h0 h1 (by simp; omega))
def cnGroups : List S75 → Nat
  | [] => 0
  | y :: ys => cnLabels y.f1 + cnAlarms y.f4 + 3 + cnGroups ys
noncomputable def mkGroups : Int → List S75 → List S75
  | _, [] => []
  | k0, y :: ys => ⟨k0, mkLabels (k0 + 1) y.f1, (k0 + 1 + (cnLabels y.f1 : Int)), (k0 + 1 + (cnLabels y.f1 : Int) + 1), mkAlarms (k0 + 1 + (cnLabels y.f1 : Int) + 2) y.f4⟩ :: mkGroups (k0 + 1 + (cnLabels y.f1 : Int) + 2 + (cnAlarms y.f4 : Int)) ys
theorem cnGroups_le : ∀ (l : List S75), l.length ≤ cnGroups l
  | [] => Nat.le_refl _
  | y :: ys => by have := cnGroups_le ys; simp only [cnGroups, List.length_cons]; omega
theorem rdmmGroup (pre suf : List S75) (y : S75) : rd_T75 (pre ++ y :: suf) (pre.length : Int) = y := by unfold rd_T75; simp
theorem markGroupS_l0 : ∀ (suf pre : List S75) (k0 : Int), 0 ≤ k0 → k0 + (cnGroups suf : Int) < 4611686018427387904 → (pre ++ suf).length < 4611686018427387904 → Ev (fun k => laws_markGroupS.l0 k (pre ++ suf) k0 (pre.length : Int)) (k0 + (cnGroups suf : Int), pre ++ mkGroups k0 suf)
  | [], pre, k0, h0, h1, h => by
    refine Ev.step (f := fun _ => some (k0, pre ++ [])) (fun k => ?_) (by rw [show (k0 + (cnGroups [] : Int), pre ++ mkGroups k0 []) = (k0, pre ++ []) from by simp [cnGroups, mkGroups]]; exact Ev.now _)
    simp only [laws_markGroupS.l0]
    rw [if_neg (not_lt_end pre)]
  | y :: suf, pre, k0, h0, h1, h => by
    have hp : pre.length < 4611686018427387904 := by simp at h; omega
    have hc : cnGroups (y :: suf) = cnLabels y.f1 + cnAlarms y.f4 + 3 + cnGroups suf := rfl
    rw [hc] at h1 ⊢
    obtain ⟨K, g⟩ := markGroupS_l0 suf (pre ++ [(⟨k0, mkLabels (k0 + 1) y.f1, (k0 + 1 + (cnLabels y.f1 : Int)), (k0 + 1 + (cnLabels y.f1 : Int) + 1), mkAlarms (k0 + 1 + (cnLabels y.f1 : Int) + 2) y.f4⟩ : S75)]) (k0 + 1 + (cnLabels y.f1 : Int) + 2 + (cnAlarms y.f4 : Int)) (by omega) (by omega) (by simpa using h)
    obtain ⟨K0, g0⟩ := markLabelS_ev y.f1 (k0 + 1) (by omega) (by omega)
    obtain ⟨K1, g1⟩ := markAlarmS_ev y.f4 (k0 + 1 + (cnLabels y.f1 : Int) + 2) (by omega) (by omega)
    refine ⟨K + K0 + K1 + 1, fun k hk => ?_⟩
    obtain ⟨k, rfl⟩ : ∃ m, k = m + 1 := ⟨k - 1, by omega⟩
    have G := g k (by omega)
    have G0 := g0 k (by omega)
    have G1 := g1 k (by omega)
    dsimp only at G G0 G1
    have w0 : wrap64 (k0 + 1) = (k0 + 1) := (wrap_id (by omega) (by omega)).trans (by omega)
    have w2 : wrap64 ((k0 + 1 + (cnLabels y.f1 : Int)) + 1) = (k0 + 1 + (cnLabels y.f1 : Int) + 1) := (wrap_id (by omega) (by omega)).trans (by omega)
    have w3 : wrap64 ((k0 + 1 + (cnLabels y.f1 : Int) + 1) + 1) = (k0 + 1 + (cnLabels y.f1 : Int) + 2) := (wrap_id (by omega) (by omega)).trans (by omega)
    simp only [laws_markGroupS.l0]
    rw [if_pos (lt_mid pre suf y)]
    simp only [nn, if_true, rdmmGroup, Option.bind_some, Int.toNat_natCast, set_mid, wrap_up pre.length (by omega), G0, G1, w0, w2, w3]
    have eL : pre ++ (⟨k0, mkLabels (k0 + 1) y.f1, (k0 + 1 + (cnLabels y.f1 : Int)), (k0 + 1 + (cnLabels y.f1 : Int) + 1), mkAlarms (k0 + 1 + (cnLabels y.f1 : Int) + 2) y.f4⟩ : S75) :: suf = (pre ++ [(⟨k0, mkLabels (k0 + 1) y.f1, (k0 + 1 + (cnLabels y.f1 : Int)), (k0 + 1 + (cnLabels y.f1 : Int) + 1), mkAlarms (k0 + 1 + (cnLabels y.f1 : Int) + 2) y.f4⟩ : S75)]) ++ suf := by simp
    have eN : ((pre.length + 1 : Nat) : Int) = ((pre ++ [(⟨k0, mkLabels (k0 + 1) y.f1, (k0 + 1 + (cnLabels y.f1 : Int)), (k0 + 1 + (cnLabels y.f1 : Int) + 1), mkAlarms (k0 + 1 + (cnLabels y.f1 : Int) + 2) y.f4⟩ : S75)]).length : Int) := by simp
    rw [eL, eN, G]
    refine congrArg some (Prod.ext ?_ ?_)
    · simp only []; push_cast; omega
    · simp [mkGroups]
theorem markGroupS_ev (l : List S75) (k0 : Int) (h0 : 0 ≤ k0) (h1 : k0 + (cnGroups l : Int) < 4611686018427387904) : Ev (fun k => laws_markGroupS.f k l k0) (k0 + (cnGroups l : Int), mkGroups k0 l) := by
  have := cnGroups_le l
  exact Ev.congr (fun k => by unfold laws_markGroupS.f; rfl) (markGroupS_l0 l [] k0 h0 h1 (by simp; omega))
theorem heldGroupS_l0 : ∀ (suf pre : List S75) (k0 : Int), 0 ≤ k0 → k0 + (cnGroups suf : Int) < 4611686018427387904 → (pre ++ suf).length < 4611686018427387904 → Ev (fun k => laws_heldGroupS.l0 k (pre ++ mkGroups k0 suf) k0 (pre.length : Int)) (k0 + (cnGroups suf : Int))
  | [], pre, k0, h0, h1, h => by
    refine Ev.step (f := fun _ => some k0) (fun k => ?_) (by simpa [cnGroups] using Ev.now k0)
    rw [show mkGroups k0 [] = [] from rfl]
    simp only [laws_heldGroupS.l0]
    rw [if_neg (not_lt_end pre)]
  | y :: suf, pre, k0, h0, h1, h => by
    have hp : pre.length < 4611686018427387904 := by simp at h; omega
    have hc : cnGroups (y :: suf) = cnLabels y.f1 + cnAlarms y.f4 + 3 + cnGroups suf := rfl
    rw [hc] at h1 ⊢
    obtain ⟨K, g⟩ := heldGroupS_l0 suf (pre ++ [(⟨k0, mkLabels (k0 + 1) y.f1, (k0 + 1 + (cnLabels y.f1 : Int)), (k0 + 1 + (cnLabels y.f1 : Int) + 1), mkAlarms (k0 + 1 + (cnLabels y.f1 : Int) + 2) y.f4⟩ : S75)]) (k0 + 1 + (cnLabels y.f1 : Int) + 2 + (cnAlarms y.f4 : Int)) (by omega) (by omega) (by simpa using h)
    obtain ⟨K0, g0⟩ := heldLabelS_ev y.f1 (k0 + 1) (by omega) (by omega)
    obtain ⟨K1, g1⟩ := heldAlarmS_ev y.f4 (k0 + 1 + (cnLabels y.f1 : Int) + 2) (by omega) (by omega)
    refine ⟨K + K0 + K1 + 1, fun k hk => ?_⟩
    obtain ⟨k, rfl⟩ : ∃ m, k = m + 1 := ⟨k - 1, by omega⟩
    have G := g k (by omega)
    have G0 := g0 k (by omega)
    have G1 := g1 k (by omega)
    dsimp only at G G0 G1
    have w0 : wrap64 (k0 + 1) = (k0 + 1) := (wrap_id (by omega) (by omega)).trans (by omega)
    have w2 : wrap64 ((k0 + 1 + (cnLabels y.f1 : Int)) + 1) = (k0 + 1 + (cnLabels y.f1 : Int) + 1) := (wrap_id (by omega) (by omega)).trans (by omega)
    have w3 : wrap64 ((k0 + 1 + (cnLabels y.f1 : Int) + 1) + 1) = (k0 + 1 + (cnLabels y.f1 : Int) + 2) := (wrap_id (by omega) (by omega)).trans (by omega)
    have n1 : ¬ ((k0 + 1) + (cnLabels y.f1 : Int) < 0) := by omega
    have n4 : ¬ ((k0 + 1 + (cnLabels y.f1 : Int) + 2) + (cnAlarms y.f4 : Int) < 0) := by omega
    rw [show mkGroups k0 (y :: suf) = ⟨k0, mkLabels (k0 + 1) y.f1, (k0 + 1 + (cnLabels y.f1 : Int)), (k0 + 1 + (cnLabels y.f1 : Int) + 1), mkAlarms (k0 + 1 + (cnLabels y.f1 : Int) + 2) y.f4⟩ :: mkGroups (k0 + 1 + (cnLabels y.f1 : Int) + 2 + (cnAlarms y.f4 : Int)) suf from rfl]
    simp only [laws_heldGroupS.l0]
    rw [if_pos (lt_mid pre _ _)]
    simp only [nn, if_true, if_false, rdmmGroup, Option.bind_some, wrap_up pre.length (by omega), G0, G1, w0, w2, w3, n1, n4, bne_self_eq_false, Bool.false_eq_true]
    have eL : pre ++ (⟨k0, mkLabels (k0 + 1) y.f1, (k0 + 1 + (cnLabels y.f1 : Int)), (k0 + 1 + (cnLabels y.f1 : Int) + 1), mkAlarms (k0 + 1 + (cnLabels y.f1 : Int) + 2) y.f4⟩ : S75) :: mkGroups (k0 + 1 + (cnLabels y.f1 : Int) + 2 + (cnAlarms y.f4 : Int)) suf = (pre ++ [(⟨k0, mkLabels (k0 + 1) y.f1, (k0 + 1 + (cnLabels y.f1 : Int)), (k0 + 1 + (cnLabels y.f1 : Int) + 1), mkAlarms (k0 + 1 + (cnLabels y.f1 : Int) + 2) y.f4⟩ : S75)]) ++ mkGroups (k0 + 1 + (cnLabels y.f1 : Int) + 2 + (cnAlarms y.f4 : Int)) suf := by simp
    have eN : ((pre.length + 1 : Nat) : Int) = ((pre ++ [(⟨k0, mkLabels (k0 + 1) y.f1, (k0 + 1 + (cnLabels y.f1 : Int)), (k0 + 1 + (cnLabels y.f1 : Int) + 1), mkAlarms (k0 + 1 + (cnLabels y.f1 : Int) + 2) y.f4⟩ : S75)]).length : Int) := by simp
    rw [eL, eN, G]
    refine congrArg some ?_
    push_cast; omega
theorem heldGroupS_ev (l : List S75) (k0 : Int) (h0 : 0 ≤ k0) (h1 : k0 + (cnGroups l : Int) < 4611686018427387904) : Ev (fun k => laws_heldGroupS.f k (mkGroups k0 l) k0) (k0 + (cnGroups l : Int)) := by
  have := cnGroups_le l
  exact Ev.congr (fun k => by unfold laws_heldGroupS.f; rfl) (heldGroupS_l0 l [] k0 h0 h1 (by simp; omega))
theorem cnLabels_eq : ∀ l : List S164, cnLabels l = 2 * l.length
  | [] => rfl
  | y :: ys => by have := cnLabels_eq ys; simp only [cnLabels, List.length_cons]; omega
theorem cnLabels_wi {l : List S164} (h : l.length ≤ 4000000 ∧ ∀ y ∈ l, WiLabel y) : cnLabels l ≤ 8000000 := by have := h.1; rw [cnLabels_eq]; omega
/-- A loop that goes on or stops with an answer. -/
def scan {ρ : Type} (step : Nat → Option ρ) (fin : ρ) : Nat → Nat → ρ
  | 0, _ => fin
  | d + 1, i => match step i with
    | some r => r
    | none => scan step fin d (i + 1)
/-- What one round does. -/
def goOn {ρ : Type} (o : Option ρ) (next : Option ρ) : Option ρ := match o with
  | some r => some r
  | none => next
theorem scan_ev2 {ρ : Type} {F : Nat → Int → Option ρ} {n : Nat} {step : Nat → Option ρ} {fin : ρ} (hend : ∃ K, ∀ k, K ≤ k → F (k + 1) (n : Int) = some fin)
    (hstep : ∀ i, i < n → ∃ K, ∀ k, K ≤ k → F (k + 1) (i : Int) = goOn (step i) (F k ((i + 1 : Nat) : Int))) : ∀ d i, d + i = n → Ev (fun k => F k (i : Int)) (scan step fin d i)
  | 0, i, h => by
    obtain rfl : i = n := by omega
    obtain ⟨K, hK⟩ := hend
    refine ⟨K + 1, fun k hk => ?_⟩
    obtain ⟨m, rfl⟩ : ∃ m, k = m + 1 := ⟨k - 1, by omega⟩
    exact hK m (by omega)
  | d + 1, i, h => by
    obtain ⟨K, hK⟩ := hstep i (by omega)
    unfold scan
    cases hs : step i with
    | some r =>
      refine ⟨K + 1, fun k hk => ?_⟩
      obtain ⟨m, rfl⟩ : ∃ m, k = m + 1 := ⟨k - 1, by omega⟩
      have := hK m (by omega)
      rw [hs] at this
      exact this
    | none =>
      obtain ⟨K', hK'⟩ := scan_ev2 hend hstep d (i + 1) (by omega)
      refine ⟨max K K' + 1, fun k hk => ?_⟩
      obtain ⟨m, rfl⟩ : ∃ m, k = m + 1 := ⟨k - 1, by omega⟩
      have := hK m (by omega)
      rw [hs] at this
      exact this.trans (hK' m (by omega))
theorem scan_ev {ρ : Type} {F : Nat → Int → Option ρ} {n : Nat} {step : Nat → Option ρ} {fin : ρ} (hend : ∀ k, F (k + 1) (n : Int) = some fin)
    (hstep : ∀ i, i < n → ∃ K, ∀ k, K ≤ k → F (k + 1) (i : Int) = goOn (step i) (F k ((i + 1 : Nat) : Int))) : ∀ d i, d + i = n → Ev (fun k => F k (i : Int)) (scan step fin d i) := scan_ev2 ⟨0, fun k _ => hend k⟩ hstep
theorem scan_congr {ρ : Type} {s s' : Nat → Option ρ} {f : ρ} : ∀ d i, (∀ j, i ≤ j → j < i + d → s j = s' j) → scan s f d i = scan s' f d i
  | 0, _, _ => rfl
  | d + 1, i, h => by
    unfold scan
    rw [h i (Nat.le_refl _) (by omega)]
    cases s' i with
    | some r => rfl
    | none => exact scan_congr d (i + 1) (fun j h1 h2 => h j (by omega) (by omega))
/-- Two lists of one length, element by element. -/
theorem scan_same {α β : Type} [DecidableEq β] (f : α → β) (z : α) : ∀ (a b pa pb : List α), a.length = b.length → pa.length = pb.length →
    scan (fun i => if f ((pa ++ a).getD i z) = f ((pb ++ b).getD i z) then none else some false) true a.length pa.length = decide (a.map f = b.map f)
  | [], [], pa, pb, _, _ => by simp [scan]
  | [], _ :: _, _, _, h, _ => by simp at h
  | _ :: _, [], _, _, h, _ => by simp at h
  | x :: a, y :: b, pa, pb, h, h2 => by
    have ih := scan_same f z a b (pa ++ [x]) (pb ++ [y]) (by simpa using h) (by simp [h2])
    simp only [List.append_assoc, List.singleton_append, List.length_append, List.length_singleton] at ih
    simp only [List.length_cons, scan]
    rw [show (pa ++ x :: a).getD pa.length z = x by simp, show (pb ++ y :: b).getD pa.length z = y by rw [h2]; simp]
    by_cases he : f x = f y
    · simp only [if_pos he]; rw [ih]; simp [he]
    · simp [he]
theorem scan_same0 {α β : Type} [DecidableEq β] (f : α → β) (z : α) (a b : List α) (h : a.length = b.length) : scan (fun i => if f (a.getD i z) = f (b.getD i z) then none else some false) true a.length 0 = decide (a.map f = b.map f) := scan_same f z a b [] [] h rfl
/-- The place of the first that is so, or -1. -/
def place {α : Type} (p : α → Bool) : List α → Nat → Int
  | [], _ => -1
  | x :: l, i => if p x = true then (i : Int) else place p l (i + 1)
theorem scan_place {α : Type} (p : α → Bool) (z : α) : ∀ (suf pre : List α), scan (fun i => if p ((pre ++ suf).getD i z) = true then some (i : Int) else none) (-1) suf.length pre.length = place p suf pre.length
  | [], pre => by simp [scan, place]
  | y :: suf, pre => by
    have ih := scan_place p z suf (pre ++ [y])
    simp only [List.append_assoc, List.singleton_append, List.length_append, List.length_singleton] at ih
    simp only [List.length_cons, scan, place]
    rw [show (pre ++ y :: suf).getD pre.length z = y by simp]
    by_cases hp : p y = true
    · simp [hp]
    · simp only [if_neg hp]; exact ih
theorem scan_place0 {α : Type} (p : α → Bool) (z : α) (l : List α) : scan (fun i => if p (l.getD i z) = true then some (i : Int) else none) (-1) l.length 0 = place p l 0 := scan_place p z l []
theorem getD_eq {α : Type} (l : List α) (i : Nat) (z : α) (h : i < l.length) : l.getD i z = l[i] := by simp [List.getD_eq_getElem?_getD, List.getElem?_eq_getElem h]
theorem getD_mem {α : Type} (l : List α) (i : Nat) (z : α) (h : i < l.length) : l.getD i z ∈ l := by rw [getD_eq l i z h]; exact List.getElem_mem h
theorem rdnLabel (l : List S164) (i : Nat) : rd_T164 l (i : Int) = l.getD i z164 := by unfold rd_T164; simp
theorem rdnAlarm (l : List S44) (i : Nat) : rd_T44 l (i : Int) = l.getD i z44 := by unfold rd_T44; simp
/-- A label as two lists of bytes; an alarm as what it holds. -/
def lab (x : S164) : List UInt8 × List UInt8 := (x.f0.toList, x.f1.toList)
def sameSet (a b : List S164) : Bool := decide (a.map lab = b.map lab)
theorem map_ne_of_length {α β : Type} {f : α → β} {a b : List α} (h : ¬ a.length = b.length) : ¬ (a.map f = b.map f) := fun e => h (by simpa using congrArg List.length e)
theorem labNe (x y : S164) : ((!(x.f0.toList == y.f0.toList) || (!(x.f1.toList == y.f1.toList))) = true) ↔ ¬ lab x = lab y := by
  unfold lab
  simp only [Prod.mk.injEq, Bool.or_eq_true, Bool.not_eq_true', beq_eq_false_iff_ne]
  constructor
  · rintro (h | h) ⟨h1, h2⟩
    · exact h h1
    · exact h h2
  · intro h
    by_cases h1 : x.f0.toList = y.f0.toList
    · exact .inr fun h2 => h ⟨h1, h2⟩
    · exact .inl h1
theorem implSameSet_ev (a b : List S164) (h : a.length < 4611686018427387904) : Ev (fun k => impl_SameSet.f k a b) (sameSet a b) := by
  unfold impl_SameSet.f sameSet
  by_cases hl : a.length = b.length
  · simp only [if_pos (show (a.length : Int) = (b.length : Int) by omega)]
    rw [← scan_same0 lab z164 a b hl]
    refine scan_ev (F := fun k i => impl_SameSet.l0 k a b (a.length : Int) i) (n := a.length) (fun k => ?_) (fun i hi => ⟨0, fun k _ => ?_⟩) a.length 0 (by omega)
    · simp only [impl_SameSet.l0]; rw [if_neg (by omega)]
    · simp only [impl_SameSet.l0]
      rw [if_pos (by omega), if_pos (by omega), if_pos (by omega), if_pos (by omega), rdnLabel, rdnLabel, wrap_up i (by omega)]
      by_cases hc : lab (a.getD i z164) = lab (b.getD i z164)
      · rw [if_neg (fun e => (labNe _ _).1 e hc), if_pos hc]; rfl
      · rw [if_pos ((labNe _ _).2 hc), if_neg hc]; rfl
  · simp only [if_neg (show ¬ (a.length : Int) = (b.length : Int) by omega), decide_eq_false (map_ne_of_length hl)]
    exact Ev.now _
theorem specSameSet_ev (a b : List S164) (h : a.length < 4611686018427387904) : Ev (fun k => spec_SameSet.f k a b) (sameSet a b) := by
  unfold spec_SameSet.f sameSet
  by_cases hl : a.length = b.length
  · simp only [if_pos (show (a.length : Int) = (b.length : Int) by omega)]
    rw [← scan_same0 lab z164 a b hl]
    refine scan_ev (F := fun k i => spec_SameSet.l0 k a b i) (n := a.length) (fun k => ?_) (fun i hi => ⟨0, fun k _ => ?_⟩) a.length 0 (by omega)
    · simp only [spec_SameSet.l0]; rw [if_neg (by omega)]
    · simp only [spec_SameSet.l0]
      rw [if_pos (by omega), if_pos (by omega), if_pos (by omega), rdnLabel, rdnLabel, wrap_up i (by omega)]
      by_cases hc : lab (a.getD i z164) = lab (b.getD i z164)
      · rw [if_neg (fun e => (labNe _ _).1 e hc), if_pos hc]; rfl
      · rw [if_pos ((labNe _ _).2 hc), if_neg hc]; rfl
  · simp only [if_neg (show ¬ (a.length : Int) = (b.length : Int) by omega), decide_eq_false (map_ne_of_length hl)]
    exact Ev.now _
/-- Labels in order, by names and by values. -/
def setLess : List S164 → List S164 → Bool
  | [], [] => false
  | [], _ :: _ => true
  | _ :: _, [] => false
  | x :: a, y :: b => if x.f0.toList = y.f0.toList then (if x.f1.toList = y.f1.toList then setLess a b else Op.bytesLess x.f1.toList y.f1.toList) else Op.bytesLess x.f0.toList y.f0.toList
theorem implSetLess_l0 (a b : List S164) (ha : a.length < 4611686018427387904) : ∀ (sa sb pa pb : List S164), pa ++ sa = a → pb ++ sb = b → pa.length = pb.length → Ev (fun k => impl_SetLess.l0 k a b (pa.length : Int)) (setLess sa sb)
  | [], sb, pa, pb, ea, eb, hp => by
    have hl : a.length = pa.length := by rw [← ea]; simp
    have hb : b.length = pb.length + sb.length := by rw [← eb]; simp
    refine Ev.step (f := fun k => impl_SetLess.j1 k a b (pa.length : Int) false) (fun k => ?_) (Ev.step (f := fun _ => some (setLess [] sb)) (fun k => ?_) (Ev.now _))
    · simp only [impl_SetLess.l0]; rw [if_neg (by omega)]
    · simp only [impl_SetLess.j1]; rw [if_neg (by simp)]
      cases sb with
      | nil => simp only [List.length_nil] at hb; rw [decide_eq_false (by omega)]; rfl
      | cons y sb => simp only [List.length_cons] at hb; rw [decide_eq_true (by omega)]; rfl
  | x :: sa, [], pa, pb, ea, eb, hp => by
    have hl : a.length = pa.length + (sa.length + 1) := by rw [← ea]; simp
    have hb : b.length = pb.length := by rw [← eb]; simp
    refine Ev.step (f := fun k => impl_SetLess.j1 k a b (pa.length : Int) false) (fun k => ?_) (Ev.step (f := fun _ => some (setLess (x :: sa) [])) (fun k => ?_) (Ev.now _))
    · simp only [impl_SetLess.l0]; rw [if_pos (by omega), decide_eq_false (by omega)]
    · simp only [impl_SetLess.j1]; rw [if_neg (by simp), decide_eq_false (by omega)]; rfl
  | x :: sa, y :: sb, pa, pb, ea, eb, hp => by
    have hl : a.length = pa.length + (sa.length + 1) := by rw [← ea]; simp
    have hb : b.length = pb.length + (sb.length + 1) := by rw [← eb]; simp
    have ga : a.getD pa.length z164 = x := by rw [← ea]; simp
    have gb : b.getD pa.length z164 = y := by rw [← eb, hp]; simp
    have ih := implSetLess_l0 a b ha sa sb (pa ++ [x]) (pb ++ [y]) (by rw [← ea]; simp) (by rw [← eb]; simp) (by simp [hp])
    refine Ev.step (f := fun k => impl_SetLess.j1 k a b (pa.length : Int) true) (fun k => ?_) ?_
    · simp only [impl_SetLess.l0]; rw [if_pos (by omega), decide_eq_true (by omega)]
    · refine Ev.step (f := fun k => if x.f0.toList = y.f0.toList then (if x.f1.toList = y.f1.toList then impl_SetLess.l0 k a b ((pa.length + 1 : Nat) : Int) else some (Op.bytesLess x.f1.toList y.f1.toList)) else some (Op.bytesLess x.f0.toList y.f0.toList)) (fun k => ?_) ?_
      · simp only [impl_SetLess.j1]
        rw [if_pos trivial, if_pos (by omega), if_pos (by omega), if_pos (by omega), rdnLabel, rdnLabel, ga, gb, wrap_up _ (by omega)]
      · unfold setLess
        by_cases h1 : x.f0.toList = y.f0.toList
        · simp only [if_pos h1]
          by_cases h2 : x.f1.toList = y.f1.toList
          · simp only [if_pos h2]; simpa using ih
          · simp only [if_neg h2]; exact Ev.now _
        · simp only [if_neg h1]; exact Ev.now _
theorem implSetLess_ev (a b : List S164) (ha : a.length < 4611686018427387904) : Ev (fun k => impl_SetLess.f k a b) (setLess a b) := by
  unfold impl_SetLess.f
  exact implSetLess_l0 a b ha a b [] [] rfl rfl rfl
theorem specSetLess_l0 (a b : List S164) (ha : a.length < 4611686018427387904) : ∀ (sa sb pa pb : List S164), pa ++ sa = a → pb ++ sb = b → pa.length = pb.length → Ev (fun k => spec_SetLess.l0 k a b (pa.length : Int)) (setLess sa sb)
  | [], sb, pa, pb, ea, eb, hp => by
    have hl : a.length = pa.length := by rw [← ea]; simp
    have hb : b.length = pb.length + sb.length := by rw [← eb]; simp
    refine Ev.step (f := fun k => spec_SetLess.j1 k a b (pa.length : Int) false) (fun k => ?_) (Ev.step (f := fun _ => some (setLess [] sb)) (fun k => ?_) (Ev.now _))
    · simp only [spec_SetLess.l0]; rw [if_neg (by omega)]
    · simp only [spec_SetLess.j1]; rw [if_neg (by simp)]
      cases sb with
      | nil => simp only [List.length_nil] at hb; rw [decide_eq_false (by omega)]; rfl
      | cons y sb => simp only [List.length_cons] at hb; rw [decide_eq_true (by omega)]; rfl
  | x :: sa, [], pa, pb, ea, eb, hp => by
    have hl : a.length = pa.length + (sa.length + 1) := by rw [← ea]; simp
    have hb : b.length = pb.length := by rw [← eb]; simp
    refine Ev.step (f := fun k => spec_SetLess.j1 k a b (pa.length : Int) false) (fun k => ?_) (Ev.step (f := fun _ => some (setLess (x :: sa) [])) (fun k => ?_) (Ev.now _))
    · simp only [spec_SetLess.l0]; rw [if_pos (by omega), decide_eq_false (by omega)]
    · simp only [spec_SetLess.j1]; rw [if_neg (by simp), decide_eq_false (by omega)]; rfl
  | x :: sa, y :: sb, pa, pb, ea, eb, hp => by
    have hl : a.length = pa.length + (sa.length + 1) := by rw [← ea]; simp
    have hb : b.length = pb.length + (sb.length + 1) := by rw [← eb]; simp
    have ga : a.getD pa.length z164 = x := by rw [← ea]; simp
    have gb : b.getD pa.length z164 = y := by rw [← eb, hp]; simp
    have ih := specSetLess_l0 a b ha sa sb (pa ++ [x]) (pb ++ [y]) (by rw [← ea]; simp) (by rw [← eb]; simp) (by simp [hp])
    refine Ev.step (f := fun k => spec_SetLess.j1 k a b (pa.length : Int) true) (fun k => ?_) ?_
    · simp only [spec_SetLess.l0]; rw [if_pos (by omega), decide_eq_true (by omega)]
    · refine Ev.step (f := fun k => if x.f0.toList = y.f0.toList then (if x.f1.toList = y.f1.toList then spec_SetLess.l0 k a b ((pa.length + 1 : Nat) : Int) else some (Op.bytesLess x.f1.toList y.f1.toList)) else some (Op.bytesLess x.f0.toList y.f0.toList)) (fun k => ?_) ?_
      · simp only [spec_SetLess.j1, spec_Less.f, Option.bind_some]
        rw [if_pos trivial, if_pos (by omega), if_pos (by omega), if_pos (by omega), rdnLabel, rdnLabel, ga, gb, wrap_up _ (by omega)]
      · unfold setLess
        by_cases h1 : x.f0.toList = y.f0.toList
        · simp only [if_pos h1]
          by_cases h2 : x.f1.toList = y.f1.toList
          · simp only [if_pos h2]; simpa using ih
          · simp only [if_neg h2]; exact Ev.now _
        · simp only [if_neg h1]; exact Ev.now _
theorem specSetLess_ev (a b : List S164) (ha : a.length < 4611686018427387904) : Ev (fun k => spec_SetLess.f k a b) (setLess a b) := by
  unfold spec_SetLess.f
  exact specSetLess_l0 a b ha a b [] [] rfl rfl rfl
theorem specL4Copy_ev (x : S44) (h : x.f0.length ≤ 5000000) : spec_l4Copy.f x.f0 x.f1 x.f2 x.f3 = some (x.f0, x.f1, x.f2, x.f3) := by
  simp only [spec_l4Copy.f, Option.bind_some, List.nil_append, List.length_nil]
  exact if_pos (by omega)
theorem implCopySet_ev (l : List S164) (h : l.length ≤ 5000000) : impl_copySet.f l = some l := by
  simp only [impl_copySet.f, List.nil_append, List.length_nil]
  exact if_pos (by omega)
theorem implCopyAlarm_ev (x : S44) (h : x.f0.length ≤ 5000000) : impl_copyAlarm.f x.f0 x.f1 x.f2 x.f3 = some (x.f0, x.f1, x.f2, x.f3) := by
  simp only [impl_copyAlarm.f, implCopySet_ev x.f0 h, Option.bind_some]
theorem specL4All_l0 : ∀ (suf pre : List S44), (pre ++ suf).length ≤ 5000000 → (∀ y ∈ suf, y.f0.length ≤ 5000000) → Ev (fun k => spec_l4All.l0 k (pre ++ suf) pre (pre.length : Int)) (pre ++ suf)
  | [], pre, h, hW => by
    refine Ev.step (f := fun _ => some (pre ++ [])) (fun k => ?_) (Ev.now _)
    simp only [spec_l4All.l0]
    rw [if_neg (not_lt_end pre), List.append_nil]
  | y :: suf, pre, h, hW => by
    have ih := specL4All_l0 suf (pre ++ [y]) (by simpa using h) (fun z hz => hW z (List.mem_cons_of_mem _ hz))
    have hp : pre.length < 5000000 := by simp at h; omega
    refine Ev.step (f := fun k => spec_l4All.l0 k ((pre ++ [y]) ++ suf) (pre ++ [y]) ((pre ++ [y]).length : Int)) (fun k => ?_) (by rw [mid_assoc pre suf y]; exact ih)
    simp only [spec_l4All.l0]
    rw [if_pos (lt_mid pre suf y)]
    simp only [nn, if_true, rdmmAlarm, specL4Copy_ev y (hW y List.mem_cons_self), Option.bind_some, wrap_up pre.length (by omega)]
    rw [if_pos (by omega)]
    congr 1
    · simp
    · simp
theorem specL4All_ev (l : List S44) (h : l.length ≤ 5000000) (hW : ∀ y ∈ l, y.f0.length ≤ 5000000) : Ev (fun k => spec_l4All.f k l) l :=
  Ev.congr (fun k => by unfold spec_l4All.f; rfl) (specL4All_l0 l [] (by simpa using h) hW)
theorem implCopyAlarms_l0 : ∀ (suf pre : List S44), (pre ++ suf).length ≤ 5000000 → (∀ y ∈ suf, y.f0.length ≤ 5000000) → Ev (fun k => impl_copyAlarms.l0 k pre (pre ++ suf) ((pre ++ suf).length : Int) (pre.length : Int)) (pre ++ suf)
  | [], pre, h, hW => by
    refine Ev.step (f := fun _ => some (pre ++ [])) (fun k => ?_) (Ev.now _)
    simp only [impl_copyAlarms.l0]
    rw [if_neg (by simp), List.append_nil]
  | y :: suf, pre, h, hW => by
    have ih := implCopyAlarms_l0 suf (pre ++ [y]) (by simpa using h) (fun z hz => hW z (List.mem_cons_of_mem _ hz))
    have hp : pre.length < 5000000 := by simp at h; omega
    refine Ev.step (f := fun k => impl_copyAlarms.l0 k (pre ++ [y]) ((pre ++ [y]) ++ suf) (((pre ++ [y]) ++ suf).length : Int) ((pre ++ [y]).length : Int)) (fun k => ?_) (by rw [mid_assoc pre suf y]; exact ih)
    simp only [impl_copyAlarms.l0]
    rw [if_pos (lt_mid pre suf y)]
    simp only [nn, if_true, rdmmAlarm, implCopyAlarm_ev y (hW y List.mem_cons_self), Option.bind_some, wrap_up pre.length (by omega)]
    rw [if_pos (lt_mid pre suf y), if_pos (by omega)]
    congr 1
    · simp
    · simp
    · simp
theorem implCopyAlarms_ev (l : List S44) (h : l.length ≤ 5000000) (hW : ∀ y ∈ l, y.f0.length ≤ 5000000) : Ev (fun k => impl_copyAlarms.f k l) l :=
  Ev.congr (fun k => by unfold impl_copyAlarms.f; rfl) (implCopyAlarms_l0 l [] (by simpa using h) hW)
def labelsAt (l : List S44) (s : List S164) : Int := place (fun a => sameSet a.f0 s) l 0
theorem implLabelsAt_ev (l : List S44) (s : List S164) (h : l.length ≤ 4000000 ∧ ∀ y ∈ l, WiAlarm y) : Ev (fun k => impl_labelsAt.f k l s) (labelsAt l s) := by
  have h1 := h.1
  unfold impl_labelsAt.f labelsAt
  rw [← scan_place0 (fun a : S44 => sameSet a.f0 s) z44 l]
  refine scan_ev (F := fun k i => impl_labelsAt.l0 k s l (l.length : Int) i) (n := l.length) (fun k => ?_) (fun i hi => ?_) l.length 0 (by omega)
  · simp only [impl_labelsAt.l0]; rw [if_neg (by omega)]
  · have hw := (h.2 _ (getD_mem l i z44 hi)).1.1
    obtain ⟨K, g⟩ := implSameSet_ev (l.getD i z44).f0 s (by omega)
    refine ⟨K, fun k hk => ?_⟩
    have e := g k hk
    simp only at e
    simp only [impl_labelsAt.l0]
    rw [if_pos (by omega), if_pos (by omega), if_pos (by omega), rdnAlarm, e, Option.bind_some, wrap_up i (by omega)]
    cases sameSet (l.getD i z44).f0 s <;> simp [goOn]
theorem scan_map {ρ σ : Type} (h : ρ → σ) (step : Nat → Option ρ) (fin : ρ) : ∀ d i, scan (fun i => (step i).map h) (h fin) d i = h (scan step fin d i)
  | 0, i => rfl
  | d + 1, i => by
    unfold scan
    cases hs : step i with
    | some r => rfl
    | none => exact scan_map h step fin d (i + 1)
/-- Where the alarm goes: ahead of the first one that it is less than. -/
def insAt (l : List S44) (a : S44) (i : Nat) : List S44 := (l.take i ++ [a]) ++ l.drop i
def insStep (l : List S44) (a : S44) (i : Nat) : Option (List S44) := if setLess a.f0 (l.getD i z44).f0 = true then some (insAt l a i) else none
def ins (l : List S44) (a : S44) : List S44 := scan (insStep l a) (insAt l a l.length) l.length 0
def putL (l : List S44) (a : S44) (t : Int) : List S44 := if t ≥ 0 then l.set t.toNat a else ins l a
def joinIn (g : S75) (a : S44) : S75 := ⟨g.f0, g.f1, g.f2, g.f3, putL g.f4 a (labelsAt g.f4 a.f0)⟩
theorem place_hi {α : Type} (p : α → Bool) : ∀ (l : List α) (i : Nat), place p l i < (i : Int) + (l.length : Int) + (if l.length = 0 then 1 else 0)
  | [], i => by simp only [place, List.length_nil, if_true]; omega
  | x :: l, i => by
    unfold place
    simp only [List.length_cons]
    split
    · rw [if_neg (by omega)]; omega
    · have := place_hi p l (i + 1)
      rw [if_neg (by omega)]
      by_cases c : l.length = 0
      · rw [if_pos c] at this
        have hl : l = [] := List.eq_nil_of_length_eq_zero c
        subst hl
        simp only [place]; omega
      · rw [if_neg c] at this; omega
theorem labelsAt_lt (l : List S44) (s : List S164) (h : labelsAt l s ≥ 0) : labelsAt l s < (l.length : Int) := by
  have := place_hi (fun a : S44 => sameSet a.f0 s) l 0
  unfold labelsAt at *
  by_cases c : l.length = 0
  · have hl : l = [] := List.eq_nil_of_length_eq_zero c
    subst hl; simp [place] at h
  · rw [if_neg c] at this; omega
theorem insAt_length (l : List S44) (a : S44) (i : Nat) : (insAt l a i).length = l.length + 1 := by
  unfold insAt; simp only [List.length_append, List.length_take, List.length_drop, List.length_singleton]; omega
theorem insAt_mem {l : List S44} {a : S44} {i : Nat} {y : S44} (h : y ∈ insAt l a i) : y ∈ l ∨ y = a := by
  unfold insAt at h
  rcases List.mem_append.1 h with h | h
  · rcases List.mem_append.1 h with h | h
    · exact .inl (List.mem_of_mem_take h)
    · exact .inr (List.mem_singleton.1 h)
  · exact .inl (List.mem_of_mem_drop h)
theorem scan_or {ρ : Type} (Q : ρ → Prop) {step : Nat → Option ρ} {fin : ρ} (hf : Q fin) (hs : ∀ i r, step i = some r → Q r) : ∀ d i, Q (scan step fin d i)
  | 0, _ => hf
  | d + 1, i => by
    unfold scan
    cases h : step i with
    | some r => exact hs i r h
    | none => exact scan_or Q hf hs d (i + 1)
theorem ins_ok (l : List S44) (a : S44) : (ins l a).length = l.length + 1 ∧ ∀ y ∈ ins l a, y ∈ l ∨ y = a :=
  scan_or (fun r => r.length = l.length + 1 ∧ ∀ y ∈ r, y ∈ l ∨ y = a) ⟨insAt_length l a _, fun y hy => insAt_mem hy⟩ (fun i r h => by
    unfold insStep at h
    by_cases c : setLess a.f0 (l.getD i z44).f0 = true
    · rw [if_pos c] at h; cases h; exact ⟨insAt_length l a _, fun y hy => insAt_mem hy⟩
    · rw [if_neg c] at h; cases h) _ _
theorem putL_ok (l : List S44) (a : S44) (t : Int) : (putL l a t).length ≤ l.length + 1 ∧ ∀ y ∈ putL l a t, y ∈ l ∨ y = a := by
  unfold putL
  by_cases c : t ≥ 0
  · rw [if_pos c]; exact ⟨by rw [List.length_set]; omega, fun y hy => List.mem_or_eq_of_mem_set hy⟩
  · rw [if_neg c]; exact ⟨by rw [(ins_ok l a).1]; omega, (ins_ok l a).2⟩
theorem joinIn_wi {g : S75} {a : S44} (hl : g.f4.length ≤ 1048576) (h : WiGroup g) (ha : WiAlarm a) : WiGroup (joinIn g a) := by
  obtain ⟨h1, h2⟩ := putL_ok g.f4 a (labelsAt g.f4 a.f0)
  refine ⟨trivial, h.2.1, trivial, trivial, by show (putL g.f4 a (labelsAt g.f4 a.f0)).length ≤ 4000000; omega, fun y hy => ?_⟩
  rcases h2 y hy with h3 | rfl
  · exact h.2.2.2.2.2 y h3
  · exact ha
theorem toNat_nat (i : Nat) : ((i : Int)).toNat = i := Int.toNat_natCast i
theorem okA {l : List S44} (h : l.length ≤ 4000000 ∧ ∀ y ∈ l, WiAlarm y) : l.length ≤ 5000000 ∧ ∀ y ∈ l, y.f0.length ≤ 5000000 := ⟨by omega, fun y hy => Nat.le_trans (h.2 y hy).1.1 (by decide)⟩
/-- Behind the place: what is ahead of it, the alarm, what is behind it. -/
theorem specBehind_ev {σ : Type} (F : List S44 → σ) (l : List S44) (a : S44) (i : Nat) (hi : i ≤ l.length) (h : l.length ≤ 4000000 ∧ ∀ y ∈ l, WiAlarm y) : Ev (fun k => (spec_l4All.f k (l.take (i : Int).toNat)).bind fun t => (if t.length < 2513169434916 then ((some (t ++ [(⟨a.f0, a.f1, a.f2, a.f3⟩ : S44)] : List S44)).bind fun y => ((spec_l4All.f k (l.drop (i : Int).toNat)).bind fun t2 => (if y.length + t2.length < 2513169434916 then (some (F (y ++ t2))) else none))) else none)) (F (insAt l a i)) := by
  obtain ⟨o1, o2⟩ := okA h
  obtain ⟨K1, g1⟩ := specL4All_ev (l.take i) (by rw [List.length_take]; omega) (fun y hy => o2 y (List.mem_of_mem_take hy))
  obtain ⟨K2, g2⟩ := specL4All_ev (l.drop i) (by rw [List.length_drop]; omega) (fun y hy => o2 y (List.mem_of_mem_drop hy))
  refine ⟨K1 + K2, fun k hk => ?_⟩
  have e1 := g1 k (by omega)
  have e2 := g2 k (by omega)
  simp only at e1 e2
  simp only [toNat_nat, e1, Option.bind_some]
  rw [if_pos (by rw [List.length_take]; omega), e2]
  simp only [Option.bind_some]
  rw [if_pos (by simp only [List.length_append, List.length_take, List.length_drop, List.length_singleton]; omega)]
  rfl
theorem implBehind_ev (l : List S44) (a : S44) (i : Nat) (hi : i ≤ l.length) (h : l.length ≤ 4000000 ∧ ∀ y ∈ l, WiAlarm y) (ha : WiAlarm a) : Ev (fun k => (impl_copyAlarms.f k (l.take (i : Int).toNat)).bind fun t => ((impl_copyAlarm.f a.f0 a.f1 a.f2 a.f3).bind fun b => (if t.length < 2513169434916 then ((some (t ++ [(⟨b.1, b.2.1, b.2.2.1, b.2.2.2⟩ : S44)] : List S44)).bind fun y => ((impl_copyAlarms.f k (l.drop (i : Int).toNat)).bind fun t2 => (if y.length + t2.length < 2513169434916 then (some (y ++ t2)) else none))) else none))) (insAt l a i) := by
  obtain ⟨o1, o2⟩ := okA h
  obtain ⟨K1, g1⟩ := implCopyAlarms_ev (l.take i) (by rw [List.length_take]; omega) (fun y hy => o2 y (List.mem_of_mem_take hy))
  obtain ⟨K2, g2⟩ := implCopyAlarms_ev (l.drop i) (by rw [List.length_drop]; omega) (fun y hy => o2 y (List.mem_of_mem_drop hy))
  refine ⟨K1 + K2, fun k hk => ?_⟩
  have e1 := g1 k (by omega)
  have e2 := g2 k (by omega)
  simp only at e1 e2
  simp only [toNat_nat, e1, Option.bind_some, implCopyAlarm_ev a (Nat.le_trans ha.1.1 (by decide))]
  rw [if_pos (by rw [List.length_take]; omega), e2]
  simp only [Option.bind_some]
  rw [if_pos (by simp only [List.length_append, List.length_take, List.length_drop, List.length_singleton]; omega)]
  rfl
theorem implInserted_ev (l : List S44) (a : S44) (h : l.length ≤ 4000000 ∧ ∀ y ∈ l, WiAlarm y) (ha : WiAlarm a) : Ev (fun k => impl_inserted.f k l a.f0 a.f1 a.f2 a.f3) (ins l a) := by
  have h1 := h.1
  unfold impl_inserted.f ins
  refine scan_ev2 (F := fun k i => impl_inserted.l0 k l i a.f0 a.f1 a.f2 a.f3) (n := l.length) ?_ (fun i hi => ?_) l.length 0 (by omega)
  · obtain ⟨K, g⟩ := implBehind_ev l a l.length (Nat.le_refl _) h ha
    refine ⟨K, fun k hk => ?_⟩
    have e := g k hk
    simp only at e
    simp only [impl_inserted.l0]
    rw [if_neg (by omega), if_pos (by omega), if_pos (by omega)]
    exact e
  · obtain ⟨K1, g1⟩ := implSetLess_ev a.f0 (l.getD i z44).f0 (by have := ha.1.1; omega)
    obtain ⟨K2, g2⟩ := implBehind_ev l a i (by omega) h ha
    refine ⟨K1 + K2, fun k hk => ?_⟩
    have e1 := g1 k (by omega)
    have e2 := g2 k (by omega)
    simp only at e1 e2
    simp only [impl_inserted.l0]
    rw [if_pos (by omega), if_pos (by omega), rdnAlarm, e1]
    simp only [Option.bind_some]
    unfold insStep
    by_cases c : setLess a.f0 (l.getD i z44).f0 = true
    · rw [if_pos c, if_pos c, if_pos (by omega)]; exact e2
    · rw [if_neg c, if_neg c, wrap_up i (by omega)]; rfl
theorem implJoinIn_ev (g : S75) (a : S44) (h : WiGroup g) (ha : WiAlarm a) : Ev (fun k => impl_JoinIn.f k g.f0 g.f1 g.f2 g.f3 g.f4 a.f0 a.f1 a.f2 a.f3) ((joinIn g a).f0, (joinIn g a).f1, (joinIn g a).f2, (joinIn g a).f3, (joinIn g a).f4) := by
  have hl := h.2.2.2.2
  obtain ⟨o1, o2⟩ := okA hl
  obtain ⟨K1, g1⟩ := implCopyAlarms_ev g.f4 o1 o2
  obtain ⟨K2, g2⟩ := implLabelsAt_ev g.f4 a.f0 hl
  obtain ⟨K3, g3⟩ := implInserted_ev g.f4 a hl ha
  refine ⟨K1 + K2 + K3, fun k hk => ?_⟩
  have e1 := g1 k (by omega)
  have e2 := g2 k (by omega)
  have e3 := g3 k (by omega)
  simp only at e1 e2 e3
  have hlt := labelsAt_lt g.f4 a.f0
  unfold joinIn putL
  simp only [impl_JoinIn.f, impl_copyGroup.f, implCopySet_ev g.f1 (Nat.le_trans h.2.1.1 (by decide)), Option.bind_some, e1, e2, e3, implCopyAlarm_ev a (Nat.le_trans ha.1.1 (by decide))]
  by_cases c : labelsAt g.f4 a.f0 ≥ 0
  · rw [if_pos c, if_pos c, if_pos c, if_pos (hlt c)]
  · rw [if_neg c, if_neg c]
theorem putL_scan (l : List S44) (a : S44) : putL l a (labelsAt l a.f0) = scan (fun i => if sameSet (l.getD i z44).f0 a.f0 = true then some (l.set i a) else none) (ins l a) l.length 0 := by
  unfold labelsAt
  rw [← scan_place0 (fun y : S44 => sameSet y.f0 a.f0) z44 l, ← scan_map (putL l a)]
  have e0 : putL l a (-1) = ins l a := by unfold putL; rw [if_neg (by omega)]
  rw [e0]
  refine scan_congr _ _ (fun j _ _ => ?_)
  by_cases c : sameSet (l.getD j z44).f0 a.f0 = true
  · simp only [if_pos c, Option.map_some]; unfold putL; rw [if_pos (by omega), toNat_nat]
  · simp only [if_neg c, Option.map_none]
theorem specJoinIn_l1 (g : S75) (a : S44) (h : WiGroup g) (ha : WiAlarm a) : Ev (fun k => spec_JoinIn.l1 k 0 g.f0 g.f1 g.f2 g.f3 g.f4 a.f0 a.f1 a.f2 a.f3 g.f0 g.f1 g.f2 g.f3 g.f4 a.f0 a.f1 a.f2 a.f3) (g.f0, g.f1, g.f2, g.f3, ins g.f4 a) := by
  have hl := h.2.2.2.2
  have h1 := hl.1
  unfold ins
  rw [← scan_map (fun r : List S44 => (g.f0, g.f1, g.f2, g.f3, r))]
  refine scan_ev2 (F := fun k i => spec_JoinIn.l1 k i g.f0 g.f1 g.f2 g.f3 g.f4 a.f0 a.f1 a.f2 a.f3 g.f0 g.f1 g.f2 g.f3 g.f4 a.f0 a.f1 a.f2 a.f3) (n := g.f4.length) ?_ (fun i hi => ?_) g.f4.length 0 (by omega)
  · obtain ⟨K, g1⟩ := specBehind_ev (fun r : List S44 => (g.f0, g.f1, g.f2, g.f3, r)) g.f4 a g.f4.length (Nat.le_refl _) hl
    refine ⟨K, fun k hk => ?_⟩
    have e := g1 k hk
    simp only at e
    simp only [spec_JoinIn.l1]
    rw [if_neg (by omega), if_pos (by omega), if_pos (by omega)]
    exact e
  · obtain ⟨K1, g1⟩ := specSetLess_ev a.f0 (g.f4.getD i z44).f0 (by have := ha.1.1; omega)
    obtain ⟨K2, g2⟩ := specBehind_ev (fun r : List S44 => (g.f0, g.f1, g.f2, g.f3, r)) g.f4 a i (by omega) hl
    refine ⟨K1 + K2, fun k hk => ?_⟩
    have e1 := g1 k (by omega)
    have e2 := g2 k (by omega)
    simp only at e1 e2
    simp only [spec_JoinIn.l1]
    rw [if_pos (by omega), if_pos (by omega), rdnAlarm, e1]
    simp only [Option.bind_some]
    unfold insStep
    by_cases c : setLess a.f0 (g.f4.getD i z44).f0 = true
    · rw [if_pos c, if_pos c, if_pos (by omega)]; exact e2
    · rw [if_neg c, if_neg c, wrap_up i (by omega)]; rfl
theorem specJoinIn_ev (g : S75) (a : S44) (h : WiGroup g) (ha : WiAlarm a) : Ev (fun k => spec_JoinIn.f k g.f0 g.f1 g.f2 g.f3 g.f4 a.f0 a.f1 a.f2 a.f3) ((joinIn g a).f0, (joinIn g a).f1, (joinIn g a).f2, (joinIn g a).f3, (joinIn g a).f4) := by
  have hl := h.2.2.2.2
  have h1 := hl.1
  obtain ⟨o1, o2⟩ := okA hl
  obtain ⟨K1, g1⟩ := specL4All_ev g.f4 o1 o2
  have hs : Ev (fun k => spec_JoinIn.l0 k 0 g.f0 g.f1 g.f2 g.f3 g.f4 a.f0 a.f1 a.f2 a.f3 g.f0 g.f1 g.f2 g.f3 g.f4 a.f0 a.f1 a.f2 a.f3) (g.f0, g.f1, g.f2, g.f3, putL g.f4 a (labelsAt g.f4 a.f0)) := by
    rw [putL_scan, ← scan_map (fun r : List S44 => (g.f0, g.f1, g.f2, g.f3, r))]
    refine scan_ev2 (F := fun k i => spec_JoinIn.l0 k i g.f0 g.f1 g.f2 g.f3 g.f4 a.f0 a.f1 a.f2 a.f3 g.f0 g.f1 g.f2 g.f3 g.f4 a.f0 a.f1 a.f2 a.f3) (n := g.f4.length) ?_ (fun i hi => ?_) g.f4.length 0 (by omega)
    · obtain ⟨K, g2⟩ := specJoinIn_l1 g a h ha
      refine ⟨K, fun k hk => ?_⟩
      have e := g2 k hk
      simp only at e
      simp only [spec_JoinIn.l0]
      rw [if_neg (by omega)]
      exact e
    · have hw := (hl.2 _ (getD_mem g.f4 i z44 hi)).1.1
      obtain ⟨K2, g2⟩ := specSameSet_ev (g.f4.getD i z44).f0 a.f0 (by omega)
      refine ⟨K2, fun k hk => ?_⟩
      have e := g2 k hk
      simp only at e
      simp only [spec_JoinIn.l0]
      rw [if_pos (by omega), if_pos (by omega), rdnAlarm, e]
      simp only [Option.bind_some]
      by_cases c : sameSet (g.f4.getD i z44).f0 a.f0 = true
      · rw [if_pos c, if_pos c, if_pos (by omega), toNat_nat]; rfl
      · rw [if_neg c, if_neg c, wrap_up i (by omega)]; rfl
  obtain ⟨K2, g2⟩ := hs
  refine ⟨K1 + K2, fun k hk => ?_⟩
  have e1 := g1 k (by omega)
  have e2 := g2 k (by omega)
  simp only at e1 e2
  have hk2 := h.2.1.1
  unfold spec_JoinIn.f spec_l11Copy.f
  simp only [Option.bind_some, List.nil_append, List.length_nil, e1, specL4Copy_ev a (Nat.le_trans ha.1.1 (by decide))]
  rw [if_pos (by omega)]
  simp only [Option.bind_some]
  exact e2
theorem rdnString3 (l : List ByteArray) (i : Nat) : rdOf ByteArray.empty l (i : Int) = l.getD i ByteArray.empty := by unfold rdOf; simp
def hasText (l : List ByteArray) (s : ByteArray) : Bool := l.any (fun t => decide (t.toList = s.toList))
theorem scan_any {α : Type} (p : α → Bool) (z : α) : ∀ (suf pre : List α), scan (fun i => if p ((pre ++ suf).getD i z) = true then some true else none) false suf.length pre.length = suf.any p
  | [], pre => by simp [scan]
  | y :: suf, pre => by
    have ih := scan_any p z suf (pre ++ [y])
    simp only [List.append_assoc, List.singleton_append, List.length_append, List.length_singleton] at ih
    simp only [List.length_cons, scan]
    rw [show (pre ++ y :: suf).getD pre.length z = y by simp]
    by_cases hp : p y = true
    · simp [hp]
    · simp only [if_neg hp]; rw [ih]; simp [hp]
theorem scan_any0 {α : Type} (p : α → Bool) (z : α) (l : List α) : scan (fun i => if p (l.getD i z) = true then some true else none) false l.length 0 = l.any p := scan_any p z l []
theorem implHasText_ev (l : List ByteArray) (s : ByteArray) (h : l.length < 4611686018427387904) : Ev (fun k => impl_hasText.f k l s) (hasText l s) := by
  unfold impl_hasText.f hasText
  rw [← scan_any0 (fun t : ByteArray => decide (t.toList = s.toList)) ByteArray.empty l]
  refine scan_ev (F := fun k i => impl_hasText.l0 k s l (l.length : Int) i) (n := l.length) (fun k => ?_) (fun i hi => ⟨0, fun k _ => ?_⟩) l.length 0 (by omega)
  · simp only [impl_hasText.l0]; rw [if_neg (by omega)]
  · simp only [impl_hasText.l0]
    rw [if_pos (by omega), if_pos (by omega), if_pos (by omega), rdnString3, wrap_up i (by omega)]
    by_cases hc : (l.getD i ByteArray.empty).toList = s.toList
    · rw [if_pos hc, if_pos (decide_eq_true hc)]; rfl
    · rw [if_neg hc, if_neg (by simpa using hc)]; rfl
theorem specHas_ev (l : List ByteArray) (s : ByteArray) (h : l.length < 4611686018427387904) : Ev (fun k => spec_l5Has.f k l s) (hasText l s) := by
  unfold spec_l5Has.f hasText
  rw [← scan_any0 (fun t : ByteArray => decide (t.toList = s.toList)) ByteArray.empty l]
  refine scan_ev (F := fun k i => spec_l5Has.l0 k l s i) (n := l.length) (fun k => ?_) (fun i hi => ⟨0, fun k _ => ?_⟩) l.length 0 (by omega)
  · simp only [spec_l5Has.l0]; rw [if_neg (by omega)]
  · simp only [spec_l5Has.l0]
    rw [if_pos (by omega), if_pos (by omega), rdnString3, wrap_up i (by omega)]
    by_cases hc : (l.getD i ByteArray.empty).toList = s.toList
    · rw [if_pos hc, if_pos (decide_eq_true hc)]; rfl
    · rw [if_neg hc, if_neg (by simpa using hc)]; rfl
def project (l : List S164) (b : List ByteArray) : List S164 := l.filter (fun x => hasText b x.f0)
theorem implProject_l0 (b : List ByteArray) (hb : b.length < 4611686018427387904) (x8 : List S164) (h : x8.length ≤ 4000000) : ∀ (suf pre acc : List S164), pre ++ suf = x8 → acc.length ≤ pre.length →
    Ev (fun k => impl_Project.l0 k b acc x8 (x8.length : Int) (pre.length : Int)) (acc ++ project suf b)
  | [], pre, acc, e, ha => by
    refine Ev.step (f := fun _ => some acc) (fun k => ?_) (by simpa [project] using Ev.now acc)
    simp only [impl_Project.l0]
    rw [if_neg (by rw [← e]; simp)]
  | y :: suf, pre, acc, e, ha => by
    have hl : pre.length < x8.length := by rw [← e]; simp
    have hg : x8.getD pre.length z164 = y := by rw [← e]; simp
    have g := implHasText_ev b y.f0 hb
    refine Ev.step (f := fun k => (impl_hasText.f k b y.f0).bind fun t => if t = true then impl_Project.l0 k b (acc ++ [y]) x8 (x8.length : Int) ((pre.length + 1 : Nat) : Int) else impl_Project.l0 k b acc x8 (x8.length : Int) ((pre.length + 1 : Nat) : Int)) (fun k => ?_) (Ev.bind g ?_)
    · simp only [impl_Project.l0]
      rw [if_pos (by omega), if_pos (by omega), if_pos (by omega), rdnLabel, hg, wrap_up _ (by omega), if_pos (by omega)]
    · cases hc : hasText b y.f0 with
      | true =>
        simp only [if_true]
        have ih := implProject_l0 b hb x8 h suf (pre ++ [y]) (acc ++ [y]) (by rw [← e]; simp) (by simp; omega)
        simpa [project, List.filter_cons, hc] using ih
      | false =>
        simp only [Bool.false_eq_true, if_false]
        have ih := implProject_l0 b hb x8 h suf (pre ++ [y]) acc (by rw [← e]; simp) (by simp; omega)
        simpa [project, List.filter_cons, hc] using ih
theorem implProject_ev (l : List S164) (b : List ByteArray) (h : l.length ≤ 4000000) (hb : b.length < 4611686018427387904) : Ev (fun k => impl_Project.f k l b) (project l b) := by
  unfold impl_Project.f
  exact implProject_l0 b hb l h l [] [] rfl (by simp)
theorem specProject_l0 (b : List ByteArray) (hb : b.length < 4611686018427387904) (x8 : List S164) (h : x8.length ≤ 4000000) : ∀ (suf pre acc : List S164), pre ++ suf = x8 → acc.length ≤ pre.length →
    Ev (fun k => spec_Project.l0 k x8 b acc (pre.length : Int)) (acc ++ project suf b)
  | [], pre, acc, e, ha => by
    refine Ev.step (f := fun _ => some acc) (fun k => ?_) (by simpa [project] using Ev.now acc)
    simp only [spec_Project.l0]
    rw [if_neg (by rw [← e]; simp)]
  | y :: suf, pre, acc, e, ha => by
    have hl : pre.length < x8.length := by rw [← e]; simp
    have hg : x8.getD pre.length z164 = y := by rw [← e]; simp
    have g := specHas_ev b y.f0 hb
    refine Ev.step (f := fun k => (spec_l5Has.f k b y.f0).bind fun t => if t = true then spec_Project.l0 k x8 b (acc ++ [y]) ((pre.length + 1 : Nat) : Int) else spec_Project.l0 k x8 b acc ((pre.length + 1 : Nat) : Int)) (fun k => ?_) (Ev.bind g ?_)
    · simp only [spec_Project.l0]
      rw [if_pos (by omega), if_pos (by omega), rdnLabel, hg, wrap_up _ (by omega), if_pos (by omega)]
    · cases hc : hasText b y.f0 with
      | true =>
        simp only [if_true]
        have ih := specProject_l0 b hb x8 h suf (pre ++ [y]) (acc ++ [y]) (by rw [← e]; simp) (by simp; omega)
        simpa [project, List.filter_cons, hc] using ih
      | false =>
        simp only [Bool.false_eq_true, if_false]
        have ih := specProject_l0 b hb x8 h suf (pre ++ [y]) acc (by rw [← e]; simp) (by simp; omega)
        simpa [project, List.filter_cons, hc] using ih
theorem specProject_ev (l : List S164) (b : List ByteArray) (h : l.length ≤ 4000000) (hb : b.length < 4611686018427387904) : Ev (fun k => spec_Project.f k l b) (project l b) := by
  unfold spec_Project.f
  exact specProject_l0 b hb l h l [] [] rfl (by simp)
theorem implKeyOf_ev (x : S44) (b : List ByteArray) (h : x.f0.length ≤ 4000000) (hb : b.length < 4611686018427387904) : Ev (fun k => impl_KeyOf.f k x.f0 x.f1 x.f2 x.f3 b) (project x.f0 b) := by
  unfold impl_KeyOf.f
  exact Ev.bind (implProject_ev x.f0 b h hb) (Ev.now _)
theorem specKeyOf_ev (x : S44) (b : List ByteArray) (h : x.f0.length ≤ 4000000) (hb : b.length < 4611686018427387904) : Ev (fun k => spec_KeyOf.f k x.f0 x.f1 x.f2 x.f3 b) (project x.f0 b) := by
  unfold spec_KeyOf.f
  exact Ev.bind (specProject_ev x.f0 b h hb) (Ev.now _)
theorem rdnGroup (l : List S75) (i : Nat) : rd_T75 l (i : Int) = l.getD i z75 := by unfold rd_T75; simp
def groupOf (l : List S75) (key : List S164) : Int := place (fun g => sameSet g.f1 key) l 0
theorem implGroupOf_ev (l : List S75) (key : List S164) (h : l.length ≤ 4000000 ∧ ∀ y ∈ l, WiGroup y) : Ev (fun k => impl_GroupOf.f k l key) (groupOf l key) := by
  have h1 := h.1
  unfold impl_GroupOf.f groupOf
  rw [← scan_place0 (fun g : S75 => sameSet g.f1 key) z75 l]
  refine scan_ev (F := fun k i => impl_GroupOf.l0 k key l (l.length : Int) i) (n := l.length) (fun k => ?_) (fun i hi => ?_) l.length 0 (by omega)
  · simp only [impl_GroupOf.l0]; rw [if_neg (by omega)]
  · have hw := (h.2 _ (getD_mem l i z75 hi)).2.1.1
    obtain ⟨K, g⟩ := implSameSet_ev (l.getD i z75).f1 key (by omega)
    refine ⟨K, fun k hk => ?_⟩
    have e := g k hk
    simp only at e
    simp only [impl_GroupOf.l0]
    rw [if_pos (by omega), if_pos (by omega), if_pos (by omega), rdnGroup, e, Option.bind_some, wrap_up i (by omega)]
    cases sameSet (l.getD i z75).f1 key <;> simp [goOn]
theorem specGroupOf_ev (l : List S75) (key : List S164) (h : l.length ≤ 4000000 ∧ ∀ y ∈ l, WiGroup y) : Ev (fun k => spec_GroupOf.f k l key) (groupOf l key) := by
  have h1 := h.1
  unfold spec_GroupOf.f groupOf
  rw [← scan_place0 (fun g : S75 => sameSet g.f1 key) z75 l]
  refine scan_ev (F := fun k i => spec_GroupOf.l0 k l key i) (n := l.length) (fun k => ?_) (fun i hi => ?_) l.length 0 (by omega)
  · simp only [spec_GroupOf.l0]; rw [if_neg (by omega)]
  · have hw := (h.2 _ (getD_mem l i z75 hi)).2.1.1
    obtain ⟨K, g⟩ := specSameSet_ev (l.getD i z75).f1 key (by omega)
    refine ⟨K, fun k hk => ?_⟩
    have e := g k hk
    simp only at e
    simp only [spec_GroupOf.l0]
    rw [if_pos (by omega), if_pos (by omega), rdnGroup, e, Option.bind_some, wrap_up i (by omega)]
    cases sameSet (l.getD i z75).f1 key <;> simp [goOn]
def joinAll (l : List S75) (a : S44) (b : List ByteArray) (n now : Int) : List S75 × Bool :=
  if groupOf l (project a.f0 b) ≥ 0 then (l.set (groupOf l (project a.f0 b)).toNat (joinIn (l.getD (groupOf l (project a.f0 b)).toNat z75) a), false) else (l ++ [⟨n, project a.f0 b, now, -1, [a]⟩], true)
theorem rdmGroup (pre suf : List S75) (y : S75) : rd_T75 (pre ++ y :: suf) (pre.length : Int) = y := by unfold rd_T75; simp
theorem implCopyGroup_ev (g : S75) (h : WiGroup g) : Ev (fun k => impl_copyGroup.f k g.f0 g.f1 g.f2 g.f3 g.f4) (g.f0, g.f1, g.f2, g.f3, g.f4) := by
  obtain ⟨o1, o2⟩ := okA h.2.2.2.2
  obtain ⟨K, g1⟩ := implCopyAlarms_ev g.f4 o1 o2
  exact ⟨K, fun k hk => by simp only [impl_copyGroup.f, implCopySet_ev g.f1 (Nat.le_trans h.2.1.1 (by decide)), Option.bind_some, g1 k hk]⟩
theorem specL11Copy_ev (g : S75) (h : WiGroup g) : Ev (fun k => spec_l11Copy.f k g.f0 g.f1 g.f2 g.f3 g.f4) (g.f0, g.f1, g.f2, g.f3, g.f4) := by
  obtain ⟨o1, o2⟩ := okA h.2.2.2.2
  obtain ⟨K, g1⟩ := specL4All_ev g.f4 o1 o2
  have h1 := h.2.1.1
  refine ⟨K, fun k hk => ?_⟩
  have e := g1 k hk
  simp only at e
  simp only [spec_l11Copy.f, Option.bind_some, List.nil_append, List.length_nil, e]
  exact if_pos (by omega)
theorem implCopyGroups_l0 : ∀ (suf pre acc : List S75), (pre ++ suf).length ≤ 5000000 → acc.length = pre.length → (∀ y ∈ suf, WiGroup y) →
    Ev (fun k => impl_copyGroups.l0 k acc (pre ++ suf) ((pre ++ suf).length : Int) (pre.length : Int)) (acc ++ suf)
  | [], pre, acc, h, hl, hW => by
    refine Ev.step (f := fun _ => some (acc ++ ([] : List S75))) (fun k => ?_) (Ev.now _)
    simp only [impl_copyGroups.l0]
    rw [if_neg (by simp)]
    simp
  | y :: suf, pre, acc, h, hl, hW => by
    obtain ⟨K, g⟩ := implCopyGroups_l0 suf (pre ++ [y]) (acc ++ [y]) (by simpa using h) (by simp [hl]) (fun z hz => hW z (List.mem_cons_of_mem _ hz))
    obtain ⟨K2, g2⟩ := implCopyGroup_ev y (hW y List.mem_cons_self)
    have hp : pre.length < 5000000 := by simp at h; omega
    refine ⟨K + K2 + 1, fun k hk => ?_⟩
    obtain ⟨k, rfl⟩ : ∃ m, k = m + 1 := ⟨k - 1, by omega⟩
    have e := g k (by omega)
    have e2 := g2 k (by omega)
    simp only at e e2
    rw [← mid_assoc pre suf y] at e
    simp only [impl_copyGroups.l0]
    rw [if_pos (lt_mid pre suf y)]
    simp only [nn, if_true, rdmGroup, wrap_up pre.length (by omega)]
    rw [if_pos (lt_mid pre suf y), e2]
    simp only [Option.bind_some]
    rw [if_pos (by omega), show ((pre.length + 1 : Nat) : Int) = ((pre ++ [y]).length : Int) by simp, e]
    simp
theorem implCopyGroups_ev (l : List S75) (h : l.length ≤ 4000000 ∧ ∀ y ∈ l, WiGroup y) : Ev (fun k => impl_copyGroups.f k l) l :=
  Ev.congr (fun k => by unfold impl_copyGroups.f; rfl) (by simpa using implCopyGroups_l0 l [] [] (by have := h.1; simp; omega) rfl h.2)
theorem specCopyGroups_l0 : ∀ (suf pre acc : List S75), (pre ++ suf).length ≤ 5000000 → acc.length = pre.length → (∀ y ∈ suf, WiGroup y) →
    Ev (fun k => spec_l12Copy.l0 k (pre ++ suf) acc (pre.length : Int)) (acc ++ suf)
  | [], pre, acc, h, hl, hW => by
    refine Ev.step (f := fun _ => some (acc ++ ([] : List S75))) (fun k => ?_) (Ev.now _)
    simp only [spec_l12Copy.l0]
    rw [if_neg (not_lt_end pre)]
    simp
  | y :: suf, pre, acc, h, hl, hW => by
    obtain ⟨K, g⟩ := specCopyGroups_l0 suf (pre ++ [y]) (acc ++ [y]) (by simpa using h) (by simp [hl]) (fun z hz => hW z (List.mem_cons_of_mem _ hz))
    obtain ⟨K2, g2⟩ := specL11Copy_ev y (hW y List.mem_cons_self)
    have hp : pre.length < 5000000 := by simp at h; omega
    refine ⟨K + K2 + 1, fun k hk => ?_⟩
    obtain ⟨k, rfl⟩ : ∃ m, k = m + 1 := ⟨k - 1, by omega⟩
    have e := g k (by omega)
    have e2 := g2 k (by omega)
    simp only at e e2
    rw [← mid_assoc pre suf y] at e
    simp only [spec_l12Copy.l0]
    rw [if_pos (lt_mid pre suf y)]
    simp only [nn, if_true, rdmGroup, wrap_up pre.length (by omega)]
    rw [e2]
    simp only [Option.bind_some]
    rw [if_pos (by omega), show ((pre.length + 1 : Nat) : Int) = ((pre ++ [y]).length : Int) by simp, e]
    simp
theorem specCopyGroups_ev (l : List S75) (h : l.length ≤ 4000000 ∧ ∀ y ∈ l, WiGroup y) : Ev (fun k => spec_l12Copy.f k l) l :=
  Ev.congr (fun k => by unfold spec_l12Copy.f; rfl) (by simpa using specCopyGroups_l0 l [] [] (by have := h.1; simp; omega) rfl h.2)
theorem groupOf_lt (l : List S75) (s : List S164) (h : groupOf l s ≥ 0) : groupOf l s < (l.length : Int) := by
  have := place_hi (fun g : S75 => sameSet g.f1 s) l 0
  unfold groupOf at *
  by_cases c : l.length = 0
  · have hl : l = [] := List.eq_nil_of_length_eq_zero c
    subst hl; simp [place] at h
  · rw [if_neg c] at this; omega
theorem implJoinAll_ev (l : List S75) (a : S44) (b : List ByteArray) (n now : Int) (h : l.length ≤ 4000000 ∧ ∀ y ∈ l, WiGroup y) (ha : WiAlarm a) (hb : b.length ≤ 4000000) : Ev (fun k => impl_JoinAll.f k l a.f0 a.f1 a.f2 a.f3 b n now) (joinAll l a b n now) := by
  obtain ⟨K1, g1⟩ := implCopyGroups_ev l h
  obtain ⟨K2, g2⟩ := implKeyOf_ev a b ha.1.1 (by omega)
  obtain ⟨K3, g3⟩ := implGroupOf_ev l (project a.f0 b) h
  have hlt := groupOf_lt l (project a.f0 b)
  unfold joinAll
  generalize ht : groupOf l (project a.f0 b) = t at *
  by_cases c : t ≥ 0
  · obtain ⟨i, rfl⟩ : ∃ i : Nat, t = (i : Int) := ⟨t.toNat, by omega⟩
    have hi := hlt c
    obtain ⟨K4, g4⟩ := implJoinIn_ev (l.getD i z75) a (h.2 _ (getD_mem l i z75 (by omega))) ha
    refine ⟨K1 + K2 + K3 + K4, fun k hk => ?_⟩
    have e1 := g1 k (by omega)
    have e2 := g2 k (by omega)
    have e3 := g3 k (by omega)
    have e4 := g4 k (by omega)
    simp only at e1 e2 e3 e4
    simp only [impl_JoinAll.f, e1, e2, e3, Option.bind_some, rdnGroup, e4, toNat_nat]
    rw [if_pos c, if_pos c, if_pos (by omega), if_pos (by omega), if_pos c]
  · refine ⟨K1 + K2 + K3, fun k hk => ?_⟩
    have e1 := g1 k (by omega)
    have e2 := g2 k (by omega)
    have e3 := g3 k (by omega)
    have hl := h.1
    simp only at e1 e2 e3
    simp only [impl_JoinAll.f, e1, e2, e3, Option.bind_some, implCopyAlarm_ev a (Nat.le_trans ha.1.1 (by decide))]
    rw [if_neg c, if_pos (by omega), if_neg c]
theorem specJoinAll_ev (l : List S75) (a : S44) (b : List ByteArray) (n now : Int) (h : l.length ≤ 4000000 ∧ ∀ y ∈ l, WiGroup y) (ha : WiAlarm a) (hb : b.length ≤ 4000000) : Ev (fun k => spec_JoinAll.f k l a.f0 a.f1 a.f2 a.f3 b n now) (joinAll l a b n now) := by
  obtain ⟨K1, g1⟩ := specCopyGroups_ev l h
  obtain ⟨K2, g2⟩ := specKeyOf_ev a b ha.1.1 (by omega)
  obtain ⟨K3, g3⟩ := specGroupOf_ev l (project a.f0 b) h
  have hlt := groupOf_lt l (project a.f0 b)
  unfold joinAll
  generalize ht : groupOf l (project a.f0 b) = t at *
  by_cases c : t ≥ 0
  · obtain ⟨i, rfl⟩ : ∃ i : Nat, t = (i : Int) := ⟨t.toNat, by omega⟩
    have hi := hlt c
    obtain ⟨K4, g4⟩ := specJoinIn_ev (l.getD i z75) a (h.2 _ (getD_mem l i z75 (by omega))) ha
    refine ⟨K1 + K2 + K3 + K4, fun k hk => ?_⟩
    have e1 := g1 k (by omega)
    have e2 := g2 k (by omega)
    have e3 := g3 k (by omega)
    have e4 := g4 k (by omega)
    simp only at e1 e2 e3 e4
    simp only [spec_JoinAll.f, e1, e2, e3, Option.bind_some, rdnGroup, e4, toNat_nat]
    rw [if_pos c, if_pos c, if_pos (by omega), if_pos (by omega), if_pos c]
  · refine ⟨K1 + K2 + K3, fun k hk => ?_⟩
    have e1 := g1 k (by omega)
    have e2 := g2 k (by omega)
    have e3 := g3 k (by omega)
    have hl := h.1
    simp only at e1 e2 e3
    simp only [spec_JoinAll.f, e1, e2, e3, Option.bind_some, specL4Copy_ev a (Nat.le_trans ha.1.1 (by decide))]
    rw [if_neg c, if_pos (by omega), if_neg c]
theorem project_le (l : List S164) (b : List ByteArray) : (project l b).length ≤ l.length := List.length_filter_le _ _
theorem joinAll_wi {l : List S75} {a : S44} {b : List ByteArray} {n now : Int} (hl : l.length ≤ 1048576) (hg : ∀ y ∈ l, y.f4.length ≤ 1048576) (h : ∀ y ∈ l, WiGroup y) (ha : WiAlarm a) : (joinAll l a b n now).1.length ≤ 4000000 ∧ ∀ y ∈ (joinAll l a b n now).1, WiGroup y := by
  have hlt := groupOf_lt l (project a.f0 b)
  unfold joinAll
  by_cases c : groupOf l (project a.f0 b) ≥ 0
  · rw [if_pos c]
    have hm := getD_mem l (groupOf l (project a.f0 b)).toNat z75 (by have := hlt c; omega)
    refine ⟨by show (l.set _ _).length ≤ _; rw [List.length_set]; omega, fun y hy => ?_⟩
    rcases List.mem_or_eq_of_mem_set hy with hy | rfl
    · exact h y hy
    · exact joinIn_wi (hg _ hm) (h _ hm) ha
  · rw [if_neg c]
    refine ⟨by show (l ++ [_]).length ≤ _; rw [List.length_append, List.length_singleton]; omega, fun y hy => ?_⟩
    rcases List.mem_append.1 hy with hy | hy
    · exact h y hy
    · rw [List.mem_singleton.1 hy]
      refine ⟨trivial, ⟨Nat.le_trans (project_le _ _) ha.1.1, fun z hz => ha.1.2 z (List.mem_filter.1 hz).1⟩, trivial, trivial, by show (1 : Nat) ≤ 4000000; decide, fun z hz => ?_⟩
      rw [List.mem_singleton.1 hz]; exact ha
theorem cnAlarms_append : ∀ (x y : List S44), cnAlarms (x ++ y) = cnAlarms x + cnAlarms y
  | [], y => by simp [cnAlarms]
  | z :: xs, y => by have := cnAlarms_append xs y; simp only [List.cons_append, cnAlarms]; omega
theorem cnAlarms_set (a : S44) : ∀ (l : List S44) (i : Nat), cnAlarms (l.set i a) ≤ cnAlarms l + cnAlarms [a]
  | [], i => by simp [cnAlarms]
  | z :: xs, 0 => by simp only [List.set_cons_zero, cnAlarms]; omega
  | z :: xs, i + 1 => by have := cnAlarms_set a xs i; simp only [List.set_cons_succ, cnAlarms] at *; omega
theorem cnAlarms_ins (l : List S44) (a : S44) : cnAlarms (ins l a) ≤ cnAlarms l + cnAlarms [a] := by
  have hi : ∀ i, cnAlarms (insAt l a i) ≤ cnAlarms l + cnAlarms [a] := fun i => by
    have e : cnAlarms l = cnAlarms (l.take i) + cnAlarms (l.drop i) := by rw [← cnAlarms_append, List.take_append_drop]
    unfold insAt; rw [cnAlarms_append, cnAlarms_append]; omega
  exact scan_or (fun r => cnAlarms r ≤ cnAlarms l + cnAlarms [a]) (hi _) (fun i r h => by
    unfold insStep at h
    by_cases c : setLess a.f0 (l.getD i z44).f0 = true
    · rw [if_pos c] at h; cases h; exact hi i
    · rw [if_neg c] at h; cases h) _ _
theorem cnJoinIn (g : S75) (a : S44) : cnAlarms (joinIn g a).f4 ≤ cnAlarms g.f4 + cnAlarms [a] := by
  show cnAlarms (putL _ _ _) ≤ _
  unfold putL
  split
  · exact cnAlarms_set a _ _
  · exact cnAlarms_ins _ a
theorem cnGroups_append : ∀ (x y : List S75), cnGroups (x ++ y) = cnGroups x + cnGroups y
  | [], y => by simp [cnGroups]
  | z :: xs, y => by have := cnGroups_append xs y; simp only [List.cons_append, cnGroups]; omega
theorem cnGroups_set (a : S44) : ∀ (l : List S75) (i : Nat), i < l.length → cnGroups (l.set i (joinIn (l.getD i z75) a)) ≤ cnGroups l + cnAlarms [a]
  | [], i, h => by simp at h
  | z :: xs, 0, h => by
    have h1 := cnJoinIn z a
    have h2 : (joinIn z a).f1 = z.f1 := rfl
    simp only [List.set_cons_zero, List.getD_cons_zero, cnGroups]
    rw [h2]; omega
  | z :: xs, i + 1, h => by
    have := cnGroups_set a xs i (by simpa using h)
    simp only [List.set_cons_succ, List.getD_cons_succ, cnGroups] at *; omega
theorem cnJoinAll_le {l : List S75} {a : S44} {b : List ByteArray} {n now : Int} (ha : WiAlarm a) (hc : cnGroups l ≤ 10000000) : cnGroups (joinAll l a b n now).1 ≤ 100000000 := by
  have hlt := groupOf_lt l (project a.f0 b)
  have h1 := cnLabels_wi ha.1
  have h2 : cnAlarms [a] ≤ 8000003 := by simp only [cnAlarms]; omega
  unfold joinAll
  by_cases c : groupOf l (project a.f0 b) ≥ 0
  · rw [if_pos c]
    have := cnGroups_set a l (groupOf l (project a.f0 b)).toNat (by have := hlt c; omega)
    show cnGroups (l.set _ _) ≤ _
    omega
  · rw [if_neg c]
    show cnGroups (l ++ [_]) ≤ _
    have h3 : cnLabels (project a.f0 b) ≤ 8000000 := by rw [cnLabels_eq]; have := project_le a.f0 b; have := ha.1.1; omega
    rw [cnGroups_append]
    simp only [cnGroups]
    omega
def nnLabels : List S163 → Nat
  | [] => 0
  | _ :: ys => 1 + nnLabels ys
theorem szLabel_nn (x : S163) (hB : B163 x) (k : Nat) (n r : Int) (h : laws_szLabel.f x.f0 x.f1 n = some r) (hr : 0 ≤ r) (h0 : 0 ≤ n) (h1 : n ≤ 1048576) : r ≤ n ∧ ((0 : Nat) : Int) ≤ n - r := by
  unfold laws_szLabel.f at h
  have q1 : x.f0.size ≤ 9223372036854775807 := hB.1
  rw [show wrap64 (n - (x.f0.size : Int)) = n - (x.f0.size : Int) from wrap_id (by omega) (by omega)] at h
  by_cases c1 : n - (x.f0.size : Int) < 0
  · rw [if_pos c1] at h; injection h with h; omega
  rw [if_neg c1] at h
  have q2 : x.f1.size ≤ 9223372036854775807 := hB.2
  rw [show wrap64 ((n - (x.f0.size : Int)) - (x.f1.size : Int)) = (n - (x.f0.size : Int)) - (x.f1.size : Int) from wrap_id (by omega) (by omega)] at h
  by_cases c2 : (n - (x.f0.size : Int)) - (x.f1.size : Int) < 0
  · rw [if_pos c2] at h; injection h with h; omega
  rw [if_neg c2] at h
  injection h with h
  exact ⟨by omega, by omega⟩
theorem szLabelS_nn_l0 : ∀ (suf pre : List S163) (k : Nat) (n r : Int), (∀ y ∈ suf, B163 y) → (pre ++ suf).length < 4611686018427387904 → laws_szLabelS.l0 k (pre ++ suf) n (pre.length : Int) = some r → 0 ≤ r → 0 ≤ n → n ≤ 1048576 → r ≤ n ∧ (nnLabels suf : Int) ≤ n - r + suf.length
  | [], pre, k, n, r, hB, hl, h, hr, h0, h1 => by
    cases k with
    | zero => simp [laws_szLabelS.l0] at h
    | succ k =>
      simp only [laws_szLabelS.l0] at h
      rw [if_neg (not_lt_end pre)] at h
      injection h with h
      subst h
      exact ⟨Int.le_refl _, by simp [nnLabels]⟩
  | y :: suf, pre, k, n, r, hB, hl, h, hr, h0, h1 => by
    have hp : pre.length < 4611686018427387904 := by simp at hl; omega
    cases k with
    | zero => simp [laws_szLabelS.l0] at h
    | succ k =>
      simp only [laws_szLabelS.l0] at h
      rw [if_pos (lt_mid pre suf y), if_pos (nn _), rdmidLabell, wrap_up pre.length (by omega)] at h
      obtain ⟨t, e, h⟩ := Option.bind_eq_some_iff.mp h
      by_cases c : t < 0
      · rw [if_pos c] at h; injection h with h; omega
      rw [if_neg c, show pre ++ y :: suf = (pre ++ [y]) ++ suf by simp, show ((pre.length + 1 : Nat) : Int) = ((pre ++ [y]).length : Int) by simp] at h
      obtain ⟨l1, m1⟩ := szLabel_nn y (hB y List.mem_cons_self) k n t e (by omega) h0 h1
      obtain ⟨l2, m2⟩ := szLabelS_nn_l0 suf (pre ++ [y]) k t r (fun z hz => hB z (List.mem_cons_of_mem _ hz)) (by simpa using hl) h hr (by omega) (by omega)
      refine ⟨by omega, ?_⟩
      simp only [nnLabels, List.length_cons]
      push_cast at m1 ⊢
      omega
theorem szLabelS_nn (l : List S163) (hB : l.length ≤ maxLen ∧ ∀ y ∈ l, B163 y) (k : Nat) (n r : Int) (h : laws_szLabelS.f k l n = some r) (hr : 0 ≤ r) (h0 : 0 ≤ n) (h1 : n ≤ 1048576) : r ≤ n ∧ (nnLabels l : Int) ≤ n - r := by
  have q : l.length ≤ 9223372036854775807 := hB.1
  unfold laws_szLabelS.f at h
  rw [show wrap64 (n - (l.length : Int)) = n - (l.length : Int) from wrap_id (by omega) (by omega)] at h
  by_cases c : n - (l.length : Int) < 0
  · rw [if_pos c] at h; injection h with h; omega
  rw [if_neg c] at h
  obtain ⟨l1, m1⟩ := szLabelS_nn_l0 l [] k (n - (l.length : Int)) r hB.2 (by simp; omega) h hr (by omega) (by omega)
  exact ⟨by omega, by omega⟩
def nnAlarms : List S34 → Nat
  | [] => 0
  | y :: ys => 1 + nnLabels y.f0 + nnAlarms ys
theorem szAlarm_nn (x : S34) (hB : B34 x) (k : Nat) (n r : Int) (h : laws_szAlarm.f k x.f0 x.f1 x.f2 x.f3 n = some r) (hr : 0 ≤ r) (h0 : 0 ≤ n) (h1 : n ≤ 1048576) : r ≤ n ∧ ((nnLabels x.f0 : Nat) : Int) ≤ n - r := by
  unfold laws_szAlarm.f at h
  obtain ⟨t1, e1, h⟩ := Option.bind_eq_some_iff.mp h
  by_cases c1 : t1 < 0
  · rw [if_pos c1] at h; injection h with h; omega
  rw [if_neg c1] at h
  obtain ⟨l1, m1⟩ := szLabelS_nn x.f0 hB.1 k n t1 e1 (by omega) (by omega) (by omega)
  have q2 : x.f3.size ≤ 9223372036854775807 := hB.2.2.2
  rw [show wrap64 (t1 - (x.f3.size : Int)) = t1 - (x.f3.size : Int) from wrap_id (by omega) (by omega)] at h
  by_cases c2 : t1 - (x.f3.size : Int) < 0
  · rw [if_pos c2] at h; injection h with h; omega
  rw [if_neg c2] at h
  injection h with h
  exact ⟨by omega, by omega⟩
theorem szAlarmS_nn_l0 : ∀ (suf pre : List S34) (k : Nat) (n r : Int), (∀ y ∈ suf, B34 y) → (pre ++ suf).length < 4611686018427387904 → laws_szAlarmS.l0 k (pre ++ suf) n (pre.length : Int) = some r → 0 ≤ r → 0 ≤ n → n ≤ 1048576 → r ≤ n ∧ (nnAlarms suf : Int) ≤ n - r + suf.length
  | [], pre, k, n, r, hB, hl, h, hr, h0, h1 => by
    cases k with
    | zero => simp [laws_szAlarmS.l0] at h
    | succ k =>
      simp only [laws_szAlarmS.l0] at h
      rw [if_neg (not_lt_end pre)] at h
      injection h with h
      subst h
      exact ⟨Int.le_refl _, by simp [nnAlarms]⟩
  | y :: suf, pre, k, n, r, hB, hl, h, hr, h0, h1 => by
    have hp : pre.length < 4611686018427387904 := by simp at hl; omega
    cases k with
    | zero => simp [laws_szAlarmS.l0] at h
    | succ k =>
      simp only [laws_szAlarmS.l0] at h
      rw [if_pos (lt_mid pre suf y), if_pos (nn _), rdmidAlarml, wrap_up pre.length (by omega)] at h
      obtain ⟨t, e, h⟩ := Option.bind_eq_some_iff.mp h
      by_cases c : t < 0
      · rw [if_pos c] at h; injection h with h; omega
      rw [if_neg c, show pre ++ y :: suf = (pre ++ [y]) ++ suf by simp, show ((pre.length + 1 : Nat) : Int) = ((pre ++ [y]).length : Int) by simp] at h
      obtain ⟨l1, m1⟩ := szAlarm_nn y (hB y List.mem_cons_self) k n t e (by omega) h0 h1
      obtain ⟨l2, m2⟩ := szAlarmS_nn_l0 suf (pre ++ [y]) k t r (fun z hz => hB z (List.mem_cons_of_mem _ hz)) (by simpa using hl) h hr (by omega) (by omega)
      refine ⟨by omega, ?_⟩
      simp only [nnAlarms, List.length_cons]
      push_cast at m1 ⊢
      omega
theorem szAlarmS_nn (l : List S34) (hB : l.length ≤ maxLen ∧ ∀ y ∈ l, B34 y) (k : Nat) (n r : Int) (h : laws_szAlarmS.f k l n = some r) (hr : 0 ≤ r) (h0 : 0 ≤ n) (h1 : n ≤ 1048576) : r ≤ n ∧ (nnAlarms l : Int) ≤ n - r := by
  have q : l.length ≤ 9223372036854775807 := hB.1
  unfold laws_szAlarmS.f at h
  rw [show wrap64 (n - (l.length : Int)) = n - (l.length : Int) from wrap_id (by omega) (by omega)] at h
  by_cases c : n - (l.length : Int) < 0
  · rw [if_pos c] at h; injection h with h; omega
  rw [if_neg c] at h
  obtain ⟨l1, m1⟩ := szAlarmS_nn_l0 l [] k (n - (l.length : Int)) r hB.2 (by simp; omega) h hr (by omega) (by omega)
  exact ⟨by omega, by omega⟩
def nnGroups : List S69 → Nat
  | [] => 0
  | y :: ys => 1 + nnLabels y.f1 + nnAlarms y.f4 + nnGroups ys
theorem szGroup_nn (x : S69) (hB : B69 x) (k : Nat) (n r : Int) (h : laws_szGroup.f k x.f0 x.f1 x.f2 x.f3 x.f4 n = some r) (hr : 0 ≤ r) (h0 : 0 ≤ n) (h1 : n ≤ 1048576) : r ≤ n ∧ ((nnLabels x.f1 + nnAlarms x.f4 : Nat) : Int) ≤ n - r := by
  unfold laws_szGroup.f at h
  obtain ⟨t1, e1, h⟩ := Option.bind_eq_some_iff.mp h
  by_cases c1 : t1 < 0
  · rw [if_pos c1] at h; injection h with h; omega
  rw [if_neg c1] at h
  obtain ⟨l1, m1⟩ := szLabelS_nn x.f1 hB.2.1 k n t1 e1 (by omega) (by omega) (by omega)
  obtain ⟨t2, e2, h⟩ := Option.bind_eq_some_iff.mp h
  by_cases c2 : t2 < 0
  · rw [if_pos c2] at h; injection h with h; omega
  rw [if_neg c2] at h
  obtain ⟨l2, m2⟩ := szAlarmS_nn x.f4 hB.2.2.2.2 k t1 t2 e2 (by omega) (by omega) (by omega)
  injection h with h
  exact ⟨by omega, by omega⟩
theorem szGroupS_nn_l0 : ∀ (suf pre : List S69) (k : Nat) (n r : Int), (∀ y ∈ suf, B69 y) → (pre ++ suf).length < 4611686018427387904 → laws_szGroupS.l0 k (pre ++ suf) n (pre.length : Int) = some r → 0 ≤ r → 0 ≤ n → n ≤ 1048576 → r ≤ n ∧ (nnGroups suf : Int) ≤ n - r + suf.length
  | [], pre, k, n, r, hB, hl, h, hr, h0, h1 => by
    cases k with
    | zero => simp [laws_szGroupS.l0] at h
    | succ k =>
      simp only [laws_szGroupS.l0] at h
      rw [if_neg (not_lt_end pre)] at h
      injection h with h
      subst h
      exact ⟨Int.le_refl _, by simp [nnGroups]⟩
  | y :: suf, pre, k, n, r, hB, hl, h, hr, h0, h1 => by
    have hp : pre.length < 4611686018427387904 := by simp at hl; omega
    cases k with
    | zero => simp [laws_szGroupS.l0] at h
    | succ k =>
      simp only [laws_szGroupS.l0] at h
      rw [if_pos (lt_mid pre suf y), if_pos (nn _), rdmidGroupl, wrap_up pre.length (by omega)] at h
      obtain ⟨t, e, h⟩ := Option.bind_eq_some_iff.mp h
      by_cases c : t < 0
      · rw [if_pos c] at h; injection h with h; omega
      rw [if_neg c, show pre ++ y :: suf = (pre ++ [y]) ++ suf by simp, show ((pre.length + 1 : Nat) : Int) = ((pre ++ [y]).length : Int) by simp] at h
      obtain ⟨l1, m1⟩ := szGroup_nn y (hB y List.mem_cons_self) k n t e (by omega) h0 h1
      obtain ⟨l2, m2⟩ := szGroupS_nn_l0 suf (pre ++ [y]) k t r (fun z hz => hB z (List.mem_cons_of_mem _ hz)) (by simpa using hl) h hr (by omega) (by omega)
      refine ⟨by omega, ?_⟩
      simp only [nnGroups, List.length_cons]
      push_cast at m1 ⊢
      omega
theorem szGroupS_nn (l : List S69) (hB : l.length ≤ maxLen ∧ ∀ y ∈ l, B69 y) (k : Nat) (n r : Int) (h : laws_szGroupS.f k l n = some r) (hr : 0 ≤ r) (h0 : 0 ≤ n) (h1 : n ≤ 1048576) : r ≤ n ∧ (nnGroups l : Int) ≤ n - r := by
  have q : l.length ≤ 9223372036854775807 := hB.1
  unfold laws_szGroupS.f at h
  rw [show wrap64 (n - (l.length : Int)) = n - (l.length : Int) from wrap_id (by omega) (by omega)] at h
  by_cases c : n - (l.length : Int) < 0
  · rw [if_pos c] at h; injection h with h; omega
  rw [if_neg c] at h
  obtain ⟨l1, m1⟩ := szGroupS_nn_l0 l [] k (n - (l.length : Int)) r hB.2 (by simp; omega) h hr (by omega) (by omega)
  exact ⟨by omega, by omega⟩
theorem cnLabels_cv : ∀ l : List S163, cnLabels (l.map cvLabel) ≤ 6 * nnLabels l
  | [] => Nat.le_refl _
  | y :: ys => by
    have h0 := cnLabels_cv ys
    simp only [List.map_cons, cnLabels, nnLabels, cvLabel]
    omega
theorem cnAlarms_cv : ∀ l : List S34, cnAlarms (l.map cvAlarm) ≤ 6 * nnAlarms l
  | [] => Nat.le_refl _
  | y :: ys => by
    have h0 := cnAlarms_cv ys
    have h_0 := cnLabels_cv y.f0
    simp only [List.map_cons, cnAlarms, nnAlarms, cvAlarm]
    omega
theorem cnGroups_cv : ∀ l : List S69, cnGroups (l.map cvGroup) ≤ 6 * nnGroups l
  | [] => Nat.le_refl _
  | y :: ys => by
    have h0 := cnGroups_cv ys
    have h_1 := cnLabels_cv y.f1
    have h_4 := cnAlarms_cv y.f4
    simp only [List.map_cons, cnGroups, nnGroups, cvGroup]
    omega
end Go.Proofs.Ytfholjcelnkleaa.Print
end
section
/- The law FnExactJoinAll answers true for all arguments that can be read: the pure statement, without Go and memory. No condition. -/
namespace Go.Proofs.Ytfholjcelnkleaa.Print
open Go.RowKit Go.Proofs.YtfholjcelnkleaaV.PrintWords Go.Proofs.YtfholjcelnkleaaV.PrintLast Go.Proofs.YtfholjcelnkleaaV.PrintMore
set_option linter.unusedVariables false
set_option linter.unusedSimpArgs false
theorem pure_FnExactJoinAll : laws_FnExactJoinAll.Pure := by
  intro p0 p1_0 p1_1 p1_2 p1_3 p2 p3 p4 hp0 hp1_0 hp1_1 hp1_2 hp1_3 hp2 hp3 hp4
  obtain ⟨r0, ⟨K0, g0⟩, le0, w0⟩ := szGroupS_ev p0 hp0 1048576 (by omega) (by omega)
  simp only at g0
  by_cases c0 : r0 < 0
  · exact ⟨K0, by simp [laws_FnExactJoinAll.f, g0 (K0) (by omega), c0]⟩
  obtain ⟨nl0, nb0⟩ := szGroupS_nn p0 hp0 K0 1048576 r0 (g0 K0 (Nat.le_refl _)) (by omega) (by omega) (by omega)
  obtain ⟨r1, ⟨K1, g1⟩, le1, w1⟩ := szAlarm_ev (⟨p1_0, p1_1, p1_2, p1_3⟩ : S34) ⟨hp1_0, hp1_1, hp1_2, hp1_3⟩ r0 (by omega) (by omega)
  simp only at g1
  by_cases c1 : r1 < 0
  · exact ⟨K0 + K1, by simp [laws_FnExactJoinAll.f, g0 (K0 + K1) (by omega), c0, g1 (K0 + K1) (by omega), c1]⟩
  obtain ⟨nl1, nb1⟩ := szAlarm_nn (⟨p1_0, p1_1, p1_2, p1_3⟩ : S34) ⟨hp1_0, hp1_1, hp1_2, hp1_3⟩ K1 r0 r1 (g1 K1 (Nat.le_refl _)) (by omega) (by omega) (by omega)
  simp only at nb1
  obtain ⟨r2, ⟨K2, g2⟩, le2, w2⟩ := szStringS_ev p2 hp2 r1 (by omega) (by omega)
  simp only at g2
  by_cases c2 : r2 < 0
  · exact ⟨K0 + K1 + K2, by simp [laws_FnExactJoinAll.f, g0 (K0 + K1 + K2) (by omega), c0, g1 (K0 + K1 + K2) (by omega), c1, g2 (K0 + K1 + K2) (by omega), c2]⟩
  obtain ⟨g, hg, hw, hc⟩ : ∃ g, joinAll (p0.map cvGroup) (cvAlarm (⟨p1_0, p1_1, p1_2, p1_3⟩ : S34)) p2 p3 p4 = g ∧ (g.1.length ≤ 4000000 ∧ ∀ y ∈ g.1, WiGroup y) ∧ cnGroups g.1 ≤ 100000000 := ⟨_, rfl, joinAll_wi (by rw [List.length_map]; exact (w0 (by omega)).1) (fun y hy => by obtain ⟨z, hz, rfl⟩ := List.mem_map.1 hy; show (List.map cvAlarm _).length ≤ 1048576; rw [List.length_map]; exact ((w0 (by omega)).2 z hz).2.2.2.2.1) ((Wi_mapGroup (w0 (by omega)))).2 (Wi_cvAlarm (w1 (by omega))), cnJoinAll_le (Wi_cvAlarm (w1 (by omega))) (Nat.le_trans (cnGroups_cv p0) (by omega))⟩
  have b0 : cnGroups (p0.map cvGroup) ≤ 6 * nnGroups p0 := cnGroups_cv _
  have n0 : ((1 + (cnGroups (p0.map cvGroup) : Int)) < 0) = False := eq_false (by omega)
  have b1 : cnLabels (cvAlarm (⟨p1_0, p1_1, p1_2, p1_3⟩ : S34)).f0 ≤ 6 * nnLabels (⟨p1_0, p1_1, p1_2, p1_3⟩ : S34).f0 := cnLabels_cv _
  simp only at b1
  have n1 : (((1 + (cnGroups (p0.map cvGroup) : Int)) + (cnLabels (cvAlarm (⟨p1_0, p1_1, p1_2, p1_3⟩ : S34)).f0 : Int)) < 0) = False := eq_false (by omega)
  have b2 : p2.length ≤ 1048576 := (w2 (by omega)).1
  have n2 : ((((1 + (cnGroups (p0.map cvGroup) : Int)) + (cnLabels (cvAlarm (⟨p1_0, p1_1, p1_2, p1_3⟩ : S34)).f0 : Int)) + (p2.length : Int)) < 0) = False := eq_false (by omega)
  have b3 := hc
  have n3 : ((1 + (cnGroups g.1 : Int)) < 0) = False := eq_false (by omega)
  obtain ⟨L0, f0⟩ := toGroupS_ev p0 (w0 (by omega))
  obtain ⟨L1, f1⟩ := eqGroupS_ev (p0.map cvGroup) (Wi_mapGroup (w0 (by omega)))
  obtain ⟨L2, f2⟩ := toAlarm_ev (⟨p1_0, p1_1, p1_2, p1_3⟩ : S34) (w1 (by omega))
  obtain ⟨L3, f3⟩ := eqAlarm_ev (cvAlarm (⟨p1_0, p1_1, p1_2, p1_3⟩ : S34)) (Wi_cvAlarm (w1 (by omega)))
  obtain ⟨L4, f4⟩ := toStringS_ev p2 (w2 (by omega))
  obtain ⟨L5, f5⟩ := eqStringS_ev p2 (Wi_mapString (w2 (by omega)))
  obtain ⟨L6, f6⟩ := hg ▸ specJoinAll_ev (p0.map cvGroup) (cvAlarm (⟨p1_0, p1_1, p1_2, p1_3⟩ : S34)) p2 p3 p4 (Wi_mapGroup (w0 (by omega))) (Wi_cvAlarm (w1 (by omega))) ((Wi_mapString (w2 (by omega)))).1
  obtain ⟨L7, f7⟩ := hg ▸ implJoinAll_ev (p0.map cvGroup) (cvAlarm (⟨p1_0, p1_1, p1_2, p1_3⟩ : S34)) p2 p3 p4 (Wi_mapGroup (w0 (by omega))) (Wi_cvAlarm (w1 (by omega))) ((Wi_mapString (w2 (by omega)))).1
  obtain ⟨L8, f8⟩ := markGroupS_ev (p0.map cvGroup) 1 (by omega) (by omega)
  obtain ⟨L9, f9⟩ := markLabelS_ev (cvAlarm (⟨p1_0, p1_1, p1_2, p1_3⟩ : S34)).f0 (1 + (cnGroups (p0.map cvGroup) : Int)) (by omega) (by omega)
  obtain ⟨L10, f10⟩ := markStringS_ev p2 ((1 + (cnGroups (p0.map cvGroup) : Int)) + (cnLabels (cvAlarm (⟨p1_0, p1_1, p1_2, p1_3⟩ : S34)).f0 : Int)) (by omega) (by omega)
  obtain ⟨L11, f11⟩ := eqGroupS_ev g.1 hw
  obtain ⟨L12, f12⟩ := markGroupS_ev g.1 1 (by omega) (by omega)
  obtain ⟨L13, f13⟩ := heldGroupS_ev g.1 1 (by omega) (by omega)
  have G0 := fun m => g0 (K0 + K1 + K2 + L0 + L1 + L2 + L3 + L4 + L5 + L6 + L7 + L8 + L9 + L10 + L11 + L12 + L13 + m) (by omega)
  have G1 := fun m => g1 (K0 + K1 + K2 + L0 + L1 + L2 + L3 + L4 + L5 + L6 + L7 + L8 + L9 + L10 + L11 + L12 + L13 + m) (by omega)
  have G2 := fun m => g2 (K0 + K1 + K2 + L0 + L1 + L2 + L3 + L4 + L5 + L6 + L7 + L8 + L9 + L10 + L11 + L12 + L13 + m) (by omega)
  have F0 := fun m => f0 (K0 + K1 + K2 + L0 + L1 + L2 + L3 + L4 + L5 + L6 + L7 + L8 + L9 + L10 + L11 + L12 + L13 + m) (by omega)
  have F1 := fun m => f1 (K0 + K1 + K2 + L0 + L1 + L2 + L3 + L4 + L5 + L6 + L7 + L8 + L9 + L10 + L11 + L12 + L13 + m) (by omega)
  have F2 := fun m => f2 (K0 + K1 + K2 + L0 + L1 + L2 + L3 + L4 + L5 + L6 + L7 + L8 + L9 + L10 + L11 + L12 + L13 + m) (by omega)
  have F3 := fun m => f3 (K0 + K1 + K2 + L0 + L1 + L2 + L3 + L4 + L5 + L6 + L7 + L8 + L9 + L10 + L11 + L12 + L13 + m) (by omega)
  have F4 := fun m => f4 (K0 + K1 + K2 + L0 + L1 + L2 + L3 + L4 + L5 + L6 + L7 + L8 + L9 + L10 + L11 + L12 + L13 + m) (by omega)
  have F5 := fun m => f5 (K0 + K1 + K2 + L0 + L1 + L2 + L3 + L4 + L5 + L6 + L7 + L8 + L9 + L10 + L11 + L12 + L13 + m) (by omega)
  have F6 := fun m => f6 (K0 + K1 + K2 + L0 + L1 + L2 + L3 + L4 + L5 + L6 + L7 + L8 + L9 + L10 + L11 + L12 + L13 + m) (by omega)
  have F7 := fun m => f7 (K0 + K1 + K2 + L0 + L1 + L2 + L3 + L4 + L5 + L6 + L7 + L8 + L9 + L10 + L11 + L12 + L13 + m) (by omega)
  have F8 := fun m => f8 (K0 + K1 + K2 + L0 + L1 + L2 + L3 + L4 + L5 + L6 + L7 + L8 + L9 + L10 + L11 + L12 + L13 + m) (by omega)
  have F9 := fun m => f9 (K0 + K1 + K2 + L0 + L1 + L2 + L3 + L4 + L5 + L6 + L7 + L8 + L9 + L10 + L11 + L12 + L13 + m) (by omega)
  have F10 := fun m => f10 (K0 + K1 + K2 + L0 + L1 + L2 + L3 + L4 + L5 + L6 + L7 + L8 + L9 + L10 + L11 + L12 + L13 + m) (by omega)
  have F11 := fun m => f11 (K0 + K1 + K2 + L0 + L1 + L2 + L3 + L4 + L5 + L6 + L7 + L8 + L9 + L10 + L11 + L12 + L13 + m) (by omega)
  have F12 := fun m => f12 (K0 + K1 + K2 + L0 + L1 + L2 + L3 + L4 + L5 + L6 + L7 + L8 + L9 + L10 + L11 + L12 + L13 + m) (by omega)
  have F13 := fun m => f13 (K0 + K1 + K2 + L0 + L1 + L2 + L3 + L4 + L5 + L6 + L7 + L8 + L9 + L10 + L11 + L12 + L13 + m) (by omega)
  simp only at F0 F1 F2 F3 F4 F5 F6 F7 F8 F9 F10 F11 F12 F13
  exact ⟨K0 + K1 + K2 + L0 + L1 + L2 + L3 + L4 + L5 + L6 + L7 + L8 + L9 + L10 + L11 + L12 + L13 + 3, by simp [laws_FnExactJoinAll.f, laws_markAlarm.f, G0, G1, G2, F0, F1, F2, F3, F4, F5, F6, F7, F8, F9, F10, F11, F12, F13, c0, c1, c2, n0, n1, n2, n3]⟩

end Go.Proofs.Ytfholjcelnkleaa.Print
end
