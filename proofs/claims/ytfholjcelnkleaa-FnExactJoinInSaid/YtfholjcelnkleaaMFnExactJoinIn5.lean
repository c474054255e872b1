import Derived.Test.YtfholjcelnkleaaMFnExactJoinIn1
import Derived.Test.YtfholjcelnkleaaMFnExactJoinIn3
import Derived.Test.YtfholjcelnkleaaMFnExactJoinIn4
section
namespace Go.Proofs.Ytfholjcelnkleaa.Print
open Go.RowKit Go.Proofs.YtfholjcelnkleaaV.PrintWords Go.Proofs.YtfholjcelnkleaaV.PrintLast Go.Proofs.YtfholjcelnkleaaV.PrintMore
attribute [local go_sem] max2_int min2_int max_two min_two max_three min_three max_four min_four
set_option linter.unusedVariables false
set_option linter.unusedSimpArgs false
set_option maxHeartbeats 8000000
set_option maxRecDepth 100000
def laws_FnExactJoinIn.f (k : Nat) (a0_0 : Int) (l0_1 : List (S163)) (a0_2 : Int) (a0_3 : Int) (l0_4 : List (S34)) (l1_0 : List (S163)) (a1_1 : Int) (a1_2 : Int) (a1_3 : ByteArray) : Option (Bool) := (laws_szGroup.f k a0_0 l0_1 a0_2 a0_3 l0_4 1048576).bind fun t1060 => (if t1060 < 0 then (some true) else ((laws_szAlarm.f k l1_0 a1_1 a1_2 a1_3 t1060).bind fun t1061 => (if t1061 < 0 then (some true) else ((laws_toGroup.f k a0_0 l0_1 a0_2 a0_3 l0_4).bind fun bt1062 => ((laws_toAlarm.f k l1_0 a1_1 a1_2 a1_3).bind fun bt1071 => ((spec_JoinIn.f k bt1062.1 bt1062.2.1 bt1062.2.2.1 bt1062.2.2.2.1 bt1062.2.2.2.2 bt1071.1 bt1071.2.1 bt1071.2.2.1 bt1071.2.2.2).bind fun bt1077 => ((laws_toGroup.f k a0_0 l0_1 a0_2 a0_3 l0_4).bind fun bt1087 => ((laws_toAlarm.f k l1_0 a1_1 a1_2 a1_3).bind fun bt1097 => ((impl_JoinIn.f k bt1087.1 bt1087.2.1 bt1087.2.2.1 bt1087.2.2.2.1 bt1087.2.2.2.2 bt1097.1 bt1097.2.1 bt1097.2.2.1 bt1097.2.2.2).bind fun bt1104 => ((laws_eqGroup.f k bt1104.1 bt1104.2.1 bt1104.2.2.1 bt1104.2.2.2.1 bt1104.2.2.2.2 bt1077.1 bt1077.2.1 bt1077.2.2.1 bt1077.2.2.2.1 bt1077.2.2.2.2).bind fun t1114 => (if t1114 = true then ((laws_toGroup.f k a0_0 l0_1 a0_2 a0_3 l0_4).bind fun bt1115 => ((laws_eqGroup.f k bt1087.1 bt1087.2.1 bt1087.2.2.1 bt1087.2.2.2.1 bt1087.2.2.2.2 bt1115.1 bt1115.2.1 bt1115.2.2.1 bt1115.2.2.2.1 bt1115.2.2.2.2).bind fun t1124 => (if t1124 = true then ((laws_toAlarm.f k l1_0 a1_1 a1_2 a1_3).bind fun bt1125 => ((laws_eqAlarm.f k bt1097.1 bt1097.2.1 bt1097.2.2.1 bt1097.2.2.2 bt1125.1 bt1125.2.1 bt1125.2.2.1 bt1125.2.2.2).bind fun t1131 => (if t1131 = true then ((laws_markGroup.f k bt1087.1 bt1087.2.1 bt1087.2.2.1 bt1087.2.2.2.1 bt1087.2.2.2.2 1).bind fun bt1132 => ((laws_markAlarm.f k bt1097.1 bt1097.2.1 bt1097.2.2.1 bt1097.2.2.2 bt1132.1).bind fun bt1135 => (if bt1135.1 < 0 then (none) else ((laws_eqGroup.f k bt1104.1 bt1104.2.1 bt1104.2.2.1 bt1104.2.2.2.1 bt1104.2.2.2.2 bt1077.1 bt1077.2.1 bt1077.2.2.1 bt1077.2.2.2.1 bt1077.2.2.2.2).bind fun t1137 => (if t1137 = true then ((laws_markGroup.f k bt1104.1 bt1104.2.1 bt1104.2.2.1 bt1104.2.2.2.1 bt1104.2.2.2.2 1).bind fun bt1138 => ((laws_heldGroup.f k bt1104.1 bt1138.2.1 bt1104.2.2.1 bt1104.2.2.2.1 bt1138.2.2 1).bind fun t1141 => (if t1141 < 0 then (none) else (if t1141 = bt1138.1 then ((laws_toGroup.f k a0_0 l0_1 a0_2 a0_3 l0_4).bind fun bt1142 => ((laws_toAlarm.f k l1_0 a1_1 a1_2 a1_3).bind fun bt1151 => ((impl_JoinIn.f k bt1142.1 bt1142.2.1 bt1142.2.2.1 bt1142.2.2.2.1 bt1142.2.2.2.2 bt1151.1 bt1151.2.1 bt1151.2.2.1 bt1151.2.2.2).bind fun bt1157 => ((laws_eqGroup.f k bt1157.1 bt1157.2.1 bt1157.2.2.1 bt1157.2.2.2.1 bt1157.2.2.2.2 bt1077.1 bt1077.2.1 bt1077.2.2.1 bt1077.2.2.2.1 bt1077.2.2.2.2).bind fun t1167 => (if t1167 = true then ((laws_heldGroup.f k bt1104.1 bt1138.2.1 bt1104.2.2.1 bt1104.2.2.2.1 bt1138.2.2 1).bind fun t1168 => (if t1168 < 0 then (none) else (if t1168 = bt1138.1 then (some true) else (none)))) else (none)))))) else (none))))) else (none)))))) else (none)))) else (none)))) else (none))))))))))))
theorem laws_FnExactJoinIn.mono : ∀ a0 a1 a2 a3 a4 a5 a6 a7 a8 k, LeO (laws_FnExactJoinIn.f k a0 a1 a2 a3 a4 a5 a6 a7 a8) (laws_FnExactJoinIn.f (k + 1) a0 a1 a2 a3 a4 a5 a6 a7 a8) := by
 intro a0 a1 a2 a3 a4 a5 a6 a7 a8 k
 unfold laws_FnExactJoinIn.f
 repeat' first
   | (with_reducible exact impl_JoinIn.mono _ _ _ _ _ _ _ _ _ _)
   | (with_reducible exact laws_eqAlarm.mono _ _ _ _ _ _ _ _ _)
   | (with_reducible exact laws_eqGroup.mono _ _ _ _ _ _ _ _ _ _ _)
   | (with_reducible exact laws_heldGroup.mono _ _ _ _ _ _ _)
   | (with_reducible exact laws_markAlarm.mono _ _ _ _ _ _)
   | (with_reducible exact laws_markGroup.mono _ _ _ _ _ _ _)
   | (with_reducible exact laws_szAlarm.mono _ _ _ _ _ _)
   | (with_reducible exact laws_szGroup.mono _ _ _ _ _ _ _)
   | (with_reducible exact laws_toAlarm.mono _ _ _ _ _)
   | (with_reducible exact laws_toGroup.mono _ _ _ _ _ _)
   | (with_reducible exact spec_JoinIn.mono _ _ _ _ _ _ _ _ _ _)
   | (with_reducible exact LeO.refl _)
   | (with_reducible exact LeO.none _)
   | (with_reducible refine LeO.ite ?_ ?_)
   | (with_reducible refine LeO.bind ?_ (fun _ => ?_))
   | exact impl_JoinIn.mono _ _ _ _ _ _ _ _ _ _
   | exact laws_eqAlarm.mono _ _ _ _ _ _ _ _ _
   | exact laws_eqGroup.mono _ _ _ _ _ _ _ _ _ _ _
   | exact laws_heldGroup.mono _ _ _ _ _ _ _
   | exact laws_markAlarm.mono _ _ _ _ _ _
   | exact laws_markGroup.mono _ _ _ _ _ _ _
   | exact laws_szAlarm.mono _ _ _ _ _ _
   | exact laws_szGroup.mono _ _ _ _ _ _ _
   | exact laws_toAlarm.mono _ _ _ _ _
   | exact laws_toGroup.mono _ _ _ _ _ _
   | exact spec_JoinIn.mono _ _ _ _ _ _ _ _ _ _
theorem laws_FnExactJoinIn.calls (k : Nat) (a0_0 : Int) (A0_1 : Option Addr) (c0_1 : Nat) (l0_1 : List (S163)) (a0_2 : Int) (a0_3 : Int) (A0_4 : Option Addr) (c0_4 : Nat) (l0_4 : List (S34)) (A1_0 : Option Addr) (c1_0 : Nat) (l1_0 : List (S163)) (a1_1 : Int) (a1_2 : Int) (a1_3 : ByteArray) (r : Bool) (w : World) (hr0_1 : Kd.C k163 w A0_1 l0_1.length l0_1) (hc0_1 : l0_1.length ≤ c0_1) (hr0_4 : Kd.C k34 w A0_4 l0_4.length l0_4) (hc0_4 : l0_4.length ≤ c0_4) (hr1_0 : Kd.C k163 w A1_0 l1_0.length l1_0) (hc1_0 : l1_0.length ≤ c1_0) (h : laws_FnExactJoinIn.f k a0_0 l0_1 a0_2 a0_3 l0_4 l1_0 a1_1 a1_2 a1_3 = some r) :
  Calls Try.prog 9 #[.agg #[.int .i64 a0_0, .slice A0_1 l0_1.length c0_1, .int .i64 a0_2, .int .i64 a0_3, .slice A0_4 l0_4.length c0_4], .agg #[.slice A1_0 l1_0.length c1_0, .int .i64 a1_1, .int .i64 a1_2, .string a1_3]] w fun e w' => e = .returned (.bool r) ∧ Below w.heap.size w w' := by
 have hu69 := Try.underlying69
 have hu34 := Try.underlying34
 have hu75 := Try.underlying75
 have hu44 := Try.underlying44
 have HR0_1 := Aside0.mk hr0_1
 have HC0_1 := Aside0.mk hc0_1
 clear hr0_1 hc0_1
 have HR0_4 := Aside0.mk hr0_4
 have HC0_4 := Aside0.mk hc0_4
 clear hr0_4 hc0_4
 have HR1_0 := Aside0.mk hr1_0
 have HC1_0 := Aside0.mk hc1_0
 clear hr1_0 hc1_0
 have HB := Aside0.mk (Below.refl w.heap.size w)
 have H : ((laws_szGroup.f k a0_0 l0_1 a0_2 a0_3 l0_4 1048576).bind fun t1060 => (if t1060 < 0 then (some true) else ((laws_szAlarm.f k l1_0 a1_1 a1_2 a1_3 t1060).bind fun t1061 => (if t1061 < 0 then (some true) else ((laws_toGroup.f k a0_0 l0_1 a0_2 a0_3 l0_4).bind fun bt1062 => ((laws_toAlarm.f k l1_0 a1_1 a1_2 a1_3).bind fun bt1071 => ((spec_JoinIn.f k bt1062.1 bt1062.2.1 bt1062.2.2.1 bt1062.2.2.2.1 bt1062.2.2.2.2 bt1071.1 bt1071.2.1 bt1071.2.2.1 bt1071.2.2.2).bind fun bt1077 => ((laws_toGroup.f k a0_0 l0_1 a0_2 a0_3 l0_4).bind fun bt1087 => ((laws_toAlarm.f k l1_0 a1_1 a1_2 a1_3).bind fun bt1097 => ((impl_JoinIn.f k bt1087.1 bt1087.2.1 bt1087.2.2.1 bt1087.2.2.2.1 bt1087.2.2.2.2 bt1097.1 bt1097.2.1 bt1097.2.2.1 bt1097.2.2.2).bind fun bt1104 => ((laws_eqGroup.f k bt1104.1 bt1104.2.1 bt1104.2.2.1 bt1104.2.2.2.1 bt1104.2.2.2.2 bt1077.1 bt1077.2.1 bt1077.2.2.1 bt1077.2.2.2.1 bt1077.2.2.2.2).bind fun t1114 => (if t1114 = true then ((laws_toGroup.f k a0_0 l0_1 a0_2 a0_3 l0_4).bind fun bt1115 => ((laws_eqGroup.f k bt1087.1 bt1087.2.1 bt1087.2.2.1 bt1087.2.2.2.1 bt1087.2.2.2.2 bt1115.1 bt1115.2.1 bt1115.2.2.1 bt1115.2.2.2.1 bt1115.2.2.2.2).bind fun t1124 => (if t1124 = true then ((laws_toAlarm.f k l1_0 a1_1 a1_2 a1_3).bind fun bt1125 => ((laws_eqAlarm.f k bt1097.1 bt1097.2.1 bt1097.2.2.1 bt1097.2.2.2 bt1125.1 bt1125.2.1 bt1125.2.2.1 bt1125.2.2.2).bind fun t1131 => (if t1131 = true then ((laws_markGroup.f k bt1087.1 bt1087.2.1 bt1087.2.2.1 bt1087.2.2.2.1 bt1087.2.2.2.2 1).bind fun bt1132 => ((laws_markAlarm.f k bt1097.1 bt1097.2.1 bt1097.2.2.1 bt1097.2.2.2 bt1132.1).bind fun bt1135 => (if bt1135.1 < 0 then (none) else ((laws_eqGroup.f k bt1104.1 bt1104.2.1 bt1104.2.2.1 bt1104.2.2.2.1 bt1104.2.2.2.2 bt1077.1 bt1077.2.1 bt1077.2.2.1 bt1077.2.2.2.1 bt1077.2.2.2.2).bind fun t1137 => (if t1137 = true then ((laws_markGroup.f k bt1104.1 bt1104.2.1 bt1104.2.2.1 bt1104.2.2.2.1 bt1104.2.2.2.2 1).bind fun bt1138 => ((laws_heldGroup.f k bt1104.1 bt1138.2.1 bt1104.2.2.1 bt1104.2.2.2.1 bt1138.2.2 1).bind fun t1141 => (if t1141 < 0 then (none) else (if t1141 = bt1138.1 then ((laws_toGroup.f k a0_0 l0_1 a0_2 a0_3 l0_4).bind fun bt1142 => ((laws_toAlarm.f k l1_0 a1_1 a1_2 a1_3).bind fun bt1151 => ((impl_JoinIn.f k bt1142.1 bt1142.2.1 bt1142.2.2.1 bt1142.2.2.2.1 bt1142.2.2.2.2 bt1151.1 bt1151.2.1 bt1151.2.2.1 bt1151.2.2.2).bind fun bt1157 => ((laws_eqGroup.f k bt1157.1 bt1157.2.1 bt1157.2.2.1 bt1157.2.2.2.1 bt1157.2.2.2.2 bt1077.1 bt1077.2.1 bt1077.2.2.1 bt1077.2.2.2.1 bt1077.2.2.2.2).bind fun t1167 => (if t1167 = true then ((laws_heldGroup.f k bt1104.1 bt1138.2.1 bt1104.2.2.1 bt1104.2.2.2.1 bt1138.2.2 1).bind fun t1168 => (if t1168 < 0 then (none) else (if t1168 = bt1138.1 then (some true) else (none)))) else (none)))))) else (none))))) else (none)))))) else (none)))) else (none)))) else (none))))))))))))) = some r := h
 clear h
 replace H := Option.bind_eq_some_iff.mp H
 obtain ⟨t1060, A30, H⟩ := H
 have A3 := Aside0.mk A30
 clear A30
 by_cases c4 : t1060 < 0
 ·
  rw [if_pos c4] at H
  have c4b0 := decide_eq_true c4
  clear c4
  obtain rfl := Option.some.inj H
  go_enter Try.func9, Try.ntmps9
  go_wp2_with (first | ((with_reducible refine gate_dst (N := 2) rfl ?_); refine box_event ?hg (N := 2) ?hd (cs := #[.int .i64 a0_0, .slice A0_1 l0_1.length c0_1, .int .i64 a0_2, .int .i64 a0_3, .slice A0_4 l0_4.length c0_4]) (t := 69) ?hr ?_; (case hd => rfl); (case hg => rfl); (case hr => first | (go_simp; done) | (go_simp; rfl)); intro gb1058 hg w5 hbox hb; have n0_ := Aside0.mk (below_step (by repeat (first | (with_reducible first | exact HB.out | apply ba_ | apply bn_ | apply bd_) | exact HB.out)) hb); have BK1058 := Aside0.mk (hbox); have GW1058 := Aside0.mk ((by rw [hg]; exact (below_size (by repeat (first | (with_reducible first | exact HB.out | apply ba_ | apply bn_ | apply bd_) | exact HB.out))) : w.heap.size ≤ gb1058)); have GE1058 := GW1058; clear HB; have HB := n0_; clear n0_; clear hb hbox hg) | ((with_reducible refine gate_dst (N := 3) rfl ?_); refine box_event ?hg (N := 3) ?hd (cs := #[.slice A1_0 l1_0.length c1_0, .int .i64 a1_1, .int .i64 a1_2, .string a1_3]) (t := 34) ?hr ?_; (case hd => rfl); (case hg => rfl); (case hr => first | (go_simp; done) | (go_simp; rfl)); intro gb1059 hg w6 hbox hb; have n0_ := Aside0.mk (bb_ BK1058.out hb); have n1_ := Aside0.mk (below_step (by repeat (first | (with_reducible first | exact HB.out | apply ba_ | apply bn_ | apply bd_ | refine below_set ?_ GE1058.out) | exact HB.out)) hb); have n2_ := Aside0.mk (hbox); have n3_ := Aside0.mk ((by rw [hg]; exact (below_size (by repeat (first | (with_reducible first | exact HB.out | apply ba_ | apply bn_ | apply bd_ | refine below_set ?_ GE1058.out) | exact HB.out))) : w.heap.size ≤ gb1059)); have n4_ := n3_; have n5_ := Aside0.mk (nl_ BK1058.out hg); have n6_ := Aside0.mk (n5_.out.symm); clear BK1058 HB; have BK1058 := n0_; have HB := n1_; have BK1059 := n2_; have GW1059 := n3_; have GE1059 := n4_; have NB1058_1059 := n5_; have NB1059_1058 := n6_; clear n0_ n1_ n2_ n3_ n4_ n5_ n6_; clear hb hbox hg; have hnb7 := NB1058_1059.out; have hnc7 := NB1059_1058.out; obtain ⟨hcz8_0, hcz8_1, hcz8_2, hcz8_3, hcz8_4, hfz8_0, hfz8_1, hfz8_2, hfz8_3, hfz8_4⟩ := bc5_ BK1058.out) | ((with_reducible refine gate_callee (f := 48) rfl ?_); refine goesL_ (some 16) rfl rfl Try.func48 (by kernel_rfl) rfl #[.agg #[.int .i64 a0_0, .slice A0_1 l0_1.length c0_1, .int .i64 a0_2, .int .i64 a0_3, .slice A0_4 l0_4.length c0_4], .int .i64 1048576] rfl (by (try simp only [mp_]); first | done | rfl | (simp only [List.length_drop, List.length_take]; rfl)) ?_; (with_reducible refine (laws_szGroup.calls k a0_0 _ _ l0_1 a0_2 a0_3 _ _ l0_4 1048576 t1060 _ ?side1 ?side2 ?side3 ?side4 A3.out).mono ?_); (case side1 => repeat (first | exact (Kd.C_below HR0_1.out HB.out) | (with_reducible first | refine ca_ ?_ _ | refine cn_ ?_ _ | refine cd_ ?_))); (case side2 => exact HC0_1.out); (case side3 => repeat (first | exact (Kd.C_below HR0_4.out HB.out) | (with_reducible first | refine ca_ ?_ _ | refine cn_ ?_ _ | refine cd_ ?_))); (case side4 => exact HC0_4.out); rintro e w9 ⟨rfl, hb⟩; refine ⟨_, rfl, ?_⟩; have n0_ := Aside0.mk (below_step (by repeat (first | (with_reducible first | exact HB.out | apply ba_ | apply bn_ | apply bd_) | exact HB.out)) hb); clear HB; have HB := n0_; clear n0_; (try clear hb); (try clear hb2); (try clear hk); (try clear hi)))
  go_ret
  exact ⟨by first | rfl | (simp [errW_none, errW_some] <;> rfl) | (simp [*, errW_none, errW_some] <;> rfl), by repeat (first | (with_reducible first | exact HB.out | apply ba_ | apply bn_ | apply bd_) | exact HB.out)⟩
 rw [if_neg c4] at H
 have c4b0 : decide (t1060 < 0) = false := decide_eq_false c4
 clear c4
 replace H := Option.bind_eq_some_iff.mp H
 obtain ⟨t1061, A100, H⟩ := H
 have A10 := Aside0.mk A100
 clear A100
 by_cases c11 : t1061 < 0
 ·
  rw [if_pos c11] at H
  have c11b0 := decide_eq_true c11
  clear c11
  obtain rfl := Option.some.inj H
  go_enter Try.func9, Try.ntmps9
  go_wp2_with (first | ((with_reducible refine gate_dst (N := 2) rfl ?_); refine box_event ?hg (N := 2) ?hd (cs := #[.int .i64 a0_0, .slice A0_1 l0_1.length c0_1, .int .i64 a0_2, .int .i64 a0_3, .slice A0_4 l0_4.length c0_4]) (t := 69) ?hr ?_; (case hd => rfl); (case hg => rfl); (case hr => first | (go_simp; done) | (go_simp; rfl)); intro gb1058 hg w12 hbox hb; have n0_ := Aside0.mk (below_step (by repeat (first | (with_reducible first | exact HB.out | apply ba_ | apply bn_ | apply bd_) | exact HB.out)) hb); have BK1058 := Aside0.mk (hbox); have GW1058 := Aside0.mk ((by rw [hg]; exact (below_size (by repeat (first | (with_reducible first | exact HB.out | apply ba_ | apply bn_ | apply bd_) | exact HB.out))) : w.heap.size ≤ gb1058)); have GE1058 := GW1058; clear HB; have HB := n0_; clear n0_; clear hb hbox hg) | ((with_reducible refine gate_dst (N := 3) rfl ?_); refine box_event ?hg (N := 3) ?hd (cs := #[.slice A1_0 l1_0.length c1_0, .int .i64 a1_1, .int .i64 a1_2, .string a1_3]) (t := 34) ?hr ?_; (case hd => rfl); (case hg => rfl); (case hr => first | (go_simp; done) | (go_simp; rfl)); intro gb1059 hg w13 hbox hb; have n0_ := Aside0.mk (bb_ BK1058.out hb); have n1_ := Aside0.mk (below_step (by repeat (first | (with_reducible first | exact HB.out | apply ba_ | apply bn_ | apply bd_ | refine below_set ?_ GE1058.out) | exact HB.out)) hb); have n2_ := Aside0.mk (hbox); have n3_ := Aside0.mk ((by rw [hg]; exact (below_size (by repeat (first | (with_reducible first | exact HB.out | apply ba_ | apply bn_ | apply bd_ | refine below_set ?_ GE1058.out) | exact HB.out))) : w.heap.size ≤ gb1059)); have n4_ := n3_; have n5_ := Aside0.mk (nl_ BK1058.out hg); have n6_ := Aside0.mk (n5_.out.symm); clear BK1058 HB; have BK1058 := n0_; have HB := n1_; have BK1059 := n2_; have GW1059 := n3_; have GE1059 := n4_; have NB1058_1059 := n5_; have NB1059_1058 := n6_; clear n0_ n1_ n2_ n3_ n4_ n5_ n6_; clear hb hbox hg; have hnb14 := NB1058_1059.out; have hnc14 := NB1059_1058.out; obtain ⟨hcz15_0, hcz15_1, hcz15_2, hcz15_3, hcz15_4, hfz15_0, hfz15_1, hfz15_2, hfz15_3, hfz15_4⟩ := bc5_ BK1058.out) | ((with_reducible refine gate_callee (f := 48) rfl ?_); refine goesL_ (some 16) rfl rfl Try.func48 (by kernel_rfl) rfl #[.agg #[.int .i64 a0_0, .slice A0_1 l0_1.length c0_1, .int .i64 a0_2, .int .i64 a0_3, .slice A0_4 l0_4.length c0_4], .int .i64 1048576] rfl (by (try simp only [mp_]); first | done | rfl | (simp only [List.length_drop, List.length_take]; rfl)) ?_; (with_reducible refine (laws_szGroup.calls k a0_0 _ _ l0_1 a0_2 a0_3 _ _ l0_4 1048576 t1060 _ ?side1 ?side2 ?side3 ?side4 A3.out).mono ?_); (case side1 => repeat (first | exact (Kd.C_below HR0_1.out HB.out) | (with_reducible first | refine ca_ ?_ _ | refine cn_ ?_ _ | refine cd_ ?_))); (case side2 => exact HC0_1.out); (case side3 => repeat (first | exact (Kd.C_below HR0_4.out HB.out) | (with_reducible first | refine ca_ ?_ _ | refine cn_ ?_ _ | refine cd_ ?_))); (case side4 => exact HC0_4.out); rintro e w16 ⟨rfl, hb⟩; refine ⟨_, rfl, ?_⟩; have n0_ := Aside0.mk (bb_ BK1059.out hb); have n1_ := Aside0.mk (below_step (by repeat (first | (with_reducible first | exact HB.out | apply ba_ | apply bn_ | apply bd_ | refine below_set ?_ GE1059.out) | exact HB.out)) hb); clear BK1059 HB; have BK1059 := n0_; have HB := n1_; clear n0_ n1_; (try clear hb); (try clear hb2); (try clear hk); (try clear hi); obtain ⟨hcz17_0, hcz17_1, hcz17_2, hcz17_3, hfz17_0, hfz17_1, hfz17_2, hfz17_3⟩ := bc4_ BK1059.out) | ((with_reducible refine gate_callee (f := 21) rfl ?_); refine goesL_ (some 21) rfl rfl Try.func21 (by kernel_rfl) rfl #[.agg #[.slice A1_0 l1_0.length c1_0, .int .i64 a1_1, .int .i64 a1_2, .string a1_3], .int .i64 t1060] rfl (by (try simp only [mp_]); first | done | rfl | (simp only [List.length_drop, List.length_take]; rfl)) ?_; (with_reducible refine (laws_szAlarm.calls k _ _ l1_0 a1_1 a1_2 a1_3 t1060 t1061 _ ?side1 ?side2 A10.out).mono ?_); (case side1 => repeat (first | exact (Kd.C_below HR1_0.out HB.out) | (with_reducible first | refine ca_ ?_ _ | refine cn_ ?_ _ | refine cd_ ?_))); (case side2 => exact HC1_0.out); rintro e w18 ⟨rfl, hb⟩; refine ⟨_, rfl, ?_⟩; have n0_ := Aside0.mk (below_step (by repeat (first | (with_reducible first | exact HB.out | apply ba_ | apply bn_ | apply bd_) | exact HB.out)) hb); clear HB; have HB := n0_; clear n0_; (try clear hb); (try clear hb2); (try clear hk); (try clear hi)))
  go_ret
  exact ⟨by first | rfl | (simp [errW_none, errW_some] <;> rfl) | (simp [*, errW_none, errW_some] <;> rfl), by repeat (first | (with_reducible first | exact HB.out | apply ba_ | apply bn_ | apply bd_) | exact HB.out)⟩
 rw [if_neg c11] at H
 have c11b0 : decide (t1061 < 0) = false := decide_eq_false c11
 clear c11
 replace H := Option.bind_eq_some_iff.mp H
 obtain ⟨⟨t1062, t1063, t1066, t1067, t1068⟩, A190, H⟩ := H
 have A19 := Aside0.mk A190
 clear A190
 replace H := Option.bind_eq_some_iff.mp H
 obtain ⟨⟨t1071, t1074, t1075, t1076⟩, A200, H⟩ := H
 have A20 := Aside0.mk A200
 clear A200
 replace H := Option.bind_eq_some_iff.mp H
 obtain ⟨⟨t1077, t1078, t1081, t1082, t1083⟩, A210, H⟩ := H
 have A21 := Aside0.mk A210
 clear A210
 replace H := Option.bind_eq_some_iff.mp H
 obtain ⟨⟨t1087, t1088, t1091, t1092, t1093⟩, A220, H⟩ := H
 have A22 := Aside0.mk A220
 clear A220
 replace H := Option.bind_eq_some_iff.mp H
 obtain ⟨⟨t1097, t1100, t1101, t1102⟩, A230, H⟩ := H
 have A23 := Aside0.mk A230
 clear A230
 replace H := Option.bind_eq_some_iff.mp H
 obtain ⟨⟨t1104, t1105, t1108, t1109, t1110⟩, A240, H⟩ := H
 have A24 := Aside0.mk A240
 clear A240
 replace H := Option.bind_eq_some_iff.mp H
 obtain ⟨t1114, A250, H⟩ := H
 have A25 := Aside0.mk A250
 clear A250
 by_cases c26 : t1114 = true
 ·
  subst c26
  rw [if_pos rfl] at H
  replace H := Option.bind_eq_some_iff.mp H
  obtain ⟨⟨t1115, t1116, t1119, t1120, t1121⟩, A270, H⟩ := H
  have A27 := Aside0.mk A270
  clear A270
  replace H := Option.bind_eq_some_iff.mp H
  obtain ⟨t1124, A280, H⟩ := H
  have A28 := Aside0.mk A280
  clear A280
  by_cases c29 : t1124 = true
  ·
   subst c29
   rw [if_pos rfl] at H
   replace H := Option.bind_eq_some_iff.mp H
   obtain ⟨⟨t1125, t1128, t1129, t1130⟩, A300, H⟩ := H
   have A30 := Aside0.mk A300
   clear A300
   replace H := Option.bind_eq_some_iff.mp H
   obtain ⟨t1131, A310, H⟩ := H
   have A31 := Aside0.mk A310
   clear A310
   by_cases c32 : t1131 = true
   ·
    subst c32
    rw [if_pos rfl] at H
    replace H := Option.bind_eq_some_iff.mp H
    obtain ⟨⟨t1132, t1133, t1134⟩, A330, H⟩ := H
    have A33 := Aside0.mk A330
    clear A330
    replace H := Option.bind_eq_some_iff.mp H
    obtain ⟨⟨t1135, t1136⟩, A340, H⟩ := H
    have A34 := Aside0.mk A340
    clear A340
    by_cases c35 : t1135 < 0
    ·
     rw [if_pos c35] at H
     exact absurd H (by simp)
    rw [if_neg c35] at H
    have c35b0 : decide (t1135 < 0) = false := decide_eq_false c35
    clear c35
    replace H := Option.bind_eq_some_iff.mp H
    obtain ⟨t1137, A360, H⟩ := H
    have A36 := Aside0.mk A360
    clear A360
    by_cases c37 : t1137 = true
    ·
     subst c37
     rw [if_pos rfl] at H
     replace H := Option.bind_eq_some_iff.mp H
     obtain ⟨⟨t1138, t1139, t1140⟩, A380, H⟩ := H
     have A38 := Aside0.mk A380
     clear A380
     replace H := Option.bind_eq_some_iff.mp H
     obtain ⟨t1141, A390, H⟩ := H
     have A39 := Aside0.mk A390
     clear A390
     by_cases c40 : t1141 < 0
     ·
      rw [if_pos c40] at H
      exact absurd H (by simp)
     rw [if_neg c40] at H
     have c40b0 : decide (t1141 < 0) = false := decide_eq_false c40
     clear c40
     by_cases c41 : t1141 = t1138
     ·
      rw [if_pos c41] at H
      have c41b0 : (t1141 == t1138) = true := beq_iff_eq.mpr c41
      have c41b1 : (t1141 != t1138) = false := bne_eq_false_iff_eq.mpr c41
      clear c41
      replace H := Option.bind_eq_some_iff.mp H
      obtain ⟨⟨t1142, t1143, t1146, t1147, t1148⟩, A420, H⟩ := H
      have A42 := Aside0.mk A420
      clear A420
      replace H := Option.bind_eq_some_iff.mp H
      obtain ⟨⟨t1151, t1154, t1155, t1156⟩, A430, H⟩ := H
      have A43 := Aside0.mk A430
      clear A430
      replace H := Option.bind_eq_some_iff.mp H
      obtain ⟨⟨t1157, t1158, t1161, t1162, t1163⟩, A440, H⟩ := H
      have A44 := Aside0.mk A440
      clear A440
      replace H := Option.bind_eq_some_iff.mp H
      obtain ⟨t1167, A450, H⟩ := H
      have A45 := Aside0.mk A450
      clear A450
      by_cases c46 : t1167 = true
      ·
       subst c46
       rw [if_pos rfl] at H
       replace H := Option.bind_eq_some_iff.mp H
       obtain ⟨t1168, A470, H⟩ := H
       have A47 := Aside0.mk A470
       clear A470
       by_cases c48 : t1168 < 0
       ·
        rw [if_pos c48] at H
        exact absurd H (by simp)
       rw [if_neg c48] at H
       have c48b0 : decide (t1168 < 0) = false := decide_eq_false c48
       clear c48
       by_cases c49 : t1168 = t1138
       ·
        rw [if_pos c49] at H
        have c49b0 : (t1168 == t1138) = true := beq_iff_eq.mpr c49
        have c49b1 : (t1168 != t1138) = false := bne_eq_false_iff_eq.mpr c49
        clear c49
        obtain rfl := Option.some.inj H
        go_enter Try.func9, Try.ntmps9
        try go_wp2_with (first | ((with_reducible refine gate_dst (N := 2) rfl ?_); refine box_event ?hg (N := 2) ?hd (cs := #[.int .i64 a0_0, .slice A0_1 l0_1.length c0_1, .int .i64 a0_2, .int .i64 a0_3, .slice A0_4 l0_4.length c0_4]) (t := 69) ?hr ?_; (case hd => rfl); (case hg => rfl); (case hr => first | (go_simp; done) | (go_simp; rfl)); intro gb1058 hg w50 hbox hb; have n0_ := Aside0.mk (below_step (by repeat (first | (with_reducible first | exact HB.out | apply ba_ | apply bn_ | apply bd_) | exact HB.out)) hb); have BK1058 := Aside0.mk (hbox); have GW1058 := Aside0.mk ((by rw [hg]; exact (below_size (by repeat (first | (with_reducible first | exact HB.out | apply ba_ | apply bn_ | apply bd_) | exact HB.out))) : w.heap.size ≤ gb1058)); have GE1058 := GW1058; clear HB; have HB := n0_; clear n0_; clear hb hbox hg) | ((with_reducible refine gate_dst (N := 3) rfl ?_); refine box_event ?hg (N := 3) ?hd (cs := #[.slice A1_0 l1_0.length c1_0, .int .i64 a1_1, .int .i64 a1_2, .string a1_3]) (t := 34) ?hr ?_; (case hd => rfl); (case hg => rfl); (case hr => first | (go_simp; done) | (go_simp; rfl)); intro gb1059 hg w51 hbox hb; have n0_ := Aside0.mk (bb_ BK1058.out hb); have n1_ := Aside0.mk (below_step (by repeat (first | (with_reducible first | exact HB.out | apply ba_ | apply bn_ | apply bd_ | refine below_set ?_ GE1058.out) | exact HB.out)) hb); have n2_ := Aside0.mk (hbox); have n3_ := Aside0.mk ((by rw [hg]; exact (below_size (by repeat (first | (with_reducible first | exact HB.out | apply ba_ | apply bn_ | apply bd_ | refine below_set ?_ GE1058.out) | exact HB.out))) : w.heap.size ≤ gb1059)); have n4_ := n3_; have n5_ := Aside0.mk (nl_ BK1058.out hg); have n6_ := Aside0.mk (n5_.out.symm); clear BK1058 HB; have BK1058 := n0_; have HB := n1_; have BK1059 := n2_; have GW1059 := n3_; have GE1059 := n4_; have NB1058_1059 := n5_; have NB1059_1058 := n6_; clear n0_ n1_ n2_ n3_ n4_ n5_ n6_; clear hb hbox hg; have hnb52 := NB1058_1059.out; have hnc52 := NB1059_1058.out; obtain ⟨hcz53_0, hcz53_1, hcz53_2, hcz53_3, hcz53_4, hfz53_0, hfz53_1, hfz53_2, hfz53_3, hfz53_4⟩ := bc5_ BK1058.out) | ((with_reducible refine gate_callee (f := 48) rfl ?_); refine goesL_ (some 16) rfl rfl Try.func48 (by kernel_rfl) rfl #[.agg #[.int .i64 a0_0, .slice A0_1 l0_1.length c0_1, .int .i64 a0_2, .int .i64 a0_3, .slice A0_4 l0_4.length c0_4], .int .i64 1048576] rfl (by (try simp only [mp_]); first | done | rfl | (simp only [List.length_drop, List.length_take]; rfl)) ?_; (with_reducible refine (laws_szGroup.calls k a0_0 _ _ l0_1 a0_2 a0_3 _ _ l0_4 1048576 t1060 _ ?side1 ?side2 ?side3 ?side4 A3.out).mono ?_); (case side1 => repeat (first | exact (Kd.C_below HR0_1.out HB.out) | (with_reducible first | refine ca_ ?_ _ | refine cn_ ?_ _ | refine cd_ ?_))); (case side2 => exact HC0_1.out); (case side3 => repeat (first | exact (Kd.C_below HR0_4.out HB.out) | (with_reducible first | refine ca_ ?_ _ | refine cn_ ?_ _ | refine cd_ ?_))); (case side4 => exact HC0_4.out); rintro e w54 ⟨rfl, hb⟩; refine ⟨_, rfl, ?_⟩; have n0_ := Aside0.mk (bb_ BK1058.out hb); have n1_ := Aside0.mk (bb_ BK1059.out hb); have n2_ := Aside0.mk (below_step (by repeat (first | (with_reducible first | exact HB.out | apply ba_ | apply bn_ | apply bd_ | refine below_set ?_ GE1058.out | refine below_set ?_ GE1059.out) | exact HB.out)) hb); clear BK1058 BK1059 HB; have BK1058 := n0_; have BK1059 := n1_; have HB := n2_; clear n0_ n1_ n2_; (try clear hb); (try clear hb2); (try clear hk); (try clear hi); obtain ⟨hcz55_0, hcz55_1, hcz55_2, hcz55_3, hfz55_0, hfz55_1, hfz55_2, hfz55_3⟩ := bc4_ BK1059.out) | ((with_reducible refine gate_callee (f := 21) rfl ?_); refine goesL_ (some 21) rfl rfl Try.func21 (by kernel_rfl) rfl #[.agg #[.slice A1_0 l1_0.length c1_0, .int .i64 a1_1, .int .i64 a1_2, .string a1_3], .int .i64 t1060] rfl (by (try simp only [mp_]); first | done | rfl | (simp only [List.length_drop, List.length_take]; rfl)) ?_; (with_reducible refine (laws_szAlarm.calls k _ _ l1_0 a1_1 a1_2 a1_3 t1060 t1061 _ ?side1 ?side2 A10.out).mono ?_); (case side1 => repeat (first | exact (Kd.C_below HR1_0.out HB.out) | (with_reducible first | refine ca_ ?_ _ | refine cn_ ?_ _ | refine cd_ ?_))); (case side2 => exact HC1_0.out); rintro e w56 ⟨rfl, hb⟩; refine ⟨_, rfl, ?_⟩; have n0_ := Aside0.mk (bb_ BK1058.out hb); have n1_ := Aside0.mk (bb_ BK1059.out hb); have n2_ := Aside0.mk (below_step (by repeat (first | (with_reducible first | exact HB.out | apply ba_ | apply bn_ | apply bd_ | refine below_set ?_ GE1058.out | refine below_set ?_ GE1059.out) | exact HB.out)) hb); clear BK1058 BK1059 HB; have BK1058 := n0_; have BK1059 := n1_; have HB := n2_; clear n0_ n1_ n2_; (try clear hb); (try clear hb2); (try clear hk); (try clear hi)))
        have n0_ := Aside0.mk (blk_drew BK1058.out)
        have n1_ := Aside0.mk (blk_drew BK1059.out)
        have n2_ := Aside0.mk (bd_ HB.out)
        clear BK1058 BK1059 HB
        have BK1058 := n0_
        have BK1059 := n1_
        have HB := n2_
        clear n0_ n1_ n2_
        refine start_ (n := 7) (S := fun w' => w'.cell? ⟨gb1058, 0, none⟩ = some (.int .i64 a0_0) ∧ w'.cell? ⟨gb1058, 1, none⟩ = some (.slice A0_1 l0_1.length c0_1) ∧ w'.cell? ⟨gb1058, 2, none⟩ = some (.int .i64 a0_2) ∧ w'.cell? ⟨gb1058, 3, none⟩ = some (.int .i64 a0_3) ∧ w'.cell? ⟨gb1058, 4, none⟩ = some (.slice A0_4 l0_4.length c0_4) ∧ w'.cell? ⟨gb1059, 0, none⟩ = some (.slice A1_0 l1_0.length c1_0) ∧ w'.cell? ⟨gb1059, 1, none⟩ = some (.int .i64 a1_1) ∧ w'.cell? ⟨gb1059, 2, none⟩ = some (.int .i64 a1_2) ∧ w'.cell? ⟨gb1059, 3, none⟩ = some (.string a1_3)) (ds := []) #[f_,f_,f_,f_,f_,f_,f_] (by kernel_rfl) rfl rfl ⟨bx_ BK1058.out 0, bx_ BK1058.out 1, bx_ BK1058.out 2, bx_ BK1058.out 3, bx_ BK1058.out 4, bx_ BK1059.out 0, bx_ BK1059.out 1, bx_ BK1059.out 2, bx_ BK1059.out 3⟩ (fun hHeld => ?_)
        generalize w56.drew = w57 at BK1058 BK1059 HB hHeld ⊢
        refine take_ (i := 0) (N := some 24) (v := ?_) (a' := ?_) #[t_,f_,f_,f_,f_,f_,f_] rfl rfl (by kernel_rfl) (fun _ _ _ h => h) (Or.inl ⟨by rfl, ?_⟩) hHeld ?_ ?_
        rotate_left
        ·
         rintro w' ⟨s0, s1, s2, s3, s4, s5, s6, s7, s8⟩
         go_simp
         with_reducible rfl
        rotate_left
        ·
         simp only [fr_]
         rfl
        refine take_ (i := 2) (N := some 26) (v := ?_) (a' := ?_) #[t_,f_,t_,f_,f_,f_,f_] rfl rfl (by kernel_rfl) (fun _ _ _ h => h) (Or.inl ⟨by rfl, ?_⟩) hHeld ?_ ?_
        rotate_left
        ·
         rintro w' ⟨s0, s1, s2, s3, s4, s5, s6, s7, s8⟩
         go_simp
         with_reducible rfl
        rotate_left
        ·
         simp only [fr_]
         rfl
        refine join_ (σ := Value × Value × Nat × Value × Nat × Value × Value × Nat × Nat) 1 #[t_,t_,t_,t_,t_,t_,f_] (fun s_ => [(25, .agg #[.int .i64 t1062, s_.1, .int .i64 t1066, .int .i64 t1067, s_.2.1]), (27, .agg #[s_.2.2.2.1, .int .i64 t1074, .int .i64 t1075, .string t1076]), (28, .agg #[.int .i64 t1077, s_.2.2.2.2.2.1, .int .i64 t1081, .int .i64 t1082, s_.2.2.2.2.2.2.1]), (6, .pointer (some ⟨s_.2.2.2.2.2.2.2.2, 0, none⟩))]) (fun s_ w' => (w'.cell? ⟨gb1058, 0, none⟩ = some (.int .i64 a0_0) ∧ w'.cell? ⟨gb1058, 1, none⟩ = some (.slice A0_1 l0_1.length c0_1) ∧ w'.cell? ⟨gb1058, 2, none⟩ = some (.int .i64 a0_2) ∧ w'.cell? ⟨gb1058, 3, none⟩ = some (.int .i64 a0_3) ∧ w'.cell? ⟨gb1058, 4, none⟩ = some (.slice A0_4 l0_4.length c0_4) ∧ w'.cell? ⟨gb1059, 0, none⟩ = some (.slice A1_0 l1_0.length c1_0) ∧ w'.cell? ⟨gb1059, 1, none⟩ = some (.int .i64 a1_1) ∧ w'.cell? ⟨gb1059, 2, none⟩ = some (.int .i64 a1_2) ∧ w'.cell? ⟨gb1059, 3, none⟩ = some (.string a1_3)) ∧ (Kd.R k164 164 w' w.heap.size (fun k_ => s_.2.2.1 ≤ k_ ∧ k_ < s_.2.2.2.2.1 ∧ k_ < s_.2.2.2.2.2.2.2.1) s_.1 t1063) ∧ (Kd.S k44 44 w' w.heap.size (fun k_ => some k_ ≠ (s_.1 : Value).ownBlock ∧ s_.2.2.1 ≤ k_ ∧ k_ < s_.2.2.2.2.1 ∧ k_ < s_.2.2.2.2.2.2.2.1) s_.2.1 t1068) ∧ (Kd.R k164 164 w' w.heap.size (fun k_ => s_.2.2.2.2.1 ≤ k_ ∧ k_ < s_.2.2.2.2.2.2.2.1) s_.2.2.2.1 t1071) ∧ (Kd.R k164 164 w' w.heap.size (fun k_ => s_.2.2.2.2.2.2.2.1 ≤ k_) s_.2.2.2.2.2.1 t1078) ∧ (Kd.S k44 44 w' w.heap.size (fun k_ => some k_ ≠ (s_.2.2.2.2.2.1 : Value).ownBlock ∧ s_.2.2.2.2.2.2.2.1 ≤ k_) s_.2.2.2.2.2.2.1 t1083) ∧ (w'.heap[gb1058]? = some (.cells #[.int .i64 a0_0, .slice A0_1 l0_1.length c0_1, .int .i64 a0_2, .int .i64 a0_3, .slice A0_4 l0_4.length c0_4] 69 (0, 0))) ∧ (w'.heap[gb1059]? = some (.cells #[.slice A1_0 l1_0.length c1_0, .int .i64 a1_1, .int .i64 a1_2, .string a1_3] 34 (0, 0))) ∧ (w'.heap[s_.2.2.2.2.2.2.2.2]? = some (.cells #[.int .i64 0, .slice none 0 0, .int .i64 0, .int .i64 0, .slice none 0 0] 75 (0, 0))) ∧ (w.heap.size ≤ s_.2.2.2.2.2.2.2.2) ∧ (w.heap.size ≤ s_.2.2.2.2.2.2.2.2) ∧ (gb1058 ≠ s_.2.2.2.2.2.2.2.2) ∧ (s_.2.2.2.2.2.2.2.2 ≠ gb1058) ∧ (gb1059 ≠ s_.2.2.2.2.2.2.2.2) ∧ (s_.2.2.2.2.2.2.2.2 ≠ gb1059) ∧ (Below w.heap.size w w')) ?_ ?_
        rotate_left
        ·
         intro hCont
         refine two_ (i := 1) (j := 5) (Ni := some 25) (Nj := some 6) #[t_,t_,t_,f_,f_,f_,f_] #[t_,f_,t_,f_,f_,t_,f_] rfl rfl rfl rfl (by kernel_rfl) (by decide) (by decide) (fun K hK => ?_) (fun K hK => ?_)
         ·
          skip
          refine goes_ Try.func51 (by kernel_rfl) rfl #[.agg #[.int .i64 a0_0, .slice A0_1 l0_1.length c0_1, .int .i64 a0_2, .int .i64 a0_3, .slice A0_4 l0_4.length c0_4]] (by rfl) rfl rfl (by (try simp only [mp_]); first | done | rfl | (simp only [List.length_drop, List.length_take]; rfl)) ?_
          with_reducible refine (laws_toGroup.calls k a0_0 _ _ l0_1 a0_2 a0_3 _ _ l0_4 t1062 t1063 t1066 t1067 t1068 _ ?side1 ?side2 ?side3 ?side4 A19.out).mono ?_
          (case side1 => repeat (first | exact (Kd.C_below HR0_1.out HB.out) | (with_reducible first | refine ca_ ?_ _ | refine cn_ ?_ _ | refine cd_ ?_)))
          (case side2 => exact HC0_1.out)
          (case side3 => repeat (first | exact (Kd.C_below HR0_4.out HB.out) | (with_reducible first | refine ca_ ?_ _ | refine cn_ ?_ _ | refine cd_ ?_)))
          (case side4 => exact HC0_4.out)
          rintro e w58 ⟨v1064, v1069, rfl, ho0, ho1, hb⟩
          refine ⟨_, rfl, ?_⟩
          obtain ⟨gbz1064, hz1064⟩ := Kd.R_name ho0
          have n0_ := Aside0.mk (Kd.R_lower (Kd.R_gez hz1064 ho0) (below_size (by repeat (first | (with_reducible first | exact HB.out | apply ba_ | apply bn_ | apply bd_ | refine below_set ?_ GE1058.out | refine below_set ?_ GE1059.out) | exact HB.out))))
          have n1_ := Aside0.mk (Kd.S_lower (Kd.S_gez hz1064 ho1) (below_size (by repeat (first | (with_reducible first | exact HB.out | apply ba_ | apply bn_ | apply bd_ | refine below_set ?_ GE1058.out | refine below_set ?_ GE1059.out) | exact HB.out))))
          have n2_ := Aside0.mk (bb_ BK1058.out hb)
          have n3_ := Aside0.mk (bb_ BK1059.out hb)
          have n4_ := Aside0.mk (below_step (by repeat (first | (with_reducible first | exact HB.out | apply ba_ | apply bn_ | apply bd_ | refine below_set ?_ GE1058.out | refine below_set ?_ GE1059.out) | exact HB.out)) hb)
          clear BK1058 BK1059 HB
          have HO1065 := n0_
          have HO1070 := n1_
          have BK1058 := n2_
          have BK1059 := n3_
          have HB := n4_
          clear n0_ n1_ n2_ n3_ n4_
          (try clear hb)
          (try clear hb2)
          (try clear hk)
          (try clear hi)
          (try clear ho0)
          (try clear ho1)
          refine hK.out _ _ ⟨bx_ BK1058.out 0, bx_ BK1058.out 1, bx_ BK1058.out 2, bx_ BK1058.out 3, bx_ BK1058.out 4, bx_ BK1059.out 0, bx_ BK1059.out 1, bx_ BK1059.out 2, bx_ BK1059.out 3⟩ (fun hHeld => ?_)
          clear hK K
          refine norm_ (a' := ?_) ?_ ?_
          rotate_left
          ·
           show Act.put _ (some 25) _ = _
           simp only [fr_]
           rfl
          refine two_ (i := 3) (j := 5) (Ni := some 27) (Nj := some 6) #[t_,t_,t_,t_,f_,f_,f_] #[t_,t_,t_,f_,f_,t_,f_] rfl rfl rfl rfl (by kernel_rfl) (by decide) (by decide) (fun K hK => ?_) (fun K hK => ?_)
          ·
           skip
           refine goes_ Try.func24 (by kernel_rfl) rfl #[.agg #[.slice A1_0 l1_0.length c1_0, .int .i64 a1_1, .int .i64 a1_2, .string a1_3]] (by rfl) rfl rfl (by (try simp only [mp_]); first | done | rfl | (simp only [List.length_drop, List.length_take]; rfl)) ?_
           with_reducible refine (laws_toAlarm.calls k _ _ l1_0 a1_1 a1_2 a1_3 t1071 t1074 t1075 t1076 _ ?side1 ?side2 A20.out).mono ?_
           (case side1 => repeat (first | exact (Kd.C_below HR1_0.out HB.out) | (with_reducible first | refine ca_ ?_ _ | refine cn_ ?_ _ | refine cd_ ?_)))
           (case side2 => exact HC1_0.out)
           rintro e w59 ⟨v1072, rfl, ho0, hb⟩
           refine ⟨_, rfl, ?_⟩
           obtain ⟨gbz1072, hz1072⟩ := Kd.R_name ho0
           have n0_ := Aside0.mk (Kd.R_below (Kd.R_ltz hz1072 (rp_ HO1065.out)) hb)
           have n1_ := Aside0.mk (Kd.S_below (Kd.S_ltz hz1072 (sp_ HO1070.out)) hb)
           have n2_ := Aside0.mk (Kd.R_lower (Kd.R_gez hz1072 ho0) (below_size (by repeat (first | (with_reducible first | exact HB.out | apply ba_ | apply bn_ | apply bd_ | refine below_set ?_ GE1058.out | refine below_set ?_ GE1059.out) | exact HB.out))))
           have n3_ := Aside0.mk (bb_ BK1058.out hb)
           have n4_ := Aside0.mk (bb_ BK1059.out hb)
           have n5_ := Aside0.mk (below_step (by repeat (first | (with_reducible first | exact HB.out | apply ba_ | apply bn_ | apply bd_ | refine below_set ?_ GE1058.out | refine below_set ?_ GE1059.out) | exact HB.out)) hb)
           clear HO1065 HO1070 BK1058 BK1059 HB
           have HO1065 := n0_
           have HO1070 := n1_
           have HO1073 := n2_
           have BK1058 := n3_
           have BK1059 := n4_
           have HB := n5_
           clear n0_ n1_ n2_ n3_ n4_ n5_
           (try clear hb)
           (try clear hb2)
           (try clear hk)
           (try clear hi)
           (try clear ho0)
           obtain ⟨Ao60, co60, eo60⟩ := Kd.R_slice HO1065.out
           (first | subst eo60 | (injection eo60 with f1_ f2_ f3_; have f4_ := f1_.symm; have f5_ := f3_.symm; clear f1_ f2_ f3_; subst f4_; subst f5_))
           obtain ⟨Ao61, co61, eo61⟩ := Kd.S_slice HO1070.out
           (first | subst eo61 | (injection eo61 with f1_ f2_ f3_; have f4_ := f1_.symm; have f5_ := f3_.symm; clear f1_ f2_ f3_; subst f4_; subst f5_))
           obtain ⟨Ao62, co62, eo62⟩ := Kd.R_slice HO1073.out
           (first | subst eo62 | (injection eo62 with f1_ f2_ f3_; have f4_ := f1_.symm; have f5_ := f3_.symm; clear f1_ f2_ f3_; subst f4_; subst f5_))
           refine hK.out _ _ ⟨bx_ BK1058.out 0, bx_ BK1058.out 1, bx_ BK1058.out 2, bx_ BK1058.out 3, bx_ BK1058.out 4, bx_ BK1059.out 0, bx_ BK1059.out 1, bx_ BK1059.out 2, bx_ BK1059.out 3⟩ (fun hHeld => ?_)
           clear hK K
           refine norm_ (a' := ?_) ?_ ?_
           rotate_left
           ·
            show Act.put _ (some 27) _ = _
            simp only [fr_]
            rfl
           refine two_ (i := 4) (j := 5) (Ni := some 28) (Nj := some 6) #[t_,t_,t_,t_,t_,f_,f_] #[t_,t_,t_,t_,f_,t_,f_] rfl rfl rfl rfl (by kernel_rfl) (by decide) (by decide) (fun K hK => ?_) (fun K hK => ?_)
           ·
            skip
            refine goes_ Try.func56 (by kernel_rfl) rfl #[.agg #[.int .i64 t1062, .slice Ao60 t1063.length co60, .int .i64 t1066, .int .i64 t1067, .slice Ao61 t1068.length co61], .agg #[.slice Ao62 t1071.length co62, .int .i64 t1074, .int .i64 t1075, .string t1076]] (by rfl) rfl rfl (by (try simp only [mp_]); first | done | rfl | (simp only [List.length_drop, List.length_take]; rfl)) ?_
            with_reducible refine (spec_JoinIn.calls k t1062 _ _ t1063 t1066 t1067 _ _ t1068 _ _ t1071 t1074 t1075 t1076 t1077 t1078 t1081 t1082 t1083 _ ?side1 ?side2 ?side3 ?side4 ?side5 ?side6 A21.out).mono ?_
            (case side1 => repeat (first | exact (Kd.R_reads' HO1065.out).2.2 | (with_reducible first | refine ca_ ?_ _ | refine cn_ ?_ _ | refine cd_ ?_)))
            (case side2 => exact (Kd.R_reads' HO1065.out).2.1)
            (case side3 => repeat (first | exact (Kd.S_reads' HO1070.out).2.2 | (with_reducible first | refine ca_ ?_ _ | refine cn_ ?_ _ | refine cd_ ?_)))
            (case side4 => exact (Kd.S_reads' HO1070.out).2.1)
            (case side5 => repeat (first | exact (Kd.R_reads' HO1073.out).2.2 | (with_reducible first | refine ca_ ?_ _ | refine cn_ ?_ _ | refine cd_ ?_)))
            (case side6 => exact (Kd.R_reads' HO1073.out).2.1)
            rintro e w63 ⟨v1079, v1084, rfl, ho0, ho1, hb⟩
            refine ⟨_, rfl, ?_⟩
            obtain ⟨gbz1079, hz1079⟩ := Kd.R_name ho0
            have n0_ := Aside0.mk (Kd.R_below (Kd.R_ltz hz1079 (rp_ HO1065.out)) hb)
            have n1_ := Aside0.mk (Kd.S_below (Kd.S_ltz hz1079 (sp_ HO1070.out)) hb)
            have n2_ := Aside0.mk (Kd.R_below (Kd.R_ltz hz1079 (rp_ HO1073.out)) hb)
            have n3_ := Aside0.mk (Kd.R_lower (Kd.R_gez hz1079 ho0) (below_size (by repeat (first | (with_reducible first | exact HB.out | apply ba_ | apply bn_ | apply bd_ | refine below_set ?_ GE1058.out | refine below_set ?_ GE1059.out) | exact HB.out))))
            have n4_ := Aside0.mk (Kd.S_lower (Kd.S_gez hz1079 ho1) (below_size (by repeat (first | (with_reducible first | exact HB.out | apply ba_ | apply bn_ | apply bd_ | refine below_set ?_ GE1058.out | refine below_set ?_ GE1059.out) | exact HB.out))))
            have n5_ := Aside0.mk (bb_ BK1058.out hb)
            have n6_ := Aside0.mk (bb_ BK1059.out hb)
            have n7_ := Aside0.mk (below_step (by repeat (first | (with_reducible first | exact HB.out | apply ba_ | apply bn_ | apply bd_ | refine below_set ?_ GE1058.out | refine below_set ?_ GE1059.out) | exact HB.out)) hb)
            clear HO1065 HO1070 HO1073 BK1058 BK1059 HB
            have HO1065 := n0_
            have HO1070 := n1_
            have HO1073 := n2_
            have HO1080 := n3_
            have HO1085 := n4_
            have BK1058 := n5_
            have BK1059 := n6_
            have HB := n7_
            clear n0_ n1_ n2_ n3_ n4_ n5_ n6_ n7_
            (try clear hb)
            (try clear hb2)
            (try clear hk)
            (try clear hi)
            (try clear ho0)
            (try clear ho1)
            refine hK.out _ _ ⟨bx_ BK1058.out 0, bx_ BK1058.out 1, bx_ BK1058.out 2, bx_ BK1058.out 3, bx_ BK1058.out 4, bx_ BK1059.out 0, bx_ BK1059.out 1, bx_ BK1059.out 2, bx_ BK1059.out 3⟩ (fun hHeld => ?_)
            clear hK K
            refine norm_ (a' := ?_) ?_ ?_
            rotate_left
            ·
             show Act.put _ (some 28) _ = _
             simp only [fr_]
             rfl
            refine one_ (i := 5) (N := some 6) #[t_,t_,t_,t_,t_,t_,f_] rfl rfl (by kernel_rfl) (by decide) (fun K hK => ?_)
            refine box_step ?hg (N := 6) ?hd (cs := #[.int .i64 0, .slice none 0 0, .int .i64 0, .int .i64 0, .slice none 0 0]) (t := 75) ?hr ?_; (case hd => rfl); (case hg => rfl); (case hr => first | (go_simp; done) | (go_simp; rfl))
            intro gb1086 hg w64 hbox hb
            have n0_ := Aside0.mk (Kd.R_below (rp_ HO1065.out) hb)
            have n1_ := Aside0.mk (Kd.S_below (sp_ HO1070.out) hb)
            have n2_ := Aside0.mk (Kd.R_below (rp_ HO1073.out) hb)
            have n3_ := Aside0.mk (Kd.R_below (rp_ HO1080.out) hb)
            have n4_ := Aside0.mk (Kd.S_below (sp_ HO1085.out) hb)
            have n5_ := Aside0.mk (bb_ BK1058.out hb)
            have n6_ := Aside0.mk (bb_ BK1059.out hb)
            have n7_ := Aside0.mk (below_step (by repeat (first | (with_reducible first | exact HB.out | apply ba_ | apply bn_ | apply bd_ | refine below_set ?_ GE1058.out | refine below_set ?_ GE1059.out) | exact HB.out)) hb)
            have n8_ := Aside0.mk (hbox)
            have n9_ := Aside0.mk ((by rw [hg]; exact (below_size (by repeat (first | (with_reducible first | exact HB.out | apply ba_ | apply bn_ | apply bd_ | refine below_set ?_ GE1058.out | refine below_set ?_ GE1059.out) | exact HB.out))) : w.heap.size ≤ gb1086))
            have n10_ := Aside0.mk ((by rw [hg]; exact (below_size (by repeat (first | (with_reducible first | exact HB.out | apply ba_ | apply bn_ | apply bd_ | refine below_set ?_ GE1058.out | refine below_set ?_ GE1059.out) | exact HB.out))) : w.heap.size ≤ gb1086))
            have n11_ := Aside0.mk (nl_ BK1058.out hg)
            have n12_ := Aside0.mk (ng_ BK1058.out hg)
            have n13_ := Aside0.mk (nl_ BK1059.out hg)
            have n14_ := Aside0.mk (ng_ BK1059.out hg)
            clear HO1065 HO1070 HO1073 HO1080 HO1085 BK1058 BK1059 HB
            have HO1065 := n0_
            have HO1070 := n1_
            have HO1073 := n2_
            have HO1080 := n3_
            have HO1085 := n4_
            have BK1058 := n5_
            have BK1059 := n6_
            have HB := n7_
            have BK1086 := n8_
            have GW1086 := n9_
            have GE1086 := n10_
            have NB1058_1086 := n11_
            have NB1086_1058 := n12_
            have NB1059_1086 := n13_
            have NB1086_1059 := n14_
            clear n0_ n1_ n2_ n3_ n4_ n5_ n6_ n7_ n8_ n9_ n10_ n11_ n12_ n13_ n14_ hb hbox hg
            refine hK.out _ _ ⟨bx_ BK1058.out 0, bx_ BK1058.out 1, bx_ BK1058.out 2, bx_ BK1058.out 3, bx_ BK1058.out 4, bx_ BK1059.out 0, bx_ BK1059.out 1, bx_ BK1059.out 2, bx_ BK1059.out 3⟩ (fun hHeld => ?_)
            clear hK K
            refine norm_ (a' := ?_) ?_ ?_
            rotate_left
            ·
             show Act.put _ (some 6) _ = _
             simp only [fr_]
             rfl
            exact norm_ (by simp only [putAll, Act.put, List.setIfInBounds_toArray, List.set_cons_zero, List.set_cons_succ]) (hCont (.slice Ao60 t1063.length co60, .slice Ao61 t1068.length co61, gbz1064, .slice Ao62 t1071.length co62, gbz1072, v1079, v1084, gbz1079, gb1086) _ ⟨hHeld, (by (with_reducible repeat (first | apply Kd.R_alloc | apply Kd.R_drewN | apply Kd.R_drew)); exact Kd.R_mono HO1065.out (fun _ hk => ⟨hk.1.1.2, ⟨hk.1.2, hk.2⟩⟩)), (by (with_reducible repeat (first | apply Kd.S_alloc | apply Kd.S_drewN | apply Kd.S_drew)); exact Kd.S_mono HO1070.out (fun _ hk => ⟨hk.1.1.1, ⟨hk.1.1.2, ⟨hk.1.2, hk.2⟩⟩⟩)), (by (with_reducible repeat (first | apply Kd.R_alloc | apply Kd.R_drewN | apply Kd.R_drew)); exact Kd.R_mono HO1073.out (fun _ hk => ⟨hk.1.2, hk.2⟩)), (by (with_reducible repeat (first | apply Kd.R_alloc | apply Kd.R_drewN | apply Kd.R_drew)); exact Kd.R_mono HO1080.out (fun _ hk => hk.2)), (sp_ HO1085.out), (pb_ BK1058.out), (pb_ BK1059.out), (pb_ BK1086.out), GW1086.out, GE1086.out, NB1058_1086.out, NB1086_1058.out, NB1059_1086.out, NB1086_1059.out, (by repeat (first | (with_reducible first | exact HB.out | apply ba_ | apply bn_ | apply bd_ | refine below_set ?_ GE1058.out | refine below_set ?_ GE1059.out | refine below_set ?_ GE1086.out) | exact HB.out))⟩)
           skip
           refine box_step ?hg (N := 6) ?hd (cs := #[.int .i64 0, .slice none 0 0, .int .i64 0, .int .i64 0, .slice none 0 0]) (t := 75) ?hr ?_; (case hd => rfl); (case hg => rfl); (case hr => first | (go_simp; done) | (go_simp; rfl))
           intro gb1086 hg w60 hbox hb
           have n0_ := Aside0.mk (Kd.R_below (rp_ HO1065.out) hb)
           have n1_ := Aside0.mk (Kd.S_below (sp_ HO1070.out) hb)
           have n2_ := Aside0.mk (Kd.R_below (rp_ HO1073.out) hb)
           have n3_ := Aside0.mk (bb_ BK1058.out hb)
           have n4_ := Aside0.mk (bb_ BK1059.out hb)
           have n5_ := Aside0.mk (below_step (by repeat (first | (with_reducible first | exact HB.out | apply ba_ | apply bn_ | apply bd_ | refine below_set ?_ GE1058.out | refine below_set ?_ GE1059.out) | exact HB.out)) hb)
           have n6_ := Aside0.mk (hbox)
           have n7_ := Aside0.mk ((by rw [hg]; exact (below_size (by repeat (first | (with_reducible first | exact HB.out | apply ba_ | apply bn_ | apply bd_ | refine below_set ?_ GE1058.out | refine below_set ?_ GE1059.out) | exact HB.out))) : w.heap.size ≤ gb1086))
           have n8_ := Aside0.mk ((by rw [hg]; exact (below_size (by repeat (first | (with_reducible first | exact HB.out | apply ba_ | apply bn_ | apply bd_ | refine below_set ?_ GE1058.out | refine below_set ?_ GE1059.out) | exact HB.out))) : w.heap.size ≤ gb1086))
           have n9_ := Aside0.mk (nl_ BK1058.out hg)
           have n10_ := Aside0.mk (ng_ BK1058.out hg)
           have n11_ := Aside0.mk (nl_ BK1059.out hg)
           have n12_ := Aside0.mk (ng_ BK1059.out hg)
           clear HO1065 HO1070 HO1073 BK1058 BK1059 HB
           have HO1065 := n0_
           have HO1070 := n1_
           have HO1073 := n2_
           have BK1058 := n3_
           have BK1059 := n4_
           have HB := n5_
           have BK1086 := n6_
           have GW1086 := n7_
           have GE1086 := n8_
           have NB1058_1086 := n9_
           have NB1086_1058 := n10_
           have NB1059_1086 := n11_
           have NB1086_1059 := n12_
           clear n0_ n1_ n2_ n3_ n4_ n5_ n6_ n7_ n8_ n9_ n10_ n11_ n12_ hb hbox hg
           obtain ⟨Ao61, co61, eo61⟩ := Kd.R_slice HO1065.out
           (first | subst eo61 | (injection eo61 with f1_ f2_ f3_; have f4_ := f1_.symm; have f5_ := f3_.symm; clear f1_ f2_ f3_; subst f4_; subst f5_))
           obtain ⟨Ao62, co62, eo62⟩ := Kd.S_slice HO1070.out
           (first | subst eo62 | (injection eo62 with f1_ f2_ f3_; have f4_ := f1_.symm; have f5_ := f3_.symm; clear f1_ f2_ f3_; subst f4_; subst f5_))
           obtain ⟨Ao63, co63, eo63⟩ := Kd.R_slice HO1073.out
           (first | subst eo63 | (injection eo63 with f1_ f2_ f3_; have f4_ := f1_.symm; have f5_ := f3_.symm; clear f1_ f2_ f3_; subst f4_; subst f5_))
           refine hK.out _ _ ⟨bx_ BK1058.out 0, bx_ BK1058.out 1, bx_ BK1058.out 2, bx_ BK1058.out 3, bx_ BK1058.out 4, bx_ BK1059.out 0, bx_ BK1059.out 1, bx_ BK1059.out 2, bx_ BK1059.out 3⟩ (fun hHeld => ?_)
           clear hK K
           refine norm_ (a' := ?_) ?_ ?_
           rotate_left
           ·
            show Act.put _ (some 6) _ = _
            simp only [fr_]
            rfl
           refine one_ (i := 4) (N := some 28) #[t_,t_,t_,t_,t_,t_,f_] rfl rfl (by kernel_rfl) (by decide) (fun K hK => ?_)
           refine goes_ Try.func56 (by kernel_rfl) rfl #[.agg #[.int .i64 t1062, .slice Ao61 t1063.length co61, .int .i64 t1066, .int .i64 t1067, .slice Ao62 t1068.length co62], .agg #[.slice Ao63 t1071.length co63, .int .i64 t1074, .int .i64 t1075, .string t1076]] (by rfl) rfl rfl (by (try simp only [mp_]); first | done | rfl | (simp only [List.length_drop, List.length_take]; rfl)) ?_
           with_reducible refine (spec_JoinIn.calls k t1062 _ _ t1063 t1066 t1067 _ _ t1068 _ _ t1071 t1074 t1075 t1076 t1077 t1078 t1081 t1082 t1083 _ ?side1 ?side2 ?side3 ?side4 ?side5 ?side6 A21.out).mono ?_
           (case side1 => repeat (first | exact (Kd.R_reads' HO1065.out).2.2 | (with_reducible first | refine ca_ ?_ _ | refine cn_ ?_ _ | refine cd_ ?_)))
           (case side2 => exact (Kd.R_reads' HO1065.out).2.1)
           (case side3 => repeat (first | exact (Kd.S_reads' HO1070.out).2.2 | (with_reducible first | refine ca_ ?_ _ | refine cn_ ?_ _ | refine cd_ ?_)))
           (case side4 => exact (Kd.S_reads' HO1070.out).2.1)
           (case side5 => repeat (first | exact (Kd.R_reads' HO1073.out).2.2 | (with_reducible first | refine ca_ ?_ _ | refine cn_ ?_ _ | refine cd_ ?_)))
           (case side6 => exact (Kd.R_reads' HO1073.out).2.1)
           rintro e w64 ⟨v1079, v1084, rfl, ho0, ho1, hb⟩
           refine ⟨_, rfl, ?_⟩
           obtain ⟨gbz1079, hz1079⟩ := Kd.R_name ho0
           have n0_ := Aside0.mk (Kd.R_below (Kd.R_ltz hz1079 (rp_ HO1065.out)) hb)
           have n1_ := Aside0.mk (Kd.S_below (Kd.S_ltz hz1079 (sp_ HO1070.out)) hb)
           have n2_ := Aside0.mk (Kd.R_below (Kd.R_ltz hz1079 (rp_ HO1073.out)) hb)
           have n3_ := Aside0.mk (Kd.R_lower (Kd.R_gez hz1079 ho0) (below_size (by repeat (first | (with_reducible first | exact HB.out | apply ba_ | apply bn_ | apply bd_ | refine below_set ?_ GE1058.out | refine below_set ?_ GE1059.out | refine below_set ?_ GE1086.out) | exact HB.out))))
           have n4_ := Aside0.mk (Kd.S_lower (Kd.S_gez hz1079 ho1) (below_size (by repeat (first | (with_reducible first | exact HB.out | apply ba_ | apply bn_ | apply bd_ | refine below_set ?_ GE1058.out | refine below_set ?_ GE1059.out | refine below_set ?_ GE1086.out) | exact HB.out))))
           have n5_ := Aside0.mk (bb_ BK1058.out hb)
           have n6_ := Aside0.mk (bb_ BK1059.out hb)
           have n7_ := Aside0.mk (bb_ BK1086.out hb)
           have n8_ := Aside0.mk (below_step (by repeat (first | (with_reducible first | exact HB.out | apply ba_ | apply bn_ | apply bd_ | refine below_set ?_ GE1058.out | refine below_set ?_ GE1059.out | refine below_set ?_ GE1086.out) | exact HB.out)) hb)
           clear HO1065 HO1070 HO1073 BK1058 BK1059 BK1086 HB
           have HO1065 := n0_
           have HO1070 := n1_
           have HO1073 := n2_
           have HO1080 := n3_
           have HO1085 := n4_
           have BK1058 := n5_
           have BK1059 := n6_
           have BK1086 := n7_
           have HB := n8_
           clear n0_ n1_ n2_ n3_ n4_ n5_ n6_ n7_ n8_
           (try clear hb)
           (try clear hb2)
           (try clear hk)
           (try clear hi)
           (try clear ho0)
           (try clear ho1)
           refine hK.out _ _ ⟨bx_ BK1058.out 0, bx_ BK1058.out 1, bx_ BK1058.out 2, bx_ BK1058.out 3, bx_ BK1058.out 4, bx_ BK1059.out 0, bx_ BK1059.out 1, bx_ BK1059.out 2, bx_ BK1059.out 3⟩ (fun hHeld => ?_)
           clear hK K
           refine norm_ (a' := ?_) ?_ ?_
           rotate_left
           ·
            show Act.put _ (some 28) _ = _
            simp only [fr_]
            rfl
           exact norm_ (by simp only [putAll, Act.put, List.setIfInBounds_toArray, List.set_cons_zero, List.set_cons_succ]) (hCont (.slice Ao61 t1063.length co61, .slice Ao62 t1068.length co62, gbz1064, .slice Ao63 t1071.length co63, gbz1072, v1079, v1084, gbz1079, gb1086) _ ⟨hHeld, (by (with_reducible repeat (first | apply Kd.R_alloc | apply Kd.R_drewN | apply Kd.R_drew)); exact Kd.R_mono HO1065.out (fun _ hk => ⟨hk.1.1.2, ⟨hk.1.2, hk.2⟩⟩)), (by (with_reducible repeat (first | apply Kd.S_alloc | apply Kd.S_drewN | apply Kd.S_drew)); exact Kd.S_mono HO1070.out (fun _ hk => ⟨hk.1.1.1, ⟨hk.1.1.2, ⟨hk.1.2, hk.2⟩⟩⟩)), (by (with_reducible repeat (first | apply Kd.R_alloc | apply Kd.R_drewN | apply Kd.R_drew)); exact Kd.R_mono HO1073.out (fun _ hk => ⟨hk.1.2, hk.2⟩)), (by (with_reducible repeat (first | apply Kd.R_alloc | apply Kd.R_drewN | apply Kd.R_drew)); exact Kd.R_mono HO1080.out (fun _ hk => hk.2)), (sp_ HO1085.out), (pb_ BK1058.out), (pb_ BK1059.out), (pb_ BK1086.out), GW1086.out, GE1086.out, NB1058_1086.out, NB1086_1058.out, NB1059_1086.out, NB1086_1059.out, (by repeat (first | (with_reducible first | exact HB.out | apply ba_ | apply bn_ | apply bd_ | refine below_set ?_ GE1058.out | refine below_set ?_ GE1059.out | refine below_set ?_ GE1086.out) | exact HB.out))⟩)
          skip
          refine box_step ?hg (N := 6) ?hd (cs := #[.int .i64 0, .slice none 0 0, .int .i64 0, .int .i64 0, .slice none 0 0]) (t := 75) ?hr ?_; (case hd => rfl); (case hg => rfl); (case hr => first | (go_simp; done) | (go_simp; rfl))
          intro gb1086 hg w59 hbox hb
          have n0_ := Aside0.mk (Kd.R_below (rp_ HO1065.out) hb)
          have n1_ := Aside0.mk (Kd.S_below (sp_ HO1070.out) hb)
          have n2_ := Aside0.mk (bb_ BK1058.out hb)
          have n3_ := Aside0.mk (bb_ BK1059.out hb)
          have n4_ := Aside0.mk (below_step (by repeat (first | (with_reducible first | exact HB.out | apply ba_ | apply bn_ | apply bd_ | refine below_set ?_ GE1058.out | refine below_set ?_ GE1059.out) | exact HB.out)) hb)
          have n5_ := Aside0.mk (hbox)
          have n6_ := Aside0.mk ((by rw [hg]; exact (below_size (by repeat (first | (with_reducible first | exact HB.out | apply ba_ | apply bn_ | apply bd_ | refine below_set ?_ GE1058.out | refine below_set ?_ GE1059.out) | exact HB.out))) : w.heap.size ≤ gb1086))
          have n7_ := Aside0.mk ((by rw [hg]; exact (below_size (by repeat (first | (with_reducible first | exact HB.out | apply ba_ | apply bn_ | apply bd_ | refine below_set ?_ GE1058.out | refine below_set ?_ GE1059.out) | exact HB.out))) : w.heap.size ≤ gb1086))
          have n8_ := Aside0.mk (nl_ BK1058.out hg)
          have n9_ := Aside0.mk (ng_ BK1058.out hg)
          have n10_ := Aside0.mk (nl_ BK1059.out hg)
          have n11_ := Aside0.mk (ng_ BK1059.out hg)
          clear HO1065 HO1070 BK1058 BK1059 HB
          have HO1065 := n0_
          have HO1070 := n1_
          have BK1058 := n2_
          have BK1059 := n3_
          have HB := n4_
          have BK1086 := n5_
          have GW1086 := n6_
          have GE1086 := n7_
          have NB1058_1086 := n8_
          have NB1086_1058 := n9_
          have NB1059_1086 := n10_
          have NB1086_1059 := n11_
          clear n0_ n1_ n2_ n3_ n4_ n5_ n6_ n7_ n8_ n9_ n10_ n11_ hb hbox hg
          refine hK.out _ _ ⟨bx_ BK1058.out 0, bx_ BK1058.out 1, bx_ BK1058.out 2, bx_ BK1058.out 3, bx_ BK1058.out 4, bx_ BK1059.out 0, bx_ BK1059.out 1, bx_ BK1059.out 2, bx_ BK1059.out 3⟩ (fun hHeld => ?_)
          clear hK K
          refine norm_ (a' := ?_) ?_ ?_
          rotate_left
          ·
           show Act.put _ (some 6) _ = _
           simp only [fr_]
           rfl
          refine one_ (i := 3) (N := some 27) #[t_,t_,t_,t_,f_,t_,f_] rfl rfl (by kernel_rfl) (by decide) (fun K hK => ?_)
          refine goes_ Try.func24 (by kernel_rfl) rfl #[.agg #[.slice A1_0 l1_0.length c1_0, .int .i64 a1_1, .int .i64 a1_2, .string a1_3]] (by rfl) rfl rfl (by (try simp only [mp_]); first | done | rfl | (simp only [List.length_drop, List.length_take]; rfl)) ?_
          with_reducible refine (laws_toAlarm.calls k _ _ l1_0 a1_1 a1_2 a1_3 t1071 t1074 t1075 t1076 _ ?side1 ?side2 A20.out).mono ?_
          (case side1 => repeat (first | exact (Kd.C_below HR1_0.out HB.out) | (with_reducible first | refine ca_ ?_ _ | refine cn_ ?_ _ | refine cd_ ?_)))
          (case side2 => exact HC1_0.out)
          rintro e w60 ⟨v1072, rfl, ho0, hb⟩
          refine ⟨_, rfl, ?_⟩
          obtain ⟨gbz1072, hz1072⟩ := Kd.R_name ho0
          have n0_ := Aside0.mk (Kd.R_below (Kd.R_ltz hz1072 (rp_ HO1065.out)) hb)
          have n1_ := Aside0.mk (Kd.S_below (Kd.S_ltz hz1072 (sp_ HO1070.out)) hb)
          have n2_ := Aside0.mk (Kd.R_lower (Kd.R_gez hz1072 ho0) (below_size (by repeat (first | (with_reducible first | exact HB.out | apply ba_ | apply bn_ | apply bd_ | refine below_set ?_ GE1058.out | refine below_set ?_ GE1059.out | refine below_set ?_ GE1086.out) | exact HB.out))))
          have n3_ := Aside0.mk (bb_ BK1058.out hb)
          have n4_ := Aside0.mk (bb_ BK1059.out hb)
          have n5_ := Aside0.mk (bb_ BK1086.out hb)
          have n6_ := Aside0.mk (below_step (by repeat (first | (with_reducible first | exact HB.out | apply ba_ | apply bn_ | apply bd_ | refine below_set ?_ GE1058.out | refine below_set ?_ GE1059.out | refine below_set ?_ GE1086.out) | exact HB.out)) hb)
          clear HO1065 HO1070 BK1058 BK1059 BK1086 HB
          have HO1065 := n0_
          have HO1070 := n1_
          have HO1073 := n2_
          have BK1058 := n3_
          have BK1059 := n4_
          have BK1086 := n5_
          have HB := n6_
          clear n0_ n1_ n2_ n3_ n4_ n5_ n6_
          (try clear hb)
          (try clear hb2)
          (try clear hk)
          (try clear hi)
          (try clear ho0)
          obtain ⟨Ao61, co61, eo61⟩ := Kd.R_slice HO1065.out
          (first | subst eo61 | (injection eo61 with f1_ f2_ f3_; have f4_ := f1_.symm; have f5_ := f3_.symm; clear f1_ f2_ f3_; subst f4_; subst f5_))
          obtain ⟨Ao62, co62, eo62⟩ := Kd.S_slice HO1070.out
          (first | subst eo62 | (injection eo62 with f1_ f2_ f3_; have f4_ := f1_.symm; have f5_ := f3_.symm; clear f1_ f2_ f3_; subst f4_; subst f5_))
          obtain ⟨Ao63, co63, eo63⟩ := Kd.R_slice HO1073.out
          (first | subst eo63 | (injection eo63 with f1_ f2_ f3_; have f4_ := f1_.symm; have f5_ := f3_.symm; clear f1_ f2_ f3_; subst f4_; subst f5_))
          refine hK.out _ _ ⟨bx_ BK1058.out 0, bx_ BK1058.out 1, bx_ BK1058.out 2, bx_ BK1058.out 3, bx_ BK1058.out 4, bx_ BK1059.out 0, bx_ BK1059.out 1, bx_ BK1059.out 2, bx_ BK1059.out 3⟩ (fun hHeld => ?_)
          clear hK K
          refine norm_ (a' := ?_) ?_ ?_
          rotate_left
          ·
           show Act.put _ (some 27) _ = _
           simp only [fr_]
           rfl
          refine one_ (i := 4) (N := some 28) #[t_,t_,t_,t_,t_,t_,f_] rfl rfl (by kernel_rfl) (by decide) (fun K hK => ?_)
          refine goes_ Try.func56 (by kernel_rfl) rfl #[.agg #[.int .i64 t1062, .slice Ao61 t1063.length co61, .int .i64 t1066, .int .i64 t1067, .slice Ao62 t1068.length co62], .agg #[.slice Ao63 t1071.length co63, .int .i64 t1074, .int .i64 t1075, .string t1076]] (by rfl) rfl rfl (by (try simp only [mp_]); first | done | rfl | (simp only [List.length_drop, List.length_take]; rfl)) ?_
          with_reducible refine (spec_JoinIn.calls k t1062 _ _ t1063 t1066 t1067 _ _ t1068 _ _ t1071 t1074 t1075 t1076 t1077 t1078 t1081 t1082 t1083 _ ?side1 ?side2 ?side3 ?side4 ?side5 ?side6 A21.out).mono ?_
          (case side1 => repeat (first | exact (Kd.R_reads' HO1065.out).2.2 | (with_reducible first | refine ca_ ?_ _ | refine cn_ ?_ _ | refine cd_ ?_)))
          (case side2 => exact (Kd.R_reads' HO1065.out).2.1)
          (case side3 => repeat (first | exact (Kd.S_reads' HO1070.out).2.2 | (with_reducible first | refine ca_ ?_ _ | refine cn_ ?_ _ | refine cd_ ?_)))
          (case side4 => exact (Kd.S_reads' HO1070.out).2.1)
          (case side5 => repeat (first | exact (Kd.R_reads' HO1073.out).2.2 | (with_reducible first | refine ca_ ?_ _ | refine cn_ ?_ _ | refine cd_ ?_)))
          (case side6 => exact (Kd.R_reads' HO1073.out).2.1)
          rintro e w64 ⟨v1079, v1084, rfl, ho0, ho1, hb⟩
          refine ⟨_, rfl, ?_⟩
          obtain ⟨gbz1079, hz1079⟩ := Kd.R_name ho0
          have n0_ := Aside0.mk (Kd.R_below (Kd.R_ltz hz1079 (rp_ HO1065.out)) hb)
          have n1_ := Aside0.mk (Kd.S_below (Kd.S_ltz hz1079 (sp_ HO1070.out)) hb)
          have n2_ := Aside0.mk (Kd.R_below (Kd.R_ltz hz1079 (rp_ HO1073.out)) hb)
          have n3_ := Aside0.mk (Kd.R_lower (Kd.R_gez hz1079 ho0) (below_size (by repeat (first | (with_reducible first | exact HB.out | apply ba_ | apply bn_ | apply bd_ | refine below_set ?_ GE1058.out | refine below_set ?_ GE1059.out | refine below_set ?_ GE1086.out) | exact HB.out))))
          have n4_ := Aside0.mk (Kd.S_lower (Kd.S_gez hz1079 ho1) (below_size (by repeat (first | (with_reducible first | exact HB.out | apply ba_ | apply bn_ | apply bd_ | refine below_set ?_ GE1058.out | refine below_set ?_ GE1059.out | refine below_set ?_ GE1086.out) | exact HB.out))))
          have n5_ := Aside0.mk (bb_ BK1058.out hb)
          have n6_ := Aside0.mk (bb_ BK1059.out hb)
          have n7_ := Aside0.mk (bb_ BK1086.out hb)
          have n8_ := Aside0.mk (below_step (by repeat (first | (with_reducible first | exact HB.out | apply ba_ | apply bn_ | apply bd_ | refine below_set ?_ GE1058.out | refine below_set ?_ GE1059.out | refine below_set ?_ GE1086.out) | exact HB.out)) hb)
          clear HO1065 HO1070 HO1073 BK1058 BK1059 BK1086 HB
          have HO1065 := n0_
          have HO1070 := n1_
          have HO1073 := n2_
          have HO1080 := n3_
          have HO1085 := n4_
          have BK1058 := n5_
          have BK1059 := n6_
          have BK1086 := n7_
          have HB := n8_
          clear n0_ n1_ n2_ n3_ n4_ n5_ n6_ n7_ n8_
          (try clear hb)
          (try clear hb2)
          (try clear hk)
          (try clear hi)
          (try clear ho0)
          (try clear ho1)
          refine hK.out _ _ ⟨bx_ BK1058.out 0, bx_ BK1058.out 1, bx_ BK1058.out 2, bx_ BK1058.out 3, bx_ BK1058.out 4, bx_ BK1059.out 0, bx_ BK1059.out 1, bx_ BK1059.out 2, bx_ BK1059.out 3⟩ (fun hHeld => ?_)
          clear hK K
          refine norm_ (a' := ?_) ?_ ?_
          rotate_left
          ·
           show Act.put _ (some 28) _ = _
           simp only [fr_]
           rfl
          exact norm_ (by simp only [putAll, Act.put, List.setIfInBounds_toArray, List.set_cons_zero, List.set_cons_succ]) (hCont (.slice Ao61 t1063.length co61, .slice Ao62 t1068.length co62, gbz1064, .slice Ao63 t1071.length co63, gbz1072, v1079, v1084, gbz1079, gb1086) _ ⟨hHeld, (by (with_reducible repeat (first | apply Kd.R_alloc | apply Kd.R_drewN | apply Kd.R_drew)); exact Kd.R_mono HO1065.out (fun _ hk => ⟨hk.1.1.2, ⟨hk.1.2, hk.2⟩⟩)), (by (with_reducible repeat (first | apply Kd.S_alloc | apply Kd.S_drewN | apply Kd.S_drew)); exact Kd.S_mono HO1070.out (fun _ hk => ⟨hk.1.1.1, ⟨hk.1.1.2, ⟨hk.1.2, hk.2⟩⟩⟩)), (by (with_reducible repeat (first | apply Kd.R_alloc | apply Kd.R_drewN | apply Kd.R_drew)); exact Kd.R_mono HO1073.out (fun _ hk => ⟨hk.1.2, hk.2⟩)), (by (with_reducible repeat (first | apply Kd.R_alloc | apply Kd.R_drewN | apply Kd.R_drew)); exact Kd.R_mono HO1080.out (fun _ hk => hk.2)), (sp_ HO1085.out), (pb_ BK1058.out), (pb_ BK1059.out), (pb_ BK1086.out), GW1086.out, GE1086.out, NB1058_1086.out, NB1086_1058.out, NB1059_1086.out, NB1086_1059.out, (by repeat (first | (with_reducible first | exact HB.out | apply ba_ | apply bn_ | apply bd_ | refine below_set ?_ GE1058.out | refine below_set ?_ GE1059.out | refine below_set ?_ GE1086.out) | exact HB.out))⟩)
         skip
         refine box_step ?hg (N := 6) ?hd (cs := #[.int .i64 0, .slice none 0 0, .int .i64 0, .int .i64 0, .slice none 0 0]) (t := 75) ?hr ?_; (case hd => rfl); (case hg => rfl); (case hr => first | (go_simp; done) | (go_simp; rfl))
         intro gb1086 hg w58 hbox hb
         have n0_ := Aside0.mk (bb_ BK1058.out hb)
         have n1_ := Aside0.mk (bb_ BK1059.out hb)
         have n2_ := Aside0.mk (below_step (by repeat (first | (with_reducible first | exact HB.out | apply ba_ | apply bn_ | apply bd_ | refine below_set ?_ GE1058.out | refine below_set ?_ GE1059.out) | exact HB.out)) hb)
         have n3_ := Aside0.mk (hbox)
         have n4_ := Aside0.mk ((by rw [hg]; exact (below_size (by repeat (first | (with_reducible first | exact HB.out | apply ba_ | apply bn_ | apply bd_ | refine below_set ?_ GE1058.out | refine below_set ?_ GE1059.out) | exact HB.out))) : w.heap.size ≤ gb1086))
         have n5_ := Aside0.mk ((by rw [hg]; exact (below_size (by repeat (first | (with_reducible first | exact HB.out | apply ba_ | apply bn_ | apply bd_ | refine below_set ?_ GE1058.out | refine below_set ?_ GE1059.out) | exact HB.out))) : w.heap.size ≤ gb1086))
         have n6_ := Aside0.mk (nl_ BK1058.out hg)
         have n7_ := Aside0.mk (ng_ BK1058.out hg)
         have n8_ := Aside0.mk (nl_ BK1059.out hg)
         have n9_ := Aside0.mk (ng_ BK1059.out hg)
         clear BK1058 BK1059 HB
         have BK1058 := n0_
         have BK1059 := n1_
         have HB := n2_
         have BK1086 := n3_
         have GW1086 := n4_
         have GE1086 := n5_
         have NB1058_1086 := n6_
         have NB1086_1058 := n7_
         have NB1059_1086 := n8_
         have NB1086_1059 := n9_
         clear n0_ n1_ n2_ n3_ n4_ n5_ n6_ n7_ n8_ n9_ hb hbox hg
         refine hK.out _ _ ⟨bx_ BK1058.out 0, bx_ BK1058.out 1, bx_ BK1058.out 2, bx_ BK1058.out 3, bx_ BK1058.out 4, bx_ BK1059.out 0, bx_ BK1059.out 1, bx_ BK1059.out 2, bx_ BK1059.out 3⟩ (fun hHeld => ?_)
         clear hK K
         refine norm_ (a' := ?_) ?_ ?_
         rotate_left
         ·
          show Act.put _ (some 6) _ = _
          simp only [fr_]
          rfl
         refine one_ (i := 1) (N := some 25) #[t_,t_,t_,f_,f_,t_,f_] rfl rfl (by kernel_rfl) (by decide) (fun K hK => ?_)
         refine goes_ Try.func51 (by kernel_rfl) rfl #[.agg #[.int .i64 a0_0, .slice A0_1 l0_1.length c0_1, .int .i64 a0_2, .int .i64 a0_3, .slice A0_4 l0_4.length c0_4]] (by rfl) rfl rfl (by (try simp only [mp_]); first | done | rfl | (simp only [List.length_drop, List.length_take]; rfl)) ?_
         with_reducible refine (laws_toGroup.calls k a0_0 _ _ l0_1 a0_2 a0_3 _ _ l0_4 t1062 t1063 t1066 t1067 t1068 _ ?side1 ?side2 ?side3 ?side4 A19.out).mono ?_
         (case side1 => repeat (first | exact (Kd.C_below HR0_1.out HB.out) | (with_reducible first | refine ca_ ?_ _ | refine cn_ ?_ _ | refine cd_ ?_)))
         (case side2 => exact HC0_1.out)
         (case side3 => repeat (first | exact (Kd.C_below HR0_4.out HB.out) | (with_reducible first | refine ca_ ?_ _ | refine cn_ ?_ _ | refine cd_ ?_)))
         (case side4 => exact HC0_4.out)
         rintro e w59 ⟨v1064, v1069, rfl, ho0, ho1, hb⟩
         refine ⟨_, rfl, ?_⟩
         obtain ⟨gbz1064, hz1064⟩ := Kd.R_name ho0
         have n0_ := Aside0.mk (Kd.R_lower (Kd.R_gez hz1064 ho0) (below_size (by repeat (first | (with_reducible first | exact HB.out | apply ba_ | apply bn_ | apply bd_ | refine below_set ?_ GE1058.out | refine below_set ?_ GE1059.out | refine below_set ?_ GE1086.out) | exact HB.out))))
         have n1_ := Aside0.mk (Kd.S_lower (Kd.S_gez hz1064 ho1) (below_size (by repeat (first | (with_reducible first | exact HB.out | apply ba_ | apply bn_ | apply bd_ | refine below_set ?_ GE1058.out | refine below_set ?_ GE1059.out | refine below_set ?_ GE1086.out) | exact HB.out))))
         have n2_ := Aside0.mk (bb_ BK1058.out hb)
         have n3_ := Aside0.mk (bb_ BK1059.out hb)
         have n4_ := Aside0.mk (bb_ BK1086.out hb)
         have n5_ := Aside0.mk (below_step (by repeat (first | (with_reducible first | exact HB.out | apply ba_ | apply bn_ | apply bd_ | refine below_set ?_ GE1058.out | refine below_set ?_ GE1059.out | refine below_set ?_ GE1086.out) | exact HB.out)) hb)
         clear BK1058 BK1059 BK1086 HB
         have HO1065 := n0_
         have HO1070 := n1_
         have BK1058 := n2_
         have BK1059 := n3_
         have BK1086 := n4_
         have HB := n5_
         clear n0_ n1_ n2_ n3_ n4_ n5_
         (try clear hb)
         (try clear hb2)
         (try clear hk)
         (try clear hi)
         (try clear ho0)
         (try clear ho1)
         refine hK.out _ _ ⟨bx_ BK1058.out 0, bx_ BK1058.out 1, bx_ BK1058.out 2, bx_ BK1058.out 3, bx_ BK1058.out 4, bx_ BK1059.out 0, bx_ BK1059.out 1, bx_ BK1059.out 2, bx_ BK1059.out 3⟩ (fun hHeld => ?_)
         clear hK K
         refine norm_ (a' := ?_) ?_ ?_
         rotate_left
         ·
          show Act.put _ (some 25) _ = _
          simp only [fr_]
          rfl
         refine one_ (i := 3) (N := some 27) #[t_,t_,t_,t_,f_,t_,f_] rfl rfl (by kernel_rfl) (by decide) (fun K hK => ?_)
         refine goes_ Try.func24 (by kernel_rfl) rfl #[.agg #[.slice A1_0 l1_0.length c1_0, .int .i64 a1_1, .int .i64 a1_2, .string a1_3]] (by rfl) rfl rfl (by (try simp only [mp_]); first | done | rfl | (simp only [List.length_drop, List.length_take]; rfl)) ?_
         with_reducible refine (laws_toAlarm.calls k _ _ l1_0 a1_1 a1_2 a1_3 t1071 t1074 t1075 t1076 _ ?side1 ?side2 A20.out).mono ?_
         (case side1 => repeat (first | exact (Kd.C_below HR1_0.out HB.out) | (with_reducible first | refine ca_ ?_ _ | refine cn_ ?_ _ | refine cd_ ?_)))
         (case side2 => exact HC1_0.out)
         rintro e w60 ⟨v1072, rfl, ho0, hb⟩
         refine ⟨_, rfl, ?_⟩
         obtain ⟨gbz1072, hz1072⟩ := Kd.R_name ho0
         have n0_ := Aside0.mk (Kd.R_below (Kd.R_ltz hz1072 (rp_ HO1065.out)) hb)
         have n1_ := Aside0.mk (Kd.S_below (Kd.S_ltz hz1072 (sp_ HO1070.out)) hb)
         have n2_ := Aside0.mk (Kd.R_lower (Kd.R_gez hz1072 ho0) (below_size (by repeat (first | (with_reducible first | exact HB.out | apply ba_ | apply bn_ | apply bd_ | refine below_set ?_ GE1058.out | refine below_set ?_ GE1059.out | refine below_set ?_ GE1086.out) | exact HB.out))))
         have n3_ := Aside0.mk (bb_ BK1058.out hb)
         have n4_ := Aside0.mk (bb_ BK1059.out hb)
         have n5_ := Aside0.mk (bb_ BK1086.out hb)
         have n6_ := Aside0.mk (below_step (by repeat (first | (with_reducible first | exact HB.out | apply ba_ | apply bn_ | apply bd_ | refine below_set ?_ GE1058.out | refine below_set ?_ GE1059.out | refine below_set ?_ GE1086.out) | exact HB.out)) hb)
         clear HO1065 HO1070 BK1058 BK1059 BK1086 HB
         have HO1065 := n0_
         have HO1070 := n1_
         have HO1073 := n2_
         have BK1058 := n3_
         have BK1059 := n4_
         have BK1086 := n5_
         have HB := n6_
         clear n0_ n1_ n2_ n3_ n4_ n5_ n6_
         (try clear hb)
         (try clear hb2)
         (try clear hk)
         (try clear hi)
         (try clear ho0)
         obtain ⟨Ao61, co61, eo61⟩ := Kd.R_slice HO1065.out
         (first | subst eo61 | (injection eo61 with f1_ f2_ f3_; have f4_ := f1_.symm; have f5_ := f3_.symm; clear f1_ f2_ f3_; subst f4_; subst f5_))
         obtain ⟨Ao62, co62, eo62⟩ := Kd.S_slice HO1070.out
         (first | subst eo62 | (injection eo62 with f1_ f2_ f3_; have f4_ := f1_.symm; have f5_ := f3_.symm; clear f1_ f2_ f3_; subst f4_; subst f5_))
         obtain ⟨Ao63, co63, eo63⟩ := Kd.R_slice HO1073.out
         (first | subst eo63 | (injection eo63 with f1_ f2_ f3_; have f4_ := f1_.symm; have f5_ := f3_.symm; clear f1_ f2_ f3_; subst f4_; subst f5_))
         refine hK.out _ _ ⟨bx_ BK1058.out 0, bx_ BK1058.out 1, bx_ BK1058.out 2, bx_ BK1058.out 3, bx_ BK1058.out 4, bx_ BK1059.out 0, bx_ BK1059.out 1, bx_ BK1059.out 2, bx_ BK1059.out 3⟩ (fun hHeld => ?_)
         clear hK K
         refine norm_ (a' := ?_) ?_ ?_
         rotate_left
         ·
          show Act.put _ (some 27) _ = _
          simp only [fr_]
          rfl
         refine one_ (i := 4) (N := some 28) #[t_,t_,t_,t_,t_,t_,f_] rfl rfl (by kernel_rfl) (by decide) (fun K hK => ?_)
         refine goes_ Try.func56 (by kernel_rfl) rfl #[.agg #[.int .i64 t1062, .slice Ao61 t1063.length co61, .int .i64 t1066, .int .i64 t1067, .slice Ao62 t1068.length co62], .agg #[.slice Ao63 t1071.length co63, .int .i64 t1074, .int .i64 t1075, .string t1076]] (by rfl) rfl rfl (by (try simp only [mp_]); first | done | rfl | (simp only [List.length_drop, List.length_take]; rfl)) ?_
         with_reducible refine (spec_JoinIn.calls k t1062 _ _ t1063 t1066 t1067 _ _ t1068 _ _ t1071 t1074 t1075 t1076 t1077 t1078 t1081 t1082 t1083 _ ?side1 ?side2 ?side3 ?side4 ?side5 ?side6 A21.out).mono ?_
         (case side1 => repeat (first | exact (Kd.R_reads' HO1065.out).2.2 | (with_reducible first | refine ca_ ?_ _ | refine cn_ ?_ _ | refine cd_ ?_)))
         (case side2 => exact (Kd.R_reads' HO1065.out).2.1)
         (case side3 => repeat (first | exact (Kd.S_reads' HO1070.out).2.2 | (with_reducible first | refine ca_ ?_ _ | refine cn_ ?_ _ | refine cd_ ?_)))
         (case side4 => exact (Kd.S_reads' HO1070.out).2.1)
         (case side5 => repeat (first | exact (Kd.R_reads' HO1073.out).2.2 | (with_reducible first | refine ca_ ?_ _ | refine cn_ ?_ _ | refine cd_ ?_)))
         (case side6 => exact (Kd.R_reads' HO1073.out).2.1)
         rintro e w64 ⟨v1079, v1084, rfl, ho0, ho1, hb⟩
         refine ⟨_, rfl, ?_⟩
         obtain ⟨gbz1079, hz1079⟩ := Kd.R_name ho0
         have n0_ := Aside0.mk (Kd.R_below (Kd.R_ltz hz1079 (rp_ HO1065.out)) hb)
         have n1_ := Aside0.mk (Kd.S_below (Kd.S_ltz hz1079 (sp_ HO1070.out)) hb)
         have n2_ := Aside0.mk (Kd.R_below (Kd.R_ltz hz1079 (rp_ HO1073.out)) hb)
         have n3_ := Aside0.mk (Kd.R_lower (Kd.R_gez hz1079 ho0) (below_size (by repeat (first | (with_reducible first | exact HB.out | apply ba_ | apply bn_ | apply bd_ | refine below_set ?_ GE1058.out | refine below_set ?_ GE1059.out | refine below_set ?_ GE1086.out) | exact HB.out))))
         have n4_ := Aside0.mk (Kd.S_lower (Kd.S_gez hz1079 ho1) (below_size (by repeat (first | (with_reducible first | exact HB.out | apply ba_ | apply bn_ | apply bd_ | refine below_set ?_ GE1058.out | refine below_set ?_ GE1059.out | refine below_set ?_ GE1086.out) | exact HB.out))))
         have n5_ := Aside0.mk (bb_ BK1058.out hb)
         have n6_ := Aside0.mk (bb_ BK1059.out hb)
         have n7_ := Aside0.mk (bb_ BK1086.out hb)
         have n8_ := Aside0.mk (below_step (by repeat (first | (with_reducible first | exact HB.out | apply ba_ | apply bn_ | apply bd_ | refine below_set ?_ GE1058.out | refine below_set ?_ GE1059.out | refine below_set ?_ GE1086.out) | exact HB.out)) hb)
         clear HO1065 HO1070 HO1073 BK1058 BK1059 BK1086 HB
         have HO1065 := n0_
         have HO1070 := n1_
         have HO1073 := n2_
         have HO1080 := n3_
         have HO1085 := n4_
         have BK1058 := n5_
         have BK1059 := n6_
         have BK1086 := n7_
         have HB := n8_
         clear n0_ n1_ n2_ n3_ n4_ n5_ n6_ n7_ n8_
         (try clear hb)
         (try clear hb2)
         (try clear hk)
         (try clear hi)
         (try clear ho0)
         (try clear ho1)
         refine hK.out _ _ ⟨bx_ BK1058.out 0, bx_ BK1058.out 1, bx_ BK1058.out 2, bx_ BK1058.out 3, bx_ BK1058.out 4, bx_ BK1059.out 0, bx_ BK1059.out 1, bx_ BK1059.out 2, bx_ BK1059.out 3⟩ (fun hHeld => ?_)
         clear hK K
         refine norm_ (a' := ?_) ?_ ?_
         rotate_left
         ·
          show Act.put _ (some 28) _ = _
          simp only [fr_]
          rfl
         exact norm_ (by simp only [putAll, Act.put, List.setIfInBounds_toArray, List.set_cons_zero, List.set_cons_succ]) (hCont (.slice Ao61 t1063.length co61, .slice Ao62 t1068.length co62, gbz1064, .slice Ao63 t1071.length co63, gbz1072, v1079, v1084, gbz1079, gb1086) _ ⟨hHeld, (by (with_reducible repeat (first | apply Kd.R_alloc | apply Kd.R_drewN | apply Kd.R_drew)); exact Kd.R_mono HO1065.out (fun _ hk => ⟨hk.1.1.2, ⟨hk.1.2, hk.2⟩⟩)), (by (with_reducible repeat (first | apply Kd.S_alloc | apply Kd.S_drewN | apply Kd.S_drew)); exact Kd.S_mono HO1070.out (fun _ hk => ⟨hk.1.1.1, ⟨hk.1.1.2, ⟨hk.1.2, hk.2⟩⟩⟩)), (by (with_reducible repeat (first | apply Kd.R_alloc | apply Kd.R_drewN | apply Kd.R_drew)); exact Kd.R_mono HO1073.out (fun _ hk => ⟨hk.1.2, hk.2⟩)), (by (with_reducible repeat (first | apply Kd.R_alloc | apply Kd.R_drewN | apply Kd.R_drew)); exact Kd.R_mono HO1080.out (fun _ hk => hk.2)), (sp_ HO1085.out), (pb_ BK1058.out), (pb_ BK1059.out), (pb_ BK1086.out), GW1086.out, GE1086.out, NB1058_1086.out, NB1086_1058.out, NB1059_1086.out, NB1086_1059.out, (by repeat (first | (with_reducible first | exact HB.out | apply ba_ | apply bn_ | apply bd_ | refine below_set ?_ GE1058.out | refine below_set ?_ GE1059.out | refine below_set ?_ GE1086.out) | exact HB.out))⟩)
        rintro ⟨v1064, v1069, gbz1064, v1072, gbz1072, v1079, v1084, gbz1079, gb1086⟩ w65 ⟨hS_, h0_, h1_, h2_, h3_, h4_, h5_, h6_, h7_, h8_, h9_, h10_, h11_, h12_, h13_, h14_⟩
        have n0_ : Aside0 (Kd.R k164 164 w65 w.heap.size (fun k_ => gbz1064 ≤ k_ ∧ k_ < gbz1072 ∧ k_ < gbz1079) v1064 t1063) := ⟨h0_⟩
        have n1_ : Aside0 (Kd.S k44 44 w65 w.heap.size (fun k_ => some k_ ≠ (v1064 : Value).ownBlock ∧ gbz1064 ≤ k_ ∧ k_ < gbz1072 ∧ k_ < gbz1079) v1069 t1068) := ⟨h1_⟩
        have n2_ : Aside0 (Kd.R k164 164 w65 w.heap.size (fun k_ => gbz1072 ≤ k_ ∧ k_ < gbz1079) v1072 t1071) := ⟨h2_⟩
        have n3_ : Aside0 (Kd.R k164 164 w65 w.heap.size (fun k_ => gbz1079 ≤ k_) v1079 t1078) := ⟨h3_⟩
        have n4_ : Aside0 (Kd.S k44 44 w65 w.heap.size (fun k_ => some k_ ≠ (v1079 : Value).ownBlock ∧ gbz1079 ≤ k_) v1084 t1083) := ⟨h4_⟩
        have n5_ : Aside0 (w65.heap[gb1058]? = some (.cells #[.int .i64 a0_0, .slice A0_1 l0_1.length c0_1, .int .i64 a0_2, .int .i64 a0_3, .slice A0_4 l0_4.length c0_4] 69 (0, 0))) := ⟨h5_⟩
        have n6_ : Aside0 (w65.heap[gb1059]? = some (.cells #[.slice A1_0 l1_0.length c1_0, .int .i64 a1_1, .int .i64 a1_2, .string a1_3] 34 (0, 0))) := ⟨h6_⟩
        have n7_ : Aside0 (w65.heap[gb1086]? = some (.cells #[.int .i64 0, .slice none 0 0, .int .i64 0, .int .i64 0, .slice none 0 0] 75 (0, 0))) := ⟨h7_⟩
        have n8_ : Aside0 (w.heap.size ≤ gb1086) := ⟨h8_⟩
        have n9_ : Aside0 (w.heap.size ≤ gb1086) := ⟨h9_⟩
        have n10_ : Aside0 (gb1058 ≠ gb1086) := ⟨h10_⟩
        have n11_ : Aside0 (gb1086 ≠ gb1058) := ⟨h11_⟩
        have n12_ : Aside0 (gb1059 ≠ gb1086) := ⟨h12_⟩
        have n13_ : Aside0 (gb1086 ≠ gb1059) := ⟨h13_⟩
        have n14_ : Aside0 (Below w.heap.size w w65) := ⟨h14_⟩
        clear BK1058 BK1059 HB h0_ h1_ h2_ h3_ h4_ h5_ h6_ h7_ h8_ h9_ h10_ h11_ h12_ h13_ h14_
        have HO1065 := n0_
        have HO1070 := n1_
        have HO1073 := n2_
        have HO1080 := n3_
        have HO1085 := n4_
        have BK1058 := n5_
        have BK1059 := n6_
        have BK1086 := n7_
        have GW1086 := n8_
        have GE1086 := n9_
        have NB1058_1086 := n10_
        have NB1086_1058 := n11_
        have NB1059_1086 := n12_
        have NB1086_1059 := n13_
        have HB := n14_
        clear n0_ n1_ n2_ n3_ n4_ n5_ n6_ n7_ n8_ n9_ n10_ n11_ n12_ n13_ n14_
        have hHeld : w65.cell? ⟨gb1058, 0, none⟩ = some (.int .i64 a0_0) ∧ w65.cell? ⟨gb1058, 1, none⟩ = some (.slice A0_1 l0_1.length c0_1) ∧ w65.cell? ⟨gb1058, 2, none⟩ = some (.int .i64 a0_2) ∧ w65.cell? ⟨gb1058, 3, none⟩ = some (.int .i64 a0_3) ∧ w65.cell? ⟨gb1058, 4, none⟩ = some (.slice A0_4 l0_4.length c0_4) ∧ w65.cell? ⟨gb1059, 0, none⟩ = some (.slice A1_0 l1_0.length c1_0) ∧ w65.cell? ⟨gb1059, 1, none⟩ = some (.int .i64 a1_1) ∧ w65.cell? ⟨gb1059, 2, none⟩ = some (.int .i64 a1_2) ∧ w65.cell? ⟨gb1059, 3, none⟩ = some (.string a1_3) := hS_
        obtain ⟨Ao67, co67, eo67⟩ := Kd.R_slice HO1080.out
        (first | subst eo67 | (injection eo67 with f1_ f2_ f3_; have f4_ := f1_.symm; have f5_ := f3_.symm; clear f1_ f2_ f3_; subst f4_; subst f5_))
        obtain ⟨Ao71, co71, eo71⟩ := Kd.S_slice HO1085.out
        (first | subst eo71 | (injection eo71 with f1_ f2_ f3_; have f4_ := f1_.symm; have f5_ := f3_.symm; clear f1_ f2_ f3_; subst f4_; subst f5_))
        refine norm_ (a' := ?_) ?_ ?_
        rotate_left
        ·
         simp only [putAll, Act.put, List.setIfInBounds_toArray, List.set_cons_zero, List.set_cons_succ]
         rfl
        refine one_ (i := 6) (N := none) #[t_,t_,t_,t_,t_,t_,t_] rfl rfl (by kernel_rfl) (by decide) (fun K hK => ?_)
        have hs66 : w65.cell? ⟨gb1086, 0, none⟩ = some (.int .i64 0) := bx_ BK1086.out 0
        have hfs66 := blk_frozen BK1086.out 0
        have hns66_0 := NB1058_1086.out
        have hns66_1 := NB1059_1086.out
        have hms66_0 := NB1086_1058.out
        have hms66_1 := NB1086_1059.out
        have hs68 : w65.cell? ⟨gb1086, 1, none⟩ = some (.slice none 0 0) := bx_ BK1086.out 1
        have hfs68 := blk_frozen BK1086.out 1
        have hns68_0 := NB1058_1086.out
        have hns68_1 := NB1059_1086.out
        have hms68_0 := NB1086_1058.out
        have hms68_1 := NB1086_1059.out
        have hs69 : w65.cell? ⟨gb1086, 2, none⟩ = some (.int .i64 0) := bx_ BK1086.out 2
        have hfs69 := blk_frozen BK1086.out 2
        have hns69_0 := NB1058_1086.out
        have hns69_1 := NB1059_1086.out
        have hms69_0 := NB1086_1058.out
        have hms69_1 := NB1086_1059.out
        have hs70 : w65.cell? ⟨gb1086, 3, none⟩ = some (.int .i64 0) := bx_ BK1086.out 3
        have hfs70 := blk_frozen BK1086.out 3
        have hns70_0 := NB1058_1086.out
        have hns70_1 := NB1059_1086.out
        have hms70_0 := NB1086_1058.out
        have hms70_1 := NB1086_1059.out
        have hs72 : w65.cell? ⟨gb1086, 4, none⟩ = some (.slice none 0 0) := bx_ BK1086.out 4
        have hfs72 := blk_frozen BK1086.out 4
        have hns72_0 := NB1058_1086.out
        have hns72_1 := NB1059_1086.out
        have hms72_0 := NB1086_1058.out
        have hms72_1 := NB1086_1059.out
        refine skip_ (w1 := ?_) (by rfl) rfl ?_ ?_
        rotate_left
        ·
         go_simp
         rfl
        refine hK.out _ _ ⟨((cell_far (p := ⟨gb1086, _, none⟩) NB1058_1086.out _).trans (((cell_far (p := ⟨gb1086, _, none⟩) NB1058_1086.out _).trans (((cell_far (p := ⟨gb1086, _, none⟩) NB1058_1086.out _).trans (((cell_far (p := ⟨gb1086, _, none⟩) NB1058_1086.out _).trans (((cell_far (p := ⟨gb1086, _, none⟩) NB1058_1086.out _).trans (hHeld.1)))))))))), ((cell_far (p := ⟨gb1086, _, none⟩) NB1058_1086.out _).trans (((cell_far (p := ⟨gb1086, _, none⟩) NB1058_1086.out _).trans (((cell_far (p := ⟨gb1086, _, none⟩) NB1058_1086.out _).trans (((cell_far (p := ⟨gb1086, _, none⟩) NB1058_1086.out _).trans (((cell_far (p := ⟨gb1086, _, none⟩) NB1058_1086.out _).trans (hHeld.2.1)))))))))), ((cell_far (p := ⟨gb1086, _, none⟩) NB1058_1086.out _).trans (((cell_far (p := ⟨gb1086, _, none⟩) NB1058_1086.out _).trans (((cell_far (p := ⟨gb1086, _, none⟩) NB1058_1086.out _).trans (((cell_far (p := ⟨gb1086, _, none⟩) NB1058_1086.out _).trans (((cell_far (p := ⟨gb1086, _, none⟩) NB1058_1086.out _).trans (hHeld.2.2.1)))))))))), ((cell_far (p := ⟨gb1086, _, none⟩) NB1058_1086.out _).trans (((cell_far (p := ⟨gb1086, _, none⟩) NB1058_1086.out _).trans (((cell_far (p := ⟨gb1086, _, none⟩) NB1058_1086.out _).trans (((cell_far (p := ⟨gb1086, _, none⟩) NB1058_1086.out _).trans (((cell_far (p := ⟨gb1086, _, none⟩) NB1058_1086.out _).trans (hHeld.2.2.2.1)))))))))), ((cell_far (p := ⟨gb1086, _, none⟩) NB1058_1086.out _).trans (((cell_far (p := ⟨gb1086, _, none⟩) NB1058_1086.out _).trans (((cell_far (p := ⟨gb1086, _, none⟩) NB1058_1086.out _).trans (((cell_far (p := ⟨gb1086, _, none⟩) NB1058_1086.out _).trans (((cell_far (p := ⟨gb1086, _, none⟩) NB1058_1086.out _).trans (hHeld.2.2.2.2.1)))))))))), ((cell_far (p := ⟨gb1086, _, none⟩) NB1059_1086.out _).trans (((cell_far (p := ⟨gb1086, _, none⟩) NB1059_1086.out _).trans (((cell_far (p := ⟨gb1086, _, none⟩) NB1059_1086.out _).trans (((cell_far (p := ⟨gb1086, _, none⟩) NB1059_1086.out _).trans (((cell_far (p := ⟨gb1086, _, none⟩) NB1059_1086.out _).trans (hHeld.2.2.2.2.2.1)))))))))), ((cell_far (p := ⟨gb1086, _, none⟩) NB1059_1086.out _).trans (((cell_far (p := ⟨gb1086, _, none⟩) NB1059_1086.out _).trans (((cell_far (p := ⟨gb1086, _, none⟩) NB1059_1086.out _).trans (((cell_far (p := ⟨gb1086, _, none⟩) NB1059_1086.out _).trans (((cell_far (p := ⟨gb1086, _, none⟩) NB1059_1086.out _).trans (hHeld.2.2.2.2.2.2.1)))))))))), ((cell_far (p := ⟨gb1086, _, none⟩) NB1059_1086.out _).trans (((cell_far (p := ⟨gb1086, _, none⟩) NB1059_1086.out _).trans (((cell_far (p := ⟨gb1086, _, none⟩) NB1059_1086.out _).trans (((cell_far (p := ⟨gb1086, _, none⟩) NB1059_1086.out _).trans (((cell_far (p := ⟨gb1086, _, none⟩) NB1059_1086.out _).trans (hHeld.2.2.2.2.2.2.2.1)))))))))), ((cell_far (p := ⟨gb1086, _, none⟩) NB1059_1086.out _).trans (((cell_far (p := ⟨gb1086, _, none⟩) NB1059_1086.out _).trans (((cell_far (p := ⟨gb1086, _, none⟩) NB1059_1086.out _).trans (((cell_far (p := ⟨gb1086, _, none⟩) NB1059_1086.out _).trans (((cell_far (p := ⟨gb1086, _, none⟩) NB1059_1086.out _).trans (hHeld.2.2.2.2.2.2.2.2))))))))))⟩ (fun hHeld => ?_)
        clear hK K
        refine done_ (by kernel_rfl) ?_
        have hnb73 := NB1058_1086.out
        have hnc73 := NB1086_1058.out
        obtain ⟨hcz74_0, hcz74_1, hcz74_2, hcz74_3, hcz74_4, hfz74_0, hfz74_1, hfz74_2, hfz74_3, hfz74_4⟩ := bc5_ BK1058.out
        try go_wp2_with (first | ((with_reducible refine gate_callee (f := 51) rfl ?_); refine goesL_ (some 30) rfl rfl Try.func51 (by kernel_rfl) rfl #[.agg #[.int .i64 a0_0, .slice A0_1 l0_1.length c0_1, .int .i64 a0_2, .int .i64 a0_3, .slice A0_4 l0_4.length c0_4]] rfl (by (try simp only [mp_]); first | done | rfl | (simp only [List.length_drop, List.length_take]; rfl)) ?_; (with_reducible refine (laws_toGroup.calls k a0_0 _ _ l0_1 a0_2 a0_3 _ _ l0_4 t1087 t1088 t1091 t1092 t1093 _ ?side1 ?side2 ?side3 ?side4 A22.out).mono ?_); (case side1 => exact Kd.C_below HR0_1.out (by repeat (first | (with_reducible first | exact HB.out | apply ba_ | apply bn_ | apply bd_ | refine below_set ?_ GE1058.out | refine below_set ?_ GE1059.out | refine below_set ?_ GE1086.out) | exact HB.out))); (case side2 => exact HC0_1.out); (case side3 => exact Kd.C_below HR0_4.out (by repeat (first | (with_reducible first | exact HB.out | apply ba_ | apply bn_ | apply bd_ | refine below_set ?_ GE1058.out | refine below_set ?_ GE1059.out | refine below_set ?_ GE1086.out) | exact HB.out))); (case side4 => exact HC0_4.out); rintro e w75 ⟨v1089, v1094, rfl, ho0, ho1, hb⟩; refine ⟨_, rfl, ?_⟩; obtain ⟨gbz1089, hz1089⟩ := Kd.R_name ho0; have n0_ := Aside0.mk (Kd.R_below (Kd.R_ltz hz1089 (by (with_reducible repeat (first | apply Kd.R_alloc | apply Kd.R_drewN | apply Kd.R_drew)); exact (Kd.R_mono (Kd.R_far (p := ⟨gb1086, 4, none⟩) (Kd.R_far (p := ⟨gb1086, 3, none⟩) (Kd.R_far (p := ⟨gb1086, 2, none⟩) (Kd.R_far (p := ⟨gb1086, 1, none⟩) (Kd.R_far (p := ⟨gb1086, 0, none⟩) (Kd.R_types HO1065.out BK1086.out (by decide)) (fun _ hk => hk.2) (.int .i64 t1077)) (fun _ hk => hk.2) (.slice Ao67 t1078.length co67)) (fun _ hk => hk.2) (.int .i64 t1081)) (fun _ hk => hk.2) (.int .i64 t1082)) (fun _ hk => hk.2) (.slice Ao71 t1083.length co71)) (fun _ h_ => h_.1)))) hb); have n1_ := Aside0.mk (Kd.S_below (Kd.S_ltz hz1089 (by (with_reducible repeat (first | apply Kd.S_alloc | apply Kd.S_drewN | apply Kd.S_drew)); exact (Kd.S_mono (Kd.S_far (p := ⟨gb1086, 4, none⟩) (Kd.S_far (p := ⟨gb1086, 3, none⟩) (Kd.S_far (p := ⟨gb1086, 2, none⟩) (Kd.S_far (p := ⟨gb1086, 1, none⟩) (Kd.S_far (p := ⟨gb1086, 0, none⟩) (Kd.S_types HO1070.out BK1086.out (by decide)) (fun _ hk => hk.2) (.int .i64 t1077)) (fun _ hk => hk.2) (.slice Ao67 t1078.length co67)) (fun _ hk => hk.2) (.int .i64 t1081)) (fun _ hk => hk.2) (.int .i64 t1082)) (fun _ hk => hk.2) (.slice Ao71 t1083.length co71)) (fun _ h_ => h_.1)))) hb); have n2_ := Aside0.mk (Kd.R_below (Kd.R_ltz hz1089 (by (with_reducible repeat (first | apply Kd.R_alloc | apply Kd.R_drewN | apply Kd.R_drew)); exact (Kd.R_mono (Kd.R_far (p := ⟨gb1086, 4, none⟩) (Kd.R_far (p := ⟨gb1086, 3, none⟩) (Kd.R_far (p := ⟨gb1086, 2, none⟩) (Kd.R_far (p := ⟨gb1086, 1, none⟩) (Kd.R_far (p := ⟨gb1086, 0, none⟩) (Kd.R_types HO1073.out BK1086.out (by decide)) (fun _ hk => hk.2) (.int .i64 t1077)) (fun _ hk => hk.2) (.slice Ao67 t1078.length co67)) (fun _ hk => hk.2) (.int .i64 t1081)) (fun _ hk => hk.2) (.int .i64 t1082)) (fun _ hk => hk.2) (.slice Ao71 t1083.length co71)) (fun _ h_ => h_.1)))) hb); have n3_ := Aside0.mk (Kd.R_below (Kd.R_ltz hz1089 (by (with_reducible repeat (first | apply Kd.R_alloc | apply Kd.R_drewN | apply Kd.R_drew)); exact (Kd.R_mono (Kd.R_far (p := ⟨gb1086, 4, none⟩) (Kd.R_far (p := ⟨gb1086, 3, none⟩) (Kd.R_far (p := ⟨gb1086, 2, none⟩) (Kd.R_far (p := ⟨gb1086, 1, none⟩) (Kd.R_far (p := ⟨gb1086, 0, none⟩) (Kd.R_types HO1080.out BK1086.out (by decide)) (fun _ hk => hk.2) (.int .i64 t1077)) (fun _ hk => hk.2) (.slice Ao67 t1078.length co67)) (fun _ hk => hk.2) (.int .i64 t1081)) (fun _ hk => hk.2) (.int .i64 t1082)) (fun _ hk => hk.2) (.slice Ao71 t1083.length co71)) (fun _ h_ => h_.1)))) hb); have n4_ := Aside0.mk (Kd.S_below (Kd.S_ltz hz1089 (by (with_reducible repeat (first | apply Kd.S_alloc | apply Kd.S_drewN | apply Kd.S_drew)); exact (Kd.S_mono (Kd.S_far (p := ⟨gb1086, 4, none⟩) (Kd.S_far (p := ⟨gb1086, 3, none⟩) (Kd.S_far (p := ⟨gb1086, 2, none⟩) (Kd.S_far (p := ⟨gb1086, 1, none⟩) (Kd.S_far (p := ⟨gb1086, 0, none⟩) (Kd.S_types HO1085.out BK1086.out (by decide)) (fun _ hk => hk.2) (.int .i64 t1077)) (fun _ hk => hk.2) (.slice Ao67 t1078.length co67)) (fun _ hk => hk.2) (.int .i64 t1081)) (fun _ hk => hk.2) (.int .i64 t1082)) (fun _ hk => hk.2) (.slice Ao71 t1083.length co71)) (fun _ h_ => h_.1)))) hb); have n5_ := Aside0.mk (Kd.R_lower (Kd.R_gez hz1089 ho0) (below_size (by repeat (first | (with_reducible first | exact HB.out | apply ba_ | apply bn_ | apply bd_ | refine below_set ?_ GE1058.out | refine below_set ?_ GE1059.out | refine below_set ?_ GE1086.out) | exact HB.out)))); have n6_ := Aside0.mk (Kd.S_lower (Kd.S_gez hz1089 ho1) (below_size (by repeat (first | (with_reducible first | exact HB.out | apply ba_ | apply bn_ | apply bd_ | refine below_set ?_ GE1058.out | refine below_set ?_ GE1059.out | refine below_set ?_ GE1086.out) | exact HB.out)))); have n7_ := Aside0.mk (blk_below (g := gb1058) (o := .cells #[.int .i64 a0_0, .slice A0_1 l0_1.length c0_1, .int .i64 a0_2, .int .i64 a0_3, .slice A0_4 l0_4.length c0_4] 69 (0, 0)) (by (with_reducible repeat (first | refine kn_ ?_ _ | refine kd_ ?_ | refine ka_ ?_ _)); refine blk_far ?_ NB1058_1086.out _; (with_reducible repeat (first | refine kn_ ?_ _ | refine kd_ ?_ | refine ka_ ?_ _)); refine blk_far ?_ NB1058_1086.out _; (with_reducible repeat (first | refine kn_ ?_ _ | refine kd_ ?_ | refine ka_ ?_ _)); refine blk_far ?_ NB1058_1086.out _; (with_reducible repeat (first | refine kn_ ?_ _ | refine kd_ ?_ | refine ka_ ?_ _)); refine blk_far ?_ NB1058_1086.out _; (with_reducible repeat (first | refine kn_ ?_ _ | refine kd_ ?_ | refine ka_ ?_ _)); refine blk_far ?_ NB1058_1086.out _; (with_reducible repeat (first | refine kn_ ?_ _ | refine kd_ ?_ | refine ka_ ?_ _)); exact BK1058.out) hb); have n8_ := Aside0.mk (blk_below (g := gb1059) (o := .cells #[.slice A1_0 l1_0.length c1_0, .int .i64 a1_1, .int .i64 a1_2, .string a1_3] 34 (0, 0)) (by (with_reducible repeat (first | refine kn_ ?_ _ | refine kd_ ?_ | refine ka_ ?_ _)); refine blk_far ?_ NB1059_1086.out _; (with_reducible repeat (first | refine kn_ ?_ _ | refine kd_ ?_ | refine ka_ ?_ _)); refine blk_far ?_ NB1059_1086.out _; (with_reducible repeat (first | refine kn_ ?_ _ | refine kd_ ?_ | refine ka_ ?_ _)); refine blk_far ?_ NB1059_1086.out _; (with_reducible repeat (first | refine kn_ ?_ _ | refine kd_ ?_ | refine ka_ ?_ _)); refine blk_far ?_ NB1059_1086.out _; (with_reducible repeat (first | refine kn_ ?_ _ | refine kd_ ?_ | refine ka_ ?_ _)); refine blk_far ?_ NB1059_1086.out _; (with_reducible repeat (first | refine kn_ ?_ _ | refine kd_ ?_ | refine ka_ ?_ _)); exact BK1059.out) hb); have n9_ := Aside0.mk (blk_below (g := gb1086) (o := .cells #[.int .i64 t1077, .slice Ao67 t1078.length co67, .int .i64 t1081, .int .i64 t1082, .slice Ao71 t1083.length co71] 75 (0, 0)) (by (with_reducible repeat (first | refine kn_ ?_ _ | refine kd_ ?_ | refine ka_ ?_ _)); refine blk_put (cs := #[.int .i64 t1077, .slice Ao67 t1078.length co67, .int .i64 t1081, .int .i64 t1082, .slice none 0 0]) ?_ 4 _ rfl; (with_reducible repeat (first | refine kn_ ?_ _ | refine kd_ ?_ | refine ka_ ?_ _)); refine blk_put (cs := #[.int .i64 t1077, .slice Ao67 t1078.length co67, .int .i64 t1081, .int .i64 0, .slice none 0 0]) ?_ 3 _ rfl; (with_reducible repeat (first | refine kn_ ?_ _ | refine kd_ ?_ | refine ka_ ?_ _)); refine blk_put (cs := #[.int .i64 t1077, .slice Ao67 t1078.length co67, .int .i64 0, .int .i64 0, .slice none 0 0]) ?_ 2 _ rfl; (with_reducible repeat (first | refine kn_ ?_ _ | refine kd_ ?_ | refine ka_ ?_ _)); refine blk_put (cs := #[.int .i64 t1077, .slice none 0 0, .int .i64 0, .int .i64 0, .slice none 0 0]) ?_ 1 _ rfl; (with_reducible repeat (first | refine kn_ ?_ _ | refine kd_ ?_ | refine ka_ ?_ _)); refine blk_put (cs := #[.int .i64 0, .slice none 0 0, .int .i64 0, .int .i64 0, .slice none 0 0]) ?_ 0 _ rfl; (with_reducible repeat (first | refine kn_ ?_ _ | refine kd_ ?_ | refine ka_ ?_ _)); exact BK1086.out) hb); have n10_ := Aside0.mk (below_step (by repeat (first | (with_reducible first | exact HB.out | apply ba_ | apply bn_ | apply bd_ | refine below_set ?_ GE1058.out | refine below_set ?_ GE1059.out | refine below_set ?_ GE1086.out) | exact HB.out)) hb); clear HO1065 HO1070 HO1073 HO1080 HO1085 BK1058 BK1059 BK1086 HB; have HO1065 := n0_; have HO1070 := n1_; have HO1073 := n2_; have HO1080 := n3_; have HO1085 := n4_; have HO1090 := n5_; have HO1095 := n6_; have BK1058 := n7_; have BK1059 := n8_; have BK1086 := n9_; have HB := n10_; clear n0_ n1_ n2_ n3_ n4_ n5_ n6_ n7_ n8_ n9_ n10_; (try clear hb); (try clear hb2); (try clear hk); (try clear hi); (try clear ho0); (try clear ho1)) | ((with_reducible refine gate_dst (N := 7) rfl ?_); refine box_event ?hg (N := 7) ?hd (cs := #[.int .i64 0, .slice none 0 0, .int .i64 0, .int .i64 0, .slice none 0 0]) (t := 75) ?hr ?_; (case hd => rfl); (case hg => rfl); (case hr => first | (go_simp; done) | (go_simp; rfl)); intro gb1096 hg w76 hbox hb; have n0_ := Aside0.mk (Kd.R_below (rp_ HO1080.out) hb); have n1_ := Aside0.mk (Kd.S_below (sp_ HO1085.out) hb); have n2_ := Aside0.mk (Kd.R_below (rp_ HO1090.out) hb); have n3_ := Aside0.mk (Kd.S_below (sp_ HO1095.out) hb); have n4_ := Aside0.mk (bb_ BK1058.out hb); have n5_ := Aside0.mk (bb_ BK1059.out hb); have n6_ := Aside0.mk (bb_ BK1086.out hb); have n7_ := Aside0.mk (below_step (by repeat (first | (with_reducible first | exact HB.out | apply ba_ | apply bn_ | apply bd_ | refine below_set ?_ GE1058.out | refine below_set ?_ GE1059.out | refine below_set ?_ GE1086.out) | exact HB.out)) hb); have n8_ := Aside0.mk (hbox); have n9_ := Aside0.mk ((by rw [hg]; exact (below_size (by repeat (first | (with_reducible first | exact HB.out | apply ba_ | apply bn_ | apply bd_ | refine below_set ?_ GE1058.out | refine below_set ?_ GE1059.out | refine below_set ?_ GE1086.out) | exact HB.out))) : w.heap.size ≤ gb1096)); have n10_ := Aside0.mk ((by rw [hg]; exact (below_size (by repeat (first | (with_reducible first | exact HB.out | apply ba_ | apply bn_ | apply bd_ | refine below_set ?_ GE1058.out | refine below_set ?_ GE1059.out | refine below_set ?_ GE1086.out) | exact HB.out))) : w.heap.size ≤ gb1096)); have n11_ := Aside0.mk (nl_ BK1058.out hg); have n12_ := Aside0.mk (n11_.out.symm); have n13_ := Aside0.mk (nl_ BK1059.out hg); have n14_ := Aside0.mk (n13_.out.symm); have n15_ := Aside0.mk (nl_ BK1086.out hg); have n16_ := Aside0.mk (n15_.out.symm); clear HO1080 HO1085 HO1090 HO1095 BK1058 BK1059 BK1086 HB; have HO1080 := n0_; have HO1085 := n1_; have HO1090 := n2_; have HO1095 := n3_; have BK1058 := n4_; have BK1059 := n5_; have BK1086 := n6_; have HB := n7_; have BK1096 := n8_; have GW1096 := n9_; have GE1096 := n10_; have NB1058_1096 := n11_; have NB1096_1058 := n12_; have NB1059_1096 := n13_; have NB1096_1059 := n14_; have NB1086_1096 := n15_; have NB1096_1086 := n16_; clear n0_ n1_ n2_ n3_ n4_ n5_ n6_ n7_ n8_ n9_ n10_ n11_ n12_ n13_ n14_ n15_ n16_; clear hb hbox hg; have hnb77 := NB1096_1058.out; have hnc77 := NB1058_1096.out; have hnb78 := NB1096_1059.out; have hnc78 := NB1059_1096.out; have hnb79 := NB1096_1086.out; have hnc79 := NB1086_1096.out; obtain ⟨hcz80_0, hcz80_1, hcz80_2, hcz80_3, hcz80_4, hfz80_0, hfz80_1, hfz80_2, hfz80_3, hfz80_4⟩ := bc5_ BK1096.out; obtain ⟨Ao81, co81, eo81⟩ := Kd.R_slice HO1090.out; subst eo81; obtain ⟨Ao82, co82, eo82⟩ := Kd.S_slice HO1095.out; subst eo82; have hnb83 := NB1059_1086.out; have hnc83 := NB1086_1059.out; obtain ⟨hcz84_0, hcz84_1, hcz84_2, hcz84_3, hfz84_0, hfz84_1, hfz84_2, hfz84_3⟩ := bc4_ BK1059.out) | ((with_reducible refine gate_callee (f := 24) rfl ?_); refine goesL_ (some 32) rfl rfl Try.func24 (by kernel_rfl) rfl #[.agg #[.slice A1_0 l1_0.length c1_0, .int .i64 a1_1, .int .i64 a1_2, .string a1_3]] rfl (by (try simp only [mp_]); first | done | rfl | (simp only [List.length_drop, List.length_take]; rfl)) ?_; (with_reducible refine (laws_toAlarm.calls k _ _ l1_0 a1_1 a1_2 a1_3 t1097 t1100 t1101 t1102 _ ?side1 ?side2 A23.out).mono ?_); (case side1 => exact Kd.C_below HR1_0.out (by repeat (first | (with_reducible first | exact HB.out | apply ba_ | apply bn_ | apply bd_ | refine below_set ?_ GE1058.out | refine below_set ?_ GE1059.out | refine below_set ?_ GE1086.out | refine below_set ?_ GE1096.out) | exact HB.out))); (case side2 => exact HC1_0.out); rintro e w85 ⟨v1098, rfl, ho0, hb⟩; refine ⟨_, rfl, ?_⟩; obtain ⟨gbz1098, hz1098⟩ := Kd.R_name ho0; have n0_ := Aside0.mk (Kd.R_below (Kd.R_ltz hz1098 (by (with_reducible repeat (first | apply Kd.R_alloc | apply Kd.R_drewN | apply Kd.R_drew)); exact (Kd.R_mono (Kd.R_far (p := ⟨gb1096, 4, none⟩) (Kd.R_far (p := ⟨gb1096, 3, none⟩) (Kd.R_far (p := ⟨gb1096, 2, none⟩) (Kd.R_far (p := ⟨gb1096, 1, none⟩) (Kd.R_far (p := ⟨gb1096, 0, none⟩) (Kd.R_types HO1080.out BK1096.out (by decide)) (fun _ hk => hk.2) (.int .i64 t1087)) (fun _ hk => hk.2) (.slice Ao81 t1088.length co81)) (fun _ hk => hk.2) (.int .i64 t1091)) (fun _ hk => hk.2) (.int .i64 t1092)) (fun _ hk => hk.2) (.slice Ao82 t1093.length co82)) (fun _ h_ => h_.1)))) hb); have n1_ := Aside0.mk (Kd.S_below (Kd.S_ltz hz1098 (by (with_reducible repeat (first | apply Kd.S_alloc | apply Kd.S_drewN | apply Kd.S_drew)); exact (Kd.S_mono (Kd.S_far (p := ⟨gb1096, 4, none⟩) (Kd.S_far (p := ⟨gb1096, 3, none⟩) (Kd.S_far (p := ⟨gb1096, 2, none⟩) (Kd.S_far (p := ⟨gb1096, 1, none⟩) (Kd.S_far (p := ⟨gb1096, 0, none⟩) (Kd.S_types HO1085.out BK1096.out (by decide)) (fun _ hk => hk.2) (.int .i64 t1087)) (fun _ hk => hk.2) (.slice Ao81 t1088.length co81)) (fun _ hk => hk.2) (.int .i64 t1091)) (fun _ hk => hk.2) (.int .i64 t1092)) (fun _ hk => hk.2) (.slice Ao82 t1093.length co82)) (fun _ h_ => h_.1)))) hb); have n2_ := Aside0.mk (Kd.R_below (Kd.R_ltz hz1098 (by (with_reducible repeat (first | apply Kd.R_alloc | apply Kd.R_drewN | apply Kd.R_drew)); exact (Kd.R_mono (Kd.R_far (p := ⟨gb1096, 4, none⟩) (Kd.R_far (p := ⟨gb1096, 3, none⟩) (Kd.R_far (p := ⟨gb1096, 2, none⟩) (Kd.R_far (p := ⟨gb1096, 1, none⟩) (Kd.R_far (p := ⟨gb1096, 0, none⟩) (Kd.R_types HO1090.out BK1096.out (by decide)) (fun _ hk => hk.2) (.int .i64 t1087)) (fun _ hk => hk.2) (.slice Ao81 t1088.length co81)) (fun _ hk => hk.2) (.int .i64 t1091)) (fun _ hk => hk.2) (.int .i64 t1092)) (fun _ hk => hk.2) (.slice Ao82 t1093.length co82)) (fun _ h_ => h_.1)))) hb); have n3_ := Aside0.mk (Kd.S_below (Kd.S_ltz hz1098 (by (with_reducible repeat (first | apply Kd.S_alloc | apply Kd.S_drewN | apply Kd.S_drew)); exact (Kd.S_mono (Kd.S_far (p := ⟨gb1096, 4, none⟩) (Kd.S_far (p := ⟨gb1096, 3, none⟩) (Kd.S_far (p := ⟨gb1096, 2, none⟩) (Kd.S_far (p := ⟨gb1096, 1, none⟩) (Kd.S_far (p := ⟨gb1096, 0, none⟩) (Kd.S_types HO1095.out BK1096.out (by decide)) (fun _ hk => hk.2) (.int .i64 t1087)) (fun _ hk => hk.2) (.slice Ao81 t1088.length co81)) (fun _ hk => hk.2) (.int .i64 t1091)) (fun _ hk => hk.2) (.int .i64 t1092)) (fun _ hk => hk.2) (.slice Ao82 t1093.length co82)) (fun _ h_ => h_.1)))) hb); have n4_ := Aside0.mk (Kd.R_lower (Kd.R_gez hz1098 ho0) (below_size (by repeat (first | (with_reducible first | exact HB.out | apply ba_ | apply bn_ | apply bd_ | refine below_set ?_ GE1058.out | refine below_set ?_ GE1059.out | refine below_set ?_ GE1086.out | refine below_set ?_ GE1096.out) | exact HB.out)))); have n5_ := Aside0.mk (blk_below (g := gb1058) (o := .cells #[.int .i64 a0_0, .slice A0_1 l0_1.length c0_1, .int .i64 a0_2, .int .i64 a0_3, .slice A0_4 l0_4.length c0_4] 69 (0, 0)) (by (with_reducible repeat (first | refine kn_ ?_ _ | refine kd_ ?_ | refine ka_ ?_ _)); refine blk_far ?_ NB1058_1096.out _; (with_reducible repeat (first | refine kn_ ?_ _ | refine kd_ ?_ | refine ka_ ?_ _)); refine blk_far ?_ NB1058_1096.out _; (with_reducible repeat (first | refine kn_ ?_ _ | refine kd_ ?_ | refine ka_ ?_ _)); refine blk_far ?_ NB1058_1096.out _; (with_reducible repeat (first | refine kn_ ?_ _ | refine kd_ ?_ | refine ka_ ?_ _)); refine blk_far ?_ NB1058_1096.out _; (with_reducible repeat (first | refine kn_ ?_ _ | refine kd_ ?_ | refine ka_ ?_ _)); refine blk_far ?_ NB1058_1096.out _; (with_reducible repeat (first | refine kn_ ?_ _ | refine kd_ ?_ | refine ka_ ?_ _)); exact BK1058.out) hb); have n6_ := Aside0.mk (blk_below (g := gb1059) (o := .cells #[.slice A1_0 l1_0.length c1_0, .int .i64 a1_1, .int .i64 a1_2, .string a1_3] 34 (0, 0)) (by (with_reducible repeat (first | refine kn_ ?_ _ | refine kd_ ?_ | refine ka_ ?_ _)); refine blk_far ?_ NB1059_1096.out _; (with_reducible repeat (first | refine kn_ ?_ _ | refine kd_ ?_ | refine ka_ ?_ _)); refine blk_far ?_ NB1059_1096.out _; (with_reducible repeat (first | refine kn_ ?_ _ | refine kd_ ?_ | refine ka_ ?_ _)); refine blk_far ?_ NB1059_1096.out _; (with_reducible repeat (first | refine kn_ ?_ _ | refine kd_ ?_ | refine ka_ ?_ _)); refine blk_far ?_ NB1059_1096.out _; (with_reducible repeat (first | refine kn_ ?_ _ | refine kd_ ?_ | refine ka_ ?_ _)); refine blk_far ?_ NB1059_1096.out _; (with_reducible repeat (first | refine kn_ ?_ _ | refine kd_ ?_ | refine ka_ ?_ _)); exact BK1059.out) hb); have n7_ := Aside0.mk (blk_below (g := gb1086) (o := .cells #[.int .i64 t1077, .slice Ao67 t1078.length co67, .int .i64 t1081, .int .i64 t1082, .slice Ao71 t1083.length co71] 75 (0, 0)) (by (with_reducible repeat (first | refine kn_ ?_ _ | refine kd_ ?_ | refine ka_ ?_ _)); refine blk_far ?_ NB1086_1096.out _; (with_reducible repeat (first | refine kn_ ?_ _ | refine kd_ ?_ | refine ka_ ?_ _)); refine blk_far ?_ NB1086_1096.out _; (with_reducible repeat (first | refine kn_ ?_ _ | refine kd_ ?_ | refine ka_ ?_ _)); refine blk_far ?_ NB1086_1096.out _; (with_reducible repeat (first | refine kn_ ?_ _ | refine kd_ ?_ | refine ka_ ?_ _)); refine blk_far ?_ NB1086_1096.out _; (with_reducible repeat (first | refine kn_ ?_ _ | refine kd_ ?_ | refine ka_ ?_ _)); refine blk_far ?_ NB1086_1096.out _; (with_reducible repeat (first | refine kn_ ?_ _ | refine kd_ ?_ | refine ka_ ?_ _)); exact BK1086.out) hb); have n8_ := Aside0.mk (blk_below (g := gb1096) (o := .cells #[.int .i64 t1087, .slice Ao81 t1088.length co81, .int .i64 t1091, .int .i64 t1092, .slice Ao82 t1093.length co82] 75 (0, 0)) (by (with_reducible repeat (first | refine kn_ ?_ _ | refine kd_ ?_ | refine ka_ ?_ _)); refine blk_put (cs := #[.int .i64 t1087, .slice Ao81 t1088.length co81, .int .i64 t1091, .int .i64 t1092, .slice none 0 0]) ?_ 4 _ rfl; (with_reducible repeat (first | refine kn_ ?_ _ | refine kd_ ?_ | refine ka_ ?_ _)); refine blk_put (cs := #[.int .i64 t1087, .slice Ao81 t1088.length co81, .int .i64 t1091, .int .i64 0, .slice none 0 0]) ?_ 3 _ rfl; (with_reducible repeat (first | refine kn_ ?_ _ | refine kd_ ?_ | refine ka_ ?_ _)); refine blk_put (cs := #[.int .i64 t1087, .slice Ao81 t1088.length co81, .int .i64 0, .int .i64 0, .slice none 0 0]) ?_ 2 _ rfl; (with_reducible repeat (first | refine kn_ ?_ _ | refine kd_ ?_ | refine ka_ ?_ _)); refine blk_put (cs := #[.int .i64 t1087, .slice none 0 0, .int .i64 0, .int .i64 0, .slice none 0 0]) ?_ 1 _ rfl; (with_reducible repeat (first | refine kn_ ?_ _ | refine kd_ ?_ | refine ka_ ?_ _)); refine blk_put (cs := #[.int .i64 0, .slice none 0 0, .int .i64 0, .int .i64 0, .slice none 0 0]) ?_ 0 _ rfl; (with_reducible repeat (first | refine kn_ ?_ _ | refine kd_ ?_ | refine ka_ ?_ _)); exact BK1096.out) hb); have n9_ := Aside0.mk (below_step (by repeat (first | (with_reducible first | exact HB.out | apply ba_ | apply bn_ | apply bd_ | refine below_set ?_ GE1058.out | refine below_set ?_ GE1059.out | refine below_set ?_ GE1086.out | refine below_set ?_ GE1096.out) | exact HB.out)) hb); clear HO1080 HO1085 HO1090 HO1095 BK1058 BK1059 BK1086 BK1096 HB; have HO1080 := n0_; have HO1085 := n1_; have HO1090 := n2_; have HO1095 := n3_; have HO1099 := n4_; have BK1058 := n5_; have BK1059 := n6_; have BK1086 := n7_; have BK1096 := n8_; have HB := n9_; clear n0_ n1_ n2_ n3_ n4_ n5_ n6_ n7_ n8_ n9_; (try clear hb); (try clear hb2); (try clear hk); (try clear hi); (try clear ho0)) | ((with_reducible refine gate_dst (N := 8) rfl ?_); refine box_event ?hg (N := 8) ?hd (cs := #[.slice none 0 0, .int .i64 0, .int .i64 0, .string (⟨#[]⟩ : ByteArray)]) (t := 44) ?hr ?_; (case hd => rfl); (case hg => rfl); (case hr => first | (go_simp; done) | (go_simp; rfl)); intro gb1103 hg w86 hbox hb; have n0_ := Aside0.mk (Kd.R_below (rp_ HO1080.out) hb); have n1_ := Aside0.mk (Kd.S_below (Kd.S_elderB (sp_ HO1085.out) gb1103 (Nat.le_of_eq hg.symm)) hb); have n2_ := Aside0.mk (Kd.R_below (rp_ HO1090.out) hb); have n3_ := Aside0.mk (Kd.S_below (Kd.S_elderB (sp_ HO1095.out) gb1103 (Nat.le_of_eq hg.symm)) hb); have n4_ := Aside0.mk (Kd.R_below (rp_ HO1099.out) hb); have n5_ := Aside0.mk (bb_ BK1058.out hb); have n6_ := Aside0.mk (bb_ BK1059.out hb); have n7_ := Aside0.mk (bb_ BK1086.out hb); have n8_ := Aside0.mk (bb_ BK1096.out hb); have n9_ := Aside0.mk (below_step (by repeat (first | (with_reducible first | exact HB.out | apply ba_ | apply bn_ | apply bd_ | refine below_set ?_ GE1058.out | refine below_set ?_ GE1059.out | refine below_set ?_ GE1086.out | refine below_set ?_ GE1096.out) | exact HB.out)) hb); have n10_ := Aside0.mk (hbox); have n11_ := Aside0.mk ((by rw [hg]; exact (below_size (by repeat (first | (with_reducible first | exact HB.out | apply ba_ | apply bn_ | apply bd_ | refine below_set ?_ GE1058.out | refine below_set ?_ GE1059.out | refine below_set ?_ GE1086.out | refine below_set ?_ GE1096.out) | exact HB.out))) : w.heap.size ≤ gb1103)); have n12_ := Aside0.mk ((by rw [hg]; exact (below_size (by repeat (first | (with_reducible first | exact HB.out | apply ba_ | apply bn_ | apply bd_ | refine below_set ?_ GE1058.out | refine below_set ?_ GE1059.out | refine below_set ?_ GE1086.out | refine below_set ?_ GE1096.out) | exact HB.out))) : w.heap.size ≤ gb1103)); have n13_ := Aside0.mk (nl_ BK1058.out hg); have n14_ := Aside0.mk (n13_.out.symm); have n15_ := Aside0.mk (nl_ BK1059.out hg); have n16_ := Aside0.mk (n15_.out.symm); have n17_ := Aside0.mk (nl_ BK1086.out hg); have n18_ := Aside0.mk (n17_.out.symm); have n19_ := Aside0.mk (nl_ BK1096.out hg); have n20_ := Aside0.mk (n19_.out.symm); clear HO1080 HO1085 HO1090 HO1095 HO1099 BK1058 BK1059 BK1086 BK1096 HB; have HO1080 := n0_; have HO1085 := n1_; have HO1090 := n2_; have HO1095 := n3_; have HO1099 := n4_; have BK1058 := n5_; have BK1059 := n6_; have BK1086 := n7_; have BK1096 := n8_; have HB := n9_; have BK1103 := n10_; have GW1103 := n11_; have GE1103 := n12_; have NB1058_1103 := n13_; have NB1103_1058 := n14_; have NB1059_1103 := n15_; have NB1103_1059 := n16_; have NB1086_1103 := n17_; have NB1103_1086 := n18_; have NB1096_1103 := n19_; have NB1103_1096 := n20_; clear n0_ n1_ n2_ n3_ n4_ n5_ n6_ n7_ n8_ n9_ n10_ n11_ n12_ n13_ n14_ n15_ n16_ n17_ n18_ n19_ n20_; clear hb hbox hg; obtain ⟨Ao87, co87, eo87⟩ := Kd.R_slice HO1099.out; subst eo87; have hnb88 := NB1103_1058.out; have hnc88 := NB1058_1103.out; have hnb89 := NB1103_1059.out; have hnc89 := NB1059_1103.out; have hnb90 := NB1103_1086.out; have hnc90 := NB1086_1103.out; have hnb91 := NB1103_1096.out; have hnc91 := NB1096_1103.out; obtain ⟨hcz92_0, hcz92_1, hcz92_2, hcz92_3, hfz92_0, hfz92_1, hfz92_2, hfz92_3⟩ := bc4_ BK1103.out; obtain ⟨hcz93_0, hcz93_1, hcz93_2, hcz93_3, hcz93_4, hfz93_0, hfz93_1, hfz93_2, hfz93_3, hfz93_4⟩ := bc5_ BK1096.out) | ((with_reducible refine gate_callee (f := 57) rfl ?_); refine goesL_ (some 35) rfl rfl Try.func57 (by kernel_rfl) rfl #[.agg #[.int .i64 t1087, .slice Ao81 t1088.length co81, .int .i64 t1091, .int .i64 t1092, .slice Ao82 t1093.length co82], .agg #[.slice Ao87 t1097.length co87, .int .i64 t1100, .int .i64 t1101, .string t1102]] rfl (by (try simp only [mp_]); first | done | rfl | (simp only [List.length_drop, List.length_take]; rfl)) ?_; (with_reducible refine (impl_JoinIn.calls k t1087 _ _ t1088 t1091 t1092 _ _ t1093 _ _ t1097 t1100 t1101 t1102 t1104 t1105 t1108 t1109 t1110 _ ?side1 ?side2 ?side3 ?side4 ?side5 ?side6 A24.out).mono ?_); (case side1 => refine (Kd.R_reads' (e := 164) (base := w.heap.size) (ok := fun k_ => ((True ∧ gbz1089 ≤ k_) ∧ k_ < gbz1098)) (n := t1088.length) (c := co81) ?_).2.2; exact (by (with_reducible repeat (first | apply Kd.R_alloc | apply Kd.R_drewN | apply Kd.R_drew)); exact (Kd.R_mono (Kd.R_far (p := ⟨gb1103, 3, none⟩) (Kd.R_far (p := ⟨gb1103, 2, none⟩) (Kd.R_far (p := ⟨gb1103, 1, none⟩) (Kd.R_far (p := ⟨gb1103, 0, none⟩) (Kd.R_types HO1090.out BK1103.out (by decide)) (fun _ hk => hk.2) (.slice Ao87 t1097.length co87)) (fun _ hk => hk.2) (.int .i64 t1100)) (fun _ hk => hk.2) (.int .i64 t1101)) (fun _ hk => hk.2) (.string t1102)) (fun _ h_ => h_.1)))); (case side2 => exact (Kd.R_reads' HO1090.out).2.1); (case side3 => refine (Kd.S_reads' (e := 44) (base := w.heap.size) (ok := fun k_ => (((some k_ ≠ (.slice Ao81 t1088.length co81 : Value).ownBlock ∧ gbz1089 ≤ k_) ∧ k_ < gbz1098) ∧ k_ ≠ gb1103)) (n := t1093.length) (c := co82) ?_).2.2; exact (by (with_reducible repeat (first | apply Kd.S_alloc | apply Kd.S_drewN | apply Kd.S_drew)); exact (Kd.S_mono (Kd.S_far (p := ⟨gb1103, 3, none⟩) (Kd.S_far (p := ⟨gb1103, 2, none⟩) (Kd.S_far (p := ⟨gb1103, 1, none⟩) (Kd.S_far (p := ⟨gb1103, 0, none⟩) (Kd.S_mono HO1095.out (fun k_ hk => (⟨hk, hk.2⟩ : _ ∧ k_ ≠ gb1103))) (fun _ hk => hk.2) (.slice Ao87 t1097.length co87)) (fun _ hk => hk.2) (.int .i64 t1100)) (fun _ hk => hk.2) (.int .i64 t1101)) (fun _ hk => hk.2) (.string t1102)) (fun _ h_ => h_.1)))); (case side4 => exact (Kd.S_reads' HO1095.out).2.1); (case side5 => refine (Kd.R_reads' (e := 164) (base := w.heap.size) (ok := fun k_ => (True ∧ gbz1098 ≤ k_)) (n := t1097.length) (c := co87) ?_).2.2; exact (by (with_reducible repeat (first | apply Kd.R_alloc | apply Kd.R_drewN | apply Kd.R_drew)); exact (Kd.R_mono (Kd.R_far (p := ⟨gb1103, 3, none⟩) (Kd.R_far (p := ⟨gb1103, 2, none⟩) (Kd.R_far (p := ⟨gb1103, 1, none⟩) (Kd.R_far (p := ⟨gb1103, 0, none⟩) (Kd.R_types HO1099.out BK1103.out (by decide)) (fun _ hk => hk.2) (.slice Ao87 t1097.length co87)) (fun _ hk => hk.2) (.int .i64 t1100)) (fun _ hk => hk.2) (.int .i64 t1101)) (fun _ hk => hk.2) (.string t1102)) (fun _ h_ => h_.1)))); (case side6 => exact (Kd.R_reads' HO1099.out).2.1); rintro e w94 ⟨v1106, v1111, rfl, ho0, ho1, hb⟩; refine ⟨_, rfl, ?_⟩; obtain ⟨gbz1106, hz1106⟩ := Kd.R_name ho0; have n0_ := Aside0.mk (Kd.R_below (Kd.R_ltz hz1106 (by (with_reducible repeat (first | apply Kd.R_alloc | apply Kd.R_drewN | apply Kd.R_drew)); exact (Kd.R_mono (Kd.R_far (p := ⟨gb1103, 3, none⟩) (Kd.R_far (p := ⟨gb1103, 2, none⟩) (Kd.R_far (p := ⟨gb1103, 1, none⟩) (Kd.R_far (p := ⟨gb1103, 0, none⟩) (Kd.R_types HO1080.out BK1103.out (by decide)) (fun _ hk => hk.2) (.slice Ao87 t1097.length co87)) (fun _ hk => hk.2) (.int .i64 t1100)) (fun _ hk => hk.2) (.int .i64 t1101)) (fun _ hk => hk.2) (.string t1102)) (fun _ h_ => h_.1)))) hb); have n1_ := Aside0.mk (Kd.S_below (Kd.S_ltz hz1106 (by (with_reducible repeat (first | apply Kd.S_alloc | apply Kd.S_drewN | apply Kd.S_drew)); exact (Kd.S_mono (Kd.S_far (p := ⟨gb1103, 3, none⟩) (Kd.S_far (p := ⟨gb1103, 2, none⟩) (Kd.S_far (p := ⟨gb1103, 1, none⟩) (Kd.S_far (p := ⟨gb1103, 0, none⟩) (Kd.S_mono HO1085.out (fun k_ hk => (⟨hk, hk.2⟩ : _ ∧ k_ ≠ gb1103))) (fun _ hk => hk.2) (.slice Ao87 t1097.length co87)) (fun _ hk => hk.2) (.int .i64 t1100)) (fun _ hk => hk.2) (.int .i64 t1101)) (fun _ hk => hk.2) (.string t1102)) (fun _ h_ => h_.1)))) hb); have n2_ := Aside0.mk (Kd.R_below (Kd.R_ltz hz1106 (by (with_reducible repeat (first | apply Kd.R_alloc | apply Kd.R_drewN | apply Kd.R_drew)); exact (Kd.R_mono (Kd.R_far (p := ⟨gb1103, 3, none⟩) (Kd.R_far (p := ⟨gb1103, 2, none⟩) (Kd.R_far (p := ⟨gb1103, 1, none⟩) (Kd.R_far (p := ⟨gb1103, 0, none⟩) (Kd.R_types HO1090.out BK1103.out (by decide)) (fun _ hk => hk.2) (.slice Ao87 t1097.length co87)) (fun _ hk => hk.2) (.int .i64 t1100)) (fun _ hk => hk.2) (.int .i64 t1101)) (fun _ hk => hk.2) (.string t1102)) (fun _ h_ => h_.1)))) hb); have n3_ := Aside0.mk (Kd.S_below (Kd.S_ltz hz1106 (by (with_reducible repeat (first | apply Kd.S_alloc | apply Kd.S_drewN | apply Kd.S_drew)); exact (Kd.S_mono (Kd.S_far (p := ⟨gb1103, 3, none⟩) (Kd.S_far (p := ⟨gb1103, 2, none⟩) (Kd.S_far (p := ⟨gb1103, 1, none⟩) (Kd.S_far (p := ⟨gb1103, 0, none⟩) (Kd.S_mono HO1095.out (fun k_ hk => (⟨hk, hk.2⟩ : _ ∧ k_ ≠ gb1103))) (fun _ hk => hk.2) (.slice Ao87 t1097.length co87)) (fun _ hk => hk.2) (.int .i64 t1100)) (fun _ hk => hk.2) (.int .i64 t1101)) (fun _ hk => hk.2) (.string t1102)) (fun _ h_ => h_.1)))) hb); have n4_ := Aside0.mk (Kd.R_below (Kd.R_ltz hz1106 (by (with_reducible repeat (first | apply Kd.R_alloc | apply Kd.R_drewN | apply Kd.R_drew)); exact (Kd.R_mono (Kd.R_far (p := ⟨gb1103, 3, none⟩) (Kd.R_far (p := ⟨gb1103, 2, none⟩) (Kd.R_far (p := ⟨gb1103, 1, none⟩) (Kd.R_far (p := ⟨gb1103, 0, none⟩) (Kd.R_types HO1099.out BK1103.out (by decide)) (fun _ hk => hk.2) (.slice Ao87 t1097.length co87)) (fun _ hk => hk.2) (.int .i64 t1100)) (fun _ hk => hk.2) (.int .i64 t1101)) (fun _ hk => hk.2) (.string t1102)) (fun _ h_ => h_.1)))) hb); have n5_ := Aside0.mk (Kd.R_lower (Kd.R_gez hz1106 ho0) (below_size (by repeat (first | (with_reducible first | exact HB.out | apply ba_ | apply bn_ | apply bd_ | refine below_set ?_ GE1058.out | refine below_set ?_ GE1059.out | refine below_set ?_ GE1086.out | refine below_set ?_ GE1096.out | refine below_set ?_ GE1103.out) | exact HB.out)))); have n6_ := Aside0.mk (Kd.S_lower (Kd.S_newB (Kd.S_gez hz1106 ho1) (g := gb1103) (o := .cells #[.slice Ao87 t1097.length co87, .int .i64 t1100, .int .i64 t1101, .string t1102] 44 (0, 0)) (by (with_reducible repeat (first | refine kn_ ?_ _ | refine kd_ ?_ | refine ka_ ?_ _)); refine blk_put (cs := #[.slice Ao87 t1097.length co87, .int .i64 t1100, .int .i64 t1101, .string (⟨#[]⟩ : ByteArray)]) ?_ 3 _ rfl; (with_reducible repeat (first | refine kn_ ?_ _ | refine kd_ ?_ | refine ka_ ?_ _)); refine blk_put (cs := #[.slice Ao87 t1097.length co87, .int .i64 t1100, .int .i64 0, .string (⟨#[]⟩ : ByteArray)]) ?_ 2 _ rfl; (with_reducible repeat (first | refine kn_ ?_ _ | refine kd_ ?_ | refine ka_ ?_ _)); refine blk_put (cs := #[.slice Ao87 t1097.length co87, .int .i64 0, .int .i64 0, .string (⟨#[]⟩ : ByteArray)]) ?_ 1 _ rfl; (with_reducible repeat (first | refine kn_ ?_ _ | refine kd_ ?_ | refine ka_ ?_ _)); refine blk_put (cs := #[.slice none 0 0, .int .i64 0, .int .i64 0, .string (⟨#[]⟩ : ByteArray)]) ?_ 0 _ rfl; (with_reducible repeat (first | refine kn_ ?_ _ | refine kd_ ?_ | refine ka_ ?_ _)); exact BK1103.out)) (below_size (by repeat (first | (with_reducible first | exact HB.out | apply ba_ | apply bn_ | apply bd_ | refine below_set ?_ GE1058.out | refine below_set ?_ GE1059.out | refine below_set ?_ GE1086.out | refine below_set ?_ GE1096.out | refine below_set ?_ GE1103.out) | exact HB.out)))); have n7_ := Aside0.mk (blk_below (g := gb1058) (o := .cells #[.int .i64 a0_0, .slice A0_1 l0_1.length c0_1, .int .i64 a0_2, .int .i64 a0_3, .slice A0_4 l0_4.length c0_4] 69 (0, 0)) (by (with_reducible repeat (first | refine kn_ ?_ _ | refine kd_ ?_ | refine ka_ ?_ _)); refine blk_far ?_ NB1058_1103.out _; (with_reducible repeat (first | refine kn_ ?_ _ | refine kd_ ?_ | refine ka_ ?_ _)); refine blk_far ?_ NB1058_1103.out _; (with_reducible repeat (first | refine kn_ ?_ _ | refine kd_ ?_ | refine ka_ ?_ _)); refine blk_far ?_ NB1058_1103.out _; (with_reducible repeat (first | refine kn_ ?_ _ | refine kd_ ?_ | refine ka_ ?_ _)); refine blk_far ?_ NB1058_1103.out _; (with_reducible repeat (first | refine kn_ ?_ _ | refine kd_ ?_ | refine ka_ ?_ _)); exact BK1058.out) hb); have n8_ := Aside0.mk (blk_below (g := gb1059) (o := .cells #[.slice A1_0 l1_0.length c1_0, .int .i64 a1_1, .int .i64 a1_2, .string a1_3] 34 (0, 0)) (by (with_reducible repeat (first | refine kn_ ?_ _ | refine kd_ ?_ | refine ka_ ?_ _)); refine blk_far ?_ NB1059_1103.out _; (with_reducible repeat (first | refine kn_ ?_ _ | refine kd_ ?_ | refine ka_ ?_ _)); refine blk_far ?_ NB1059_1103.out _; (with_reducible repeat (first | refine kn_ ?_ _ | refine kd_ ?_ | refine ka_ ?_ _)); refine blk_far ?_ NB1059_1103.out _; (with_reducible repeat (first | refine kn_ ?_ _ | refine kd_ ?_ | refine ka_ ?_ _)); refine blk_far ?_ NB1059_1103.out _; (with_reducible repeat (first | refine kn_ ?_ _ | refine kd_ ?_ | refine ka_ ?_ _)); exact BK1059.out) hb); have n9_ := Aside0.mk (blk_below (g := gb1086) (o := .cells #[.int .i64 t1077, .slice Ao67 t1078.length co67, .int .i64 t1081, .int .i64 t1082, .slice Ao71 t1083.length co71] 75 (0, 0)) (by (with_reducible repeat (first | refine kn_ ?_ _ | refine kd_ ?_ | refine ka_ ?_ _)); refine blk_far ?_ NB1086_1103.out _; (with_reducible repeat (first | refine kn_ ?_ _ | refine kd_ ?_ | refine ka_ ?_ _)); refine blk_far ?_ NB1086_1103.out _; (with_reducible repeat (first | refine kn_ ?_ _ | refine kd_ ?_ | refine ka_ ?_ _)); refine blk_far ?_ NB1086_1103.out _; (with_reducible repeat (first | refine kn_ ?_ _ | refine kd_ ?_ | refine ka_ ?_ _)); refine blk_far ?_ NB1086_1103.out _; (with_reducible repeat (first | refine kn_ ?_ _ | refine kd_ ?_ | refine ka_ ?_ _)); exact BK1086.out) hb); have n10_ := Aside0.mk (blk_below (g := gb1096) (o := .cells #[.int .i64 t1087, .slice Ao81 t1088.length co81, .int .i64 t1091, .int .i64 t1092, .slice Ao82 t1093.length co82] 75 (0, 0)) (by (with_reducible repeat (first | refine kn_ ?_ _ | refine kd_ ?_ | refine ka_ ?_ _)); refine blk_far ?_ NB1096_1103.out _; (with_reducible repeat (first | refine kn_ ?_ _ | refine kd_ ?_ | refine ka_ ?_ _)); refine blk_far ?_ NB1096_1103.out _; (with_reducible repeat (first | refine kn_ ?_ _ | refine kd_ ?_ | refine ka_ ?_ _)); refine blk_far ?_ NB1096_1103.out _; (with_reducible repeat (first | refine kn_ ?_ _ | refine kd_ ?_ | refine ka_ ?_ _)); refine blk_far ?_ NB1096_1103.out _; (with_reducible repeat (first | refine kn_ ?_ _ | refine kd_ ?_ | refine ka_ ?_ _)); exact BK1096.out) hb); have n11_ := Aside0.mk (blk_below (g := gb1103) (o := .cells #[.slice Ao87 t1097.length co87, .int .i64 t1100, .int .i64 t1101, .string t1102] 44 (0, 0)) (by (with_reducible repeat (first | refine kn_ ?_ _ | refine kd_ ?_ | refine ka_ ?_ _)); refine blk_put (cs := #[.slice Ao87 t1097.length co87, .int .i64 t1100, .int .i64 t1101, .string (⟨#[]⟩ : ByteArray)]) ?_ 3 _ rfl; (with_reducible repeat (first | refine kn_ ?_ _ | refine kd_ ?_ | refine ka_ ?_ _)); refine blk_put (cs := #[.slice Ao87 t1097.length co87, .int .i64 t1100, .int .i64 0, .string (⟨#[]⟩ : ByteArray)]) ?_ 2 _ rfl; (with_reducible repeat (first | refine kn_ ?_ _ | refine kd_ ?_ | refine ka_ ?_ _)); refine blk_put (cs := #[.slice Ao87 t1097.length co87, .int .i64 0, .int .i64 0, .string (⟨#[]⟩ : ByteArray)]) ?_ 1 _ rfl; (with_reducible repeat (first | refine kn_ ?_ _ | refine kd_ ?_ | refine ka_ ?_ _)); refine blk_put (cs := #[.slice none 0 0, .int .i64 0, .int .i64 0, .string (⟨#[]⟩ : ByteArray)]) ?_ 0 _ rfl; (with_reducible repeat (first | refine kn_ ?_ _ | refine kd_ ?_ | refine ka_ ?_ _)); exact BK1103.out) hb); have n12_ := Aside0.mk (below_step (by repeat (first | (with_reducible first | exact HB.out | apply ba_ | apply bn_ | apply bd_ | refine below_set ?_ GE1058.out | refine below_set ?_ GE1059.out | refine below_set ?_ GE1086.out | refine below_set ?_ GE1096.out | refine below_set ?_ GE1103.out) | exact HB.out)) hb); clear HO1080 HO1085 HO1090 HO1095 HO1099 BK1058 BK1059 BK1086 BK1096 BK1103 HB; have HO1080 := n0_; have HO1085 := n1_; have HO1090 := n2_; have HO1095 := n3_; have HO1099 := n4_; have HO1107 := n5_; have HO1112 := n6_; have BK1058 := n7_; have BK1059 := n8_; have BK1086 := n9_; have BK1096 := n10_; have BK1103 := n11_; have HB := n12_; clear n0_ n1_ n2_ n3_ n4_ n5_ n6_ n7_ n8_ n9_ n10_ n11_ n12_; (try clear hb); (try clear hb2); (try clear hk); (try clear hi); (try clear ho0); (try clear ho1)) | ((with_reducible refine gate_dst (N := 9) rfl ?_); refine box_event ?hg (N := 9) ?hd (cs := #[.int .i64 0, .slice none 0 0, .int .i64 0, .int .i64 0, .slice none 0 0]) (t := 75) ?hr ?_; (case hd => rfl); (case hg => rfl); (case hr => first | (go_simp; done) | (go_simp; rfl)); intro gb1113 hg w95 hbox hb; have n0_ := Aside0.mk (Kd.R_below (rp_ HO1080.out) hb); have n1_ := Aside0.mk (Kd.S_below (sp_ HO1085.out) hb); have n2_ := Aside0.mk (Kd.R_below (rp_ HO1090.out) hb); have n3_ := Aside0.mk (Kd.S_below (sp_ HO1095.out) hb); have n4_ := Aside0.mk (Kd.R_below (rp_ HO1099.out) hb); have n5_ := Aside0.mk (Kd.R_below (rp_ HO1107.out) hb); have n6_ := Aside0.mk (Kd.S_below (sp_ HO1112.out) hb); have n7_ := Aside0.mk (bb_ BK1058.out hb); have n8_ := Aside0.mk (bb_ BK1059.out hb); have n9_ := Aside0.mk (bb_ BK1086.out hb); have n10_ := Aside0.mk (bb_ BK1096.out hb); have n11_ := Aside0.mk (bb_ BK1103.out hb); have n12_ := Aside0.mk (below_step (by repeat (first | (with_reducible first | exact HB.out | apply ba_ | apply bn_ | apply bd_ | refine below_set ?_ GE1058.out | refine below_set ?_ GE1059.out | refine below_set ?_ GE1086.out | refine below_set ?_ GE1096.out | refine below_set ?_ GE1103.out) | exact HB.out)) hb); have n13_ := Aside0.mk (hbox); have n14_ := Aside0.mk ((by rw [hg]; exact (below_size (by repeat (first | (with_reducible first | exact HB.out | apply ba_ | apply bn_ | apply bd_ | refine below_set ?_ GE1058.out | refine below_set ?_ GE1059.out | refine below_set ?_ GE1086.out | refine below_set ?_ GE1096.out | refine below_set ?_ GE1103.out) | exact HB.out))) : w.heap.size ≤ gb1113)); have n15_ := Aside0.mk ((by rw [hg]; exact (below_size (by repeat (first | (with_reducible first | exact HB.out | apply ba_ | apply bn_ | apply bd_ | refine below_set ?_ GE1058.out | refine below_set ?_ GE1059.out | refine below_set ?_ GE1086.out | refine below_set ?_ GE1096.out | refine below_set ?_ GE1103.out) | exact HB.out))) : w.heap.size ≤ gb1113)); have n16_ := Aside0.mk (nl_ BK1058.out hg); have n17_ := Aside0.mk (n16_.out.symm); have n18_ := Aside0.mk (nl_ BK1059.out hg); have n19_ := Aside0.mk (n18_.out.symm); have n20_ := Aside0.mk (nl_ BK1086.out hg); have n21_ := Aside0.mk (n20_.out.symm); have n22_ := Aside0.mk (nl_ BK1096.out hg); have n23_ := Aside0.mk (n22_.out.symm); have n24_ := Aside0.mk (nl_ BK1103.out hg); have n25_ := Aside0.mk (n24_.out.symm); clear HO1080 HO1085 HO1090 HO1095 HO1099 HO1107 HO1112 BK1058 BK1059 BK1086 BK1096 BK1103 HB; have HO1080 := n0_; have HO1085 := n1_; have HO1090 := n2_; have HO1095 := n3_; have HO1099 := n4_; have HO1107 := n5_; have HO1112 := n6_; have BK1058 := n7_; have BK1059 := n8_; have BK1086 := n9_; have BK1096 := n10_; have BK1103 := n11_; have HB := n12_; have BK1113 := n13_; have GW1113 := n14_; have GE1113 := n15_; have NB1058_1113 := n16_; have NB1113_1058 := n17_; have NB1059_1113 := n18_; have NB1113_1059 := n19_; have NB1086_1113 := n20_; have NB1113_1086 := n21_; have NB1096_1113 := n22_; have NB1113_1096 := n23_; have NB1103_1113 := n24_; have NB1113_1103 := n25_; clear n0_ n1_ n2_ n3_ n4_ n5_ n6_ n7_ n8_ n9_ n10_ n11_ n12_ n13_ n14_ n15_ n16_ n17_ n18_ n19_ n20_ n21_ n22_ n23_ n24_ n25_; clear hb hbox hg; have hnb96 := NB1113_1058.out; have hnc96 := NB1058_1113.out; have hnb97 := NB1113_1059.out; have hnc97 := NB1059_1113.out; have hnb98 := NB1113_1086.out; have hnc98 := NB1086_1113.out; have hnb99 := NB1113_1096.out; have hnc99 := NB1096_1113.out; have hnb100 := NB1113_1103.out; have hnc100 := NB1103_1113.out; obtain ⟨hcz101_0, hcz101_1, hcz101_2, hcz101_3, hcz101_4, hfz101_0, hfz101_1, hfz101_2, hfz101_3, hfz101_4⟩ := bc5_ BK1113.out; obtain ⟨Ao102, co102, eo102⟩ := Kd.R_slice HO1107.out; subst eo102; obtain ⟨Ao103, co103, eo103⟩ := Kd.S_slice HO1112.out; subst eo103; obtain ⟨hcz104_0, hcz104_1, hcz104_2, hcz104_3, hcz104_4, hfz104_0, hfz104_1, hfz104_2, hfz104_3, hfz104_4⟩ := bc5_ BK1086.out) | ((with_reducible refine gate_callee (f := 54) rfl ?_); refine goesL_ (some 38) rfl rfl Try.func54 (by kernel_rfl) rfl #[.agg #[.int .i64 t1104, .slice Ao102 t1105.length co102, .int .i64 t1108, .int .i64 t1109, .slice Ao103 t1110.length co103], .agg #[.int .i64 t1077, .slice Ao67 t1078.length co67, .int .i64 t1081, .int .i64 t1082, .slice Ao71 t1083.length co71]] rfl (by (try simp only [mp_]); first | done | rfl | (simp only [List.length_drop, List.length_take]; rfl)) ?_; (with_reducible refine (laws_eqGroup.calls k t1104 _ _ t1105 t1108 t1109 _ _ t1110 t1077 _ _ t1078 t1081 t1082 _ _ t1083 true _ ?side1 ?side2 ?side3 ?side4 ?side5 ?side6 ?side7 ?side8 A25.out).mono ?_); (case side1 => refine (Kd.R_reads' (e := 164) (base := w.heap.size) (ok := fun k_ => (True ∧ gbz1106 ≤ k_)) (n := t1105.length) (c := co102) ?_).2.2; exact (by (with_reducible repeat (first | apply Kd.R_alloc | apply Kd.R_drewN | apply Kd.R_drew)); exact (Kd.R_mono (Kd.R_far (p := ⟨gb1113, 4, none⟩) (Kd.R_far (p := ⟨gb1113, 3, none⟩) (Kd.R_far (p := ⟨gb1113, 2, none⟩) (Kd.R_far (p := ⟨gb1113, 1, none⟩) (Kd.R_far (p := ⟨gb1113, 0, none⟩) (Kd.R_types HO1107.out BK1113.out (by decide)) (fun _ hk => hk.2) (.int .i64 t1104)) (fun _ hk => hk.2) (.slice Ao102 t1105.length co102)) (fun _ hk => hk.2) (.int .i64 t1108)) (fun _ hk => hk.2) (.int .i64 t1109)) (fun _ hk => hk.2) (.slice Ao103 t1110.length co103)) (fun _ h_ => h_.1)))); (case side2 => exact (Kd.R_reads' HO1107.out).2.1); (case side3 => refine (Kd.S_reads' (e := 44) (base := w.heap.size) (ok := fun k_ => ((some k_ ≠ (.slice Ao102 t1105.length co102 : Value).ownBlock ∧ gbz1106 ≤ k_) ∧ k_ ≠ gb1103)) (n := t1110.length) (c := co103) ?_).2.2; exact (by (with_reducible repeat (first | apply Kd.S_alloc | apply Kd.S_drewN | apply Kd.S_drew)); exact (Kd.S_mono (Kd.S_far (p := ⟨gb1113, 4, none⟩) (Kd.S_far (p := ⟨gb1113, 3, none⟩) (Kd.S_far (p := ⟨gb1113, 2, none⟩) (Kd.S_far (p := ⟨gb1113, 1, none⟩) (Kd.S_far (p := ⟨gb1113, 0, none⟩) (Kd.S_types HO1112.out BK1113.out (by decide)) (fun _ hk => hk.2) (.int .i64 t1104)) (fun _ hk => hk.2) (.slice Ao102 t1105.length co102)) (fun _ hk => hk.2) (.int .i64 t1108)) (fun _ hk => hk.2) (.int .i64 t1109)) (fun _ hk => hk.2) (.slice Ao103 t1110.length co103)) (fun _ h_ => h_.1)))); (case side4 => exact (Kd.S_reads' HO1112.out).2.1); (case side5 => refine (Kd.R_reads' (e := 164) (base := w.heap.size) (ok := fun k_ => (((gbz1079 ≤ k_ ∧ k_ < gbz1089) ∧ k_ < gbz1098) ∧ k_ < gbz1106)) (n := t1078.length) (c := co67) ?_).2.2; exact (by (with_reducible repeat (first | apply Kd.R_alloc | apply Kd.R_drewN | apply Kd.R_drew)); exact (Kd.R_mono (Kd.R_far (p := ⟨gb1113, 4, none⟩) (Kd.R_far (p := ⟨gb1113, 3, none⟩) (Kd.R_far (p := ⟨gb1113, 2, none⟩) (Kd.R_far (p := ⟨gb1113, 1, none⟩) (Kd.R_far (p := ⟨gb1113, 0, none⟩) (Kd.R_types HO1080.out BK1113.out (by decide)) (fun _ hk => hk.2) (.int .i64 t1104)) (fun _ hk => hk.2) (.slice Ao102 t1105.length co102)) (fun _ hk => hk.2) (.int .i64 t1108)) (fun _ hk => hk.2) (.int .i64 t1109)) (fun _ hk => hk.2) (.slice Ao103 t1110.length co103)) (fun _ h_ => h_.1)))); (case side6 => exact (Kd.R_reads' HO1080.out).2.1); (case side7 => refine (Kd.S_reads' (e := 44) (base := w.heap.size) (ok := fun k_ => (((((some k_ ≠ (.slice Ao67 t1078.length co67 : Value).ownBlock ∧ gbz1079 ≤ k_) ∧ k_ < gbz1089) ∧ k_ < gbz1098) ∧ k_ ≠ gb1103) ∧ k_ < gbz1106)) (n := t1083.length) (c := co71) ?_).2.2; exact (by (with_reducible repeat (first | apply Kd.S_alloc | apply Kd.S_drewN | apply Kd.S_drew)); exact (Kd.S_mono (Kd.S_far (p := ⟨gb1113, 4, none⟩) (Kd.S_far (p := ⟨gb1113, 3, none⟩) (Kd.S_far (p := ⟨gb1113, 2, none⟩) (Kd.S_far (p := ⟨gb1113, 1, none⟩) (Kd.S_far (p := ⟨gb1113, 0, none⟩) (Kd.S_types HO1085.out BK1113.out (by decide)) (fun _ hk => hk.2) (.int .i64 t1104)) (fun _ hk => hk.2) (.slice Ao102 t1105.length co102)) (fun _ hk => hk.2) (.int .i64 t1108)) (fun _ hk => hk.2) (.int .i64 t1109)) (fun _ hk => hk.2) (.slice Ao103 t1110.length co103)) (fun _ h_ => h_.1)))); (case side8 => exact (Kd.S_reads' HO1085.out).2.1); rintro e w105 ⟨rfl, hb⟩; refine ⟨_, rfl, ?_⟩; have n0_ := Aside0.mk (Kd.R_below (by (with_reducible repeat (first | apply Kd.R_alloc | apply Kd.R_drewN | apply Kd.R_drew)); exact (Kd.R_mono (Kd.R_far (p := ⟨gb1113, 4, none⟩) (Kd.R_far (p := ⟨gb1113, 3, none⟩) (Kd.R_far (p := ⟨gb1113, 2, none⟩) (Kd.R_far (p := ⟨gb1113, 1, none⟩) (Kd.R_far (p := ⟨gb1113, 0, none⟩) (Kd.R_types HO1080.out BK1113.out (by decide)) (fun _ hk => hk.2) (.int .i64 t1104)) (fun _ hk => hk.2) (.slice Ao102 t1105.length co102)) (fun _ hk => hk.2) (.int .i64 t1108)) (fun _ hk => hk.2) (.int .i64 t1109)) (fun _ hk => hk.2) (.slice Ao103 t1110.length co103)) (fun _ h_ => h_.1))) hb); have n1_ := Aside0.mk (Kd.S_below (by (with_reducible repeat (first | apply Kd.S_alloc | apply Kd.S_drewN | apply Kd.S_drew)); exact (Kd.S_mono (Kd.S_far (p := ⟨gb1113, 4, none⟩) (Kd.S_far (p := ⟨gb1113, 3, none⟩) (Kd.S_far (p := ⟨gb1113, 2, none⟩) (Kd.S_far (p := ⟨gb1113, 1, none⟩) (Kd.S_far (p := ⟨gb1113, 0, none⟩) (Kd.S_types HO1085.out BK1113.out (by decide)) (fun _ hk => hk.2) (.int .i64 t1104)) (fun _ hk => hk.2) (.slice Ao102 t1105.length co102)) (fun _ hk => hk.2) (.int .i64 t1108)) (fun _ hk => hk.2) (.int .i64 t1109)) (fun _ hk => hk.2) (.slice Ao103 t1110.length co103)) (fun _ h_ => h_.1))) hb); have n2_ := Aside0.mk (Kd.R_below (by (with_reducible repeat (first | apply Kd.R_alloc | apply Kd.R_drewN | apply Kd.R_drew)); exact (Kd.R_mono (Kd.R_far (p := ⟨gb1113, 4, none⟩) (Kd.R_far (p := ⟨gb1113, 3, none⟩) (Kd.R_far (p := ⟨gb1113, 2, none⟩) (Kd.R_far (p := ⟨gb1113, 1, none⟩) (Kd.R_far (p := ⟨gb1113, 0, none⟩) (Kd.R_types HO1090.out BK1113.out (by decide)) (fun _ hk => hk.2) (.int .i64 t1104)) (fun _ hk => hk.2) (.slice Ao102 t1105.length co102)) (fun _ hk => hk.2) (.int .i64 t1108)) (fun _ hk => hk.2) (.int .i64 t1109)) (fun _ hk => hk.2) (.slice Ao103 t1110.length co103)) (fun _ h_ => h_.1))) hb); have n3_ := Aside0.mk (Kd.S_below (by (with_reducible repeat (first | apply Kd.S_alloc | apply Kd.S_drewN | apply Kd.S_drew)); exact (Kd.S_mono (Kd.S_far (p := ⟨gb1113, 4, none⟩) (Kd.S_far (p := ⟨gb1113, 3, none⟩) (Kd.S_far (p := ⟨gb1113, 2, none⟩) (Kd.S_far (p := ⟨gb1113, 1, none⟩) (Kd.S_far (p := ⟨gb1113, 0, none⟩) (Kd.S_types HO1095.out BK1113.out (by decide)) (fun _ hk => hk.2) (.int .i64 t1104)) (fun _ hk => hk.2) (.slice Ao102 t1105.length co102)) (fun _ hk => hk.2) (.int .i64 t1108)) (fun _ hk => hk.2) (.int .i64 t1109)) (fun _ hk => hk.2) (.slice Ao103 t1110.length co103)) (fun _ h_ => h_.1))) hb); have n4_ := Aside0.mk (Kd.R_below (by (with_reducible repeat (first | apply Kd.R_alloc | apply Kd.R_drewN | apply Kd.R_drew)); exact (Kd.R_mono (Kd.R_far (p := ⟨gb1113, 4, none⟩) (Kd.R_far (p := ⟨gb1113, 3, none⟩) (Kd.R_far (p := ⟨gb1113, 2, none⟩) (Kd.R_far (p := ⟨gb1113, 1, none⟩) (Kd.R_far (p := ⟨gb1113, 0, none⟩) (Kd.R_types HO1099.out BK1113.out (by decide)) (fun _ hk => hk.2) (.int .i64 t1104)) (fun _ hk => hk.2) (.slice Ao102 t1105.length co102)) (fun _ hk => hk.2) (.int .i64 t1108)) (fun _ hk => hk.2) (.int .i64 t1109)) (fun _ hk => hk.2) (.slice Ao103 t1110.length co103)) (fun _ h_ => h_.1))) hb); have n5_ := Aside0.mk (Kd.R_below (by (with_reducible repeat (first | apply Kd.R_alloc | apply Kd.R_drewN | apply Kd.R_drew)); exact (Kd.R_mono (Kd.R_far (p := ⟨gb1113, 4, none⟩) (Kd.R_far (p := ⟨gb1113, 3, none⟩) (Kd.R_far (p := ⟨gb1113, 2, none⟩) (Kd.R_far (p := ⟨gb1113, 1, none⟩) (Kd.R_far (p := ⟨gb1113, 0, none⟩) (Kd.R_types HO1107.out BK1113.out (by decide)) (fun _ hk => hk.2) (.int .i64 t1104)) (fun _ hk => hk.2) (.slice Ao102 t1105.length co102)) (fun _ hk => hk.2) (.int .i64 t1108)) (fun _ hk => hk.2) (.int .i64 t1109)) (fun _ hk => hk.2) (.slice Ao103 t1110.length co103)) (fun _ h_ => h_.1))) hb); have n6_ := Aside0.mk (Kd.S_below (by (with_reducible repeat (first | apply Kd.S_alloc | apply Kd.S_drewN | apply Kd.S_drew)); exact (Kd.S_mono (Kd.S_far (p := ⟨gb1113, 4, none⟩) (Kd.S_far (p := ⟨gb1113, 3, none⟩) (Kd.S_far (p := ⟨gb1113, 2, none⟩) (Kd.S_far (p := ⟨gb1113, 1, none⟩) (Kd.S_far (p := ⟨gb1113, 0, none⟩) (Kd.S_types HO1112.out BK1113.out (by decide)) (fun _ hk => hk.2) (.int .i64 t1104)) (fun _ hk => hk.2) (.slice Ao102 t1105.length co102)) (fun _ hk => hk.2) (.int .i64 t1108)) (fun _ hk => hk.2) (.int .i64 t1109)) (fun _ hk => hk.2) (.slice Ao103 t1110.length co103)) (fun _ h_ => h_.1))) hb); have n7_ := Aside0.mk (blk_below (g := gb1058) (o := .cells #[.int .i64 a0_0, .slice A0_1 l0_1.length c0_1, .int .i64 a0_2, .int .i64 a0_3, .slice A0_4 l0_4.length c0_4] 69 (0, 0)) (by (with_reducible repeat (first | refine kn_ ?_ _ | refine kd_ ?_ | refine ka_ ?_ _)); refine blk_far ?_ NB1058_1113.out _; (with_reducible repeat (first | refine kn_ ?_ _ | refine kd_ ?_ | refine ka_ ?_ _)); refine blk_far ?_ NB1058_1113.out _; (with_reducible repeat (first | refine kn_ ?_ _ | refine kd_ ?_ | refine ka_ ?_ _)); refine blk_far ?_ NB1058_1113.out _; (with_reducible repeat (first | refine kn_ ?_ _ | refine kd_ ?_ | refine ka_ ?_ _)); refine blk_far ?_ NB1058_1113.out _; (with_reducible repeat (first | refine kn_ ?_ _ | refine kd_ ?_ | refine ka_ ?_ _)); refine blk_far ?_ NB1058_1113.out _; (with_reducible repeat (first | refine kn_ ?_ _ | refine kd_ ?_ | refine ka_ ?_ _)); exact BK1058.out) hb); have n8_ := Aside0.mk (blk_below (g := gb1059) (o := .cells #[.slice A1_0 l1_0.length c1_0, .int .i64 a1_1, .int .i64 a1_2, .string a1_3] 34 (0, 0)) (by (with_reducible repeat (first | refine kn_ ?_ _ | refine kd_ ?_ | refine ka_ ?_ _)); refine blk_far ?_ NB1059_1113.out _; (with_reducible repeat (first | refine kn_ ?_ _ | refine kd_ ?_ | refine ka_ ?_ _)); refine blk_far ?_ NB1059_1113.out _; (with_reducible repeat (first | refine kn_ ?_ _ | refine kd_ ?_ | refine ka_ ?_ _)); refine blk_far ?_ NB1059_1113.out _; (with_reducible repeat (first | refine kn_ ?_ _ | refine kd_ ?_ | refine ka_ ?_ _)); refine blk_far ?_ NB1059_1113.out _; (with_reducible repeat (first | refine kn_ ?_ _ | refine kd_ ?_ | refine ka_ ?_ _)); refine blk_far ?_ NB1059_1113.out _; (with_reducible repeat (first | refine kn_ ?_ _ | refine kd_ ?_ | refine ka_ ?_ _)); exact BK1059.out) hb); have n9_ := Aside0.mk (blk_below (g := gb1086) (o := .cells #[.int .i64 t1077, .slice Ao67 t1078.length co67, .int .i64 t1081, .int .i64 t1082, .slice Ao71 t1083.length co71] 75 (0, 0)) (by (with_reducible repeat (first | refine kn_ ?_ _ | refine kd_ ?_ | refine ka_ ?_ _)); refine blk_far ?_ NB1086_1113.out _; (with_reducible repeat (first | refine kn_ ?_ _ | refine kd_ ?_ | refine ka_ ?_ _)); refine blk_far ?_ NB1086_1113.out _; (with_reducible repeat (first | refine kn_ ?_ _ | refine kd_ ?_ | refine ka_ ?_ _)); refine blk_far ?_ NB1086_1113.out _; (with_reducible repeat (first | refine kn_ ?_ _ | refine kd_ ?_ | refine ka_ ?_ _)); refine blk_far ?_ NB1086_1113.out _; (with_reducible repeat (first | refine kn_ ?_ _ | refine kd_ ?_ | refine ka_ ?_ _)); refine blk_far ?_ NB1086_1113.out _; (with_reducible repeat (first | refine kn_ ?_ _ | refine kd_ ?_ | refine ka_ ?_ _)); exact BK1086.out) hb); have n10_ := Aside0.mk (blk_below (g := gb1096) (o := .cells #[.int .i64 t1087, .slice Ao81 t1088.length co81, .int .i64 t1091, .int .i64 t1092, .slice Ao82 t1093.length co82] 75 (0, 0)) (by (with_reducible repeat (first | refine kn_ ?_ _ | refine kd_ ?_ | refine ka_ ?_ _)); refine blk_far ?_ NB1096_1113.out _; (with_reducible repeat (first | refine kn_ ?_ _ | refine kd_ ?_ | refine ka_ ?_ _)); refine blk_far ?_ NB1096_1113.out _; (with_reducible repeat (first | refine kn_ ?_ _ | refine kd_ ?_ | refine ka_ ?_ _)); refine blk_far ?_ NB1096_1113.out _; (with_reducible repeat (first | refine kn_ ?_ _ | refine kd_ ?_ | refine ka_ ?_ _)); refine blk_far ?_ NB1096_1113.out _; (with_reducible repeat (first | refine kn_ ?_ _ | refine kd_ ?_ | refine ka_ ?_ _)); refine blk_far ?_ NB1096_1113.out _; (with_reducible repeat (first | refine kn_ ?_ _ | refine kd_ ?_ | refine ka_ ?_ _)); exact BK1096.out) hb); have n11_ := Aside0.mk (blk_below (g := gb1103) (o := .cells #[.slice Ao87 t1097.length co87, .int .i64 t1100, .int .i64 t1101, .string t1102] 44 (0, 0)) (by (with_reducible repeat (first | refine kn_ ?_ _ | refine kd_ ?_ | refine ka_ ?_ _)); refine blk_far ?_ NB1103_1113.out _; (with_reducible repeat (first | refine kn_ ?_ _ | refine kd_ ?_ | refine ka_ ?_ _)); refine blk_far ?_ NB1103_1113.out _; (with_reducible repeat (first | refine kn_ ?_ _ | refine kd_ ?_ | refine ka_ ?_ _)); refine blk_far ?_ NB1103_1113.out _; (with_reducible repeat (first | refine kn_ ?_ _ | refine kd_ ?_ | refine ka_ ?_ _)); refine blk_far ?_ NB1103_1113.out _; (with_reducible repeat (first | refine kn_ ?_ _ | refine kd_ ?_ | refine ka_ ?_ _)); refine blk_far ?_ NB1103_1113.out _; (with_reducible repeat (first | refine kn_ ?_ _ | refine kd_ ?_ | refine ka_ ?_ _)); exact BK1103.out) hb); have n12_ := Aside0.mk (blk_below (g := gb1113) (o := .cells #[.int .i64 t1104, .slice Ao102 t1105.length co102, .int .i64 t1108, .int .i64 t1109, .slice Ao103 t1110.length co103] 75 (0, 0)) (by (with_reducible repeat (first | refine kn_ ?_ _ | refine kd_ ?_ | refine ka_ ?_ _)); refine blk_put (cs := #[.int .i64 t1104, .slice Ao102 t1105.length co102, .int .i64 t1108, .int .i64 t1109, .slice none 0 0]) ?_ 4 _ rfl; (with_reducible repeat (first | refine kn_ ?_ _ | refine kd_ ?_ | refine ka_ ?_ _)); refine blk_put (cs := #[.int .i64 t1104, .slice Ao102 t1105.length co102, .int .i64 t1108, .int .i64 0, .slice none 0 0]) ?_ 3 _ rfl; (with_reducible repeat (first | refine kn_ ?_ _ | refine kd_ ?_ | refine ka_ ?_ _)); refine blk_put (cs := #[.int .i64 t1104, .slice Ao102 t1105.length co102, .int .i64 0, .int .i64 0, .slice none 0 0]) ?_ 2 _ rfl; (with_reducible repeat (first | refine kn_ ?_ _ | refine kd_ ?_ | refine ka_ ?_ _)); refine blk_put (cs := #[.int .i64 t1104, .slice none 0 0, .int .i64 0, .int .i64 0, .slice none 0 0]) ?_ 1 _ rfl; (with_reducible repeat (first | refine kn_ ?_ _ | refine kd_ ?_ | refine ka_ ?_ _)); refine blk_put (cs := #[.int .i64 0, .slice none 0 0, .int .i64 0, .int .i64 0, .slice none 0 0]) ?_ 0 _ rfl; (with_reducible repeat (first | refine kn_ ?_ _ | refine kd_ ?_ | refine ka_ ?_ _)); exact BK1113.out) hb); have n13_ := Aside0.mk (below_step (by repeat (first | (with_reducible first | exact HB.out | apply ba_ | apply bn_ | apply bd_ | refine below_set ?_ GE1058.out | refine below_set ?_ GE1059.out | refine below_set ?_ GE1086.out | refine below_set ?_ GE1096.out | refine below_set ?_ GE1103.out | refine below_set ?_ GE1113.out) | exact HB.out)) hb); clear HO1080 HO1085 HO1090 HO1095 HO1099 HO1107 HO1112 BK1058 BK1059 BK1086 BK1096 BK1103 BK1113 HB; have HO1080 := n0_; have HO1085 := n1_; have HO1090 := n2_; have HO1095 := n3_; have HO1099 := n4_; have HO1107 := n5_; have HO1112 := n6_; have BK1058 := n7_; have BK1059 := n8_; have BK1086 := n9_; have BK1096 := n10_; have BK1103 := n11_; have BK1113 := n12_; have HB := n13_; clear n0_ n1_ n2_ n3_ n4_ n5_ n6_ n7_ n8_ n9_ n10_ n11_ n12_ n13_; (try clear hb); (try clear hb2); (try clear hk); (try clear hi)))
        have n0_ := Aside0.mk (Kd.R_drew HO1080.out)
        have n1_ := Aside0.mk (Kd.S_drew HO1085.out)
        have n2_ := Aside0.mk (Kd.R_drew HO1090.out)
        have n3_ := Aside0.mk (Kd.S_drew HO1095.out)
        have n4_ := Aside0.mk (Kd.R_drew HO1099.out)
        have n5_ := Aside0.mk (Kd.R_drew HO1107.out)
        have n6_ := Aside0.mk (Kd.S_drew HO1112.out)
        have n7_ := Aside0.mk (blk_drew BK1058.out)
        have n8_ := Aside0.mk (blk_drew BK1059.out)
        have n9_ := Aside0.mk (blk_drew BK1086.out)
        have n10_ := Aside0.mk (blk_drew BK1096.out)
        have n11_ := Aside0.mk (blk_drew BK1103.out)
        have n12_ := Aside0.mk (blk_drew BK1113.out)
        have n13_ := Aside0.mk (bd_ HB.out)
        clear HO1080 HO1085 HO1090 HO1095 HO1099 HO1107 HO1112 BK1058 BK1059 BK1086 BK1096 BK1103 BK1113 HB
        have HO1080 := n0_
        have HO1085 := n1_
        have HO1090 := n2_
        have HO1095 := n3_
        have HO1099 := n4_
        have HO1107 := n5_
        have HO1112 := n6_
        have BK1058 := n7_
        have BK1059 := n8_
        have BK1086 := n9_
        have BK1096 := n10_
        have BK1103 := n11_
        have BK1113 := n12_
        have HB := n13_
        clear n0_ n1_ n2_ n3_ n4_ n5_ n6_ n7_ n8_ n9_ n10_ n11_ n12_ n13_
        refine start_ (n := 5) (S := fun w' => w'.cell? ⟨gb1096, 0, none⟩ = some (.int .i64 t1087) ∧ w'.cell? ⟨gb1096, 1, none⟩ = some (.slice Ao81 t1088.length co81) ∧ w'.cell? ⟨gb1096, 2, none⟩ = some (.int .i64 t1091) ∧ w'.cell? ⟨gb1096, 3, none⟩ = some (.int .i64 t1092) ∧ w'.cell? ⟨gb1096, 4, none⟩ = some (.slice Ao82 t1093.length co82) ∧ w'.cell? ⟨gb1058, 0, none⟩ = some (.int .i64 a0_0) ∧ w'.cell? ⟨gb1058, 1, none⟩ = some (.slice A0_1 l0_1.length c0_1) ∧ w'.cell? ⟨gb1058, 2, none⟩ = some (.int .i64 a0_2) ∧ w'.cell? ⟨gb1058, 3, none⟩ = some (.int .i64 a0_3) ∧ w'.cell? ⟨gb1058, 4, none⟩ = some (.slice A0_4 l0_4.length c0_4)) (ds := []) #[f_,f_,f_,f_,f_] (by kernel_rfl) rfl rfl ⟨bx_ BK1096.out 0, bx_ BK1096.out 1, bx_ BK1096.out 2, bx_ BK1096.out 3, bx_ BK1096.out 4, bx_ BK1058.out 0, bx_ BK1058.out 1, bx_ BK1058.out 2, bx_ BK1058.out 3, bx_ BK1058.out 4⟩ (fun hHeld => ?_)
        generalize w105.drew = w106 at HO1080 HO1085 HO1090 HO1095 HO1099 HO1107 HO1112 BK1058 BK1059 BK1086 BK1096 BK1103 BK1113 HB hHeld ⊢
        refine take_ (i := 0) (N := some 40) (v := ?_) (a' := ?_) #[t_,f_,f_,f_,f_] rfl rfl (by kernel_rfl) (fun _ _ _ h => h) (Or.inl ⟨by rfl, ?_⟩) hHeld ?_ ?_
        rotate_left
        ·
         rintro w' ⟨s0, s1, s2, s3, s4, s5, s6, s7, s8, s9⟩
         go_simp
         with_reducible rfl
        rotate_left
        ·
         simp only [fr_]
         rfl
        refine take_ (i := 1) (N := some 41) (v := ?_) (a' := ?_) #[t_,t_,f_,f_,f_] rfl rfl (by kernel_rfl) (fun _ _ _ h => h) (Or.inl ⟨by rfl, ?_⟩) hHeld ?_ ?_
        rotate_left
        ·
         rintro w' ⟨s0, s1, s2, s3, s4, s5, s6, s7, s8, s9⟩
         go_simp
         with_reducible rfl
        rotate_left
        ·
         simp only [fr_]
         rfl
        refine one_ (i := 2) (N := some 42) #[t_,t_,t_,f_,f_] rfl rfl (by kernel_rfl) (by decide) (fun K hK => ?_)
        refine goes_ Try.func51 (by kernel_rfl) rfl #[.agg #[.int .i64 a0_0, .slice A0_1 l0_1.length c0_1, .int .i64 a0_2, .int .i64 a0_3, .slice A0_4 l0_4.length c0_4]] (by rfl) rfl rfl (by (try simp only [mp_]); first | done | rfl | (simp only [List.length_drop, List.length_take]; rfl)) ?_
        with_reducible refine (laws_toGroup.calls k a0_0 _ _ l0_1 a0_2 a0_3 _ _ l0_4 t1115 t1116 t1119 t1120 t1121 _ ?side1 ?side2 ?side3 ?side4 A27.out).mono ?_
        (case side1 => repeat (first | exact (Kd.C_below HR0_1.out HB.out) | (with_reducible first | refine ca_ ?_ _ | refine cn_ ?_ _ | refine cd_ ?_)))
        (case side2 => exact HC0_1.out)
        (case side3 => repeat (first | exact (Kd.C_below HR0_4.out HB.out) | (with_reducible first | refine ca_ ?_ _ | refine cn_ ?_ _ | refine cd_ ?_)))
        (case side4 => exact HC0_4.out)
        rintro e w107 ⟨v1117, v1122, rfl, ho0, ho1, hb⟩
        refine ⟨_, rfl, ?_⟩
        obtain ⟨gbz1117, hz1117⟩ := Kd.R_name ho0
        have n0_ := Aside0.mk (Kd.R_below (Kd.R_ltz hz1117 (rp_ HO1080.out)) hb)
        have n1_ := Aside0.mk (Kd.S_below (Kd.S_ltz hz1117 (sp_ HO1085.out)) hb)
        have n2_ := Aside0.mk (Kd.R_below (Kd.R_ltz hz1117 (rp_ HO1090.out)) hb)
        have n3_ := Aside0.mk (Kd.S_below (Kd.S_ltz hz1117 (sp_ HO1095.out)) hb)
        have n4_ := Aside0.mk (Kd.R_below (Kd.R_ltz hz1117 (rp_ HO1099.out)) hb)
        have n5_ := Aside0.mk (Kd.R_below (Kd.R_ltz hz1117 (rp_ HO1107.out)) hb)
        have n6_ := Aside0.mk (Kd.S_below (Kd.S_ltz hz1117 (sp_ HO1112.out)) hb)
        have n7_ := Aside0.mk (Kd.R_lower (Kd.R_gez hz1117 ho0) (below_size (by repeat (first | (with_reducible first | exact HB.out | apply ba_ | apply bn_ | apply bd_ | refine below_set ?_ GE1058.out | refine below_set ?_ GE1059.out | refine below_set ?_ GE1086.out | refine below_set ?_ GE1096.out | refine below_set ?_ GE1103.out | refine below_set ?_ GE1113.out) | exact HB.out))))
        have n8_ := Aside0.mk (Kd.S_lower (Kd.S_newB (Kd.S_gez hz1117 ho1) (g := gb1103) (o := .cells #[.slice Ao87 t1097.length co87, .int .i64 t1100, .int .i64 t1101, .string t1102] 44 (0, 0)) (pb_ BK1103.out)) (below_size (by repeat (first | (with_reducible first | exact HB.out | apply ba_ | apply bn_ | apply bd_ | refine below_set ?_ GE1058.out | refine below_set ?_ GE1059.out | refine below_set ?_ GE1086.out | refine below_set ?_ GE1096.out | refine below_set ?_ GE1103.out | refine below_set ?_ GE1113.out) | exact HB.out))))
        have n9_ := Aside0.mk (bb_ BK1058.out hb)
        have n10_ := Aside0.mk (bb_ BK1059.out hb)
        have n11_ := Aside0.mk (bb_ BK1086.out hb)
        have n12_ := Aside0.mk (bb_ BK1096.out hb)
        have n13_ := Aside0.mk (bb_ BK1103.out hb)
        have n14_ := Aside0.mk (bb_ BK1113.out hb)
        have n15_ := Aside0.mk (below_step (by repeat (first | (with_reducible first | exact HB.out | apply ba_ | apply bn_ | apply bd_ | refine below_set ?_ GE1058.out | refine below_set ?_ GE1059.out | refine below_set ?_ GE1086.out | refine below_set ?_ GE1096.out | refine below_set ?_ GE1103.out | refine below_set ?_ GE1113.out) | exact HB.out)) hb)
        clear HO1080 HO1085 HO1090 HO1095 HO1099 HO1107 HO1112 BK1058 BK1059 BK1086 BK1096 BK1103 BK1113 HB
        have HO1080 := n0_
        have HO1085 := n1_
        have HO1090 := n2_
        have HO1095 := n3_
        have HO1099 := n4_
        have HO1107 := n5_
        have HO1112 := n6_
        have HO1118 := n7_
        have HO1123 := n8_
        have BK1058 := n9_
        have BK1059 := n10_
        have BK1086 := n11_
        have BK1096 := n12_
        have BK1103 := n13_
        have BK1113 := n14_
        have HB := n15_
        clear n0_ n1_ n2_ n3_ n4_ n5_ n6_ n7_ n8_ n9_ n10_ n11_ n12_ n13_ n14_ n15_
        (try clear hb)
        (try clear hb2)
        (try clear hk)
        (try clear hi)
        (try clear ho0)
        (try clear ho1)
        obtain ⟨Ao108, co108, eo108⟩ := Kd.R_slice HO1118.out
        (first | subst eo108 | (injection eo108 with f1_ f2_ f3_; have f4_ := f1_.symm; have f5_ := f3_.symm; clear f1_ f2_ f3_; subst f4_; subst f5_))
        obtain ⟨Ao109, co109, eo109⟩ := Kd.S_slice HO1123.out
        (first | subst eo109 | (injection eo109 with f1_ f2_ f3_; have f4_ := f1_.symm; have f5_ := f3_.symm; clear f1_ f2_ f3_; subst f4_; subst f5_))
        refine hK.out _ _ ⟨bx_ BK1096.out 0, bx_ BK1096.out 1, bx_ BK1096.out 2, bx_ BK1096.out 3, bx_ BK1096.out 4, bx_ BK1058.out 0, bx_ BK1058.out 1, bx_ BK1058.out 2, bx_ BK1058.out 3, bx_ BK1058.out 4⟩ (fun hHeld => ?_)
        clear hK K
        refine norm_ (a' := ?_) ?_ ?_
        rotate_left
        ·
         show Act.put _ (some 42) _ = _
         simp only [fr_]
         rfl
        refine one_ (i := 3) (N := some 43) #[t_,t_,t_,t_,f_] rfl rfl (by kernel_rfl) (by decide) (fun K hK => ?_)
        refine goes_ Try.func54 (by kernel_rfl) rfl #[.agg #[.int .i64 t1087, .slice Ao81 t1088.length co81, .int .i64 t1091, .int .i64 t1092, .slice Ao82 t1093.length co82], .agg #[.int .i64 t1115, .slice Ao108 t1116.length co108, .int .i64 t1119, .int .i64 t1120, .slice Ao109 t1121.length co109]] (by rfl) rfl rfl (by (try simp only [mp_]); first | done | rfl | (simp only [List.length_drop, List.length_take]; rfl)) ?_
        with_reducible refine (laws_eqGroup.calls k t1087 _ _ t1088 t1091 t1092 _ _ t1093 t1115 _ _ t1116 t1119 t1120 _ _ t1121 true _ ?side1 ?side2 ?side3 ?side4 ?side5 ?side6 ?side7 ?side8 A28.out).mono ?_
        (case side1 => repeat (first | exact (Kd.R_reads' HO1090.out).2.2 | (with_reducible first | refine ca_ ?_ _ | refine cn_ ?_ _ | refine cd_ ?_)))
        (case side2 => exact (Kd.R_reads' HO1090.out).2.1)
        (case side3 => repeat (first | exact (Kd.S_reads' HO1095.out).2.2 | (with_reducible first | refine ca_ ?_ _ | refine cn_ ?_ _ | refine cd_ ?_)))
        (case side4 => exact (Kd.S_reads' HO1095.out).2.1)
        (case side5 => repeat (first | exact (Kd.R_reads' HO1118.out).2.2 | (with_reducible first | refine ca_ ?_ _ | refine cn_ ?_ _ | refine cd_ ?_)))
        (case side6 => exact (Kd.R_reads' HO1118.out).2.1)
        (case side7 => repeat (first | exact (Kd.S_reads' HO1123.out).2.2 | (with_reducible first | refine ca_ ?_ _ | refine cn_ ?_ _ | refine cd_ ?_)))
        (case side8 => exact (Kd.S_reads' HO1123.out).2.1)
        rintro e w110 ⟨rfl, hb⟩
        refine ⟨_, rfl, ?_⟩
        have n0_ := Aside0.mk (Kd.R_below (rp_ HO1080.out) hb)
        have n1_ := Aside0.mk (Kd.S_below (sp_ HO1085.out) hb)
        have n2_ := Aside0.mk (Kd.R_below (rp_ HO1090.out) hb)
        have n3_ := Aside0.mk (Kd.S_below (sp_ HO1095.out) hb)
        have n4_ := Aside0.mk (Kd.R_below (rp_ HO1099.out) hb)
        have n5_ := Aside0.mk (Kd.R_below (rp_ HO1107.out) hb)
        have n6_ := Aside0.mk (Kd.S_below (sp_ HO1112.out) hb)
        have n7_ := Aside0.mk (Kd.R_below (rp_ HO1118.out) hb)
        have n8_ := Aside0.mk (Kd.S_below (sp_ HO1123.out) hb)
        have n9_ := Aside0.mk (bb_ BK1058.out hb)
        have n10_ := Aside0.mk (bb_ BK1059.out hb)
        have n11_ := Aside0.mk (bb_ BK1086.out hb)
        have n12_ := Aside0.mk (bb_ BK1096.out hb)
        have n13_ := Aside0.mk (bb_ BK1103.out hb)
        have n14_ := Aside0.mk (bb_ BK1113.out hb)
        have n15_ := Aside0.mk (below_step (by repeat (first | (with_reducible first | exact HB.out | apply ba_ | apply bn_ | apply bd_ | refine below_set ?_ GE1058.out | refine below_set ?_ GE1059.out | refine below_set ?_ GE1086.out | refine below_set ?_ GE1096.out | refine below_set ?_ GE1103.out | refine below_set ?_ GE1113.out) | exact HB.out)) hb)
        clear HO1080 HO1085 HO1090 HO1095 HO1099 HO1107 HO1112 HO1118 HO1123 BK1058 BK1059 BK1086 BK1096 BK1103 BK1113 HB
        have HO1080 := n0_
        have HO1085 := n1_
        have HO1090 := n2_
        have HO1095 := n3_
        have HO1099 := n4_
        have HO1107 := n5_
        have HO1112 := n6_
        have HO1118 := n7_
        have HO1123 := n8_
        have BK1058 := n9_
        have BK1059 := n10_
        have BK1086 := n11_
        have BK1096 := n12_
        have BK1103 := n13_
        have BK1113 := n14_
        have HB := n15_
        clear n0_ n1_ n2_ n3_ n4_ n5_ n6_ n7_ n8_ n9_ n10_ n11_ n12_ n13_ n14_ n15_
        (try clear hb)
        (try clear hb2)
        (try clear hk)
        (try clear hi)
        refine hK.out _ _ ⟨bx_ BK1096.out 0, bx_ BK1096.out 1, bx_ BK1096.out 2, bx_ BK1096.out 3, bx_ BK1096.out 4, bx_ BK1058.out 0, bx_ BK1058.out 1, bx_ BK1058.out 2, bx_ BK1058.out 3, bx_ BK1058.out 4⟩ (fun hHeld => ?_)
        clear hK K
        refine norm_ (a' := ?_) ?_ ?_
        rotate_left
        ·
         show Act.put _ (some 43) _ = _
         simp only [fr_]
         rfl
        refine pure_ (i := 4) (N := some 44) (v := ?_) (a' := ?_) #[t_,t_,t_,t_,t_] rfl rfl (by kernel_rfl) (fun _ _ _ h => h) (Or.inl ⟨by rfl, ?_⟩) ?_ ?_
        rotate_left
        ·
         intro w'
         go_simp
         with_reducible rfl
        rotate_left
        ·
         simp only [fr_]
         rfl
        refine done_ (by kernel_rfl) ?_
        try go_wp2
        have n0_ := Aside0.mk (Kd.R_drew HO1080.out)
        have n1_ := Aside0.mk (Kd.S_drew HO1085.out)
        have n2_ := Aside0.mk (Kd.R_drew HO1090.out)
        have n3_ := Aside0.mk (Kd.S_drew HO1095.out)
        have n4_ := Aside0.mk (Kd.R_drew HO1099.out)
        have n5_ := Aside0.mk (Kd.R_drew HO1107.out)
        have n6_ := Aside0.mk (Kd.S_drew HO1112.out)
        have n7_ := Aside0.mk (blk_drew BK1058.out)
        have n8_ := Aside0.mk (blk_drew BK1059.out)
        have n9_ := Aside0.mk (blk_drew BK1086.out)
        have n10_ := Aside0.mk (blk_drew BK1096.out)
        have n11_ := Aside0.mk (blk_drew BK1103.out)
        have n12_ := Aside0.mk (blk_drew BK1113.out)
        have n13_ := Aside0.mk (bd_ HB.out)
        clear HO1080 HO1085 HO1090 HO1095 HO1099 HO1107 HO1112 BK1058 BK1059 BK1086 BK1096 BK1103 BK1113 HB
        have HO1080 := n0_
        have HO1085 := n1_
        have HO1090 := n2_
        have HO1095 := n3_
        have HO1099 := n4_
        have HO1107 := n5_
        have HO1112 := n6_
        have BK1058 := n7_
        have BK1059 := n8_
        have BK1086 := n9_
        have BK1096 := n10_
        have BK1103 := n11_
        have BK1113 := n12_
        have HB := n13_
        clear n0_ n1_ n2_ n3_ n4_ n5_ n6_ n7_ n8_ n9_ n10_ n11_ n12_ n13_
        refine start_ (n := 5) (S := fun w' => w'.cell? ⟨gb1103, 0, none⟩ = some (.slice Ao87 t1097.length co87) ∧ w'.cell? ⟨gb1103, 1, none⟩ = some (.int .i64 t1100) ∧ w'.cell? ⟨gb1103, 2, none⟩ = some (.int .i64 t1101) ∧ w'.cell? ⟨gb1103, 3, none⟩ = some (.string t1102) ∧ w'.cell? ⟨gb1059, 0, none⟩ = some (.slice A1_0 l1_0.length c1_0) ∧ w'.cell? ⟨gb1059, 1, none⟩ = some (.int .i64 a1_1) ∧ w'.cell? ⟨gb1059, 2, none⟩ = some (.int .i64 a1_2) ∧ w'.cell? ⟨gb1059, 3, none⟩ = some (.string a1_3)) (ds := []) #[f_,f_,f_,f_,f_] (by kernel_rfl) rfl rfl ⟨bx_ BK1103.out 0, bx_ BK1103.out 1, bx_ BK1103.out 2, bx_ BK1103.out 3, bx_ BK1059.out 0, bx_ BK1059.out 1, bx_ BK1059.out 2, bx_ BK1059.out 3⟩ (fun hHeld => ?_)
        generalize w110.drew = w111 at HO1080 HO1085 HO1090 HO1095 HO1099 HO1107 HO1112 BK1058 BK1059 BK1086 BK1096 BK1103 BK1113 HB hHeld ⊢
        refine take_ (i := 0) (N := some 45) (v := ?_) (a' := ?_) #[t_,f_,f_,f_,f_] rfl rfl (by kernel_rfl) (fun _ _ _ h => h) (Or.inl ⟨by rfl, ?_⟩) hHeld ?_ ?_
        rotate_left
        ·
         rintro w' ⟨s0, s1, s2, s3, s4, s5, s6, s7⟩
         go_simp
         with_reducible rfl
        rotate_left
        ·
         simp only [fr_]
         rfl
        refine take_ (i := 1) (N := some 46) (v := ?_) (a' := ?_) #[t_,t_,f_,f_,f_] rfl rfl (by kernel_rfl) (fun _ _ _ h => h) (Or.inl ⟨by rfl, ?_⟩) hHeld ?_ ?_
        rotate_left
        ·
         rintro w' ⟨s0, s1, s2, s3, s4, s5, s6, s7⟩
         go_simp
         with_reducible rfl
        rotate_left
        ·
         simp only [fr_]
         rfl
        refine one_ (i := 2) (N := some 47) #[t_,t_,t_,f_,f_] rfl rfl (by kernel_rfl) (by decide) (fun K hK => ?_)
        refine goes_ Try.func24 (by kernel_rfl) rfl #[.agg #[.slice A1_0 l1_0.length c1_0, .int .i64 a1_1, .int .i64 a1_2, .string a1_3]] (by rfl) rfl rfl (by (try simp only [mp_]); first | done | rfl | (simp only [List.length_drop, List.length_take]; rfl)) ?_
        with_reducible refine (laws_toAlarm.calls k _ _ l1_0 a1_1 a1_2 a1_3 t1125 t1128 t1129 t1130 _ ?side1 ?side2 A30.out).mono ?_
        (case side1 => repeat (first | exact (Kd.C_below HR1_0.out HB.out) | (with_reducible first | refine ca_ ?_ _ | refine cn_ ?_ _ | refine cd_ ?_)))
        (case side2 => exact HC1_0.out)
        rintro e w112 ⟨v1126, rfl, ho0, hb⟩
        refine ⟨_, rfl, ?_⟩
        obtain ⟨gbz1126, hz1126⟩ := Kd.R_name ho0
        have n0_ := Aside0.mk (Kd.R_below (Kd.R_ltz hz1126 (rp_ HO1080.out)) hb)
        have n1_ := Aside0.mk (Kd.S_below (Kd.S_ltz hz1126 (sp_ HO1085.out)) hb)
        have n2_ := Aside0.mk (Kd.R_below (Kd.R_ltz hz1126 (rp_ HO1090.out)) hb)
        have n3_ := Aside0.mk (Kd.S_below (Kd.S_ltz hz1126 (sp_ HO1095.out)) hb)
        have n4_ := Aside0.mk (Kd.R_below (Kd.R_ltz hz1126 (rp_ HO1099.out)) hb)
        have n5_ := Aside0.mk (Kd.R_below (Kd.R_ltz hz1126 (rp_ HO1107.out)) hb)
        have n6_ := Aside0.mk (Kd.S_below (Kd.S_ltz hz1126 (sp_ HO1112.out)) hb)
        have n7_ := Aside0.mk (Kd.R_lower (Kd.R_gez hz1126 ho0) (below_size (by repeat (first | (with_reducible first | exact HB.out | apply ba_ | apply bn_ | apply bd_ | refine below_set ?_ GE1058.out | refine below_set ?_ GE1059.out | refine below_set ?_ GE1086.out | refine below_set ?_ GE1096.out | refine below_set ?_ GE1103.out | refine below_set ?_ GE1113.out) | exact HB.out))))
        have n8_ := Aside0.mk (bb_ BK1058.out hb)
        have n9_ := Aside0.mk (bb_ BK1059.out hb)
        have n10_ := Aside0.mk (bb_ BK1086.out hb)
        have n11_ := Aside0.mk (bb_ BK1096.out hb)
        have n12_ := Aside0.mk (bb_ BK1103.out hb)
        have n13_ := Aside0.mk (bb_ BK1113.out hb)
        have n14_ := Aside0.mk (below_step (by repeat (first | (with_reducible first | exact HB.out | apply ba_ | apply bn_ | apply bd_ | refine below_set ?_ GE1058.out | refine below_set ?_ GE1059.out | refine below_set ?_ GE1086.out | refine below_set ?_ GE1096.out | refine below_set ?_ GE1103.out | refine below_set ?_ GE1113.out) | exact HB.out)) hb)
        clear HO1080 HO1085 HO1090 HO1095 HO1099 HO1107 HO1112 BK1058 BK1059 BK1086 BK1096 BK1103 BK1113 HB
        have HO1080 := n0_
        have HO1085 := n1_
        have HO1090 := n2_
        have HO1095 := n3_
        have HO1099 := n4_
        have HO1107 := n5_
        have HO1112 := n6_
        have HO1127 := n7_
        have BK1058 := n8_
        have BK1059 := n9_
        have BK1086 := n10_
        have BK1096 := n11_
        have BK1103 := n12_
        have BK1113 := n13_
        have HB := n14_
        clear n0_ n1_ n2_ n3_ n4_ n5_ n6_ n7_ n8_ n9_ n10_ n11_ n12_ n13_ n14_
        (try clear hb)
        (try clear hb2)
        (try clear hk)
        (try clear hi)
        (try clear ho0)
        obtain ⟨Ao113, co113, eo113⟩ := Kd.R_slice HO1127.out
        (first | subst eo113 | (injection eo113 with f1_ f2_ f3_; have f4_ := f1_.symm; have f5_ := f3_.symm; clear f1_ f2_ f3_; subst f4_; subst f5_))
        refine hK.out _ _ ⟨bx_ BK1103.out 0, bx_ BK1103.out 1, bx_ BK1103.out 2, bx_ BK1103.out 3, bx_ BK1059.out 0, bx_ BK1059.out 1, bx_ BK1059.out 2, bx_ BK1059.out 3⟩ (fun hHeld => ?_)
        clear hK K
        refine norm_ (a' := ?_) ?_ ?_
        rotate_left
        ·
         show Act.put _ (some 47) _ = _
         simp only [fr_]
         rfl
        refine one_ (i := 3) (N := some 48) #[t_,t_,t_,t_,f_] rfl rfl (by kernel_rfl) (by decide) (fun K hK => ?_)
        refine goes_ Try.func27 (by kernel_rfl) rfl #[.agg #[.slice Ao87 t1097.length co87, .int .i64 t1100, .int .i64 t1101, .string t1102], .agg #[.slice Ao113 t1125.length co113, .int .i64 t1128, .int .i64 t1129, .string t1130]] (by rfl) rfl rfl (by (try simp only [mp_]); first | done | rfl | (simp only [List.length_drop, List.length_take]; rfl)) ?_
        with_reducible refine (laws_eqAlarm.calls k _ _ t1097 t1100 t1101 t1102 _ _ t1125 t1128 t1129 t1130 true _ ?side1 ?side2 ?side3 ?side4 A31.out).mono ?_
        (case side1 => repeat (first | exact (Kd.R_reads' HO1099.out).2.2 | (with_reducible first | refine ca_ ?_ _ | refine cn_ ?_ _ | refine cd_ ?_)))
        (case side2 => exact (Kd.R_reads' HO1099.out).2.1)
        (case side3 => repeat (first | exact (Kd.R_reads' HO1127.out).2.2 | (with_reducible first | refine ca_ ?_ _ | refine cn_ ?_ _ | refine cd_ ?_)))
        (case side4 => exact (Kd.R_reads' HO1127.out).2.1)
        rintro e w114 ⟨rfl, hb⟩
        refine ⟨_, rfl, ?_⟩
        have n0_ := Aside0.mk (Kd.R_below (rp_ HO1080.out) hb)
        have n1_ := Aside0.mk (Kd.S_below (sp_ HO1085.out) hb)
        have n2_ := Aside0.mk (Kd.R_below (rp_ HO1090.out) hb)
        have n3_ := Aside0.mk (Kd.S_below (sp_ HO1095.out) hb)
        have n4_ := Aside0.mk (Kd.R_below (rp_ HO1099.out) hb)
        have n5_ := Aside0.mk (Kd.R_below (rp_ HO1107.out) hb)
        have n6_ := Aside0.mk (Kd.S_below (sp_ HO1112.out) hb)
        have n7_ := Aside0.mk (Kd.R_below (rp_ HO1127.out) hb)
        have n8_ := Aside0.mk (bb_ BK1058.out hb)
        have n9_ := Aside0.mk (bb_ BK1059.out hb)
        have n10_ := Aside0.mk (bb_ BK1086.out hb)
        have n11_ := Aside0.mk (bb_ BK1096.out hb)
        have n12_ := Aside0.mk (bb_ BK1103.out hb)
        have n13_ := Aside0.mk (bb_ BK1113.out hb)
        have n14_ := Aside0.mk (below_step (by repeat (first | (with_reducible first | exact HB.out | apply ba_ | apply bn_ | apply bd_ | refine below_set ?_ GE1058.out | refine below_set ?_ GE1059.out | refine below_set ?_ GE1086.out | refine below_set ?_ GE1096.out | refine below_set ?_ GE1103.out | refine below_set ?_ GE1113.out) | exact HB.out)) hb)
        clear HO1080 HO1085 HO1090 HO1095 HO1099 HO1107 HO1112 HO1127 BK1058 BK1059 BK1086 BK1096 BK1103 BK1113 HB
        have HO1080 := n0_
        have HO1085 := n1_
        have HO1090 := n2_
        have HO1095 := n3_
        have HO1099 := n4_
        have HO1107 := n5_
        have HO1112 := n6_
        have HO1127 := n7_
        have BK1058 := n8_
        have BK1059 := n9_
        have BK1086 := n10_
        have BK1096 := n11_
        have BK1103 := n12_
        have BK1113 := n13_
        have HB := n14_
        clear n0_ n1_ n2_ n3_ n4_ n5_ n6_ n7_ n8_ n9_ n10_ n11_ n12_ n13_ n14_
        (try clear hb)
        (try clear hb2)
        (try clear hk)
        (try clear hi)
        refine hK.out _ _ ⟨bx_ BK1103.out 0, bx_ BK1103.out 1, bx_ BK1103.out 2, bx_ BK1103.out 3, bx_ BK1059.out 0, bx_ BK1059.out 1, bx_ BK1059.out 2, bx_ BK1059.out 3⟩ (fun hHeld => ?_)
        clear hK K
        refine norm_ (a' := ?_) ?_ ?_
        rotate_left
        ·
         show Act.put _ (some 48) _ = _
         simp only [fr_]
         rfl
        refine pure_ (i := 4) (N := some 49) (v := ?_) (a' := ?_) #[t_,t_,t_,t_,t_] rfl rfl (by kernel_rfl) (fun _ _ _ h => h) (Or.inl ⟨by rfl, ?_⟩) ?_ ?_
        rotate_left
        ·
         intro w'
         go_simp
         with_reducible rfl
        rotate_left
        ·
         simp only [fr_]
         rfl
        refine done_ (by kernel_rfl) ?_
        obtain ⟨hcz115_0, hcz115_1, hcz115_2, hcz115_3, hcz115_4, hfz115_0, hfz115_1, hfz115_2, hfz115_3, hfz115_4⟩ := bc5_ BK1096.out
        obtain ⟨PXP116, hPXP116, hPlP116⟩ := Kd.R_fpt rfl HO1090.out
        obtain ⟨PXP117, hPXP117, hPlP117⟩ := Kd.S_fp HO1095.out
        try go_wp2_with (first | ((with_reducible refine gate_callee (f := 58) rfl ?_); refine goesL_ (some 52) rfl rfl Try.func58 (by kernel_rfl) rfl #[.agg #[.int .i64 t1087, .slice Ao81 t1088.length co81, .int .i64 t1091, .int .i64 t1092, .slice Ao82 t1093.length co82], .int .i64 1] rfl (by (try simp only [mp_]); first | done | rfl | (simp only [List.length_drop, List.length_take]; rfl)) ?_; (with_reducible refine (laws_markGroup.calls k t1087 PXP116 (.slice Ao81 t1088.length co81) t1088 t1091 t1092 PXP117 (.slice Ao82 t1093.length co82) t1093 1 t1132 t1133 t1134 w _ ?side1 ?side2 ?side3 ?side4 A33.out).mono ?_); (case side1 => repeat (first | (with_reducible first | exact HB.out | apply ba_ | apply bn_ | apply bd_ | refine below_set ?_ GE1058.out | refine below_set ?_ GE1059.out | refine below_set ?_ GE1086.out | refine below_set ?_ GE1103.out | refine below_set ?_ GE1113.out) | exact HB.out)); (case side2 => exact hPXP116); (case side3 => exact hPXP117); (case side4 => exact fun k_ e_ e2_ => ((hPlP117 k_ e_).1.1.1.1.1.1.1) (hPlP116 _ e2_).1.2); rintro e w118 ⟨rfl, hy0, hy1, hb, hkp⟩; refine ⟨_, rfl, ?_⟩; have n0_ := Aside0.mk (blk_kept (pb_ BK1058.out) hkp (fun hs_ => Or.elim hs_ (fun e_ => (fun e_ => no_blk (pb_ BK1058.out) (by decide) (hPlP116 _ e_).2.2) e_) (fun e_ => (fun e_ => no_blk (pb_ BK1058.out) (by decide) (hPlP117 _ e_).2.2) e_))); have n1_ := Aside0.mk (blk_kept (pb_ BK1059.out) hkp (fun hs_ => Or.elim hs_ (fun e_ => (fun e_ => no_blk (pb_ BK1059.out) (by decide) (hPlP116 _ e_).2.2) e_) (fun e_ => (fun e_ => no_blk (pb_ BK1059.out) (by decide) (hPlP117 _ e_).2.2) e_))); have n2_ := Aside0.mk (Kd.R_mono (ok' := fun k_ => gbz1079 ≤ k_ ∧ k_ < gbz1089 ∧ k_ < gbz1098 ∧ k_ < gbz1106 ∧ k_ < gbz1117 ∧ k_ < gbz1126) (Kd.R_keptB (HO1080.out) hkp (fun k_ hk_ hs_ => Or.elim hs_ (fun e_ => (fun e_ => Nat.lt_irrefl _ (Nat.lt_of_lt_of_le hk_.1.1.1.1.2 (hPlP116 _ e_).1.1.1.1.1.1.2)) e_) (fun e_ => (fun e_ => Nat.lt_irrefl _ (Nat.lt_of_lt_of_le hk_.1.1.1.1.2 (hPlP117 _ e_).1.1.1.1.1.1.2)) e_))) (fun k_ hk_ => ⟨hk_.1.1.1.1.1.1, hk_.1.1.1.1.1.2, hk_.1.1.1.1.2, hk_.1.1.1.2, hk_.1.1.2, hk_.1.2⟩)); have n3_ := Aside0.mk (Kd.S_mono (ok' := fun k_ => some k_ ≠ (.slice Ao67 t1078.length co67 : Value).ownBlock ∧ k_ ≠ gb1103 ∧ gbz1079 ≤ k_ ∧ k_ < gbz1089 ∧ k_ < gbz1098 ∧ k_ < gbz1106 ∧ k_ < gbz1117 ∧ k_ < gbz1126) (Kd.S_keptB (HO1085.out) hkp (fun k_ hk_ hs_ => Or.elim hs_ (fun e_ => (fun e_ => Nat.lt_irrefl _ (Nat.lt_of_lt_of_le hk_.1.1.1.1.1.2 (hPlP116 _ e_).1.1.1.1.1.1.2)) e_) (fun e_ => (fun e_ => Nat.lt_irrefl _ (Nat.lt_of_lt_of_le hk_.1.1.1.1.1.2 (hPlP117 _ e_).1.1.1.1.1.1.2)) e_))) (fun k_ hk_ => ⟨hk_.1.1.1.1.1.1.1.1, hk_.1.1.1.1.2, hk_.1.1.1.1.1.1.1.2, hk_.1.1.1.1.1.1.2, hk_.1.1.1.1.1.2, hk_.1.1.1.2, hk_.1.1.2, hk_.1.2⟩)); have n4_ := Aside0.mk (blk_kept (pb_ BK1086.out) hkp (fun hs_ => Or.elim hs_ (fun e_ => (fun e_ => no_blk (pb_ BK1086.out) (by decide) (hPlP116 _ e_).2.2) e_) (fun e_ => (fun e_ => no_blk (pb_ BK1086.out) (by decide) (hPlP117 _ e_).2.2) e_))); have n5_ := Aside0.mk (Kd.R_reok rfl hy0 (fun k_ e_ => HO1090.out.1 k_ e_)); have n6_ := Aside0.mk (Kd.S_mono hy1 (fun k_ hk_ => (hPlP117 k_ hk_).1)); have n7_ := Aside0.mk (Kd.R_mono (ok' := fun k_ => gbz1098 ≤ k_ ∧ k_ < gbz1106 ∧ k_ < gbz1117 ∧ k_ < gbz1126) (Kd.R_keptB (HO1099.out) hkp (fun k_ hk_ hs_ => Or.elim hs_ (fun e_ => (fun e_ => Nat.lt_irrefl _ (Nat.lt_of_lt_of_le (hPlP116 _ e_).1.1.1.1.1.2 hk_.1.1.1.2)) e_) (fun e_ => (fun e_ => Nat.lt_irrefl _ (Nat.lt_of_lt_of_le (hPlP117 _ e_).1.1.1.1.1.2 hk_.1.1.1.2)) e_))) (fun k_ hk_ => ⟨hk_.1.1.1.1.2, hk_.1.1.1.2, hk_.1.1.2, hk_.1.2⟩)); have n8_ := Aside0.mk (blk_kept (pb_ BK1103.out) hkp (fun hs_ => Or.elim hs_ (fun e_ => (fun e_ => no_blk (pb_ BK1103.out) (by decide) (hPlP116 _ e_).2.2) e_) (fun e_ => (fun e_ => ((hPlP117 _ e_).1.1.1.1.2) rfl) e_))); have n9_ := Aside0.mk (Kd.R_mono (ok' := fun k_ => gbz1106 ≤ k_ ∧ k_ < gbz1117 ∧ k_ < gbz1126) (Kd.R_keptB (HO1107.out) hkp (fun k_ hk_ hs_ => Or.elim hs_ (fun e_ => (fun e_ => Nat.lt_irrefl _ (Nat.lt_of_lt_of_le (hPlP116 _ e_).1.1.1.1.2 hk_.1.1.2)) e_) (fun e_ => (fun e_ => Nat.lt_irrefl _ (Nat.lt_of_lt_of_le (hPlP117 _ e_).1.1.1.2 hk_.1.1.2)) e_))) (fun k_ hk_ => ⟨hk_.1.1.1.2, hk_.1.1.2, hk_.1.2⟩)); have n10_ := Aside0.mk (Kd.S_mono (ok' := fun k_ => some k_ ≠ (.slice Ao102 t1105.length co102 : Value).ownBlock ∧ k_ ≠ gb1103 ∧ gbz1106 ≤ k_ ∧ k_ < gbz1117 ∧ k_ < gbz1126) (Kd.S_keptB (HO1112.out) hkp (fun k_ hk_ hs_ => Or.elim hs_ (fun e_ => (fun e_ => Nat.lt_irrefl _ (Nat.lt_of_lt_of_le (hPlP116 _ e_).1.1.1.1.2 hk_.1.1.1.2)) e_) (fun e_ => (fun e_ => Nat.lt_irrefl _ (Nat.lt_of_lt_of_le (hPlP117 _ e_).1.1.1.2 hk_.1.1.1.2)) e_))) (fun k_ hk_ => ⟨hk_.1.1.1.1.1, hk_.1.1.1.2, hk_.1.1.1.1.2, hk_.1.1.2, hk_.1.2⟩)); have n11_ := Aside0.mk (blk_kept (pb_ BK1113.out) hkp (fun hs_ => Or.elim hs_ (fun e_ => (fun e_ => no_blk (pb_ BK1113.out) (by decide) (hPlP116 _ e_).2.2) e_) (fun e_ => (fun e_ => no_blk (pb_ BK1113.out) (by decide) (hPlP117 _ e_).2.2) e_))); have n12_ := Aside0.mk (hb); clear BK1058 BK1059 HO1080 HO1085 BK1086 HO1090 HO1095 HO1099 BK1103 HO1107 HO1112 BK1113 HB; have BK1058 := n0_; have BK1059 := n1_; have HO1080 := n2_; have HO1085 := n3_; have BK1086 := n4_; have HO1090 := n5_; have HO1095 := n6_; have HO1099 := n7_; have BK1103 := n8_; have HO1107 := n9_; have HO1112 := n10_; have BK1113 := n11_; have HB := n12_; clear n0_ n1_ n2_ n3_ n4_ n5_ n6_ n7_ n8_ n9_ n10_ n11_ n12_; (try clear hb); (try clear hkp); (try clear hy0); (try clear hy1); obtain ⟨hcz119_0, hcz119_1, hcz119_2, hcz119_3, hfz119_0, hfz119_1, hfz119_2, hfz119_3⟩ := bc4_ BK1103.out; obtain ⟨PXP120, hPXP120, hPlP120⟩ := Kd.R_fpt rfl HO1099.out) | ((with_reducible refine gate_callee (f := 29) rfl ?_); refine goesL_ (some 55) rfl rfl Try.func29 (by kernel_rfl) rfl #[.agg #[.slice Ao87 t1097.length co87, .int .i64 t1100, .int .i64 t1101, .string t1102], .int .i64 t1132] rfl (by (try simp only [mp_]); first | done | rfl | (simp only [List.length_drop, List.length_take]; rfl)) ?_; (with_reducible refine (laws_markAlarm.calls k PXP120 (.slice Ao87 t1097.length co87) t1097 t1100 t1101 t1102 t1132 t1135 t1136 w _ ?side1 ?side2 A34.out).mono ?_); (case side1 => repeat (first | (with_reducible first | exact HB.out | apply ba_ | apply bn_ | apply bd_ | refine below_set ?_ GE1058.out | refine below_set ?_ GE1059.out | refine below_set ?_ GE1086.out | refine below_set ?_ GE1103.out | refine below_set ?_ GE1113.out) | exact HB.out)); (case side2 => exact hPXP120); rintro e w121 ⟨rfl, hy0, hb, hkp⟩; refine ⟨_, rfl, ?_⟩; have n0_ := Aside0.mk (blk_kept (pb_ BK1058.out) hkp (fun hs_ => (fun e_ => no_blk (pb_ BK1058.out) (by decide) (hPlP120 _ e_).2.2) hs_)); have n1_ := Aside0.mk (blk_kept (pb_ BK1059.out) hkp (fun hs_ => (fun e_ => no_blk (pb_ BK1059.out) (by decide) (hPlP120 _ e_).2.2) hs_)); have n2_ := Aside0.mk (Kd.R_mono (ok' := fun k_ => gbz1079 ≤ k_ ∧ k_ < gbz1089 ∧ k_ < gbz1098 ∧ k_ < gbz1106 ∧ k_ < gbz1117 ∧ k_ < gbz1126) (Kd.R_keptB (HO1080.out) hkp (fun k_ hk_ hs_ => (fun e_ => Nat.lt_irrefl _ (Nat.lt_of_lt_of_le hk_.2.2.1 (hPlP120 _ e_).1.1.1)) hs_)) (fun k_ hk_ => ⟨hk_.1.1, hk_.1.2.1, hk_.1.2.2.1, hk_.1.2.2.2.1, hk_.1.2.2.2.2.1, hk_.1.2.2.2.2.2⟩)); have n3_ := Aside0.mk (Kd.S_mono (ok' := fun k_ => some k_ ≠ (.slice Ao67 t1078.length co67 : Value).ownBlock ∧ k_ ≠ gb1103 ∧ gbz1079 ≤ k_ ∧ k_ < gbz1089 ∧ k_ < gbz1098 ∧ k_ < gbz1106 ∧ k_ < gbz1117 ∧ k_ < gbz1126) (Kd.S_keptB (HO1085.out) hkp (fun k_ hk_ hs_ => (fun e_ => Nat.lt_irrefl _ (Nat.lt_of_lt_of_le hk_.2.2.2.2.1 (hPlP120 _ e_).1.1.1)) hs_)) (fun k_ hk_ => ⟨hk_.1.1, hk_.1.2.1, hk_.1.2.2.1, hk_.1.2.2.2.1, hk_.1.2.2.2.2.1, hk_.1.2.2.2.2.2.1, hk_.1.2.2.2.2.2.2.1, hk_.1.2.2.2.2.2.2.2⟩)); have n4_ := Aside0.mk (blk_kept (pb_ BK1086.out) hkp (fun hs_ => (fun e_ => no_blk (pb_ BK1086.out) (by decide) (hPlP120 _ e_).2.2) hs_)); have n5_ := Aside0.mk (Kd.R_reok rfl hy0 (fun k_ e_ => HO1099.out.1 k_ e_)); have n6_ := Aside0.mk (blk_kept (pb_ BK1103.out) hkp (fun hs_ => (fun e_ => no_blk (pb_ BK1103.out) (by decide) (hPlP120 _ e_).2.2) hs_)); have n7_ := Aside0.mk (Kd.R_mono (ok' := fun k_ => gbz1106 ≤ k_ ∧ k_ < gbz1117 ∧ k_ < gbz1126) (Kd.R_keptB (HO1107.out) hkp (fun k_ hk_ hs_ => (fun e_ => Nat.lt_irrefl _ (Nat.lt_of_lt_of_le (hPlP120 _ e_).1.1.2.1 hk_.1)) hs_)) (fun k_ hk_ => ⟨hk_.1.1, hk_.1.2.1, hk_.1.2.2⟩)); have n8_ := Aside0.mk (Kd.S_mono (ok' := fun k_ => some k_ ≠ (.slice Ao102 t1105.length co102 : Value).ownBlock ∧ k_ ≠ gb1103 ∧ gbz1106 ≤ k_ ∧ k_ < gbz1117 ∧ k_ < gbz1126) (Kd.S_keptB (HO1112.out) hkp (fun k_ hk_ hs_ => (fun e_ => Nat.lt_irrefl _ (Nat.lt_of_lt_of_le (hPlP120 _ e_).1.1.2.1 hk_.2.2.1)) hs_)) (fun k_ hk_ => ⟨hk_.1.1, hk_.1.2.1, hk_.1.2.2.1, hk_.1.2.2.2.1, hk_.1.2.2.2.2⟩)); have n9_ := Aside0.mk (blk_kept (pb_ BK1113.out) hkp (fun hs_ => (fun e_ => no_blk (pb_ BK1113.out) (by decide) (hPlP120 _ e_).2.2) hs_)); have n10_ := Aside0.mk (hb); clear BK1058 BK1059 HO1080 HO1085 BK1086 HO1099 BK1103 HO1107 HO1112 BK1113 HB; have BK1058 := n0_; have BK1059 := n1_; have HO1080 := n2_; have HO1085 := n3_; have BK1086 := n4_; have HO1099 := n5_; have BK1103 := n6_; have HO1107 := n7_; have HO1112 := n8_; have BK1113 := n9_; have HB := n10_; clear n0_ n1_ n2_ n3_ n4_ n5_ n6_ n7_ n8_ n9_ n10_; (try clear hb); (try clear hkp); (try clear hy0); obtain ⟨hcz122_0, hcz122_1, hcz122_2, hcz122_3, hcz122_4, hfz122_0, hfz122_1, hfz122_2, hfz122_3, hfz122_4⟩ := bc5_ BK1113.out; obtain ⟨hcz123_0, hcz123_1, hcz123_2, hcz123_3, hcz123_4, hfz123_0, hfz123_1, hfz123_2, hfz123_3, hfz123_4⟩ := bc5_ BK1086.out) | (go_at_call 54; (with_reducible refine (laws_eqGroup.calls k t1104 _ _ t1105 t1108 t1109 _ _ t1110 t1077 _ _ t1078 t1081 t1082 _ _ t1083 true _ ?side1 ?side2 ?side3 ?side4 ?side5 ?side6 ?side7 ?side8 A36.out).mono ?_); (case side1 => repeat (first | exact (Kd.R_reads' HO1107.out).2.2 | (with_reducible first | refine ca_ ?_ _ | refine cn_ ?_ _ | refine cd_ ?_))); (case side2 => exact (Kd.R_reads' HO1107.out).2.1); (case side3 => repeat (first | exact (Kd.S_reads' HO1112.out).2.2 | (with_reducible first | refine ca_ ?_ _ | refine cn_ ?_ _ | refine cd_ ?_))); (case side4 => exact (Kd.S_reads' HO1112.out).2.1); (case side5 => repeat (first | exact (Kd.R_reads' HO1080.out).2.2 | (with_reducible first | refine ca_ ?_ _ | refine cn_ ?_ _ | refine cd_ ?_))); (case side6 => exact (Kd.R_reads' HO1080.out).2.1); (case side7 => repeat (first | exact (Kd.S_reads' HO1085.out).2.2 | (with_reducible first | refine ca_ ?_ _ | refine cn_ ?_ _ | refine cd_ ?_))); (case side8 => exact (Kd.S_reads' HO1085.out).2.1); rintro e w124 ⟨rfl, hb⟩; have n0_ := Aside0.mk (Kd.R_below (rp_ HO1080.out) hb); have n1_ := Aside0.mk (Kd.S_below (sp_ HO1085.out) hb); have n2_ := Aside0.mk (Kd.R_below (rp_ HO1107.out) hb); have n3_ := Aside0.mk (Kd.S_below (sp_ HO1112.out) hb); have n4_ := Aside0.mk (bb_ BK1058.out hb); have n5_ := Aside0.mk (bb_ BK1059.out hb); have n6_ := Aside0.mk (bb_ BK1086.out hb); have n7_ := Aside0.mk (bb_ BK1103.out hb); have n8_ := Aside0.mk (bb_ BK1113.out hb); have n9_ := Aside0.mk (below_step (by repeat (first | (with_reducible first | exact HB.out | apply ba_ | apply bn_ | apply bd_ | refine below_set ?_ GE1058.out | refine below_set ?_ GE1059.out | refine below_set ?_ GE1086.out | refine below_set ?_ GE1103.out | refine below_set ?_ GE1113.out) | exact HB.out)) hb); clear HO1080 HO1085 HO1107 HO1112 BK1058 BK1059 BK1086 BK1103 BK1113 HB; have HO1080 := n0_; have HO1085 := n1_; have HO1107 := n2_; have HO1112 := n3_; have BK1058 := n4_; have BK1059 := n5_; have BK1086 := n6_; have BK1103 := n7_; have BK1113 := n8_; have HB := n9_; clear n0_ n1_ n2_ n3_ n4_ n5_ n6_ n7_ n8_ n9_; (try clear hb); (try clear hb2); (try clear hk); (try clear hi); obtain ⟨hcz125_0, hcz125_1, hcz125_2, hcz125_3, hcz125_4, hfz125_0, hfz125_1, hfz125_2, hfz125_3, hfz125_4⟩ := bc5_ BK1113.out; obtain ⟨PXP126, hPXP126, hPlP126⟩ := Kd.R_fpt rfl HO1107.out; obtain ⟨PXP127, hPXP127, hPlP127⟩ := Kd.S_fp HO1112.out) | ((with_reducible refine gate_callee (f := 58) rfl ?_); refine goesL_ (some 66) rfl rfl Try.func58 (by kernel_rfl) rfl #[.agg #[.int .i64 t1104, .slice Ao102 t1105.length co102, .int .i64 t1108, .int .i64 t1109, .slice Ao103 t1110.length co103], .int .i64 1] rfl (by (try simp only [mp_]); first | done | rfl | (simp only [List.length_drop, List.length_take]; rfl)) ?_; (with_reducible refine (laws_markGroup.calls k t1104 PXP126 (.slice Ao102 t1105.length co102) t1105 t1108 t1109 PXP127 (.slice Ao103 t1110.length co103) t1110 1 t1138 t1139 t1140 w _ ?side1 ?side2 ?side3 ?side4 A38.out).mono ?_); (case side1 => repeat (first | (with_reducible first | exact HB.out | apply ba_ | apply bn_ | apply bd_ | refine below_set ?_ GE1058.out | refine below_set ?_ GE1059.out | refine below_set ?_ GE1086.out | refine below_set ?_ GE1103.out | refine below_set ?_ GE1113.out) | exact HB.out)); (case side2 => exact hPXP126); (case side3 => exact hPXP127); (case side4 => exact fun k_ e_ e2_ => ((hPlP127 k_ e_).1.1) (hPlP126 _ e2_).1.2); rintro e w128 ⟨rfl, hy0, hy1, hb, hkp⟩; refine ⟨_, rfl, ?_⟩; have n0_ := Aside0.mk (blk_kept (pb_ BK1058.out) hkp (fun hs_ => Or.elim hs_ (fun e_ => (fun e_ => no_blk (pb_ BK1058.out) (by decide) (hPlP126 _ e_).2.2) e_) (fun e_ => (fun e_ => no_blk (pb_ BK1058.out) (by decide) (hPlP127 _ e_).2.2) e_))); have n1_ := Aside0.mk (blk_kept (pb_ BK1059.out) hkp (fun hs_ => Or.elim hs_ (fun e_ => (fun e_ => no_blk (pb_ BK1059.out) (by decide) (hPlP126 _ e_).2.2) e_) (fun e_ => (fun e_ => no_blk (pb_ BK1059.out) (by decide) (hPlP127 _ e_).2.2) e_))); have n2_ := Aside0.mk (Kd.R_mono (ok' := fun k_ => gbz1079 ≤ k_ ∧ k_ < gbz1089 ∧ k_ < gbz1098 ∧ k_ < gbz1106 ∧ k_ < gbz1117 ∧ k_ < gbz1126) (Kd.R_keptB (HO1080.out) hkp (fun k_ hk_ hs_ => Or.elim hs_ (fun e_ => (fun e_ => Nat.lt_irrefl _ (Nat.lt_of_lt_of_le hk_.2.2.2.1 (hPlP126 _ e_).1.1.1)) e_) (fun e_ => (fun e_ => Nat.lt_irrefl _ (Nat.lt_of_lt_of_le hk_.2.2.2.1 (hPlP127 _ e_).1.2.2.1)) e_))) (fun k_ hk_ => ⟨hk_.1.1, hk_.1.2.1, hk_.1.2.2.1, hk_.1.2.2.2.1, hk_.1.2.2.2.2.1, hk_.1.2.2.2.2.2⟩)); have n3_ := Aside0.mk (Kd.S_mono (ok' := fun k_ => some k_ ≠ (.slice Ao67 t1078.length co67 : Value).ownBlock ∧ k_ ≠ gb1103 ∧ gbz1079 ≤ k_ ∧ k_ < gbz1089 ∧ k_ < gbz1098 ∧ k_ < gbz1106 ∧ k_ < gbz1117 ∧ k_ < gbz1126) (Kd.S_keptB (HO1085.out) hkp (fun k_ hk_ hs_ => Or.elim hs_ (fun e_ => (fun e_ => Nat.lt_irrefl _ (Nat.lt_of_lt_of_le hk_.2.2.2.2.2.1 (hPlP126 _ e_).1.1.1)) e_) (fun e_ => (fun e_ => Nat.lt_irrefl _ (Nat.lt_of_lt_of_le hk_.2.2.2.2.2.1 (hPlP127 _ e_).1.2.2.1)) e_))) (fun k_ hk_ => ⟨hk_.1.1, hk_.1.2.1, hk_.1.2.2.1, hk_.1.2.2.2.1, hk_.1.2.2.2.2.1, hk_.1.2.2.2.2.2.1, hk_.1.2.2.2.2.2.2.1, hk_.1.2.2.2.2.2.2.2⟩)); have n4_ := Aside0.mk (blk_kept (pb_ BK1086.out) hkp (fun hs_ => Or.elim hs_ (fun e_ => (fun e_ => no_blk (pb_ BK1086.out) (by decide) (hPlP126 _ e_).2.2) e_) (fun e_ => (fun e_ => no_blk (pb_ BK1086.out) (by decide) (hPlP127 _ e_).2.2) e_))); have n5_ := Aside0.mk (blk_kept (pb_ BK1103.out) hkp (fun hs_ => Or.elim hs_ (fun e_ => (fun e_ => no_blk (pb_ BK1103.out) (by decide) (hPlP126 _ e_).2.2) e_) (fun e_ => (fun e_ => ((hPlP127 _ e_).1.2.1) rfl) e_))); have n6_ := Aside0.mk (Kd.R_reok rfl hy0 (fun k_ e_ => HO1107.out.1 k_ e_)); have n7_ := Aside0.mk (Kd.S_mono hy1 (fun k_ hk_ => (hPlP127 k_ hk_).1)); have n8_ := Aside0.mk (blk_kept (pb_ BK1113.out) hkp (fun hs_ => Or.elim hs_ (fun e_ => (fun e_ => no_blk (pb_ BK1113.out) (by decide) (hPlP126 _ e_).2.2) e_) (fun e_ => (fun e_ => no_blk (pb_ BK1113.out) (by decide) (hPlP127 _ e_).2.2) e_))); have n9_ := Aside0.mk (hb); clear BK1058 BK1059 HO1080 HO1085 BK1086 BK1103 HO1107 HO1112 BK1113 HB; have BK1058 := n0_; have BK1059 := n1_; have HO1080 := n2_; have HO1085 := n3_; have BK1086 := n4_; have BK1103 := n5_; have HO1107 := n6_; have HO1112 := n7_; have BK1113 := n8_; have HB := n9_; clear n0_ n1_ n2_ n3_ n4_ n5_ n6_ n7_ n8_ n9_; (try clear hb); (try clear hkp); (try clear hy0); (try clear hy1); obtain ⟨hcz129_0, hcz129_1, hcz129_2, hcz129_3, hcz129_4, hfz129_0, hfz129_1, hfz129_2, hfz129_3, hfz129_4⟩ := bc5_ BK1113.out) | ((with_reducible refine gate_callee (f := 59) rfl ?_); refine goesL_ (some 69) rfl rfl Try.func59 (by kernel_rfl) rfl #[.agg #[.int .i64 t1104, .slice Ao102 t1139.length co102, .int .i64 t1108, .int .i64 t1109, .slice Ao103 t1140.length co103], .int .i64 1] rfl (by (try simp only [mp_]); first | done | (rw [show t1139.length = t1105.length from (Kd.R_reads' HO1107.out).1.symm, show t1140.length = t1110.length from (Kd.S_reads' HO1112.out).1.symm] <;> rfl) | rfl | (simp only [List.length_drop, List.length_take]; rfl)) ?_; (with_reducible refine (laws_heldGroup.calls k t1104 _ _ t1139 t1108 t1109 _ _ t1140 1 t1141 _ ?side1 ?side2 ?side3 ?side4 A39.out).mono ?_); (case side1 => repeat (first | exact (Kd.R_reads' HO1107.out).2.2 | (with_reducible first | refine ca_ ?_ _ | refine cn_ ?_ _ | refine cd_ ?_))); (case side2 => rw [show t1139.length = t1105.length from (Kd.R_reads' HO1107.out).1.symm]; exact (Kd.R_reads' HO1107.out).2.1); (case side3 => repeat (first | exact (Kd.S_reads' HO1112.out).2.2 | (with_reducible first | refine ca_ ?_ _ | refine cn_ ?_ _ | refine cd_ ?_))); (case side4 => rw [show t1140.length = t1110.length from (Kd.S_reads' HO1112.out).1.symm]; exact (Kd.S_reads' HO1112.out).2.1); rintro e w130 ⟨rfl, hb⟩; refine ⟨_, rfl, ?_⟩; have n0_ := Aside0.mk (Kd.R_below (rp_ HO1080.out) hb); have n1_ := Aside0.mk (Kd.S_below (sp_ HO1085.out) hb); have n2_ := Aside0.mk (Kd.R_below (rp_ HO1107.out) hb); have n3_ := Aside0.mk (Kd.S_below (sp_ HO1112.out) hb); have n4_ := Aside0.mk (bb_ BK1058.out hb); have n5_ := Aside0.mk (bb_ BK1059.out hb); have n6_ := Aside0.mk (bb_ BK1086.out hb); have n7_ := Aside0.mk (bb_ BK1103.out hb); have n8_ := Aside0.mk (bb_ BK1113.out hb); have n9_ := Aside0.mk (below_step (by repeat (first | (with_reducible first | exact HB.out | apply ba_ | apply bn_ | apply bd_ | refine below_set ?_ GE1058.out | refine below_set ?_ GE1059.out | refine below_set ?_ GE1086.out | refine below_set ?_ GE1103.out | refine below_set ?_ GE1113.out) | exact HB.out)) hb); clear HO1080 HO1085 HO1107 HO1112 BK1058 BK1059 BK1086 BK1103 BK1113 HB; have HO1080 := n0_; have HO1085 := n1_; have HO1107 := n2_; have HO1112 := n3_; have BK1058 := n4_; have BK1059 := n5_; have BK1086 := n6_; have BK1103 := n7_; have BK1113 := n8_; have HB := n9_; clear n0_ n1_ n2_ n3_ n4_ n5_ n6_ n7_ n8_ n9_; (try clear hb); (try clear hb2); (try clear hk); (try clear hi)))
        have n0_ := Aside0.mk (Kd.R_drew HO1080.out)
        have n1_ := Aside0.mk (Kd.S_drew HO1085.out)
        have n2_ := Aside0.mk (Kd.R_drew HO1107.out)
        have n3_ := Aside0.mk (Kd.S_drew HO1112.out)
        have n4_ := Aside0.mk (blk_drew BK1058.out)
        have n5_ := Aside0.mk (blk_drew BK1059.out)
        have n6_ := Aside0.mk (blk_drew BK1086.out)
        have n7_ := Aside0.mk (blk_drew BK1103.out)
        have n8_ := Aside0.mk (blk_drew BK1113.out)
        have n9_ := Aside0.mk (bd_ HB.out)
        clear HO1080 HO1085 HO1107 HO1112 BK1058 BK1059 BK1086 BK1103 BK1113 HB
        have HO1080 := n0_
        have HO1085 := n1_
        have HO1107 := n2_
        have HO1112 := n3_
        have BK1058 := n4_
        have BK1059 := n5_
        have BK1086 := n6_
        have BK1103 := n7_
        have BK1113 := n8_
        have HB := n9_
        clear n0_ n1_ n2_ n3_ n4_ n5_ n6_ n7_ n8_ n9_
        refine start_ (n := 7) (S := fun w' => w'.cell? ⟨gb1058, 0, none⟩ = some (.int .i64 a0_0) ∧ w'.cell? ⟨gb1058, 1, none⟩ = some (.slice A0_1 l0_1.length c0_1) ∧ w'.cell? ⟨gb1058, 2, none⟩ = some (.int .i64 a0_2) ∧ w'.cell? ⟨gb1058, 3, none⟩ = some (.int .i64 a0_3) ∧ w'.cell? ⟨gb1058, 4, none⟩ = some (.slice A0_4 l0_4.length c0_4) ∧ w'.cell? ⟨gb1059, 0, none⟩ = some (.slice A1_0 l1_0.length c1_0) ∧ w'.cell? ⟨gb1059, 1, none⟩ = some (.int .i64 a1_1) ∧ w'.cell? ⟨gb1059, 2, none⟩ = some (.int .i64 a1_2) ∧ w'.cell? ⟨gb1059, 3, none⟩ = some (.string a1_3)) (ds := []) #[f_,f_,f_,f_,f_,f_,f_] (by kernel_rfl) rfl rfl ⟨bx_ BK1058.out 0, bx_ BK1058.out 1, bx_ BK1058.out 2, bx_ BK1058.out 3, bx_ BK1058.out 4, bx_ BK1059.out 0, bx_ BK1059.out 1, bx_ BK1059.out 2, bx_ BK1059.out 3⟩ (fun hHeld => ?_)
        generalize w130.drew = w131 at HO1080 HO1085 HO1107 HO1112 BK1058 BK1059 BK1086 BK1103 BK1113 HB hHeld ⊢
        refine take_ (i := 0) (N := some 75) (v := ?_) (a' := ?_) #[t_,f_,f_,f_,f_,f_,f_] rfl rfl (by kernel_rfl) (fun _ _ _ h => h) (Or.inl ⟨by rfl, ?_⟩) hHeld ?_ ?_
        rotate_left
        ·
         rintro w' ⟨s0, s1, s2, s3, s4, s5, s6, s7, s8⟩
         go_simp
         with_reducible rfl
        rotate_left
        ·
         simp only [fr_]
         rfl
        refine take_ (i := 2) (N := some 77) (v := ?_) (a' := ?_) #[t_,f_,t_,f_,f_,f_,f_] rfl rfl (by kernel_rfl) (fun _ _ _ h => h) (Or.inl ⟨by rfl, ?_⟩) hHeld ?_ ?_
        rotate_left
        ·
         rintro w' ⟨s0, s1, s2, s3, s4, s5, s6, s7, s8⟩
         go_simp
         with_reducible rfl
        rotate_left
        ·
         simp only [fr_]
         rfl
        refine join_ (σ := Value × Value × Nat × Value × Nat × Value × Value × Nat × Nat) 1 #[t_,t_,t_,t_,t_,t_,f_] (fun s_ => [(76, .agg #[.int .i64 t1142, s_.1, .int .i64 t1146, .int .i64 t1147, s_.2.1]), (78, .agg #[s_.2.2.2.1, .int .i64 t1154, .int .i64 t1155, .string t1156]), (79, .agg #[.int .i64 t1157, s_.2.2.2.2.2.1, .int .i64 t1161, .int .i64 t1162, s_.2.2.2.2.2.2.1]), (13, .pointer (some ⟨s_.2.2.2.2.2.2.2.2, 0, none⟩))]) (fun s_ w' => (w'.cell? ⟨gb1058, 0, none⟩ = some (.int .i64 a0_0) ∧ w'.cell? ⟨gb1058, 1, none⟩ = some (.slice A0_1 l0_1.length c0_1) ∧ w'.cell? ⟨gb1058, 2, none⟩ = some (.int .i64 a0_2) ∧ w'.cell? ⟨gb1058, 3, none⟩ = some (.int .i64 a0_3) ∧ w'.cell? ⟨gb1058, 4, none⟩ = some (.slice A0_4 l0_4.length c0_4) ∧ w'.cell? ⟨gb1059, 0, none⟩ = some (.slice A1_0 l1_0.length c1_0) ∧ w'.cell? ⟨gb1059, 1, none⟩ = some (.int .i64 a1_1) ∧ w'.cell? ⟨gb1059, 2, none⟩ = some (.int .i64 a1_2) ∧ w'.cell? ⟨gb1059, 3, none⟩ = some (.string a1_3)) ∧ (Kd.R k164 164 w' w.heap.size (fun k_ => gbz1079 ≤ k_ ∧ k_ < gbz1089 ∧ k_ < gbz1098 ∧ k_ < gbz1106 ∧ k_ < gbz1117 ∧ k_ < gbz1126 ∧ k_ < s_.2.2.1 ∧ k_ < s_.2.2.2.2.1 ∧ k_ < s_.2.2.2.2.2.2.2.1) (.slice Ao67 t1078.length co67) t1078) ∧ (Kd.S k44 44 w' w.heap.size (fun k_ => some k_ ≠ (.slice Ao67 t1078.length co67 : Value).ownBlock ∧ k_ ≠ gb1103 ∧ gbz1079 ≤ k_ ∧ k_ < gbz1089 ∧ k_ < gbz1098 ∧ k_ < gbz1106 ∧ k_ < gbz1117 ∧ k_ < gbz1126 ∧ k_ < s_.2.2.1 ∧ k_ < s_.2.2.2.2.1 ∧ k_ < s_.2.2.2.2.2.2.2.1) (.slice Ao71 t1083.length co71) t1083) ∧ (Kd.R k164 164 w' w.heap.size (fun k_ => gbz1106 ≤ k_ ∧ k_ < gbz1117 ∧ k_ < gbz1126 ∧ k_ < s_.2.2.1 ∧ k_ < s_.2.2.2.2.1 ∧ k_ < s_.2.2.2.2.2.2.2.1) (.slice Ao102 t1105.length co102) t1139) ∧ (Kd.S k44 44 w' w.heap.size (fun k_ => some k_ ≠ (.slice Ao102 t1105.length co102 : Value).ownBlock ∧ k_ ≠ gb1103 ∧ gbz1106 ≤ k_ ∧ k_ < gbz1117 ∧ k_ < gbz1126 ∧ k_ < s_.2.2.1 ∧ k_ < s_.2.2.2.2.1 ∧ k_ < s_.2.2.2.2.2.2.2.1) (.slice Ao103 t1110.length co103) t1140) ∧ (Kd.R k164 164 w' w.heap.size (fun k_ => s_.2.2.1 ≤ k_ ∧ k_ < s_.2.2.2.2.1 ∧ k_ < s_.2.2.2.2.2.2.2.1) s_.1 t1143) ∧ (Kd.S k44 44 w' w.heap.size (fun k_ => some k_ ≠ (s_.1 : Value).ownBlock ∧ k_ ≠ gb1103 ∧ s_.2.2.1 ≤ k_ ∧ k_ < s_.2.2.2.2.1 ∧ k_ < s_.2.2.2.2.2.2.2.1) s_.2.1 t1148) ∧ (Kd.R k164 164 w' w.heap.size (fun k_ => s_.2.2.2.2.1 ≤ k_ ∧ k_ < s_.2.2.2.2.2.2.2.1) s_.2.2.2.1 t1151) ∧ (Kd.R k164 164 w' w.heap.size (fun k_ => s_.2.2.2.2.2.2.2.1 ≤ k_) s_.2.2.2.2.2.1 t1158) ∧ (Kd.S k44 44 w' w.heap.size (fun k_ => some k_ ≠ (s_.2.2.2.2.2.1 : Value).ownBlock ∧ k_ ≠ gb1103 ∧ s_.2.2.2.2.2.2.2.1 ≤ k_) s_.2.2.2.2.2.2.1 t1163) ∧ (w'.heap[gb1058]? = some (.cells #[.int .i64 a0_0, .slice A0_1 l0_1.length c0_1, .int .i64 a0_2, .int .i64 a0_3, .slice A0_4 l0_4.length c0_4] 69 (0, 0))) ∧ (w'.heap[gb1059]? = some (.cells #[.slice A1_0 l1_0.length c1_0, .int .i64 a1_1, .int .i64 a1_2, .string a1_3] 34 (0, 0))) ∧ (w'.heap[gb1086]? = some (.cells #[.int .i64 t1077, .slice Ao67 t1078.length co67, .int .i64 t1081, .int .i64 t1082, .slice Ao71 t1083.length co71] 75 (0, 0))) ∧ (w'.heap[gb1103]? = some (.cells #[.slice Ao87 t1097.length co87, .int .i64 t1100, .int .i64 t1101, .string t1102] 44 (0, 0))) ∧ (w'.heap[gb1113]? = some (.cells #[.int .i64 t1104, .slice Ao102 t1105.length co102, .int .i64 t1108, .int .i64 t1109, .slice Ao103 t1110.length co103] 75 (0, 0))) ∧ (w'.heap[s_.2.2.2.2.2.2.2.2]? = some (.cells #[.int .i64 0, .slice none 0 0, .int .i64 0, .int .i64 0, .slice none 0 0] 75 (0, 0))) ∧ (w.heap.size ≤ s_.2.2.2.2.2.2.2.2) ∧ (w.heap.size ≤ s_.2.2.2.2.2.2.2.2) ∧ (gb1058 ≠ s_.2.2.2.2.2.2.2.2) ∧ (s_.2.2.2.2.2.2.2.2 ≠ gb1058) ∧ (gb1059 ≠ s_.2.2.2.2.2.2.2.2) ∧ (s_.2.2.2.2.2.2.2.2 ≠ gb1059) ∧ (gb1086 ≠ s_.2.2.2.2.2.2.2.2) ∧ (s_.2.2.2.2.2.2.2.2 ≠ gb1086) ∧ (gb1103 ≠ s_.2.2.2.2.2.2.2.2) ∧ (s_.2.2.2.2.2.2.2.2 ≠ gb1103) ∧ (gb1113 ≠ s_.2.2.2.2.2.2.2.2) ∧ (s_.2.2.2.2.2.2.2.2 ≠ gb1113) ∧ (Below w.heap.size w w')) ?_ ?_
        rotate_left
        ·
         intro hCont
         refine two_ (i := 1) (j := 5) (Ni := some 76) (Nj := some 13) #[t_,t_,t_,f_,f_,f_,f_] #[t_,f_,t_,f_,f_,t_,f_] rfl rfl rfl rfl (by kernel_rfl) (by decide) (by decide) (fun K hK => ?_) (fun K hK => ?_)
         ·
          skip
          refine goes_ Try.func51 (by kernel_rfl) rfl #[.agg #[.int .i64 a0_0, .slice A0_1 l0_1.length c0_1, .int .i64 a0_2, .int .i64 a0_3, .slice A0_4 l0_4.length c0_4]] (by rfl) rfl rfl (by (try simp only [mp_]); first | done | rfl | (simp only [List.length_drop, List.length_take]; rfl)) ?_
          with_reducible refine (laws_toGroup.calls k a0_0 _ _ l0_1 a0_2 a0_3 _ _ l0_4 t1142 t1143 t1146 t1147 t1148 _ ?side1 ?side2 ?side3 ?side4 A42.out).mono ?_
          (case side1 => repeat (first | exact (Kd.C_below HR0_1.out HB.out) | (with_reducible first | refine ca_ ?_ _ | refine cn_ ?_ _ | refine cd_ ?_)))
          (case side2 => exact HC0_1.out)
          (case side3 => repeat (first | exact (Kd.C_below HR0_4.out HB.out) | (with_reducible first | refine ca_ ?_ _ | refine cn_ ?_ _ | refine cd_ ?_)))
          (case side4 => exact HC0_4.out)
          rintro e w132 ⟨v1144, v1149, rfl, ho0, ho1, hb⟩
          refine ⟨_, rfl, ?_⟩
          obtain ⟨gbz1144, hz1144⟩ := Kd.R_name ho0
          have n0_ := Aside0.mk (Kd.R_below (Kd.R_ltz hz1144 (rp_ HO1080.out)) hb)
          have n1_ := Aside0.mk (Kd.S_below (Kd.S_ltz hz1144 (sp_ HO1085.out)) hb)
          have n2_ := Aside0.mk (Kd.R_below (Kd.R_ltz hz1144 (rp_ HO1107.out)) hb)
          have n3_ := Aside0.mk (Kd.S_below (Kd.S_ltz hz1144 (sp_ HO1112.out)) hb)
          have n4_ := Aside0.mk (Kd.R_lower (Kd.R_gez hz1144 ho0) (below_size (by repeat (first | (with_reducible first | exact HB.out | apply ba_ | apply bn_ | apply bd_ | refine below_set ?_ GE1058.out | refine below_set ?_ GE1059.out | refine below_set ?_ GE1086.out | refine below_set ?_ GE1103.out | refine below_set ?_ GE1113.out) | exact HB.out))))
          have n5_ := Aside0.mk (Kd.S_lower (Kd.S_newB (Kd.S_gez hz1144 ho1) (g := gb1103) (o := .cells #[.slice Ao87 t1097.length co87, .int .i64 t1100, .int .i64 t1101, .string t1102] 44 (0, 0)) (pb_ BK1103.out)) (below_size (by repeat (first | (with_reducible first | exact HB.out | apply ba_ | apply bn_ | apply bd_ | refine below_set ?_ GE1058.out | refine below_set ?_ GE1059.out | refine below_set ?_ GE1086.out | refine below_set ?_ GE1103.out | refine below_set ?_ GE1113.out) | exact HB.out))))
          have n6_ := Aside0.mk (bb_ BK1058.out hb)
          have n7_ := Aside0.mk (bb_ BK1059.out hb)
          have n8_ := Aside0.mk (bb_ BK1086.out hb)
          have n9_ := Aside0.mk (bb_ BK1103.out hb)
          have n10_ := Aside0.mk (bb_ BK1113.out hb)
          have n11_ := Aside0.mk (below_step (by repeat (first | (with_reducible first | exact HB.out | apply ba_ | apply bn_ | apply bd_ | refine below_set ?_ GE1058.out | refine below_set ?_ GE1059.out | refine below_set ?_ GE1086.out | refine below_set ?_ GE1103.out | refine below_set ?_ GE1113.out) | exact HB.out)) hb)
          clear HO1080 HO1085 HO1107 HO1112 BK1058 BK1059 BK1086 BK1103 BK1113 HB
          have HO1080 := n0_
          have HO1085 := n1_
          have HO1107 := n2_
          have HO1112 := n3_
          have HO1145 := n4_
          have HO1150 := n5_
          have BK1058 := n6_
          have BK1059 := n7_
          have BK1086 := n8_
          have BK1103 := n9_
          have BK1113 := n10_
          have HB := n11_
          clear n0_ n1_ n2_ n3_ n4_ n5_ n6_ n7_ n8_ n9_ n10_ n11_
          (try clear hb)
          (try clear hb2)
          (try clear hk)
          (try clear hi)
          (try clear ho0)
          (try clear ho1)
          refine hK.out _ _ ⟨bx_ BK1058.out 0, bx_ BK1058.out 1, bx_ BK1058.out 2, bx_ BK1058.out 3, bx_ BK1058.out 4, bx_ BK1059.out 0, bx_ BK1059.out 1, bx_ BK1059.out 2, bx_ BK1059.out 3⟩ (fun hHeld => ?_)
          clear hK K
          refine norm_ (a' := ?_) ?_ ?_
          rotate_left
          ·
           show Act.put _ (some 76) _ = _
           simp only [fr_]
           rfl
          refine two_ (i := 3) (j := 5) (Ni := some 78) (Nj := some 13) #[t_,t_,t_,t_,f_,f_,f_] #[t_,t_,t_,f_,f_,t_,f_] rfl rfl rfl rfl (by kernel_rfl) (by decide) (by decide) (fun K hK => ?_) (fun K hK => ?_)
          ·
           skip
           refine goes_ Try.func24 (by kernel_rfl) rfl #[.agg #[.slice A1_0 l1_0.length c1_0, .int .i64 a1_1, .int .i64 a1_2, .string a1_3]] (by rfl) rfl rfl (by (try simp only [mp_]); first | done | rfl | (simp only [List.length_drop, List.length_take]; rfl)) ?_
           with_reducible refine (laws_toAlarm.calls k _ _ l1_0 a1_1 a1_2 a1_3 t1151 t1154 t1155 t1156 _ ?side1 ?side2 A43.out).mono ?_
           (case side1 => repeat (first | exact (Kd.C_below HR1_0.out HB.out) | (with_reducible first | refine ca_ ?_ _ | refine cn_ ?_ _ | refine cd_ ?_)))
           (case side2 => exact HC1_0.out)
           rintro e w133 ⟨v1152, rfl, ho0, hb⟩
           refine ⟨_, rfl, ?_⟩
           obtain ⟨gbz1152, hz1152⟩ := Kd.R_name ho0
           have n0_ := Aside0.mk (Kd.R_below (Kd.R_ltz hz1152 (rp_ HO1080.out)) hb)
           have n1_ := Aside0.mk (Kd.S_below (Kd.S_ltz hz1152 (sp_ HO1085.out)) hb)
           have n2_ := Aside0.mk (Kd.R_below (Kd.R_ltz hz1152 (rp_ HO1107.out)) hb)
           have n3_ := Aside0.mk (Kd.S_below (Kd.S_ltz hz1152 (sp_ HO1112.out)) hb)
           have n4_ := Aside0.mk (Kd.R_below (Kd.R_ltz hz1152 (rp_ HO1145.out)) hb)
           have n5_ := Aside0.mk (Kd.S_below (Kd.S_ltz hz1152 (sp_ HO1150.out)) hb)
           have n6_ := Aside0.mk (Kd.R_lower (Kd.R_gez hz1152 ho0) (below_size (by repeat (first | (with_reducible first | exact HB.out | apply ba_ | apply bn_ | apply bd_ | refine below_set ?_ GE1058.out | refine below_set ?_ GE1059.out | refine below_set ?_ GE1086.out | refine below_set ?_ GE1103.out | refine below_set ?_ GE1113.out) | exact HB.out))))
           have n7_ := Aside0.mk (bb_ BK1058.out hb)
           have n8_ := Aside0.mk (bb_ BK1059.out hb)
           have n9_ := Aside0.mk (bb_ BK1086.out hb)
           have n10_ := Aside0.mk (bb_ BK1103.out hb)
           have n11_ := Aside0.mk (bb_ BK1113.out hb)
           have n12_ := Aside0.mk (below_step (by repeat (first | (with_reducible first | exact HB.out | apply ba_ | apply bn_ | apply bd_ | refine below_set ?_ GE1058.out | refine below_set ?_ GE1059.out | refine below_set ?_ GE1086.out | refine below_set ?_ GE1103.out | refine below_set ?_ GE1113.out) | exact HB.out)) hb)
           clear HO1080 HO1085 HO1107 HO1112 HO1145 HO1150 BK1058 BK1059 BK1086 BK1103 BK1113 HB
           have HO1080 := n0_
           have HO1085 := n1_
           have HO1107 := n2_
           have HO1112 := n3_
           have HO1145 := n4_
           have HO1150 := n5_
           have HO1153 := n6_
           have BK1058 := n7_
           have BK1059 := n8_
           have BK1086 := n9_
           have BK1103 := n10_
           have BK1113 := n11_
           have HB := n12_
           clear n0_ n1_ n2_ n3_ n4_ n5_ n6_ n7_ n8_ n9_ n10_ n11_ n12_
           (try clear hb)
           (try clear hb2)
           (try clear hk)
           (try clear hi)
           (try clear ho0)
           obtain ⟨Ao134, co134, eo134⟩ := Kd.R_slice HO1145.out
           (first | subst eo134 | (injection eo134 with f1_ f2_ f3_; have f4_ := f1_.symm; have f5_ := f3_.symm; clear f1_ f2_ f3_; subst f4_; subst f5_))
           obtain ⟨Ao135, co135, eo135⟩ := Kd.S_slice HO1150.out
           (first | subst eo135 | (injection eo135 with f1_ f2_ f3_; have f4_ := f1_.symm; have f5_ := f3_.symm; clear f1_ f2_ f3_; subst f4_; subst f5_))
           obtain ⟨Ao136, co136, eo136⟩ := Kd.R_slice HO1153.out
           (first | subst eo136 | (injection eo136 with f1_ f2_ f3_; have f4_ := f1_.symm; have f5_ := f3_.symm; clear f1_ f2_ f3_; subst f4_; subst f5_))
           refine hK.out _ _ ⟨bx_ BK1058.out 0, bx_ BK1058.out 1, bx_ BK1058.out 2, bx_ BK1058.out 3, bx_ BK1058.out 4, bx_ BK1059.out 0, bx_ BK1059.out 1, bx_ BK1059.out 2, bx_ BK1059.out 3⟩ (fun hHeld => ?_)
           clear hK K
           refine norm_ (a' := ?_) ?_ ?_
           rotate_left
           ·
            show Act.put _ (some 78) _ = _
            simp only [fr_]
            rfl
           refine two_ (i := 4) (j := 5) (Ni := some 79) (Nj := some 13) #[t_,t_,t_,t_,t_,f_,f_] #[t_,t_,t_,t_,f_,t_,f_] rfl rfl rfl rfl (by kernel_rfl) (by decide) (by decide) (fun K hK => ?_) (fun K hK => ?_)
           ·
            skip
            refine goes_ Try.func57 (by kernel_rfl) rfl #[.agg #[.int .i64 t1142, .slice Ao134 t1143.length co134, .int .i64 t1146, .int .i64 t1147, .slice Ao135 t1148.length co135], .agg #[.slice Ao136 t1151.length co136, .int .i64 t1154, .int .i64 t1155, .string t1156]] (by rfl) rfl rfl (by (try simp only [mp_]); first | done | rfl | (simp only [List.length_drop, List.length_take]; rfl)) ?_
            with_reducible refine (impl_JoinIn.calls k t1142 _ _ t1143 t1146 t1147 _ _ t1148 _ _ t1151 t1154 t1155 t1156 t1157 t1158 t1161 t1162 t1163 _ ?side1 ?side2 ?side3 ?side4 ?side5 ?side6 A44.out).mono ?_
            (case side1 => repeat (first | exact (Kd.R_reads' HO1145.out).2.2 | (with_reducible first | refine ca_ ?_ _ | refine cn_ ?_ _ | refine cd_ ?_)))
            (case side2 => exact (Kd.R_reads' HO1145.out).2.1)
            (case side3 => repeat (first | exact (Kd.S_reads' HO1150.out).2.2 | (with_reducible first | refine ca_ ?_ _ | refine cn_ ?_ _ | refine cd_ ?_)))
            (case side4 => exact (Kd.S_reads' HO1150.out).2.1)
            (case side5 => repeat (first | exact (Kd.R_reads' HO1153.out).2.2 | (with_reducible first | refine ca_ ?_ _ | refine cn_ ?_ _ | refine cd_ ?_)))
            (case side6 => exact (Kd.R_reads' HO1153.out).2.1)
            rintro e w137 ⟨v1159, v1164, rfl, ho0, ho1, hb⟩
            refine ⟨_, rfl, ?_⟩
            obtain ⟨gbz1159, hz1159⟩ := Kd.R_name ho0
            have n0_ := Aside0.mk (Kd.R_below (Kd.R_ltz hz1159 (rp_ HO1080.out)) hb)
            have n1_ := Aside0.mk (Kd.S_below (Kd.S_ltz hz1159 (sp_ HO1085.out)) hb)
            have n2_ := Aside0.mk (Kd.R_below (Kd.R_ltz hz1159 (rp_ HO1107.out)) hb)
            have n3_ := Aside0.mk (Kd.S_below (Kd.S_ltz hz1159 (sp_ HO1112.out)) hb)
            have n4_ := Aside0.mk (Kd.R_below (Kd.R_ltz hz1159 (rp_ HO1145.out)) hb)
            have n5_ := Aside0.mk (Kd.S_below (Kd.S_ltz hz1159 (sp_ HO1150.out)) hb)
            have n6_ := Aside0.mk (Kd.R_below (Kd.R_ltz hz1159 (rp_ HO1153.out)) hb)
            have n7_ := Aside0.mk (Kd.R_lower (Kd.R_gez hz1159 ho0) (below_size (by repeat (first | (with_reducible first | exact HB.out | apply ba_ | apply bn_ | apply bd_ | refine below_set ?_ GE1058.out | refine below_set ?_ GE1059.out | refine below_set ?_ GE1086.out | refine below_set ?_ GE1103.out | refine below_set ?_ GE1113.out) | exact HB.out))))
            have n8_ := Aside0.mk (Kd.S_lower (Kd.S_newB (Kd.S_gez hz1159 ho1) (g := gb1103) (o := .cells #[.slice Ao87 t1097.length co87, .int .i64 t1100, .int .i64 t1101, .string t1102] 44 (0, 0)) (pb_ BK1103.out)) (below_size (by repeat (first | (with_reducible first | exact HB.out | apply ba_ | apply bn_ | apply bd_ | refine below_set ?_ GE1058.out | refine below_set ?_ GE1059.out | refine below_set ?_ GE1086.out | refine below_set ?_ GE1103.out | refine below_set ?_ GE1113.out) | exact HB.out))))
            have n9_ := Aside0.mk (bb_ BK1058.out hb)
            have n10_ := Aside0.mk (bb_ BK1059.out hb)
            have n11_ := Aside0.mk (bb_ BK1086.out hb)
            have n12_ := Aside0.mk (bb_ BK1103.out hb)
            have n13_ := Aside0.mk (bb_ BK1113.out hb)
            have n14_ := Aside0.mk (below_step (by repeat (first | (with_reducible first | exact HB.out | apply ba_ | apply bn_ | apply bd_ | refine below_set ?_ GE1058.out | refine below_set ?_ GE1059.out | refine below_set ?_ GE1086.out | refine below_set ?_ GE1103.out | refine below_set ?_ GE1113.out) | exact HB.out)) hb)
            clear HO1080 HO1085 HO1107 HO1112 HO1145 HO1150 HO1153 BK1058 BK1059 BK1086 BK1103 BK1113 HB
            have HO1080 := n0_
            have HO1085 := n1_
            have HO1107 := n2_
            have HO1112 := n3_
            have HO1145 := n4_
            have HO1150 := n5_
            have HO1153 := n6_
            have HO1160 := n7_
            have HO1165 := n8_
            have BK1058 := n9_
            have BK1059 := n10_
            have BK1086 := n11_
            have BK1103 := n12_
            have BK1113 := n13_
            have HB := n14_
            clear n0_ n1_ n2_ n3_ n4_ n5_ n6_ n7_ n8_ n9_ n10_ n11_ n12_ n13_ n14_
            (try clear hb)
            (try clear hb2)
            (try clear hk)
            (try clear hi)
            (try clear ho0)
            (try clear ho1)
            refine hK.out _ _ ⟨bx_ BK1058.out 0, bx_ BK1058.out 1, bx_ BK1058.out 2, bx_ BK1058.out 3, bx_ BK1058.out 4, bx_ BK1059.out 0, bx_ BK1059.out 1, bx_ BK1059.out 2, bx_ BK1059.out 3⟩ (fun hHeld => ?_)
            clear hK K
            refine norm_ (a' := ?_) ?_ ?_
            rotate_left
            ·
             show Act.put _ (some 79) _ = _
             simp only [fr_]
             rfl
            refine one_ (i := 5) (N := some 13) #[t_,t_,t_,t_,t_,t_,f_] rfl rfl (by kernel_rfl) (by decide) (fun K hK => ?_)
            refine box_step ?hg (N := 13) ?hd (cs := #[.int .i64 0, .slice none 0 0, .int .i64 0, .int .i64 0, .slice none 0 0]) (t := 75) ?hr ?_; (case hd => rfl); (case hg => rfl); (case hr => first | (go_simp; done) | (go_simp; rfl))
            intro gb1166 hg w138 hbox hb
            have n0_ := Aside0.mk (Kd.R_below (rp_ HO1080.out) hb)
            have n1_ := Aside0.mk (Kd.S_below (sp_ HO1085.out) hb)
            have n2_ := Aside0.mk (Kd.R_below (rp_ HO1107.out) hb)
            have n3_ := Aside0.mk (Kd.S_below (sp_ HO1112.out) hb)
            have n4_ := Aside0.mk (Kd.R_below (rp_ HO1145.out) hb)
            have n5_ := Aside0.mk (Kd.S_below (sp_ HO1150.out) hb)
            have n6_ := Aside0.mk (Kd.R_below (rp_ HO1153.out) hb)
            have n7_ := Aside0.mk (Kd.R_below (rp_ HO1160.out) hb)
            have n8_ := Aside0.mk (Kd.S_below (sp_ HO1165.out) hb)
            have n9_ := Aside0.mk (bb_ BK1058.out hb)
            have n10_ := Aside0.mk (bb_ BK1059.out hb)
            have n11_ := Aside0.mk (bb_ BK1086.out hb)
            have n12_ := Aside0.mk (bb_ BK1103.out hb)
            have n13_ := Aside0.mk (bb_ BK1113.out hb)
            have n14_ := Aside0.mk (below_step (by repeat (first | (with_reducible first | exact HB.out | apply ba_ | apply bn_ | apply bd_ | refine below_set ?_ GE1058.out | refine below_set ?_ GE1059.out | refine below_set ?_ GE1086.out | refine below_set ?_ GE1103.out | refine below_set ?_ GE1113.out) | exact HB.out)) hb)
            have n15_ := Aside0.mk (hbox)
            have n16_ := Aside0.mk ((by rw [hg]; exact (below_size (by repeat (first | (with_reducible first | exact HB.out | apply ba_ | apply bn_ | apply bd_ | refine below_set ?_ GE1058.out | refine below_set ?_ GE1059.out | refine below_set ?_ GE1086.out | refine below_set ?_ GE1103.out | refine below_set ?_ GE1113.out) | exact HB.out))) : w.heap.size ≤ gb1166))
            have n17_ := Aside0.mk ((by rw [hg]; exact (below_size (by repeat (first | (with_reducible first | exact HB.out | apply ba_ | apply bn_ | apply bd_ | refine below_set ?_ GE1058.out | refine below_set ?_ GE1059.out | refine below_set ?_ GE1086.out | refine below_set ?_ GE1103.out | refine below_set ?_ GE1113.out) | exact HB.out))) : w.heap.size ≤ gb1166))
            have n18_ := Aside0.mk (nl_ BK1058.out hg)
            have n19_ := Aside0.mk (ng_ BK1058.out hg)
            have n20_ := Aside0.mk (nl_ BK1059.out hg)
            have n21_ := Aside0.mk (ng_ BK1059.out hg)
            have n22_ := Aside0.mk (nl_ BK1086.out hg)
            have n23_ := Aside0.mk (ng_ BK1086.out hg)
            have n24_ := Aside0.mk (nl_ BK1103.out hg)
            have n25_ := Aside0.mk (ng_ BK1103.out hg)
            have n26_ := Aside0.mk (nl_ BK1113.out hg)
            have n27_ := Aside0.mk (ng_ BK1113.out hg)
            clear HO1080 HO1085 HO1107 HO1112 HO1145 HO1150 HO1153 HO1160 HO1165 BK1058 BK1059 BK1086 BK1103 BK1113 HB
            have HO1080 := n0_
            have HO1085 := n1_
            have HO1107 := n2_
            have HO1112 := n3_
            have HO1145 := n4_
            have HO1150 := n5_
            have HO1153 := n6_
            have HO1160 := n7_
            have HO1165 := n8_
            have BK1058 := n9_
            have BK1059 := n10_
            have BK1086 := n11_
            have BK1103 := n12_
            have BK1113 := n13_
            have HB := n14_
            have BK1166 := n15_
            have GW1166 := n16_
            have GE1166 := n17_
            have NB1058_1166 := n18_
            have NB1166_1058 := n19_
            have NB1059_1166 := n20_
            have NB1166_1059 := n21_
            have NB1086_1166 := n22_
            have NB1166_1086 := n23_
            have NB1103_1166 := n24_
            have NB1166_1103 := n25_
            have NB1113_1166 := n26_
            have NB1166_1113 := n27_
            clear n0_ n1_ n2_ n3_ n4_ n5_ n6_ n7_ n8_ n9_ n10_ n11_ n12_ n13_ n14_ n15_ n16_ n17_ n18_ n19_ n20_ n21_ n22_ n23_ n24_ n25_ n26_ n27_ hb hbox hg
            refine hK.out _ _ ⟨bx_ BK1058.out 0, bx_ BK1058.out 1, bx_ BK1058.out 2, bx_ BK1058.out 3, bx_ BK1058.out 4, bx_ BK1059.out 0, bx_ BK1059.out 1, bx_ BK1059.out 2, bx_ BK1059.out 3⟩ (fun hHeld => ?_)
            clear hK K
            refine norm_ (a' := ?_) ?_ ?_
            rotate_left
            ·
             show Act.put _ (some 13) _ = _
             simp only [fr_]
             rfl
            exact norm_ (by simp only [putAll, Act.put, List.setIfInBounds_toArray, List.set_cons_zero, List.set_cons_succ]) (hCont (.slice Ao134 t1143.length co134, .slice Ao135 t1148.length co135, gbz1144, .slice Ao136 t1151.length co136, gbz1152, v1159, v1164, gbz1159, gb1166) _ ⟨hHeld, (by (with_reducible repeat (first | apply Kd.R_alloc | apply Kd.R_drewN | apply Kd.R_drew)); exact Kd.R_mono HO1080.out (fun _ hk => ⟨hk.1.1.1.1, ⟨hk.1.1.1.2.1, ⟨hk.1.1.1.2.2.1, ⟨hk.1.1.1.2.2.2.1, ⟨hk.1.1.1.2.2.2.2.1, ⟨hk.1.1.1.2.2.2.2.2, ⟨hk.1.1.2, ⟨hk.1.2, hk.2⟩⟩⟩⟩⟩⟩⟩⟩)), (by (with_reducible repeat (first | apply Kd.S_alloc | apply Kd.S_drewN | apply Kd.S_drew)); exact Kd.S_mono HO1085.out (fun _ hk => ⟨hk.1.1.1.1, ⟨hk.1.1.1.2.1, ⟨hk.1.1.1.2.2.1, ⟨hk.1.1.1.2.2.2.1, ⟨hk.1.1.1.2.2.2.2.1, ⟨hk.1.1.1.2.2.2.2.2.1, ⟨hk.1.1.1.2.2.2.2.2.2.1, ⟨hk.1.1.1.2.2.2.2.2.2.2, ⟨hk.1.1.2, ⟨hk.1.2, hk.2⟩⟩⟩⟩⟩⟩⟩⟩⟩⟩)), (by (with_reducible repeat (first | apply Kd.R_alloc | apply Kd.R_drewN | apply Kd.R_drew)); exact Kd.R_mono HO1107.out (fun _ hk => ⟨hk.1.1.1.1, ⟨hk.1.1.1.2.1, ⟨hk.1.1.1.2.2, ⟨hk.1.1.2, ⟨hk.1.2, hk.2⟩⟩⟩⟩⟩)), (by (with_reducible repeat (first | apply Kd.S_alloc | apply Kd.S_drewN | apply Kd.S_drew)); exact Kd.S_mono HO1112.out (fun _ hk => ⟨hk.1.1.1.1, ⟨hk.1.1.1.2.1, ⟨hk.1.1.1.2.2.1, ⟨hk.1.1.1.2.2.2.1, ⟨hk.1.1.1.2.2.2.2, ⟨hk.1.1.2, ⟨hk.1.2, hk.2⟩⟩⟩⟩⟩⟩⟩)), (by (with_reducible repeat (first | apply Kd.R_alloc | apply Kd.R_drewN | apply Kd.R_drew)); exact Kd.R_mono HO1145.out (fun _ hk => ⟨hk.1.1.2, ⟨hk.1.2, hk.2⟩⟩)), (by (with_reducible repeat (first | apply Kd.S_alloc | apply Kd.S_drewN | apply Kd.S_drew)); exact Kd.S_mono HO1150.out (fun _ hk => ⟨hk.1.1.1.1, ⟨hk.1.1.2, ⟨hk.1.1.1.2, ⟨hk.1.2, hk.2⟩⟩⟩⟩)), (by (with_reducible repeat (first | apply Kd.R_alloc | apply Kd.R_drewN | apply Kd.R_drew)); exact Kd.R_mono HO1153.out (fun _ hk => ⟨hk.1.2, hk.2⟩)), (by (with_reducible repeat (first | apply Kd.R_alloc | apply Kd.R_drewN | apply Kd.R_drew)); exact Kd.R_mono HO1160.out (fun _ hk => hk.2)), (by (with_reducible repeat (first | apply Kd.S_alloc | apply Kd.S_drewN | apply Kd.S_drew)); exact Kd.S_mono HO1165.out (fun _ hk => ⟨hk.1.1, ⟨hk.2, hk.1.2⟩⟩)), (pb_ BK1058.out), (pb_ BK1059.out), (pb_ BK1086.out), (pb_ BK1103.out), (pb_ BK1113.out), (pb_ BK1166.out), GW1166.out, GE1166.out, NB1058_1166.out, NB1166_1058.out, NB1059_1166.out, NB1166_1059.out, NB1086_1166.out, NB1166_1086.out, NB1103_1166.out, NB1166_1103.out, NB1113_1166.out, NB1166_1113.out, (by repeat (first | (with_reducible first | exact HB.out | apply ba_ | apply bn_ | apply bd_ | refine below_set ?_ GE1058.out | refine below_set ?_ GE1059.out | refine below_set ?_ GE1086.out | refine below_set ?_ GE1103.out | refine below_set ?_ GE1113.out | refine below_set ?_ GE1166.out) | exact HB.out))⟩)
           skip
           refine box_step ?hg (N := 13) ?hd (cs := #[.int .i64 0, .slice none 0 0, .int .i64 0, .int .i64 0, .slice none 0 0]) (t := 75) ?hr ?_; (case hd => rfl); (case hg => rfl); (case hr => first | (go_simp; done) | (go_simp; rfl))
           intro gb1166 hg w134 hbox hb
           have n0_ := Aside0.mk (Kd.R_below (rp_ HO1080.out) hb)
           have n1_ := Aside0.mk (Kd.S_below (sp_ HO1085.out) hb)
           have n2_ := Aside0.mk (Kd.R_below (rp_ HO1107.out) hb)
           have n3_ := Aside0.mk (Kd.S_below (sp_ HO1112.out) hb)
           have n4_ := Aside0.mk (Kd.R_below (rp_ HO1145.out) hb)
           have n5_ := Aside0.mk (Kd.S_below (sp_ HO1150.out) hb)
           have n6_ := Aside0.mk (Kd.R_below (rp_ HO1153.out) hb)
           have n7_ := Aside0.mk (bb_ BK1058.out hb)
           have n8_ := Aside0.mk (bb_ BK1059.out hb)
           have n9_ := Aside0.mk (bb_ BK1086.out hb)
           have n10_ := Aside0.mk (bb_ BK1103.out hb)
           have n11_ := Aside0.mk (bb_ BK1113.out hb)
           have n12_ := Aside0.mk (below_step (by repeat (first | (with_reducible first | exact HB.out | apply ba_ | apply bn_ | apply bd_ | refine below_set ?_ GE1058.out | refine below_set ?_ GE1059.out | refine below_set ?_ GE1086.out | refine below_set ?_ GE1103.out | refine below_set ?_ GE1113.out) | exact HB.out)) hb)
           have n13_ := Aside0.mk (hbox)
           have n14_ := Aside0.mk ((by rw [hg]; exact (below_size (by repeat (first | (with_reducible first | exact HB.out | apply ba_ | apply bn_ | apply bd_ | refine below_set ?_ GE1058.out | refine below_set ?_ GE1059.out | refine below_set ?_ GE1086.out | refine below_set ?_ GE1103.out | refine below_set ?_ GE1113.out) | exact HB.out))) : w.heap.size ≤ gb1166))
           have n15_ := Aside0.mk ((by rw [hg]; exact (below_size (by repeat (first | (with_reducible first | exact HB.out | apply ba_ | apply bn_ | apply bd_ | refine below_set ?_ GE1058.out | refine below_set ?_ GE1059.out | refine below_set ?_ GE1086.out | refine below_set ?_ GE1103.out | refine below_set ?_ GE1113.out) | exact HB.out))) : w.heap.size ≤ gb1166))
           have n16_ := Aside0.mk (nl_ BK1058.out hg)
           have n17_ := Aside0.mk (ng_ BK1058.out hg)
           have n18_ := Aside0.mk (nl_ BK1059.out hg)
           have n19_ := Aside0.mk (ng_ BK1059.out hg)
           have n20_ := Aside0.mk (nl_ BK1086.out hg)
           have n21_ := Aside0.mk (ng_ BK1086.out hg)
           have n22_ := Aside0.mk (nl_ BK1103.out hg)
           have n23_ := Aside0.mk (ng_ BK1103.out hg)
           have n24_ := Aside0.mk (nl_ BK1113.out hg)
           have n25_ := Aside0.mk (ng_ BK1113.out hg)
           clear HO1080 HO1085 HO1107 HO1112 HO1145 HO1150 HO1153 BK1058 BK1059 BK1086 BK1103 BK1113 HB
           have HO1080 := n0_
           have HO1085 := n1_
           have HO1107 := n2_
           have HO1112 := n3_
           have HO1145 := n4_
           have HO1150 := n5_
           have HO1153 := n6_
           have BK1058 := n7_
           have BK1059 := n8_
           have BK1086 := n9_
           have BK1103 := n10_
           have BK1113 := n11_
           have HB := n12_
           have BK1166 := n13_
           have GW1166 := n14_
           have GE1166 := n15_
           have NB1058_1166 := n16_
           have NB1166_1058 := n17_
           have NB1059_1166 := n18_
           have NB1166_1059 := n19_
           have NB1086_1166 := n20_
           have NB1166_1086 := n21_
           have NB1103_1166 := n22_
           have NB1166_1103 := n23_
           have NB1113_1166 := n24_
           have NB1166_1113 := n25_
           clear n0_ n1_ n2_ n3_ n4_ n5_ n6_ n7_ n8_ n9_ n10_ n11_ n12_ n13_ n14_ n15_ n16_ n17_ n18_ n19_ n20_ n21_ n22_ n23_ n24_ n25_ hb hbox hg
           obtain ⟨Ao135, co135, eo135⟩ := Kd.R_slice HO1145.out
           (first | subst eo135 | (injection eo135 with f1_ f2_ f3_; have f4_ := f1_.symm; have f5_ := f3_.symm; clear f1_ f2_ f3_; subst f4_; subst f5_))
           obtain ⟨Ao136, co136, eo136⟩ := Kd.S_slice HO1150.out
           (first | subst eo136 | (injection eo136 with f1_ f2_ f3_; have f4_ := f1_.symm; have f5_ := f3_.symm; clear f1_ f2_ f3_; subst f4_; subst f5_))
           obtain ⟨Ao137, co137, eo137⟩ := Kd.R_slice HO1153.out
           (first | subst eo137 | (injection eo137 with f1_ f2_ f3_; have f4_ := f1_.symm; have f5_ := f3_.symm; clear f1_ f2_ f3_; subst f4_; subst f5_))
           refine hK.out _ _ ⟨bx_ BK1058.out 0, bx_ BK1058.out 1, bx_ BK1058.out 2, bx_ BK1058.out 3, bx_ BK1058.out 4, bx_ BK1059.out 0, bx_ BK1059.out 1, bx_ BK1059.out 2, bx_ BK1059.out 3⟩ (fun hHeld => ?_)
           clear hK K
           refine norm_ (a' := ?_) ?_ ?_
           rotate_left
           ·
            show Act.put _ (some 13) _ = _
            simp only [fr_]
            rfl
           refine one_ (i := 4) (N := some 79) #[t_,t_,t_,t_,t_,t_,f_] rfl rfl (by kernel_rfl) (by decide) (fun K hK => ?_)
           refine goes_ Try.func57 (by kernel_rfl) rfl #[.agg #[.int .i64 t1142, .slice Ao135 t1143.length co135, .int .i64 t1146, .int .i64 t1147, .slice Ao136 t1148.length co136], .agg #[.slice Ao137 t1151.length co137, .int .i64 t1154, .int .i64 t1155, .string t1156]] (by rfl) rfl rfl (by (try simp only [mp_]); first | done | rfl | (simp only [List.length_drop, List.length_take]; rfl)) ?_
           with_reducible refine (impl_JoinIn.calls k t1142 _ _ t1143 t1146 t1147 _ _ t1148 _ _ t1151 t1154 t1155 t1156 t1157 t1158 t1161 t1162 t1163 _ ?side1 ?side2 ?side3 ?side4 ?side5 ?side6 A44.out).mono ?_
           (case side1 => repeat (first | exact (Kd.R_reads' HO1145.out).2.2 | (with_reducible first | refine ca_ ?_ _ | refine cn_ ?_ _ | refine cd_ ?_)))
           (case side2 => exact (Kd.R_reads' HO1145.out).2.1)
           (case side3 => repeat (first | exact (Kd.S_reads' HO1150.out).2.2 | (with_reducible first | refine ca_ ?_ _ | refine cn_ ?_ _ | refine cd_ ?_)))
           (case side4 => exact (Kd.S_reads' HO1150.out).2.1)
           (case side5 => repeat (first | exact (Kd.R_reads' HO1153.out).2.2 | (with_reducible first | refine ca_ ?_ _ | refine cn_ ?_ _ | refine cd_ ?_)))
           (case side6 => exact (Kd.R_reads' HO1153.out).2.1)
           rintro e w138 ⟨v1159, v1164, rfl, ho0, ho1, hb⟩
           refine ⟨_, rfl, ?_⟩
           obtain ⟨gbz1159, hz1159⟩ := Kd.R_name ho0
           have n0_ := Aside0.mk (Kd.R_below (Kd.R_ltz hz1159 (rp_ HO1080.out)) hb)
           have n1_ := Aside0.mk (Kd.S_below (Kd.S_ltz hz1159 (sp_ HO1085.out)) hb)
           have n2_ := Aside0.mk (Kd.R_below (Kd.R_ltz hz1159 (rp_ HO1107.out)) hb)
           have n3_ := Aside0.mk (Kd.S_below (Kd.S_ltz hz1159 (sp_ HO1112.out)) hb)
           have n4_ := Aside0.mk (Kd.R_below (Kd.R_ltz hz1159 (rp_ HO1145.out)) hb)
           have n5_ := Aside0.mk (Kd.S_below (Kd.S_ltz hz1159 (sp_ HO1150.out)) hb)
           have n6_ := Aside0.mk (Kd.R_below (Kd.R_ltz hz1159 (rp_ HO1153.out)) hb)
           have n7_ := Aside0.mk (Kd.R_lower (Kd.R_gez hz1159 ho0) (below_size (by repeat (first | (with_reducible first | exact HB.out | apply ba_ | apply bn_ | apply bd_ | refine below_set ?_ GE1058.out | refine below_set ?_ GE1059.out | refine below_set ?_ GE1086.out | refine below_set ?_ GE1103.out | refine below_set ?_ GE1113.out | refine below_set ?_ GE1166.out) | exact HB.out))))
           have n8_ := Aside0.mk (Kd.S_lower (Kd.S_newB (Kd.S_gez hz1159 ho1) (g := gb1103) (o := .cells #[.slice Ao87 t1097.length co87, .int .i64 t1100, .int .i64 t1101, .string t1102] 44 (0, 0)) (pb_ BK1103.out)) (below_size (by repeat (first | (with_reducible first | exact HB.out | apply ba_ | apply bn_ | apply bd_ | refine below_set ?_ GE1058.out | refine below_set ?_ GE1059.out | refine below_set ?_ GE1086.out | refine below_set ?_ GE1103.out | refine below_set ?_ GE1113.out | refine below_set ?_ GE1166.out) | exact HB.out))))
           have n9_ := Aside0.mk (bb_ BK1058.out hb)
           have n10_ := Aside0.mk (bb_ BK1059.out hb)
           have n11_ := Aside0.mk (bb_ BK1086.out hb)
           have n12_ := Aside0.mk (bb_ BK1103.out hb)
           have n13_ := Aside0.mk (bb_ BK1113.out hb)
           have n14_ := Aside0.mk (bb_ BK1166.out hb)
           have n15_ := Aside0.mk (below_step (by repeat (first | (with_reducible first | exact HB.out | apply ba_ | apply bn_ | apply bd_ | refine below_set ?_ GE1058.out | refine below_set ?_ GE1059.out | refine below_set ?_ GE1086.out | refine below_set ?_ GE1103.out | refine below_set ?_ GE1113.out | refine below_set ?_ GE1166.out) | exact HB.out)) hb)
           clear HO1080 HO1085 HO1107 HO1112 HO1145 HO1150 HO1153 BK1058 BK1059 BK1086 BK1103 BK1113 BK1166 HB
           have HO1080 := n0_
           have HO1085 := n1_
           have HO1107 := n2_
           have HO1112 := n3_
           have HO1145 := n4_
           have HO1150 := n5_
           have HO1153 := n6_
           have HO1160 := n7_
           have HO1165 := n8_
           have BK1058 := n9_
           have BK1059 := n10_
           have BK1086 := n11_
           have BK1103 := n12_
           have BK1113 := n13_
           have BK1166 := n14_
           have HB := n15_
           clear n0_ n1_ n2_ n3_ n4_ n5_ n6_ n7_ n8_ n9_ n10_ n11_ n12_ n13_ n14_ n15_
           (try clear hb)
           (try clear hb2)
           (try clear hk)
           (try clear hi)
           (try clear ho0)
           (try clear ho1)
           refine hK.out _ _ ⟨bx_ BK1058.out 0, bx_ BK1058.out 1, bx_ BK1058.out 2, bx_ BK1058.out 3, bx_ BK1058.out 4, bx_ BK1059.out 0, bx_ BK1059.out 1, bx_ BK1059.out 2, bx_ BK1059.out 3⟩ (fun hHeld => ?_)
           clear hK K
           refine norm_ (a' := ?_) ?_ ?_
           rotate_left
           ·
            show Act.put _ (some 79) _ = _
            simp only [fr_]
            rfl
           exact norm_ (by simp only [putAll, Act.put, List.setIfInBounds_toArray, List.set_cons_zero, List.set_cons_succ]) (hCont (.slice Ao135 t1143.length co135, .slice Ao136 t1148.length co136, gbz1144, .slice Ao137 t1151.length co137, gbz1152, v1159, v1164, gbz1159, gb1166) _ ⟨hHeld, (by (with_reducible repeat (first | apply Kd.R_alloc | apply Kd.R_drewN | apply Kd.R_drew)); exact Kd.R_mono HO1080.out (fun _ hk => ⟨hk.1.1.1.1, ⟨hk.1.1.1.2.1, ⟨hk.1.1.1.2.2.1, ⟨hk.1.1.1.2.2.2.1, ⟨hk.1.1.1.2.2.2.2.1, ⟨hk.1.1.1.2.2.2.2.2, ⟨hk.1.1.2, ⟨hk.1.2, hk.2⟩⟩⟩⟩⟩⟩⟩⟩)), (by (with_reducible repeat (first | apply Kd.S_alloc | apply Kd.S_drewN | apply Kd.S_drew)); exact Kd.S_mono HO1085.out (fun _ hk => ⟨hk.1.1.1.1, ⟨hk.1.1.1.2.1, ⟨hk.1.1.1.2.2.1, ⟨hk.1.1.1.2.2.2.1, ⟨hk.1.1.1.2.2.2.2.1, ⟨hk.1.1.1.2.2.2.2.2.1, ⟨hk.1.1.1.2.2.2.2.2.2.1, ⟨hk.1.1.1.2.2.2.2.2.2.2, ⟨hk.1.1.2, ⟨hk.1.2, hk.2⟩⟩⟩⟩⟩⟩⟩⟩⟩⟩)), (by (with_reducible repeat (first | apply Kd.R_alloc | apply Kd.R_drewN | apply Kd.R_drew)); exact Kd.R_mono HO1107.out (fun _ hk => ⟨hk.1.1.1.1, ⟨hk.1.1.1.2.1, ⟨hk.1.1.1.2.2, ⟨hk.1.1.2, ⟨hk.1.2, hk.2⟩⟩⟩⟩⟩)), (by (with_reducible repeat (first | apply Kd.S_alloc | apply Kd.S_drewN | apply Kd.S_drew)); exact Kd.S_mono HO1112.out (fun _ hk => ⟨hk.1.1.1.1, ⟨hk.1.1.1.2.1, ⟨hk.1.1.1.2.2.1, ⟨hk.1.1.1.2.2.2.1, ⟨hk.1.1.1.2.2.2.2, ⟨hk.1.1.2, ⟨hk.1.2, hk.2⟩⟩⟩⟩⟩⟩⟩)), (by (with_reducible repeat (first | apply Kd.R_alloc | apply Kd.R_drewN | apply Kd.R_drew)); exact Kd.R_mono HO1145.out (fun _ hk => ⟨hk.1.1.2, ⟨hk.1.2, hk.2⟩⟩)), (by (with_reducible repeat (first | apply Kd.S_alloc | apply Kd.S_drewN | apply Kd.S_drew)); exact Kd.S_mono HO1150.out (fun _ hk => ⟨hk.1.1.1.1, ⟨hk.1.1.2, ⟨hk.1.1.1.2, ⟨hk.1.2, hk.2⟩⟩⟩⟩)), (by (with_reducible repeat (first | apply Kd.R_alloc | apply Kd.R_drewN | apply Kd.R_drew)); exact Kd.R_mono HO1153.out (fun _ hk => ⟨hk.1.2, hk.2⟩)), (by (with_reducible repeat (first | apply Kd.R_alloc | apply Kd.R_drewN | apply Kd.R_drew)); exact Kd.R_mono HO1160.out (fun _ hk => hk.2)), (by (with_reducible repeat (first | apply Kd.S_alloc | apply Kd.S_drewN | apply Kd.S_drew)); exact Kd.S_mono HO1165.out (fun _ hk => ⟨hk.1.1, ⟨hk.2, hk.1.2⟩⟩)), (pb_ BK1058.out), (pb_ BK1059.out), (pb_ BK1086.out), (pb_ BK1103.out), (pb_ BK1113.out), (pb_ BK1166.out), GW1166.out, GE1166.out, NB1058_1166.out, NB1166_1058.out, NB1059_1166.out, NB1166_1059.out, NB1086_1166.out, NB1166_1086.out, NB1103_1166.out, NB1166_1103.out, NB1113_1166.out, NB1166_1113.out, (by repeat (first | (with_reducible first | exact HB.out | apply ba_ | apply bn_ | apply bd_ | refine below_set ?_ GE1058.out | refine below_set ?_ GE1059.out | refine below_set ?_ GE1086.out | refine below_set ?_ GE1103.out | refine below_set ?_ GE1113.out | refine below_set ?_ GE1166.out) | exact HB.out))⟩)
          skip
          refine box_step ?hg (N := 13) ?hd (cs := #[.int .i64 0, .slice none 0 0, .int .i64 0, .int .i64 0, .slice none 0 0]) (t := 75) ?hr ?_; (case hd => rfl); (case hg => rfl); (case hr => first | (go_simp; done) | (go_simp; rfl))
          intro gb1166 hg w133 hbox hb
          have n0_ := Aside0.mk (Kd.R_below (rp_ HO1080.out) hb)
          have n1_ := Aside0.mk (Kd.S_below (sp_ HO1085.out) hb)
          have n2_ := Aside0.mk (Kd.R_below (rp_ HO1107.out) hb)
          have n3_ := Aside0.mk (Kd.S_below (sp_ HO1112.out) hb)
          have n4_ := Aside0.mk (Kd.R_below (rp_ HO1145.out) hb)
          have n5_ := Aside0.mk (Kd.S_below (sp_ HO1150.out) hb)
          have n6_ := Aside0.mk (bb_ BK1058.out hb)
          have n7_ := Aside0.mk (bb_ BK1059.out hb)
          have n8_ := Aside0.mk (bb_ BK1086.out hb)
          have n9_ := Aside0.mk (bb_ BK1103.out hb)
          have n10_ := Aside0.mk (bb_ BK1113.out hb)
          have n11_ := Aside0.mk (below_step (by repeat (first | (with_reducible first | exact HB.out | apply ba_ | apply bn_ | apply bd_ | refine below_set ?_ GE1058.out | refine below_set ?_ GE1059.out | refine below_set ?_ GE1086.out | refine below_set ?_ GE1103.out | refine below_set ?_ GE1113.out) | exact HB.out)) hb)
          have n12_ := Aside0.mk (hbox)
          have n13_ := Aside0.mk ((by rw [hg]; exact (below_size (by repeat (first | (with_reducible first | exact HB.out | apply ba_ | apply bn_ | apply bd_ | refine below_set ?_ GE1058.out | refine below_set ?_ GE1059.out | refine below_set ?_ GE1086.out | refine below_set ?_ GE1103.out | refine below_set ?_ GE1113.out) | exact HB.out))) : w.heap.size ≤ gb1166))
          have n14_ := Aside0.mk ((by rw [hg]; exact (below_size (by repeat (first | (with_reducible first | exact HB.out | apply ba_ | apply bn_ | apply bd_ | refine below_set ?_ GE1058.out | refine below_set ?_ GE1059.out | refine below_set ?_ GE1086.out | refine below_set ?_ GE1103.out | refine below_set ?_ GE1113.out) | exact HB.out))) : w.heap.size ≤ gb1166))
          have n15_ := Aside0.mk (nl_ BK1058.out hg)
          have n16_ := Aside0.mk (ng_ BK1058.out hg)
          have n17_ := Aside0.mk (nl_ BK1059.out hg)
          have n18_ := Aside0.mk (ng_ BK1059.out hg)
          have n19_ := Aside0.mk (nl_ BK1086.out hg)
          have n20_ := Aside0.mk (ng_ BK1086.out hg)
          have n21_ := Aside0.mk (nl_ BK1103.out hg)
          have n22_ := Aside0.mk (ng_ BK1103.out hg)
          have n23_ := Aside0.mk (nl_ BK1113.out hg)
          have n24_ := Aside0.mk (ng_ BK1113.out hg)
          clear HO1080 HO1085 HO1107 HO1112 HO1145 HO1150 BK1058 BK1059 BK1086 BK1103 BK1113 HB
          have HO1080 := n0_
          have HO1085 := n1_
          have HO1107 := n2_
          have HO1112 := n3_
          have HO1145 := n4_
          have HO1150 := n5_
          have BK1058 := n6_
          have BK1059 := n7_
          have BK1086 := n8_
          have BK1103 := n9_
          have BK1113 := n10_
          have HB := n11_
          have BK1166 := n12_
          have GW1166 := n13_
          have GE1166 := n14_
          have NB1058_1166 := n15_
          have NB1166_1058 := n16_
          have NB1059_1166 := n17_
          have NB1166_1059 := n18_
          have NB1086_1166 := n19_
          have NB1166_1086 := n20_
          have NB1103_1166 := n21_
          have NB1166_1103 := n22_
          have NB1113_1166 := n23_
          have NB1166_1113 := n24_
          clear n0_ n1_ n2_ n3_ n4_ n5_ n6_ n7_ n8_ n9_ n10_ n11_ n12_ n13_ n14_ n15_ n16_ n17_ n18_ n19_ n20_ n21_ n22_ n23_ n24_ hb hbox hg
          refine hK.out _ _ ⟨bx_ BK1058.out 0, bx_ BK1058.out 1, bx_ BK1058.out 2, bx_ BK1058.out 3, bx_ BK1058.out 4, bx_ BK1059.out 0, bx_ BK1059.out 1, bx_ BK1059.out 2, bx_ BK1059.out 3⟩ (fun hHeld => ?_)
          clear hK K
          refine norm_ (a' := ?_) ?_ ?_
          rotate_left
          ·
           show Act.put _ (some 13) _ = _
           simp only [fr_]
           rfl
          refine one_ (i := 3) (N := some 78) #[t_,t_,t_,t_,f_,t_,f_] rfl rfl (by kernel_rfl) (by decide) (fun K hK => ?_)
          refine goes_ Try.func24 (by kernel_rfl) rfl #[.agg #[.slice A1_0 l1_0.length c1_0, .int .i64 a1_1, .int .i64 a1_2, .string a1_3]] (by rfl) rfl rfl (by (try simp only [mp_]); first | done | rfl | (simp only [List.length_drop, List.length_take]; rfl)) ?_
          with_reducible refine (laws_toAlarm.calls k _ _ l1_0 a1_1 a1_2 a1_3 t1151 t1154 t1155 t1156 _ ?side1 ?side2 A43.out).mono ?_
          (case side1 => repeat (first | exact (Kd.C_below HR1_0.out HB.out) | (with_reducible first | refine ca_ ?_ _ | refine cn_ ?_ _ | refine cd_ ?_)))
          (case side2 => exact HC1_0.out)
          rintro e w134 ⟨v1152, rfl, ho0, hb⟩
          refine ⟨_, rfl, ?_⟩
          obtain ⟨gbz1152, hz1152⟩ := Kd.R_name ho0
          have n0_ := Aside0.mk (Kd.R_below (Kd.R_ltz hz1152 (rp_ HO1080.out)) hb)
          have n1_ := Aside0.mk (Kd.S_below (Kd.S_ltz hz1152 (sp_ HO1085.out)) hb)
          have n2_ := Aside0.mk (Kd.R_below (Kd.R_ltz hz1152 (rp_ HO1107.out)) hb)
          have n3_ := Aside0.mk (Kd.S_below (Kd.S_ltz hz1152 (sp_ HO1112.out)) hb)
          have n4_ := Aside0.mk (Kd.R_below (Kd.R_ltz hz1152 (rp_ HO1145.out)) hb)
          have n5_ := Aside0.mk (Kd.S_below (Kd.S_ltz hz1152 (sp_ HO1150.out)) hb)
          have n6_ := Aside0.mk (Kd.R_lower (Kd.R_gez hz1152 ho0) (below_size (by repeat (first | (with_reducible first | exact HB.out | apply ba_ | apply bn_ | apply bd_ | refine below_set ?_ GE1058.out | refine below_set ?_ GE1059.out | refine below_set ?_ GE1086.out | refine below_set ?_ GE1103.out | refine below_set ?_ GE1113.out | refine below_set ?_ GE1166.out) | exact HB.out))))
          have n7_ := Aside0.mk (bb_ BK1058.out hb)
          have n8_ := Aside0.mk (bb_ BK1059.out hb)
          have n9_ := Aside0.mk (bb_ BK1086.out hb)
          have n10_ := Aside0.mk (bb_ BK1103.out hb)
          have n11_ := Aside0.mk (bb_ BK1113.out hb)
          have n12_ := Aside0.mk (bb_ BK1166.out hb)
          have n13_ := Aside0.mk (below_step (by repeat (first | (with_reducible first | exact HB.out | apply ba_ | apply bn_ | apply bd_ | refine below_set ?_ GE1058.out | refine below_set ?_ GE1059.out | refine below_set ?_ GE1086.out | refine below_set ?_ GE1103.out | refine below_set ?_ GE1113.out | refine below_set ?_ GE1166.out) | exact HB.out)) hb)
          clear HO1080 HO1085 HO1107 HO1112 HO1145 HO1150 BK1058 BK1059 BK1086 BK1103 BK1113 BK1166 HB
          have HO1080 := n0_
          have HO1085 := n1_
          have HO1107 := n2_
          have HO1112 := n3_
          have HO1145 := n4_
          have HO1150 := n5_
          have HO1153 := n6_
          have BK1058 := n7_
          have BK1059 := n8_
          have BK1086 := n9_
          have BK1103 := n10_
          have BK1113 := n11_
          have BK1166 := n12_
          have HB := n13_
          clear n0_ n1_ n2_ n3_ n4_ n5_ n6_ n7_ n8_ n9_ n10_ n11_ n12_ n13_
          (try clear hb)
          (try clear hb2)
          (try clear hk)
          (try clear hi)
          (try clear ho0)
          obtain ⟨Ao135, co135, eo135⟩ := Kd.R_slice HO1145.out
          (first | subst eo135 | (injection eo135 with f1_ f2_ f3_; have f4_ := f1_.symm; have f5_ := f3_.symm; clear f1_ f2_ f3_; subst f4_; subst f5_))
          obtain ⟨Ao136, co136, eo136⟩ := Kd.S_slice HO1150.out
          (first | subst eo136 | (injection eo136 with f1_ f2_ f3_; have f4_ := f1_.symm; have f5_ := f3_.symm; clear f1_ f2_ f3_; subst f4_; subst f5_))
          obtain ⟨Ao137, co137, eo137⟩ := Kd.R_slice HO1153.out
          (first | subst eo137 | (injection eo137 with f1_ f2_ f3_; have f4_ := f1_.symm; have f5_ := f3_.symm; clear f1_ f2_ f3_; subst f4_; subst f5_))
          refine hK.out _ _ ⟨bx_ BK1058.out 0, bx_ BK1058.out 1, bx_ BK1058.out 2, bx_ BK1058.out 3, bx_ BK1058.out 4, bx_ BK1059.out 0, bx_ BK1059.out 1, bx_ BK1059.out 2, bx_ BK1059.out 3⟩ (fun hHeld => ?_)
          clear hK K
          refine norm_ (a' := ?_) ?_ ?_
          rotate_left
          ·
           show Act.put _ (some 78) _ = _
           simp only [fr_]
           rfl
          refine one_ (i := 4) (N := some 79) #[t_,t_,t_,t_,t_,t_,f_] rfl rfl (by kernel_rfl) (by decide) (fun K hK => ?_)
          refine goes_ Try.func57 (by kernel_rfl) rfl #[.agg #[.int .i64 t1142, .slice Ao135 t1143.length co135, .int .i64 t1146, .int .i64 t1147, .slice Ao136 t1148.length co136], .agg #[.slice Ao137 t1151.length co137, .int .i64 t1154, .int .i64 t1155, .string t1156]] (by rfl) rfl rfl (by (try simp only [mp_]); first | done | rfl | (simp only [List.length_drop, List.length_take]; rfl)) ?_
          with_reducible refine (impl_JoinIn.calls k t1142 _ _ t1143 t1146 t1147 _ _ t1148 _ _ t1151 t1154 t1155 t1156 t1157 t1158 t1161 t1162 t1163 _ ?side1 ?side2 ?side3 ?side4 ?side5 ?side6 A44.out).mono ?_
          (case side1 => repeat (first | exact (Kd.R_reads' HO1145.out).2.2 | (with_reducible first | refine ca_ ?_ _ | refine cn_ ?_ _ | refine cd_ ?_)))
          (case side2 => exact (Kd.R_reads' HO1145.out).2.1)
          (case side3 => repeat (first | exact (Kd.S_reads' HO1150.out).2.2 | (with_reducible first | refine ca_ ?_ _ | refine cn_ ?_ _ | refine cd_ ?_)))
          (case side4 => exact (Kd.S_reads' HO1150.out).2.1)
          (case side5 => repeat (first | exact (Kd.R_reads' HO1153.out).2.2 | (with_reducible first | refine ca_ ?_ _ | refine cn_ ?_ _ | refine cd_ ?_)))
          (case side6 => exact (Kd.R_reads' HO1153.out).2.1)
          rintro e w138 ⟨v1159, v1164, rfl, ho0, ho1, hb⟩
          refine ⟨_, rfl, ?_⟩
          obtain ⟨gbz1159, hz1159⟩ := Kd.R_name ho0
          have n0_ := Aside0.mk (Kd.R_below (Kd.R_ltz hz1159 (rp_ HO1080.out)) hb)
          have n1_ := Aside0.mk (Kd.S_below (Kd.S_ltz hz1159 (sp_ HO1085.out)) hb)
          have n2_ := Aside0.mk (Kd.R_below (Kd.R_ltz hz1159 (rp_ HO1107.out)) hb)
          have n3_ := Aside0.mk (Kd.S_below (Kd.S_ltz hz1159 (sp_ HO1112.out)) hb)
          have n4_ := Aside0.mk (Kd.R_below (Kd.R_ltz hz1159 (rp_ HO1145.out)) hb)
          have n5_ := Aside0.mk (Kd.S_below (Kd.S_ltz hz1159 (sp_ HO1150.out)) hb)
          have n6_ := Aside0.mk (Kd.R_below (Kd.R_ltz hz1159 (rp_ HO1153.out)) hb)
          have n7_ := Aside0.mk (Kd.R_lower (Kd.R_gez hz1159 ho0) (below_size (by repeat (first | (with_reducible first | exact HB.out | apply ba_ | apply bn_ | apply bd_ | refine below_set ?_ GE1058.out | refine below_set ?_ GE1059.out | refine below_set ?_ GE1086.out | refine below_set ?_ GE1103.out | refine below_set ?_ GE1113.out | refine below_set ?_ GE1166.out) | exact HB.out))))
          have n8_ := Aside0.mk (Kd.S_lower (Kd.S_newB (Kd.S_gez hz1159 ho1) (g := gb1103) (o := .cells #[.slice Ao87 t1097.length co87, .int .i64 t1100, .int .i64 t1101, .string t1102] 44 (0, 0)) (pb_ BK1103.out)) (below_size (by repeat (first | (with_reducible first | exact HB.out | apply ba_ | apply bn_ | apply bd_ | refine below_set ?_ GE1058.out | refine below_set ?_ GE1059.out | refine below_set ?_ GE1086.out | refine below_set ?_ GE1103.out | refine below_set ?_ GE1113.out | refine below_set ?_ GE1166.out) | exact HB.out))))
          have n9_ := Aside0.mk (bb_ BK1058.out hb)
          have n10_ := Aside0.mk (bb_ BK1059.out hb)
          have n11_ := Aside0.mk (bb_ BK1086.out hb)
          have n12_ := Aside0.mk (bb_ BK1103.out hb)
          have n13_ := Aside0.mk (bb_ BK1113.out hb)
          have n14_ := Aside0.mk (bb_ BK1166.out hb)
          have n15_ := Aside0.mk (below_step (by repeat (first | (with_reducible first | exact HB.out | apply ba_ | apply bn_ | apply bd_ | refine below_set ?_ GE1058.out | refine below_set ?_ GE1059.out | refine below_set ?_ GE1086.out | refine below_set ?_ GE1103.out | refine below_set ?_ GE1113.out | refine below_set ?_ GE1166.out) | exact HB.out)) hb)
          clear HO1080 HO1085 HO1107 HO1112 HO1145 HO1150 HO1153 BK1058 BK1059 BK1086 BK1103 BK1113 BK1166 HB
          have HO1080 := n0_
          have HO1085 := n1_
          have HO1107 := n2_
          have HO1112 := n3_
          have HO1145 := n4_
          have HO1150 := n5_
          have HO1153 := n6_
          have HO1160 := n7_
          have HO1165 := n8_
          have BK1058 := n9_
          have BK1059 := n10_
          have BK1086 := n11_
          have BK1103 := n12_
          have BK1113 := n13_
          have BK1166 := n14_
          have HB := n15_
          clear n0_ n1_ n2_ n3_ n4_ n5_ n6_ n7_ n8_ n9_ n10_ n11_ n12_ n13_ n14_ n15_
          (try clear hb)
          (try clear hb2)
          (try clear hk)
          (try clear hi)
          (try clear ho0)
          (try clear ho1)
          refine hK.out _ _ ⟨bx_ BK1058.out 0, bx_ BK1058.out 1, bx_ BK1058.out 2, bx_ BK1058.out 3, bx_ BK1058.out 4, bx_ BK1059.out 0, bx_ BK1059.out 1, bx_ BK1059.out 2, bx_ BK1059.out 3⟩ (fun hHeld => ?_)
          clear hK K
          refine norm_ (a' := ?_) ?_ ?_
          rotate_left
          ·
           show Act.put _ (some 79) _ = _
           simp only [fr_]
           rfl
          exact norm_ (by simp only [putAll, Act.put, List.setIfInBounds_toArray, List.set_cons_zero, List.set_cons_succ]) (hCont (.slice Ao135 t1143.length co135, .slice Ao136 t1148.length co136, gbz1144, .slice Ao137 t1151.length co137, gbz1152, v1159, v1164, gbz1159, gb1166) _ ⟨hHeld, (by (with_reducible repeat (first | apply Kd.R_alloc | apply Kd.R_drewN | apply Kd.R_drew)); exact Kd.R_mono HO1080.out (fun _ hk => ⟨hk.1.1.1.1, ⟨hk.1.1.1.2.1, ⟨hk.1.1.1.2.2.1, ⟨hk.1.1.1.2.2.2.1, ⟨hk.1.1.1.2.2.2.2.1, ⟨hk.1.1.1.2.2.2.2.2, ⟨hk.1.1.2, ⟨hk.1.2, hk.2⟩⟩⟩⟩⟩⟩⟩⟩)), (by (with_reducible repeat (first | apply Kd.S_alloc | apply Kd.S_drewN | apply Kd.S_drew)); exact Kd.S_mono HO1085.out (fun _ hk => ⟨hk.1.1.1.1, ⟨hk.1.1.1.2.1, ⟨hk.1.1.1.2.2.1, ⟨hk.1.1.1.2.2.2.1, ⟨hk.1.1.1.2.2.2.2.1, ⟨hk.1.1.1.2.2.2.2.2.1, ⟨hk.1.1.1.2.2.2.2.2.2.1, ⟨hk.1.1.1.2.2.2.2.2.2.2, ⟨hk.1.1.2, ⟨hk.1.2, hk.2⟩⟩⟩⟩⟩⟩⟩⟩⟩⟩)), (by (with_reducible repeat (first | apply Kd.R_alloc | apply Kd.R_drewN | apply Kd.R_drew)); exact Kd.R_mono HO1107.out (fun _ hk => ⟨hk.1.1.1.1, ⟨hk.1.1.1.2.1, ⟨hk.1.1.1.2.2, ⟨hk.1.1.2, ⟨hk.1.2, hk.2⟩⟩⟩⟩⟩)), (by (with_reducible repeat (first | apply Kd.S_alloc | apply Kd.S_drewN | apply Kd.S_drew)); exact Kd.S_mono HO1112.out (fun _ hk => ⟨hk.1.1.1.1, ⟨hk.1.1.1.2.1, ⟨hk.1.1.1.2.2.1, ⟨hk.1.1.1.2.2.2.1, ⟨hk.1.1.1.2.2.2.2, ⟨hk.1.1.2, ⟨hk.1.2, hk.2⟩⟩⟩⟩⟩⟩⟩)), (by (with_reducible repeat (first | apply Kd.R_alloc | apply Kd.R_drewN | apply Kd.R_drew)); exact Kd.R_mono HO1145.out (fun _ hk => ⟨hk.1.1.2, ⟨hk.1.2, hk.2⟩⟩)), (by (with_reducible repeat (first | apply Kd.S_alloc | apply Kd.S_drewN | apply Kd.S_drew)); exact Kd.S_mono HO1150.out (fun _ hk => ⟨hk.1.1.1.1, ⟨hk.1.1.2, ⟨hk.1.1.1.2, ⟨hk.1.2, hk.2⟩⟩⟩⟩)), (by (with_reducible repeat (first | apply Kd.R_alloc | apply Kd.R_drewN | apply Kd.R_drew)); exact Kd.R_mono HO1153.out (fun _ hk => ⟨hk.1.2, hk.2⟩)), (by (with_reducible repeat (first | apply Kd.R_alloc | apply Kd.R_drewN | apply Kd.R_drew)); exact Kd.R_mono HO1160.out (fun _ hk => hk.2)), (by (with_reducible repeat (first | apply Kd.S_alloc | apply Kd.S_drewN | apply Kd.S_drew)); exact Kd.S_mono HO1165.out (fun _ hk => ⟨hk.1.1, ⟨hk.2, hk.1.2⟩⟩)), (pb_ BK1058.out), (pb_ BK1059.out), (pb_ BK1086.out), (pb_ BK1103.out), (pb_ BK1113.out), (pb_ BK1166.out), GW1166.out, GE1166.out, NB1058_1166.out, NB1166_1058.out, NB1059_1166.out, NB1166_1059.out, NB1086_1166.out, NB1166_1086.out, NB1103_1166.out, NB1166_1103.out, NB1113_1166.out, NB1166_1113.out, (by repeat (first | (with_reducible first | exact HB.out | apply ba_ | apply bn_ | apply bd_ | refine below_set ?_ GE1058.out | refine below_set ?_ GE1059.out | refine below_set ?_ GE1086.out | refine below_set ?_ GE1103.out | refine below_set ?_ GE1113.out | refine below_set ?_ GE1166.out) | exact HB.out))⟩)
         skip
         refine box_step ?hg (N := 13) ?hd (cs := #[.int .i64 0, .slice none 0 0, .int .i64 0, .int .i64 0, .slice none 0 0]) (t := 75) ?hr ?_; (case hd => rfl); (case hg => rfl); (case hr => first | (go_simp; done) | (go_simp; rfl))
         intro gb1166 hg w132 hbox hb
         have n0_ := Aside0.mk (Kd.R_below (rp_ HO1080.out) hb)
         have n1_ := Aside0.mk (Kd.S_below (sp_ HO1085.out) hb)
         have n2_ := Aside0.mk (Kd.R_below (rp_ HO1107.out) hb)
         have n3_ := Aside0.mk (Kd.S_below (sp_ HO1112.out) hb)
         have n4_ := Aside0.mk (bb_ BK1058.out hb)
         have n5_ := Aside0.mk (bb_ BK1059.out hb)
         have n6_ := Aside0.mk (bb_ BK1086.out hb)
         have n7_ := Aside0.mk (bb_ BK1103.out hb)
         have n8_ := Aside0.mk (bb_ BK1113.out hb)
         have n9_ := Aside0.mk (below_step (by repeat (first | (with_reducible first | exact HB.out | apply ba_ | apply bn_ | apply bd_ | refine below_set ?_ GE1058.out | refine below_set ?_ GE1059.out | refine below_set ?_ GE1086.out | refine below_set ?_ GE1103.out | refine below_set ?_ GE1113.out) | exact HB.out)) hb)
         have n10_ := Aside0.mk (hbox)
         have n11_ := Aside0.mk ((by rw [hg]; exact (below_size (by repeat (first | (with_reducible first | exact HB.out | apply ba_ | apply bn_ | apply bd_ | refine below_set ?_ GE1058.out | refine below_set ?_ GE1059.out | refine below_set ?_ GE1086.out | refine below_set ?_ GE1103.out | refine below_set ?_ GE1113.out) | exact HB.out))) : w.heap.size ≤ gb1166))
         have n12_ := Aside0.mk ((by rw [hg]; exact (below_size (by repeat (first | (with_reducible first | exact HB.out | apply ba_ | apply bn_ | apply bd_ | refine below_set ?_ GE1058.out | refine below_set ?_ GE1059.out | refine below_set ?_ GE1086.out | refine below_set ?_ GE1103.out | refine below_set ?_ GE1113.out) | exact HB.out))) : w.heap.size ≤ gb1166))
         have n13_ := Aside0.mk (nl_ BK1058.out hg)
         have n14_ := Aside0.mk (ng_ BK1058.out hg)
         have n15_ := Aside0.mk (nl_ BK1059.out hg)
         have n16_ := Aside0.mk (ng_ BK1059.out hg)
         have n17_ := Aside0.mk (nl_ BK1086.out hg)
         have n18_ := Aside0.mk (ng_ BK1086.out hg)
         have n19_ := Aside0.mk (nl_ BK1103.out hg)
         have n20_ := Aside0.mk (ng_ BK1103.out hg)
         have n21_ := Aside0.mk (nl_ BK1113.out hg)
         have n22_ := Aside0.mk (ng_ BK1113.out hg)
         clear HO1080 HO1085 HO1107 HO1112 BK1058 BK1059 BK1086 BK1103 BK1113 HB
         have HO1080 := n0_
         have HO1085 := n1_
         have HO1107 := n2_
         have HO1112 := n3_
         have BK1058 := n4_
         have BK1059 := n5_
         have BK1086 := n6_
         have BK1103 := n7_
         have BK1113 := n8_
         have HB := n9_
         have BK1166 := n10_
         have GW1166 := n11_
         have GE1166 := n12_
         have NB1058_1166 := n13_
         have NB1166_1058 := n14_
         have NB1059_1166 := n15_
         have NB1166_1059 := n16_
         have NB1086_1166 := n17_
         have NB1166_1086 := n18_
         have NB1103_1166 := n19_
         have NB1166_1103 := n20_
         have NB1113_1166 := n21_
         have NB1166_1113 := n22_
         clear n0_ n1_ n2_ n3_ n4_ n5_ n6_ n7_ n8_ n9_ n10_ n11_ n12_ n13_ n14_ n15_ n16_ n17_ n18_ n19_ n20_ n21_ n22_ hb hbox hg
         refine hK.out _ _ ⟨bx_ BK1058.out 0, bx_ BK1058.out 1, bx_ BK1058.out 2, bx_ BK1058.out 3, bx_ BK1058.out 4, bx_ BK1059.out 0, bx_ BK1059.out 1, bx_ BK1059.out 2, bx_ BK1059.out 3⟩ (fun hHeld => ?_)
         clear hK K
         refine norm_ (a' := ?_) ?_ ?_
         rotate_left
         ·
          show Act.put _ (some 13) _ = _
          simp only [fr_]
          rfl
         refine one_ (i := 1) (N := some 76) #[t_,t_,t_,f_,f_,t_,f_] rfl rfl (by kernel_rfl) (by decide) (fun K hK => ?_)
         refine goes_ Try.func51 (by kernel_rfl) rfl #[.agg #[.int .i64 a0_0, .slice A0_1 l0_1.length c0_1, .int .i64 a0_2, .int .i64 a0_3, .slice A0_4 l0_4.length c0_4]] (by rfl) rfl rfl (by (try simp only [mp_]); first | done | rfl | (simp only [List.length_drop, List.length_take]; rfl)) ?_
         with_reducible refine (laws_toGroup.calls k a0_0 _ _ l0_1 a0_2 a0_3 _ _ l0_4 t1142 t1143 t1146 t1147 t1148 _ ?side1 ?side2 ?side3 ?side4 A42.out).mono ?_
         (case side1 => repeat (first | exact (Kd.C_below HR0_1.out HB.out) | (with_reducible first | refine ca_ ?_ _ | refine cn_ ?_ _ | refine cd_ ?_)))
         (case side2 => exact HC0_1.out)
         (case side3 => repeat (first | exact (Kd.C_below HR0_4.out HB.out) | (with_reducible first | refine ca_ ?_ _ | refine cn_ ?_ _ | refine cd_ ?_)))
         (case side4 => exact HC0_4.out)
         rintro e w133 ⟨v1144, v1149, rfl, ho0, ho1, hb⟩
         refine ⟨_, rfl, ?_⟩
         obtain ⟨gbz1144, hz1144⟩ := Kd.R_name ho0
         have n0_ := Aside0.mk (Kd.R_below (Kd.R_ltz hz1144 (rp_ HO1080.out)) hb)
         have n1_ := Aside0.mk (Kd.S_below (Kd.S_ltz hz1144 (sp_ HO1085.out)) hb)
         have n2_ := Aside0.mk (Kd.R_below (Kd.R_ltz hz1144 (rp_ HO1107.out)) hb)
         have n3_ := Aside0.mk (Kd.S_below (Kd.S_ltz hz1144 (sp_ HO1112.out)) hb)
         have n4_ := Aside0.mk (Kd.R_lower (Kd.R_gez hz1144 ho0) (below_size (by repeat (first | (with_reducible first | exact HB.out | apply ba_ | apply bn_ | apply bd_ | refine below_set ?_ GE1058.out | refine below_set ?_ GE1059.out | refine below_set ?_ GE1086.out | refine below_set ?_ GE1103.out | refine below_set ?_ GE1113.out | refine below_set ?_ GE1166.out) | exact HB.out))))
         have n5_ := Aside0.mk (Kd.S_lower (Kd.S_newB (Kd.S_gez hz1144 ho1) (g := gb1103) (o := .cells #[.slice Ao87 t1097.length co87, .int .i64 t1100, .int .i64 t1101, .string t1102] 44 (0, 0)) (pb_ BK1103.out)) (below_size (by repeat (first | (with_reducible first | exact HB.out | apply ba_ | apply bn_ | apply bd_ | refine below_set ?_ GE1058.out | refine below_set ?_ GE1059.out | refine below_set ?_ GE1086.out | refine below_set ?_ GE1103.out | refine below_set ?_ GE1113.out | refine below_set ?_ GE1166.out) | exact HB.out))))
         have n6_ := Aside0.mk (bb_ BK1058.out hb)
         have n7_ := Aside0.mk (bb_ BK1059.out hb)
         have n8_ := Aside0.mk (bb_ BK1086.out hb)
         have n9_ := Aside0.mk (bb_ BK1103.out hb)
         have n10_ := Aside0.mk (bb_ BK1113.out hb)
         have n11_ := Aside0.mk (bb_ BK1166.out hb)
         have n12_ := Aside0.mk (below_step (by repeat (first | (with_reducible first | exact HB.out | apply ba_ | apply bn_ | apply bd_ | refine below_set ?_ GE1058.out | refine below_set ?_ GE1059.out | refine below_set ?_ GE1086.out | refine below_set ?_ GE1103.out | refine below_set ?_ GE1113.out | refine below_set ?_ GE1166.out) | exact HB.out)) hb)
         clear HO1080 HO1085 HO1107 HO1112 BK1058 BK1059 BK1086 BK1103 BK1113 BK1166 HB
         have HO1080 := n0_
         have HO1085 := n1_
         have HO1107 := n2_
         have HO1112 := n3_
         have HO1145 := n4_
         have HO1150 := n5_
         have BK1058 := n6_
         have BK1059 := n7_
         have BK1086 := n8_
         have BK1103 := n9_
         have BK1113 := n10_
         have BK1166 := n11_
         have HB := n12_
         clear n0_ n1_ n2_ n3_ n4_ n5_ n6_ n7_ n8_ n9_ n10_ n11_ n12_
         (try clear hb)
         (try clear hb2)
         (try clear hk)
         (try clear hi)
         (try clear ho0)
         (try clear ho1)
         refine hK.out _ _ ⟨bx_ BK1058.out 0, bx_ BK1058.out 1, bx_ BK1058.out 2, bx_ BK1058.out 3, bx_ BK1058.out 4, bx_ BK1059.out 0, bx_ BK1059.out 1, bx_ BK1059.out 2, bx_ BK1059.out 3⟩ (fun hHeld => ?_)
         clear hK K
         refine norm_ (a' := ?_) ?_ ?_
         rotate_left
         ·
          show Act.put _ (some 76) _ = _
          simp only [fr_]
          rfl
         refine one_ (i := 3) (N := some 78) #[t_,t_,t_,t_,f_,t_,f_] rfl rfl (by kernel_rfl) (by decide) (fun K hK => ?_)
         refine goes_ Try.func24 (by kernel_rfl) rfl #[.agg #[.slice A1_0 l1_0.length c1_0, .int .i64 a1_1, .int .i64 a1_2, .string a1_3]] (by rfl) rfl rfl (by (try simp only [mp_]); first | done | rfl | (simp only [List.length_drop, List.length_take]; rfl)) ?_
         with_reducible refine (laws_toAlarm.calls k _ _ l1_0 a1_1 a1_2 a1_3 t1151 t1154 t1155 t1156 _ ?side1 ?side2 A43.out).mono ?_
         (case side1 => repeat (first | exact (Kd.C_below HR1_0.out HB.out) | (with_reducible first | refine ca_ ?_ _ | refine cn_ ?_ _ | refine cd_ ?_)))
         (case side2 => exact HC1_0.out)
         rintro e w134 ⟨v1152, rfl, ho0, hb⟩
         refine ⟨_, rfl, ?_⟩
         obtain ⟨gbz1152, hz1152⟩ := Kd.R_name ho0
         have n0_ := Aside0.mk (Kd.R_below (Kd.R_ltz hz1152 (rp_ HO1080.out)) hb)
         have n1_ := Aside0.mk (Kd.S_below (Kd.S_ltz hz1152 (sp_ HO1085.out)) hb)
         have n2_ := Aside0.mk (Kd.R_below (Kd.R_ltz hz1152 (rp_ HO1107.out)) hb)
         have n3_ := Aside0.mk (Kd.S_below (Kd.S_ltz hz1152 (sp_ HO1112.out)) hb)
         have n4_ := Aside0.mk (Kd.R_below (Kd.R_ltz hz1152 (rp_ HO1145.out)) hb)
         have n5_ := Aside0.mk (Kd.S_below (Kd.S_ltz hz1152 (sp_ HO1150.out)) hb)
         have n6_ := Aside0.mk (Kd.R_lower (Kd.R_gez hz1152 ho0) (below_size (by repeat (first | (with_reducible first | exact HB.out | apply ba_ | apply bn_ | apply bd_ | refine below_set ?_ GE1058.out | refine below_set ?_ GE1059.out | refine below_set ?_ GE1086.out | refine below_set ?_ GE1103.out | refine below_set ?_ GE1113.out | refine below_set ?_ GE1166.out) | exact HB.out))))
         have n7_ := Aside0.mk (bb_ BK1058.out hb)
         have n8_ := Aside0.mk (bb_ BK1059.out hb)
         have n9_ := Aside0.mk (bb_ BK1086.out hb)
         have n10_ := Aside0.mk (bb_ BK1103.out hb)
         have n11_ := Aside0.mk (bb_ BK1113.out hb)
         have n12_ := Aside0.mk (bb_ BK1166.out hb)
         have n13_ := Aside0.mk (below_step (by repeat (first | (with_reducible first | exact HB.out | apply ba_ | apply bn_ | apply bd_ | refine below_set ?_ GE1058.out | refine below_set ?_ GE1059.out | refine below_set ?_ GE1086.out | refine below_set ?_ GE1103.out | refine below_set ?_ GE1113.out | refine below_set ?_ GE1166.out) | exact HB.out)) hb)
         clear HO1080 HO1085 HO1107 HO1112 HO1145 HO1150 BK1058 BK1059 BK1086 BK1103 BK1113 BK1166 HB
         have HO1080 := n0_
         have HO1085 := n1_
         have HO1107 := n2_
         have HO1112 := n3_
         have HO1145 := n4_
         have HO1150 := n5_
         have HO1153 := n6_
         have BK1058 := n7_
         have BK1059 := n8_
         have BK1086 := n9_
         have BK1103 := n10_
         have BK1113 := n11_
         have BK1166 := n12_
         have HB := n13_
         clear n0_ n1_ n2_ n3_ n4_ n5_ n6_ n7_ n8_ n9_ n10_ n11_ n12_ n13_
         (try clear hb)
         (try clear hb2)
         (try clear hk)
         (try clear hi)
         (try clear ho0)
         obtain ⟨Ao135, co135, eo135⟩ := Kd.R_slice HO1145.out
         (first | subst eo135 | (injection eo135 with f1_ f2_ f3_; have f4_ := f1_.symm; have f5_ := f3_.symm; clear f1_ f2_ f3_; subst f4_; subst f5_))
         obtain ⟨Ao136, co136, eo136⟩ := Kd.S_slice HO1150.out
         (first | subst eo136 | (injection eo136 with f1_ f2_ f3_; have f4_ := f1_.symm; have f5_ := f3_.symm; clear f1_ f2_ f3_; subst f4_; subst f5_))
         obtain ⟨Ao137, co137, eo137⟩ := Kd.R_slice HO1153.out
         (first | subst eo137 | (injection eo137 with f1_ f2_ f3_; have f4_ := f1_.symm; have f5_ := f3_.symm; clear f1_ f2_ f3_; subst f4_; subst f5_))
         refine hK.out _ _ ⟨bx_ BK1058.out 0, bx_ BK1058.out 1, bx_ BK1058.out 2, bx_ BK1058.out 3, bx_ BK1058.out 4, bx_ BK1059.out 0, bx_ BK1059.out 1, bx_ BK1059.out 2, bx_ BK1059.out 3⟩ (fun hHeld => ?_)
         clear hK K
         refine norm_ (a' := ?_) ?_ ?_
         rotate_left
         ·
          show Act.put _ (some 78) _ = _
          simp only [fr_]
          rfl
         refine one_ (i := 4) (N := some 79) #[t_,t_,t_,t_,t_,t_,f_] rfl rfl (by kernel_rfl) (by decide) (fun K hK => ?_)
         refine goes_ Try.func57 (by kernel_rfl) rfl #[.agg #[.int .i64 t1142, .slice Ao135 t1143.length co135, .int .i64 t1146, .int .i64 t1147, .slice Ao136 t1148.length co136], .agg #[.slice Ao137 t1151.length co137, .int .i64 t1154, .int .i64 t1155, .string t1156]] (by rfl) rfl rfl (by (try simp only [mp_]); first | done | rfl | (simp only [List.length_drop, List.length_take]; rfl)) ?_
         with_reducible refine (impl_JoinIn.calls k t1142 _ _ t1143 t1146 t1147 _ _ t1148 _ _ t1151 t1154 t1155 t1156 t1157 t1158 t1161 t1162 t1163 _ ?side1 ?side2 ?side3 ?side4 ?side5 ?side6 A44.out).mono ?_
         (case side1 => repeat (first | exact (Kd.R_reads' HO1145.out).2.2 | (with_reducible first | refine ca_ ?_ _ | refine cn_ ?_ _ | refine cd_ ?_)))
         (case side2 => exact (Kd.R_reads' HO1145.out).2.1)
         (case side3 => repeat (first | exact (Kd.S_reads' HO1150.out).2.2 | (with_reducible first | refine ca_ ?_ _ | refine cn_ ?_ _ | refine cd_ ?_)))
         (case side4 => exact (Kd.S_reads' HO1150.out).2.1)
         (case side5 => repeat (first | exact (Kd.R_reads' HO1153.out).2.2 | (with_reducible first | refine ca_ ?_ _ | refine cn_ ?_ _ | refine cd_ ?_)))
         (case side6 => exact (Kd.R_reads' HO1153.out).2.1)
         rintro e w138 ⟨v1159, v1164, rfl, ho0, ho1, hb⟩
         refine ⟨_, rfl, ?_⟩
         obtain ⟨gbz1159, hz1159⟩ := Kd.R_name ho0
         have n0_ := Aside0.mk (Kd.R_below (Kd.R_ltz hz1159 (rp_ HO1080.out)) hb)
         have n1_ := Aside0.mk (Kd.S_below (Kd.S_ltz hz1159 (sp_ HO1085.out)) hb)
         have n2_ := Aside0.mk (Kd.R_below (Kd.R_ltz hz1159 (rp_ HO1107.out)) hb)
         have n3_ := Aside0.mk (Kd.S_below (Kd.S_ltz hz1159 (sp_ HO1112.out)) hb)
         have n4_ := Aside0.mk (Kd.R_below (Kd.R_ltz hz1159 (rp_ HO1145.out)) hb)
         have n5_ := Aside0.mk (Kd.S_below (Kd.S_ltz hz1159 (sp_ HO1150.out)) hb)
         have n6_ := Aside0.mk (Kd.R_below (Kd.R_ltz hz1159 (rp_ HO1153.out)) hb)
         have n7_ := Aside0.mk (Kd.R_lower (Kd.R_gez hz1159 ho0) (below_size (by repeat (first | (with_reducible first | exact HB.out | apply ba_ | apply bn_ | apply bd_ | refine below_set ?_ GE1058.out | refine below_set ?_ GE1059.out | refine below_set ?_ GE1086.out | refine below_set ?_ GE1103.out | refine below_set ?_ GE1113.out | refine below_set ?_ GE1166.out) | exact HB.out))))
         have n8_ := Aside0.mk (Kd.S_lower (Kd.S_newB (Kd.S_gez hz1159 ho1) (g := gb1103) (o := .cells #[.slice Ao87 t1097.length co87, .int .i64 t1100, .int .i64 t1101, .string t1102] 44 (0, 0)) (pb_ BK1103.out)) (below_size (by repeat (first | (with_reducible first | exact HB.out | apply ba_ | apply bn_ | apply bd_ | refine below_set ?_ GE1058.out | refine below_set ?_ GE1059.out | refine below_set ?_ GE1086.out | refine below_set ?_ GE1103.out | refine below_set ?_ GE1113.out | refine below_set ?_ GE1166.out) | exact HB.out))))
         have n9_ := Aside0.mk (bb_ BK1058.out hb)
         have n10_ := Aside0.mk (bb_ BK1059.out hb)
         have n11_ := Aside0.mk (bb_ BK1086.out hb)
         have n12_ := Aside0.mk (bb_ BK1103.out hb)
         have n13_ := Aside0.mk (bb_ BK1113.out hb)
         have n14_ := Aside0.mk (bb_ BK1166.out hb)
         have n15_ := Aside0.mk (below_step (by repeat (first | (with_reducible first | exact HB.out | apply ba_ | apply bn_ | apply bd_ | refine below_set ?_ GE1058.out | refine below_set ?_ GE1059.out | refine below_set ?_ GE1086.out | refine below_set ?_ GE1103.out | refine below_set ?_ GE1113.out | refine below_set ?_ GE1166.out) | exact HB.out)) hb)
         clear HO1080 HO1085 HO1107 HO1112 HO1145 HO1150 HO1153 BK1058 BK1059 BK1086 BK1103 BK1113 BK1166 HB
         have HO1080 := n0_
         have HO1085 := n1_
         have HO1107 := n2_
         have HO1112 := n3_
         have HO1145 := n4_
         have HO1150 := n5_
         have HO1153 := n6_
         have HO1160 := n7_
         have HO1165 := n8_
         have BK1058 := n9_
         have BK1059 := n10_
         have BK1086 := n11_
         have BK1103 := n12_
         have BK1113 := n13_
         have BK1166 := n14_
         have HB := n15_
         clear n0_ n1_ n2_ n3_ n4_ n5_ n6_ n7_ n8_ n9_ n10_ n11_ n12_ n13_ n14_ n15_
         (try clear hb)
         (try clear hb2)
         (try clear hk)
         (try clear hi)
         (try clear ho0)
         (try clear ho1)
         refine hK.out _ _ ⟨bx_ BK1058.out 0, bx_ BK1058.out 1, bx_ BK1058.out 2, bx_ BK1058.out 3, bx_ BK1058.out 4, bx_ BK1059.out 0, bx_ BK1059.out 1, bx_ BK1059.out 2, bx_ BK1059.out 3⟩ (fun hHeld => ?_)
         clear hK K
         refine norm_ (a' := ?_) ?_ ?_
         rotate_left
         ·
          show Act.put _ (some 79) _ = _
          simp only [fr_]
          rfl
         exact norm_ (by simp only [putAll, Act.put, List.setIfInBounds_toArray, List.set_cons_zero, List.set_cons_succ]) (hCont (.slice Ao135 t1143.length co135, .slice Ao136 t1148.length co136, gbz1144, .slice Ao137 t1151.length co137, gbz1152, v1159, v1164, gbz1159, gb1166) _ ⟨hHeld, (by (with_reducible repeat (first | apply Kd.R_alloc | apply Kd.R_drewN | apply Kd.R_drew)); exact Kd.R_mono HO1080.out (fun _ hk => ⟨hk.1.1.1.1, ⟨hk.1.1.1.2.1, ⟨hk.1.1.1.2.2.1, ⟨hk.1.1.1.2.2.2.1, ⟨hk.1.1.1.2.2.2.2.1, ⟨hk.1.1.1.2.2.2.2.2, ⟨hk.1.1.2, ⟨hk.1.2, hk.2⟩⟩⟩⟩⟩⟩⟩⟩)), (by (with_reducible repeat (first | apply Kd.S_alloc | apply Kd.S_drewN | apply Kd.S_drew)); exact Kd.S_mono HO1085.out (fun _ hk => ⟨hk.1.1.1.1, ⟨hk.1.1.1.2.1, ⟨hk.1.1.1.2.2.1, ⟨hk.1.1.1.2.2.2.1, ⟨hk.1.1.1.2.2.2.2.1, ⟨hk.1.1.1.2.2.2.2.2.1, ⟨hk.1.1.1.2.2.2.2.2.2.1, ⟨hk.1.1.1.2.2.2.2.2.2.2, ⟨hk.1.1.2, ⟨hk.1.2, hk.2⟩⟩⟩⟩⟩⟩⟩⟩⟩⟩)), (by (with_reducible repeat (first | apply Kd.R_alloc | apply Kd.R_drewN | apply Kd.R_drew)); exact Kd.R_mono HO1107.out (fun _ hk => ⟨hk.1.1.1.1, ⟨hk.1.1.1.2.1, ⟨hk.1.1.1.2.2, ⟨hk.1.1.2, ⟨hk.1.2, hk.2⟩⟩⟩⟩⟩)), (by (with_reducible repeat (first | apply Kd.S_alloc | apply Kd.S_drewN | apply Kd.S_drew)); exact Kd.S_mono HO1112.out (fun _ hk => ⟨hk.1.1.1.1, ⟨hk.1.1.1.2.1, ⟨hk.1.1.1.2.2.1, ⟨hk.1.1.1.2.2.2.1, ⟨hk.1.1.1.2.2.2.2, ⟨hk.1.1.2, ⟨hk.1.2, hk.2⟩⟩⟩⟩⟩⟩⟩)), (by (with_reducible repeat (first | apply Kd.R_alloc | apply Kd.R_drewN | apply Kd.R_drew)); exact Kd.R_mono HO1145.out (fun _ hk => ⟨hk.1.1.2, ⟨hk.1.2, hk.2⟩⟩)), (by (with_reducible repeat (first | apply Kd.S_alloc | apply Kd.S_drewN | apply Kd.S_drew)); exact Kd.S_mono HO1150.out (fun _ hk => ⟨hk.1.1.1.1, ⟨hk.1.1.2, ⟨hk.1.1.1.2, ⟨hk.1.2, hk.2⟩⟩⟩⟩)), (by (with_reducible repeat (first | apply Kd.R_alloc | apply Kd.R_drewN | apply Kd.R_drew)); exact Kd.R_mono HO1153.out (fun _ hk => ⟨hk.1.2, hk.2⟩)), (by (with_reducible repeat (first | apply Kd.R_alloc | apply Kd.R_drewN | apply Kd.R_drew)); exact Kd.R_mono HO1160.out (fun _ hk => hk.2)), (by (with_reducible repeat (first | apply Kd.S_alloc | apply Kd.S_drewN | apply Kd.S_drew)); exact Kd.S_mono HO1165.out (fun _ hk => ⟨hk.1.1, ⟨hk.2, hk.1.2⟩⟩)), (pb_ BK1058.out), (pb_ BK1059.out), (pb_ BK1086.out), (pb_ BK1103.out), (pb_ BK1113.out), (pb_ BK1166.out), GW1166.out, GE1166.out, NB1058_1166.out, NB1166_1058.out, NB1059_1166.out, NB1166_1059.out, NB1086_1166.out, NB1166_1086.out, NB1103_1166.out, NB1166_1103.out, NB1113_1166.out, NB1166_1113.out, (by repeat (first | (with_reducible first | exact HB.out | apply ba_ | apply bn_ | apply bd_ | refine below_set ?_ GE1058.out | refine below_set ?_ GE1059.out | refine below_set ?_ GE1086.out | refine below_set ?_ GE1103.out | refine below_set ?_ GE1113.out | refine below_set ?_ GE1166.out) | exact HB.out))⟩)
        rintro ⟨v1144, v1149, gbz1144, v1152, gbz1152, v1159, v1164, gbz1159, gb1166⟩ w139 ⟨hS_, h0_, h1_, h2_, h3_, h4_, h5_, h6_, h7_, h8_, h9_, h10_, h11_, h12_, h13_, h14_, h15_, h16_, h17_, h18_, h19_, h20_, h21_, h22_, h23_, h24_, h25_, h26_, h27_⟩
        have n0_ : Aside0 (Kd.R k164 164 w139 w.heap.size (fun k_ => gbz1079 ≤ k_ ∧ k_ < gbz1089 ∧ k_ < gbz1098 ∧ k_ < gbz1106 ∧ k_ < gbz1117 ∧ k_ < gbz1126 ∧ k_ < gbz1144 ∧ k_ < gbz1152 ∧ k_ < gbz1159) (.slice Ao67 t1078.length co67) t1078) := ⟨h0_⟩
        have n1_ : Aside0 (Kd.S k44 44 w139 w.heap.size (fun k_ => some k_ ≠ (.slice Ao67 t1078.length co67 : Value).ownBlock ∧ k_ ≠ gb1103 ∧ gbz1079 ≤ k_ ∧ k_ < gbz1089 ∧ k_ < gbz1098 ∧ k_ < gbz1106 ∧ k_ < gbz1117 ∧ k_ < gbz1126 ∧ k_ < gbz1144 ∧ k_ < gbz1152 ∧ k_ < gbz1159) (.slice Ao71 t1083.length co71) t1083) := ⟨h1_⟩
        have n2_ : Aside0 (Kd.R k164 164 w139 w.heap.size (fun k_ => gbz1106 ≤ k_ ∧ k_ < gbz1117 ∧ k_ < gbz1126 ∧ k_ < gbz1144 ∧ k_ < gbz1152 ∧ k_ < gbz1159) (.slice Ao102 t1105.length co102) t1139) := ⟨h2_⟩
        have n3_ : Aside0 (Kd.S k44 44 w139 w.heap.size (fun k_ => some k_ ≠ (.slice Ao102 t1105.length co102 : Value).ownBlock ∧ k_ ≠ gb1103 ∧ gbz1106 ≤ k_ ∧ k_ < gbz1117 ∧ k_ < gbz1126 ∧ k_ < gbz1144 ∧ k_ < gbz1152 ∧ k_ < gbz1159) (.slice Ao103 t1110.length co103) t1140) := ⟨h3_⟩
        have n4_ : Aside0 (Kd.R k164 164 w139 w.heap.size (fun k_ => gbz1144 ≤ k_ ∧ k_ < gbz1152 ∧ k_ < gbz1159) v1144 t1143) := ⟨h4_⟩
        have n5_ : Aside0 (Kd.S k44 44 w139 w.heap.size (fun k_ => some k_ ≠ (v1144 : Value).ownBlock ∧ k_ ≠ gb1103 ∧ gbz1144 ≤ k_ ∧ k_ < gbz1152 ∧ k_ < gbz1159) v1149 t1148) := ⟨h5_⟩
        have n6_ : Aside0 (Kd.R k164 164 w139 w.heap.size (fun k_ => gbz1152 ≤ k_ ∧ k_ < gbz1159) v1152 t1151) := ⟨h6_⟩
        have n7_ : Aside0 (Kd.R k164 164 w139 w.heap.size (fun k_ => gbz1159 ≤ k_) v1159 t1158) := ⟨h7_⟩
        have n8_ : Aside0 (Kd.S k44 44 w139 w.heap.size (fun k_ => some k_ ≠ (v1159 : Value).ownBlock ∧ k_ ≠ gb1103 ∧ gbz1159 ≤ k_) v1164 t1163) := ⟨h8_⟩
        have n9_ : Aside0 (w139.heap[gb1058]? = some (.cells #[.int .i64 a0_0, .slice A0_1 l0_1.length c0_1, .int .i64 a0_2, .int .i64 a0_3, .slice A0_4 l0_4.length c0_4] 69 (0, 0))) := ⟨h9_⟩
        have n10_ : Aside0 (w139.heap[gb1059]? = some (.cells #[.slice A1_0 l1_0.length c1_0, .int .i64 a1_1, .int .i64 a1_2, .string a1_3] 34 (0, 0))) := ⟨h10_⟩
        have n11_ : Aside0 (w139.heap[gb1086]? = some (.cells #[.int .i64 t1077, .slice Ao67 t1078.length co67, .int .i64 t1081, .int .i64 t1082, .slice Ao71 t1083.length co71] 75 (0, 0))) := ⟨h11_⟩
        have n12_ : Aside0 (w139.heap[gb1103]? = some (.cells #[.slice Ao87 t1097.length co87, .int .i64 t1100, .int .i64 t1101, .string t1102] 44 (0, 0))) := ⟨h12_⟩
        have n13_ : Aside0 (w139.heap[gb1113]? = some (.cells #[.int .i64 t1104, .slice Ao102 t1105.length co102, .int .i64 t1108, .int .i64 t1109, .slice Ao103 t1110.length co103] 75 (0, 0))) := ⟨h13_⟩
        have n14_ : Aside0 (w139.heap[gb1166]? = some (.cells #[.int .i64 0, .slice none 0 0, .int .i64 0, .int .i64 0, .slice none 0 0] 75 (0, 0))) := ⟨h14_⟩
        have n15_ : Aside0 (w.heap.size ≤ gb1166) := ⟨h15_⟩
        have n16_ : Aside0 (w.heap.size ≤ gb1166) := ⟨h16_⟩
        have n17_ : Aside0 (gb1058 ≠ gb1166) := ⟨h17_⟩
        have n18_ : Aside0 (gb1166 ≠ gb1058) := ⟨h18_⟩
        have n19_ : Aside0 (gb1059 ≠ gb1166) := ⟨h19_⟩
        have n20_ : Aside0 (gb1166 ≠ gb1059) := ⟨h20_⟩
        have n21_ : Aside0 (gb1086 ≠ gb1166) := ⟨h21_⟩
        have n22_ : Aside0 (gb1166 ≠ gb1086) := ⟨h22_⟩
        have n23_ : Aside0 (gb1103 ≠ gb1166) := ⟨h23_⟩
        have n24_ : Aside0 (gb1166 ≠ gb1103) := ⟨h24_⟩
        have n25_ : Aside0 (gb1113 ≠ gb1166) := ⟨h25_⟩
        have n26_ : Aside0 (gb1166 ≠ gb1113) := ⟨h26_⟩
        have n27_ : Aside0 (Below w.heap.size w w139) := ⟨h27_⟩
        clear HO1080 HO1085 HO1107 HO1112 BK1058 BK1059 BK1086 BK1103 BK1113 HB h0_ h1_ h2_ h3_ h4_ h5_ h6_ h7_ h8_ h9_ h10_ h11_ h12_ h13_ h14_ h15_ h16_ h17_ h18_ h19_ h20_ h21_ h22_ h23_ h24_ h25_ h26_ h27_
        have HO1080 := n0_
        have HO1085 := n1_
        have HO1107 := n2_
        have HO1112 := n3_
        have HO1145 := n4_
        have HO1150 := n5_
        have HO1153 := n6_
        have HO1160 := n7_
        have HO1165 := n8_
        have BK1058 := n9_
        have BK1059 := n10_
        have BK1086 := n11_
        have BK1103 := n12_
        have BK1113 := n13_
        have BK1166 := n14_
        have GW1166 := n15_
        have GE1166 := n16_
        have NB1058_1166 := n17_
        have NB1166_1058 := n18_
        have NB1059_1166 := n19_
        have NB1166_1059 := n20_
        have NB1086_1166 := n21_
        have NB1166_1086 := n22_
        have NB1103_1166 := n23_
        have NB1166_1103 := n24_
        have NB1113_1166 := n25_
        have NB1166_1113 := n26_
        have HB := n27_
        clear n0_ n1_ n2_ n3_ n4_ n5_ n6_ n7_ n8_ n9_ n10_ n11_ n12_ n13_ n14_ n15_ n16_ n17_ n18_ n19_ n20_ n21_ n22_ n23_ n24_ n25_ n26_ n27_
        have hHeld : w139.cell? ⟨gb1058, 0, none⟩ = some (.int .i64 a0_0) ∧ w139.cell? ⟨gb1058, 1, none⟩ = some (.slice A0_1 l0_1.length c0_1) ∧ w139.cell? ⟨gb1058, 2, none⟩ = some (.int .i64 a0_2) ∧ w139.cell? ⟨gb1058, 3, none⟩ = some (.int .i64 a0_3) ∧ w139.cell? ⟨gb1058, 4, none⟩ = some (.slice A0_4 l0_4.length c0_4) ∧ w139.cell? ⟨gb1059, 0, none⟩ = some (.slice A1_0 l1_0.length c1_0) ∧ w139.cell? ⟨gb1059, 1, none⟩ = some (.int .i64 a1_1) ∧ w139.cell? ⟨gb1059, 2, none⟩ = some (.int .i64 a1_2) ∧ w139.cell? ⟨gb1059, 3, none⟩ = some (.string a1_3) := hS_
        obtain ⟨Ao141, co141, eo141⟩ := Kd.R_slice HO1160.out
        (first | subst eo141 | (injection eo141 with f1_ f2_ f3_; have f4_ := f1_.symm; have f5_ := f3_.symm; clear f1_ f2_ f3_; subst f4_; subst f5_))
        obtain ⟨Ao145, co145, eo145⟩ := Kd.S_slice HO1165.out
        (first | subst eo145 | (injection eo145 with f1_ f2_ f3_; have f4_ := f1_.symm; have f5_ := f3_.symm; clear f1_ f2_ f3_; subst f4_; subst f5_))
        refine norm_ (a' := ?_) ?_ ?_
        rotate_left
        ·
         simp only [putAll, Act.put, List.setIfInBounds_toArray, List.set_cons_zero, List.set_cons_succ]
         rfl
        refine one_ (i := 6) (N := none) #[t_,t_,t_,t_,t_,t_,t_] rfl rfl (by kernel_rfl) (by decide) (fun K hK => ?_)
        have hs140 : w139.cell? ⟨gb1166, 0, none⟩ = some (.int .i64 0) := bx_ BK1166.out 0
        have hfs140 := blk_frozen BK1166.out 0
        have hns140_0 := NB1058_1166.out
        have hns140_1 := NB1059_1166.out
        have hns140_2 := NB1086_1166.out
        have hns140_3 := NB1103_1166.out
        have hns140_4 := NB1113_1166.out
        have hms140_0 := NB1166_1058.out
        have hms140_1 := NB1166_1059.out
        have hms140_2 := NB1166_1086.out
        have hms140_3 := NB1166_1103.out
        have hms140_4 := NB1166_1113.out
        have hs142 : w139.cell? ⟨gb1166, 1, none⟩ = some (.slice none 0 0) := bx_ BK1166.out 1
        have hfs142 := blk_frozen BK1166.out 1
        have hns142_0 := NB1058_1166.out
        have hns142_1 := NB1059_1166.out
        have hns142_2 := NB1086_1166.out
        have hns142_3 := NB1103_1166.out
        have hns142_4 := NB1113_1166.out
        have hms142_0 := NB1166_1058.out
        have hms142_1 := NB1166_1059.out
        have hms142_2 := NB1166_1086.out
        have hms142_3 := NB1166_1103.out
        have hms142_4 := NB1166_1113.out
        have hs143 : w139.cell? ⟨gb1166, 2, none⟩ = some (.int .i64 0) := bx_ BK1166.out 2
        have hfs143 := blk_frozen BK1166.out 2
        have hns143_0 := NB1058_1166.out
        have hns143_1 := NB1059_1166.out
        have hns143_2 := NB1086_1166.out
        have hns143_3 := NB1103_1166.out
        have hns143_4 := NB1113_1166.out
        have hms143_0 := NB1166_1058.out
        have hms143_1 := NB1166_1059.out
        have hms143_2 := NB1166_1086.out
        have hms143_3 := NB1166_1103.out
        have hms143_4 := NB1166_1113.out
        have hs144 : w139.cell? ⟨gb1166, 3, none⟩ = some (.int .i64 0) := bx_ BK1166.out 3
        have hfs144 := blk_frozen BK1166.out 3
        have hns144_0 := NB1058_1166.out
        have hns144_1 := NB1059_1166.out
        have hns144_2 := NB1086_1166.out
        have hns144_3 := NB1103_1166.out
        have hns144_4 := NB1113_1166.out
        have hms144_0 := NB1166_1058.out
        have hms144_1 := NB1166_1059.out
        have hms144_2 := NB1166_1086.out
        have hms144_3 := NB1166_1103.out
        have hms144_4 := NB1166_1113.out
        have hs146 : w139.cell? ⟨gb1166, 4, none⟩ = some (.slice none 0 0) := bx_ BK1166.out 4
        have hfs146 := blk_frozen BK1166.out 4
        have hns146_0 := NB1058_1166.out
        have hns146_1 := NB1059_1166.out
        have hns146_2 := NB1086_1166.out
        have hns146_3 := NB1103_1166.out
        have hns146_4 := NB1113_1166.out
        have hms146_0 := NB1166_1058.out
        have hms146_1 := NB1166_1059.out
        have hms146_2 := NB1166_1086.out
        have hms146_3 := NB1166_1103.out
        have hms146_4 := NB1166_1113.out
        refine skip_ (w1 := ?_) (by rfl) rfl ?_ ?_
        rotate_left
        ·
         go_simp
         rfl
        refine hK.out _ _ ⟨((cell_far (p := ⟨gb1166, _, none⟩) NB1058_1166.out _).trans (((cell_far (p := ⟨gb1166, _, none⟩) NB1058_1166.out _).trans (((cell_far (p := ⟨gb1166, _, none⟩) NB1058_1166.out _).trans (((cell_far (p := ⟨gb1166, _, none⟩) NB1058_1166.out _).trans (((cell_far (p := ⟨gb1166, _, none⟩) NB1058_1166.out _).trans (hHeld.1)))))))))), ((cell_far (p := ⟨gb1166, _, none⟩) NB1058_1166.out _).trans (((cell_far (p := ⟨gb1166, _, none⟩) NB1058_1166.out _).trans (((cell_far (p := ⟨gb1166, _, none⟩) NB1058_1166.out _).trans (((cell_far (p := ⟨gb1166, _, none⟩) NB1058_1166.out _).trans (((cell_far (p := ⟨gb1166, _, none⟩) NB1058_1166.out _).trans (hHeld.2.1)))))))))), ((cell_far (p := ⟨gb1166, _, none⟩) NB1058_1166.out _).trans (((cell_far (p := ⟨gb1166, _, none⟩) NB1058_1166.out _).trans (((cell_far (p := ⟨gb1166, _, none⟩) NB1058_1166.out _).trans (((cell_far (p := ⟨gb1166, _, none⟩) NB1058_1166.out _).trans (((cell_far (p := ⟨gb1166, _, none⟩) NB1058_1166.out _).trans (hHeld.2.2.1)))))))))), ((cell_far (p := ⟨gb1166, _, none⟩) NB1058_1166.out _).trans (((cell_far (p := ⟨gb1166, _, none⟩) NB1058_1166.out _).trans (((cell_far (p := ⟨gb1166, _, none⟩) NB1058_1166.out _).trans (((cell_far (p := ⟨gb1166, _, none⟩) NB1058_1166.out _).trans (((cell_far (p := ⟨gb1166, _, none⟩) NB1058_1166.out _).trans (hHeld.2.2.2.1)))))))))), ((cell_far (p := ⟨gb1166, _, none⟩) NB1058_1166.out _).trans (((cell_far (p := ⟨gb1166, _, none⟩) NB1058_1166.out _).trans (((cell_far (p := ⟨gb1166, _, none⟩) NB1058_1166.out _).trans (((cell_far (p := ⟨gb1166, _, none⟩) NB1058_1166.out _).trans (((cell_far (p := ⟨gb1166, _, none⟩) NB1058_1166.out _).trans (hHeld.2.2.2.2.1)))))))))), ((cell_far (p := ⟨gb1166, _, none⟩) NB1059_1166.out _).trans (((cell_far (p := ⟨gb1166, _, none⟩) NB1059_1166.out _).trans (((cell_far (p := ⟨gb1166, _, none⟩) NB1059_1166.out _).trans (((cell_far (p := ⟨gb1166, _, none⟩) NB1059_1166.out _).trans (((cell_far (p := ⟨gb1166, _, none⟩) NB1059_1166.out _).trans (hHeld.2.2.2.2.2.1)))))))))), ((cell_far (p := ⟨gb1166, _, none⟩) NB1059_1166.out _).trans (((cell_far (p := ⟨gb1166, _, none⟩) NB1059_1166.out _).trans (((cell_far (p := ⟨gb1166, _, none⟩) NB1059_1166.out _).trans (((cell_far (p := ⟨gb1166, _, none⟩) NB1059_1166.out _).trans (((cell_far (p := ⟨gb1166, _, none⟩) NB1059_1166.out _).trans (hHeld.2.2.2.2.2.2.1)))))))))), ((cell_far (p := ⟨gb1166, _, none⟩) NB1059_1166.out _).trans (((cell_far (p := ⟨gb1166, _, none⟩) NB1059_1166.out _).trans (((cell_far (p := ⟨gb1166, _, none⟩) NB1059_1166.out _).trans (((cell_far (p := ⟨gb1166, _, none⟩) NB1059_1166.out _).trans (((cell_far (p := ⟨gb1166, _, none⟩) NB1059_1166.out _).trans (hHeld.2.2.2.2.2.2.2.1)))))))))), ((cell_far (p := ⟨gb1166, _, none⟩) NB1059_1166.out _).trans (((cell_far (p := ⟨gb1166, _, none⟩) NB1059_1166.out _).trans (((cell_far (p := ⟨gb1166, _, none⟩) NB1059_1166.out _).trans (((cell_far (p := ⟨gb1166, _, none⟩) NB1059_1166.out _).trans (((cell_far (p := ⟨gb1166, _, none⟩) NB1059_1166.out _).trans (hHeld.2.2.2.2.2.2.2.2))))))))))⟩ (fun hHeld => ?_)
        clear hK K
        refine done_ (by kernel_rfl) ?_
        have hnb147 := NB1166_1058.out
        have hnc147 := NB1058_1166.out
        have hnb148 := NB1166_1059.out
        have hnc148 := NB1059_1166.out
        have hnb149 := NB1166_1086.out
        have hnc149 := NB1086_1166.out
        have hnb150 := NB1166_1103.out
        have hnc150 := NB1103_1166.out
        have hnb151 := NB1166_1113.out
        have hnc151 := NB1113_1166.out
        obtain ⟨hcz152_0, hcz152_1, hcz152_2, hcz152_3, hcz152_4, hfz152_0, hfz152_1, hfz152_2, hfz152_3, hfz152_4⟩ := bc5_ BK1166.out
        obtain ⟨hcz153_0, hcz153_1, hcz153_2, hcz153_3, hcz153_4, hfz153_0, hfz153_1, hfz153_2, hfz153_3, hfz153_4⟩ := bc5_ BK1086.out
        try go_wp2_with (first | ((with_reducible refine gate_callee (f := 54) rfl ?_); refine goesL_ (some 82) rfl rfl Try.func54 (by kernel_rfl) rfl #[.agg #[.int .i64 t1157, .slice Ao141 t1158.length co141, .int .i64 t1161, .int .i64 t1162, .slice Ao145 t1163.length co145], .agg #[.int .i64 t1077, .slice Ao67 t1078.length co67, .int .i64 t1081, .int .i64 t1082, .slice Ao71 t1083.length co71]] rfl (by (try simp only [mp_]); first | done | rfl | (simp only [List.length_drop, List.length_take]; rfl)) ?_; (with_reducible refine (laws_eqGroup.calls k t1157 _ _ t1158 t1161 t1162 _ _ t1163 t1077 _ _ t1078 t1081 t1082 _ _ t1083 true _ ?side1 ?side2 ?side3 ?side4 ?side5 ?side6 ?side7 ?side8 A45.out).mono ?_); (case side1 => refine (Kd.R_reads' (e := 164) (base := w.heap.size) (ok := fun k_ => gbz1159 ≤ k_) (n := t1158.length) (c := co141) ?_).2.2; exact (by (with_reducible repeat (first | apply Kd.R_alloc | apply Kd.R_drewN | apply Kd.R_drew)); exact (Kd.R_mono (Kd.R_far (p := ⟨gb1166, 4, none⟩) (Kd.R_far (p := ⟨gb1166, 3, none⟩) (Kd.R_far (p := ⟨gb1166, 2, none⟩) (Kd.R_far (p := ⟨gb1166, 1, none⟩) (Kd.R_far (p := ⟨gb1166, 0, none⟩) (Kd.R_types HO1160.out BK1166.out (by decide)) (fun _ hk => hk.2) (.int .i64 t1157)) (fun _ hk => hk.2) (.slice Ao141 t1158.length co141)) (fun _ hk => hk.2) (.int .i64 t1161)) (fun _ hk => hk.2) (.int .i64 t1162)) (fun _ hk => hk.2) (.slice Ao145 t1163.length co145)) (fun _ h_ => h_.1)))); (case side2 => exact (Kd.R_reads' HO1160.out).2.1); (case side3 => refine (Kd.S_reads' (e := 44) (base := w.heap.size) (ok := fun k_ => (some k_ ≠ (.slice Ao141 t1158.length co141 : Value).ownBlock ∧ (k_ ≠ gb1103 ∧ gbz1159 ≤ k_))) (n := t1163.length) (c := co145) ?_).2.2; exact (by (with_reducible repeat (first | apply Kd.S_alloc | apply Kd.S_drewN | apply Kd.S_drew)); exact (Kd.S_mono (Kd.S_far (p := ⟨gb1166, 4, none⟩) (Kd.S_far (p := ⟨gb1166, 3, none⟩) (Kd.S_far (p := ⟨gb1166, 2, none⟩) (Kd.S_far (p := ⟨gb1166, 1, none⟩) (Kd.S_far (p := ⟨gb1166, 0, none⟩) (Kd.S_types HO1165.out BK1166.out (by decide)) (fun _ hk => hk.2) (.int .i64 t1157)) (fun _ hk => hk.2) (.slice Ao141 t1158.length co141)) (fun _ hk => hk.2) (.int .i64 t1161)) (fun _ hk => hk.2) (.int .i64 t1162)) (fun _ hk => hk.2) (.slice Ao145 t1163.length co145)) (fun _ h_ => h_.1)))); (case side4 => exact (Kd.S_reads' HO1165.out).2.1); (case side5 => refine (Kd.R_reads' (e := 164) (base := w.heap.size) (ok := fun k_ => (gbz1079 ≤ k_ ∧ (k_ < gbz1089 ∧ (k_ < gbz1098 ∧ (k_ < gbz1106 ∧ (k_ < gbz1117 ∧ (k_ < gbz1126 ∧ (k_ < gbz1144 ∧ (k_ < gbz1152 ∧ k_ < gbz1159))))))))) (n := t1078.length) (c := co67) ?_).2.2; exact (by (with_reducible repeat (first | apply Kd.R_alloc | apply Kd.R_drewN | apply Kd.R_drew)); exact (Kd.R_mono (Kd.R_far (p := ⟨gb1166, 4, none⟩) (Kd.R_far (p := ⟨gb1166, 3, none⟩) (Kd.R_far (p := ⟨gb1166, 2, none⟩) (Kd.R_far (p := ⟨gb1166, 1, none⟩) (Kd.R_far (p := ⟨gb1166, 0, none⟩) (Kd.R_types HO1080.out BK1166.out (by decide)) (fun _ hk => hk.2) (.int .i64 t1157)) (fun _ hk => hk.2) (.slice Ao141 t1158.length co141)) (fun _ hk => hk.2) (.int .i64 t1161)) (fun _ hk => hk.2) (.int .i64 t1162)) (fun _ hk => hk.2) (.slice Ao145 t1163.length co145)) (fun _ h_ => h_.1)))); (case side6 => exact (Kd.R_reads' HO1080.out).2.1); (case side7 => refine (Kd.S_reads' (e := 44) (base := w.heap.size) (ok := fun k_ => (some k_ ≠ (.slice Ao67 t1078.length co67 : Value).ownBlock ∧ (k_ ≠ gb1103 ∧ (gbz1079 ≤ k_ ∧ (k_ < gbz1089 ∧ (k_ < gbz1098 ∧ (k_ < gbz1106 ∧ (k_ < gbz1117 ∧ (k_ < gbz1126 ∧ (k_ < gbz1144 ∧ (k_ < gbz1152 ∧ k_ < gbz1159))))))))))) (n := t1083.length) (c := co71) ?_).2.2; exact (by (with_reducible repeat (first | apply Kd.S_alloc | apply Kd.S_drewN | apply Kd.S_drew)); exact (Kd.S_mono (Kd.S_far (p := ⟨gb1166, 4, none⟩) (Kd.S_far (p := ⟨gb1166, 3, none⟩) (Kd.S_far (p := ⟨gb1166, 2, none⟩) (Kd.S_far (p := ⟨gb1166, 1, none⟩) (Kd.S_far (p := ⟨gb1166, 0, none⟩) (Kd.S_types HO1085.out BK1166.out (by decide)) (fun _ hk => hk.2) (.int .i64 t1157)) (fun _ hk => hk.2) (.slice Ao141 t1158.length co141)) (fun _ hk => hk.2) (.int .i64 t1161)) (fun _ hk => hk.2) (.int .i64 t1162)) (fun _ hk => hk.2) (.slice Ao145 t1163.length co145)) (fun _ h_ => h_.1)))); (case side8 => exact (Kd.S_reads' HO1085.out).2.1); rintro e w154 ⟨rfl, hb⟩; refine ⟨_, rfl, ?_⟩; have n0_ := Aside0.mk (Kd.R_below (by (with_reducible repeat (first | apply Kd.R_alloc | apply Kd.R_drewN | apply Kd.R_drew)); exact (Kd.R_mono (Kd.R_far (p := ⟨gb1166, 4, none⟩) (Kd.R_far (p := ⟨gb1166, 3, none⟩) (Kd.R_far (p := ⟨gb1166, 2, none⟩) (Kd.R_far (p := ⟨gb1166, 1, none⟩) (Kd.R_far (p := ⟨gb1166, 0, none⟩) (Kd.R_types HO1080.out BK1166.out (by decide)) (fun _ hk => hk.2) (.int .i64 t1157)) (fun _ hk => hk.2) (.slice Ao141 t1158.length co141)) (fun _ hk => hk.2) (.int .i64 t1161)) (fun _ hk => hk.2) (.int .i64 t1162)) (fun _ hk => hk.2) (.slice Ao145 t1163.length co145)) (fun _ h_ => h_.1))) hb); have n1_ := Aside0.mk (Kd.S_below (by (with_reducible repeat (first | apply Kd.S_alloc | apply Kd.S_drewN | apply Kd.S_drew)); exact (Kd.S_mono (Kd.S_far (p := ⟨gb1166, 4, none⟩) (Kd.S_far (p := ⟨gb1166, 3, none⟩) (Kd.S_far (p := ⟨gb1166, 2, none⟩) (Kd.S_far (p := ⟨gb1166, 1, none⟩) (Kd.S_far (p := ⟨gb1166, 0, none⟩) (Kd.S_types HO1085.out BK1166.out (by decide)) (fun _ hk => hk.2) (.int .i64 t1157)) (fun _ hk => hk.2) (.slice Ao141 t1158.length co141)) (fun _ hk => hk.2) (.int .i64 t1161)) (fun _ hk => hk.2) (.int .i64 t1162)) (fun _ hk => hk.2) (.slice Ao145 t1163.length co145)) (fun _ h_ => h_.1))) hb); have n2_ := Aside0.mk (Kd.R_below (by (with_reducible repeat (first | apply Kd.R_alloc | apply Kd.R_drewN | apply Kd.R_drew)); exact (Kd.R_mono (Kd.R_far (p := ⟨gb1166, 4, none⟩) (Kd.R_far (p := ⟨gb1166, 3, none⟩) (Kd.R_far (p := ⟨gb1166, 2, none⟩) (Kd.R_far (p := ⟨gb1166, 1, none⟩) (Kd.R_far (p := ⟨gb1166, 0, none⟩) (Kd.R_types HO1107.out BK1166.out (by decide)) (fun _ hk => hk.2) (.int .i64 t1157)) (fun _ hk => hk.2) (.slice Ao141 t1158.length co141)) (fun _ hk => hk.2) (.int .i64 t1161)) (fun _ hk => hk.2) (.int .i64 t1162)) (fun _ hk => hk.2) (.slice Ao145 t1163.length co145)) (fun _ h_ => h_.1))) hb); have n3_ := Aside0.mk (Kd.S_below (by (with_reducible repeat (first | apply Kd.S_alloc | apply Kd.S_drewN | apply Kd.S_drew)); exact (Kd.S_mono (Kd.S_far (p := ⟨gb1166, 4, none⟩) (Kd.S_far (p := ⟨gb1166, 3, none⟩) (Kd.S_far (p := ⟨gb1166, 2, none⟩) (Kd.S_far (p := ⟨gb1166, 1, none⟩) (Kd.S_far (p := ⟨gb1166, 0, none⟩) (Kd.S_types HO1112.out BK1166.out (by decide)) (fun _ hk => hk.2) (.int .i64 t1157)) (fun _ hk => hk.2) (.slice Ao141 t1158.length co141)) (fun _ hk => hk.2) (.int .i64 t1161)) (fun _ hk => hk.2) (.int .i64 t1162)) (fun _ hk => hk.2) (.slice Ao145 t1163.length co145)) (fun _ h_ => h_.1))) hb); have n4_ := Aside0.mk (Kd.R_below (by (with_reducible repeat (first | apply Kd.R_alloc | apply Kd.R_drewN | apply Kd.R_drew)); exact (Kd.R_mono (Kd.R_far (p := ⟨gb1166, 4, none⟩) (Kd.R_far (p := ⟨gb1166, 3, none⟩) (Kd.R_far (p := ⟨gb1166, 2, none⟩) (Kd.R_far (p := ⟨gb1166, 1, none⟩) (Kd.R_far (p := ⟨gb1166, 0, none⟩) (Kd.R_types HO1145.out BK1166.out (by decide)) (fun _ hk => hk.2) (.int .i64 t1157)) (fun _ hk => hk.2) (.slice Ao141 t1158.length co141)) (fun _ hk => hk.2) (.int .i64 t1161)) (fun _ hk => hk.2) (.int .i64 t1162)) (fun _ hk => hk.2) (.slice Ao145 t1163.length co145)) (fun _ h_ => h_.1))) hb); have n5_ := Aside0.mk (Kd.S_below (by (with_reducible repeat (first | apply Kd.S_alloc | apply Kd.S_drewN | apply Kd.S_drew)); exact (Kd.S_mono (Kd.S_far (p := ⟨gb1166, 4, none⟩) (Kd.S_far (p := ⟨gb1166, 3, none⟩) (Kd.S_far (p := ⟨gb1166, 2, none⟩) (Kd.S_far (p := ⟨gb1166, 1, none⟩) (Kd.S_far (p := ⟨gb1166, 0, none⟩) (Kd.S_types HO1150.out BK1166.out (by decide)) (fun _ hk => hk.2) (.int .i64 t1157)) (fun _ hk => hk.2) (.slice Ao141 t1158.length co141)) (fun _ hk => hk.2) (.int .i64 t1161)) (fun _ hk => hk.2) (.int .i64 t1162)) (fun _ hk => hk.2) (.slice Ao145 t1163.length co145)) (fun _ h_ => h_.1))) hb); have n6_ := Aside0.mk (Kd.R_below (by (with_reducible repeat (first | apply Kd.R_alloc | apply Kd.R_drewN | apply Kd.R_drew)); exact (Kd.R_mono (Kd.R_far (p := ⟨gb1166, 4, none⟩) (Kd.R_far (p := ⟨gb1166, 3, none⟩) (Kd.R_far (p := ⟨gb1166, 2, none⟩) (Kd.R_far (p := ⟨gb1166, 1, none⟩) (Kd.R_far (p := ⟨gb1166, 0, none⟩) (Kd.R_types HO1153.out BK1166.out (by decide)) (fun _ hk => hk.2) (.int .i64 t1157)) (fun _ hk => hk.2) (.slice Ao141 t1158.length co141)) (fun _ hk => hk.2) (.int .i64 t1161)) (fun _ hk => hk.2) (.int .i64 t1162)) (fun _ hk => hk.2) (.slice Ao145 t1163.length co145)) (fun _ h_ => h_.1))) hb); have n7_ := Aside0.mk (Kd.R_below (by (with_reducible repeat (first | apply Kd.R_alloc | apply Kd.R_drewN | apply Kd.R_drew)); exact (Kd.R_mono (Kd.R_far (p := ⟨gb1166, 4, none⟩) (Kd.R_far (p := ⟨gb1166, 3, none⟩) (Kd.R_far (p := ⟨gb1166, 2, none⟩) (Kd.R_far (p := ⟨gb1166, 1, none⟩) (Kd.R_far (p := ⟨gb1166, 0, none⟩) (Kd.R_types HO1160.out BK1166.out (by decide)) (fun _ hk => hk.2) (.int .i64 t1157)) (fun _ hk => hk.2) (.slice Ao141 t1158.length co141)) (fun _ hk => hk.2) (.int .i64 t1161)) (fun _ hk => hk.2) (.int .i64 t1162)) (fun _ hk => hk.2) (.slice Ao145 t1163.length co145)) (fun _ h_ => h_.1))) hb); have n8_ := Aside0.mk (Kd.S_below (by (with_reducible repeat (first | apply Kd.S_alloc | apply Kd.S_drewN | apply Kd.S_drew)); exact (Kd.S_mono (Kd.S_far (p := ⟨gb1166, 4, none⟩) (Kd.S_far (p := ⟨gb1166, 3, none⟩) (Kd.S_far (p := ⟨gb1166, 2, none⟩) (Kd.S_far (p := ⟨gb1166, 1, none⟩) (Kd.S_far (p := ⟨gb1166, 0, none⟩) (Kd.S_types HO1165.out BK1166.out (by decide)) (fun _ hk => hk.2) (.int .i64 t1157)) (fun _ hk => hk.2) (.slice Ao141 t1158.length co141)) (fun _ hk => hk.2) (.int .i64 t1161)) (fun _ hk => hk.2) (.int .i64 t1162)) (fun _ hk => hk.2) (.slice Ao145 t1163.length co145)) (fun _ h_ => h_.1))) hb); have n9_ := Aside0.mk (blk_below (g := gb1058) (o := .cells #[.int .i64 a0_0, .slice A0_1 l0_1.length c0_1, .int .i64 a0_2, .int .i64 a0_3, .slice A0_4 l0_4.length c0_4] 69 (0, 0)) (by (with_reducible repeat (first | refine kn_ ?_ _ | refine kd_ ?_ | refine ka_ ?_ _)); refine blk_far ?_ NB1058_1166.out _; (with_reducible repeat (first | refine kn_ ?_ _ | refine kd_ ?_ | refine ka_ ?_ _)); refine blk_far ?_ NB1058_1166.out _; (with_reducible repeat (first | refine kn_ ?_ _ | refine kd_ ?_ | refine ka_ ?_ _)); refine blk_far ?_ NB1058_1166.out _; (with_reducible repeat (first | refine kn_ ?_ _ | refine kd_ ?_ | refine ka_ ?_ _)); refine blk_far ?_ NB1058_1166.out _; (with_reducible repeat (first | refine kn_ ?_ _ | refine kd_ ?_ | refine ka_ ?_ _)); refine blk_far ?_ NB1058_1166.out _; (with_reducible repeat (first | refine kn_ ?_ _ | refine kd_ ?_ | refine ka_ ?_ _)); exact BK1058.out) hb); have n10_ := Aside0.mk (blk_below (g := gb1059) (o := .cells #[.slice A1_0 l1_0.length c1_0, .int .i64 a1_1, .int .i64 a1_2, .string a1_3] 34 (0, 0)) (by (with_reducible repeat (first | refine kn_ ?_ _ | refine kd_ ?_ | refine ka_ ?_ _)); refine blk_far ?_ NB1059_1166.out _; (with_reducible repeat (first | refine kn_ ?_ _ | refine kd_ ?_ | refine ka_ ?_ _)); refine blk_far ?_ NB1059_1166.out _; (with_reducible repeat (first | refine kn_ ?_ _ | refine kd_ ?_ | refine ka_ ?_ _)); refine blk_far ?_ NB1059_1166.out _; (with_reducible repeat (first | refine kn_ ?_ _ | refine kd_ ?_ | refine ka_ ?_ _)); refine blk_far ?_ NB1059_1166.out _; (with_reducible repeat (first | refine kn_ ?_ _ | refine kd_ ?_ | refine ka_ ?_ _)); refine blk_far ?_ NB1059_1166.out _; (with_reducible repeat (first | refine kn_ ?_ _ | refine kd_ ?_ | refine ka_ ?_ _)); exact BK1059.out) hb); have n11_ := Aside0.mk (blk_below (g := gb1086) (o := .cells #[.int .i64 t1077, .slice Ao67 t1078.length co67, .int .i64 t1081, .int .i64 t1082, .slice Ao71 t1083.length co71] 75 (0, 0)) (by (with_reducible repeat (first | refine kn_ ?_ _ | refine kd_ ?_ | refine ka_ ?_ _)); refine blk_far ?_ NB1086_1166.out _; (with_reducible repeat (first | refine kn_ ?_ _ | refine kd_ ?_ | refine ka_ ?_ _)); refine blk_far ?_ NB1086_1166.out _; (with_reducible repeat (first | refine kn_ ?_ _ | refine kd_ ?_ | refine ka_ ?_ _)); refine blk_far ?_ NB1086_1166.out _; (with_reducible repeat (first | refine kn_ ?_ _ | refine kd_ ?_ | refine ka_ ?_ _)); refine blk_far ?_ NB1086_1166.out _; (with_reducible repeat (first | refine kn_ ?_ _ | refine kd_ ?_ | refine ka_ ?_ _)); refine blk_far ?_ NB1086_1166.out _; (with_reducible repeat (first | refine kn_ ?_ _ | refine kd_ ?_ | refine ka_ ?_ _)); exact BK1086.out) hb); have n12_ := Aside0.mk (blk_below (g := gb1103) (o := .cells #[.slice Ao87 t1097.length co87, .int .i64 t1100, .int .i64 t1101, .string t1102] 44 (0, 0)) (by (with_reducible repeat (first | refine kn_ ?_ _ | refine kd_ ?_ | refine ka_ ?_ _)); refine blk_far ?_ NB1103_1166.out _; (with_reducible repeat (first | refine kn_ ?_ _ | refine kd_ ?_ | refine ka_ ?_ _)); refine blk_far ?_ NB1103_1166.out _; (with_reducible repeat (first | refine kn_ ?_ _ | refine kd_ ?_ | refine ka_ ?_ _)); refine blk_far ?_ NB1103_1166.out _; (with_reducible repeat (first | refine kn_ ?_ _ | refine kd_ ?_ | refine ka_ ?_ _)); refine blk_far ?_ NB1103_1166.out _; (with_reducible repeat (first | refine kn_ ?_ _ | refine kd_ ?_ | refine ka_ ?_ _)); refine blk_far ?_ NB1103_1166.out _; (with_reducible repeat (first | refine kn_ ?_ _ | refine kd_ ?_ | refine ka_ ?_ _)); exact BK1103.out) hb); have n13_ := Aside0.mk (blk_below (g := gb1113) (o := .cells #[.int .i64 t1104, .slice Ao102 t1105.length co102, .int .i64 t1108, .int .i64 t1109, .slice Ao103 t1110.length co103] 75 (0, 0)) (by (with_reducible repeat (first | refine kn_ ?_ _ | refine kd_ ?_ | refine ka_ ?_ _)); refine blk_far ?_ NB1113_1166.out _; (with_reducible repeat (first | refine kn_ ?_ _ | refine kd_ ?_ | refine ka_ ?_ _)); refine blk_far ?_ NB1113_1166.out _; (with_reducible repeat (first | refine kn_ ?_ _ | refine kd_ ?_ | refine ka_ ?_ _)); refine blk_far ?_ NB1113_1166.out _; (with_reducible repeat (first | refine kn_ ?_ _ | refine kd_ ?_ | refine ka_ ?_ _)); refine blk_far ?_ NB1113_1166.out _; (with_reducible repeat (first | refine kn_ ?_ _ | refine kd_ ?_ | refine ka_ ?_ _)); refine blk_far ?_ NB1113_1166.out _; (with_reducible repeat (first | refine kn_ ?_ _ | refine kd_ ?_ | refine ka_ ?_ _)); exact BK1113.out) hb); have n14_ := Aside0.mk (blk_below (g := gb1166) (o := .cells #[.int .i64 t1157, .slice Ao141 t1158.length co141, .int .i64 t1161, .int .i64 t1162, .slice Ao145 t1163.length co145] 75 (0, 0)) (by (with_reducible repeat (first | refine kn_ ?_ _ | refine kd_ ?_ | refine ka_ ?_ _)); refine blk_put (cs := #[.int .i64 t1157, .slice Ao141 t1158.length co141, .int .i64 t1161, .int .i64 t1162, .slice none 0 0]) ?_ 4 _ rfl; (with_reducible repeat (first | refine kn_ ?_ _ | refine kd_ ?_ | refine ka_ ?_ _)); refine blk_put (cs := #[.int .i64 t1157, .slice Ao141 t1158.length co141, .int .i64 t1161, .int .i64 0, .slice none 0 0]) ?_ 3 _ rfl; (with_reducible repeat (first | refine kn_ ?_ _ | refine kd_ ?_ | refine ka_ ?_ _)); refine blk_put (cs := #[.int .i64 t1157, .slice Ao141 t1158.length co141, .int .i64 0, .int .i64 0, .slice none 0 0]) ?_ 2 _ rfl; (with_reducible repeat (first | refine kn_ ?_ _ | refine kd_ ?_ | refine ka_ ?_ _)); refine blk_put (cs := #[.int .i64 t1157, .slice none 0 0, .int .i64 0, .int .i64 0, .slice none 0 0]) ?_ 1 _ rfl; (with_reducible repeat (first | refine kn_ ?_ _ | refine kd_ ?_ | refine ka_ ?_ _)); refine blk_put (cs := #[.int .i64 0, .slice none 0 0, .int .i64 0, .int .i64 0, .slice none 0 0]) ?_ 0 _ rfl; (with_reducible repeat (first | refine kn_ ?_ _ | refine kd_ ?_ | refine ka_ ?_ _)); exact BK1166.out) hb); have n15_ := Aside0.mk (below_step (by repeat (first | (with_reducible first | exact HB.out | apply ba_ | apply bn_ | apply bd_ | refine below_set ?_ GE1058.out | refine below_set ?_ GE1059.out | refine below_set ?_ GE1086.out | refine below_set ?_ GE1103.out | refine below_set ?_ GE1113.out | refine below_set ?_ GE1166.out) | exact HB.out)) hb); clear HO1080 HO1085 HO1107 HO1112 HO1145 HO1150 HO1153 HO1160 HO1165 BK1058 BK1059 BK1086 BK1103 BK1113 BK1166 HB; have HO1080 := n0_; have HO1085 := n1_; have HO1107 := n2_; have HO1112 := n3_; have HO1145 := n4_; have HO1150 := n5_; have HO1153 := n6_; have HO1160 := n7_; have HO1165 := n8_; have BK1058 := n9_; have BK1059 := n10_; have BK1086 := n11_; have BK1103 := n12_; have BK1113 := n13_; have BK1166 := n14_; have HB := n15_; clear n0_ n1_ n2_ n3_ n4_ n5_ n6_ n7_ n8_ n9_ n10_ n11_ n12_ n13_ n14_ n15_; (try clear hb); (try clear hb2); (try clear hk); (try clear hi); obtain ⟨hcz155_0, hcz155_1, hcz155_2, hcz155_3, hcz155_4, hfz155_0, hfz155_1, hfz155_2, hfz155_3, hfz155_4⟩ := bc5_ BK1113.out) | ((with_reducible refine gate_callee (f := 59) rfl ?_); refine goesL_ (some 86) rfl rfl Try.func59 (by kernel_rfl) rfl #[.agg #[.int .i64 t1104, .slice Ao102 t1139.length co102, .int .i64 t1108, .int .i64 t1109, .slice Ao103 t1140.length co103], .int .i64 1] rfl (by (try simp only [mp_]); first | done | (rw [show t1139.length = t1105.length from (Kd.R_reads' HO1107.out).1.symm, show t1140.length = t1110.length from (Kd.S_reads' HO1112.out).1.symm] <;> rfl) | rfl | (simp only [List.length_drop, List.length_take]; rfl)) ?_; (with_reducible refine (laws_heldGroup.calls k t1104 _ _ t1139 t1108 t1109 _ _ t1140 1 t1168 _ ?side1 ?side2 ?side3 ?side4 A47.out).mono ?_); (case side1 => repeat (first | exact (Kd.R_reads' HO1107.out).2.2 | (with_reducible first | refine ca_ ?_ _ | refine cn_ ?_ _ | refine cd_ ?_))); (case side2 => rw [show t1139.length = t1105.length from (Kd.R_reads' HO1107.out).1.symm]; exact (Kd.R_reads' HO1107.out).2.1); (case side3 => repeat (first | exact (Kd.S_reads' HO1112.out).2.2 | (with_reducible first | refine ca_ ?_ _ | refine cn_ ?_ _ | refine cd_ ?_))); (case side4 => rw [show t1140.length = t1110.length from (Kd.S_reads' HO1112.out).1.symm]; exact (Kd.S_reads' HO1112.out).2.1); rintro e w156 ⟨rfl, hb⟩; refine ⟨_, rfl, ?_⟩; have n0_ := Aside0.mk (Kd.R_below (rp_ HO1107.out) hb); have n1_ := Aside0.mk (Kd.S_below (sp_ HO1112.out) hb); have n2_ := Aside0.mk (bb_ BK1103.out hb); have n3_ := Aside0.mk (below_step (by repeat (first | (with_reducible first | exact HB.out | apply ba_ | apply bn_ | apply bd_ | refine below_set ?_ GE1103.out) | exact HB.out)) hb); clear HO1107 HO1112 BK1103 HB; have HO1107 := n0_; have HO1112 := n1_; have BK1103 := n2_; have HB := n3_; clear n0_ n1_ n2_ n3_; (try clear hb); (try clear hb2); (try clear hk); (try clear hi)))
        go_ret
        exact ⟨by first | rfl | (simp [errW_none, errW_some] <;> rfl) | (simp [*, errW_none, errW_some] <;> rfl), by repeat (first | (with_reducible first | exact HB.out | apply ba_ | apply bn_ | apply bd_ | refine below_set ?_ GE1103.out) | exact HB.out)⟩
       rw [if_neg c49] at H
       exact absurd H (by simp)
      replace c46 := Bool.eq_false_iff.mpr c46
      subst c46
      rw [if_neg (show ¬ (false = true) by decide)] at H
      exact absurd H (by simp)
     rw [if_neg c41] at H
     exact absurd H (by simp)
    replace c37 := Bool.eq_false_iff.mpr c37
    subst c37
    rw [if_neg (show ¬ (false = true) by decide)] at H
    exact absurd H (by simp)
   replace c32 := Bool.eq_false_iff.mpr c32
   subst c32
   rw [if_neg (show ¬ (false = true) by decide)] at H
   exact absurd H (by simp)
  replace c29 := Bool.eq_false_iff.mpr c29
  subst c29
  rw [if_neg (show ¬ (false = true) by decide)] at H
  exact absurd H (by simp)
 replace c26 := Bool.eq_false_iff.mpr c26
 subst c26
 rw [if_neg (show ¬ (false = true) by decide)] at H
 exact absurd H (by simp)
end Go.Proofs.Ytfholjcelnkleaa.Print
end
