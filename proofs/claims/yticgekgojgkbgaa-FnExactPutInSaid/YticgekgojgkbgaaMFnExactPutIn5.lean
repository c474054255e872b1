import Derived.Test.YticgekgojgkbgaaMFnExactPutIn1
import Derived.Test.YticgekgojgkbgaaMFnExactPutIn3
import Derived.Test.YticgekgojgkbgaaMFnExactPutIn4
import Derived.Test.YticgekgojgkbgaaMFnExactPutIn2
section
namespace Go.Proofs.Yticgekgojgkbgaa.Print
open Go.RowKit Go.Proofs.YticgekgojgkbgaaV.PrintWords Go.Proofs.YticgekgojgkbgaaV.PrintLast Go.Proofs.YticgekgojgkbgaaV.PrintMore
attribute [local go_sem] max2_int min2_int max_two min_two max_three min_three max_four min_four
set_option linter.unusedVariables false
set_option linter.unusedSimpArgs false
set_option maxHeartbeats 8000000
set_option maxRecDepth 100000
def laws_FnExactPutIn.f (k : Nat) (a0_0 : Int) (a0_1 : Int) (l0_2 : List (S119)) (l1_0 : List (S85)) (a1_1 : Int) (a1_2 : Int) (a1_3 : ByteArray) : Option (Bool) := (laws_szPart.f k a0_0 a0_1 l0_2 1048576).bind fun t949 => (if t949 < 0 then (some true) else ((laws_szAlarm.f k l1_0 a1_1 a1_2 a1_3 t949).bind fun t950 => (if t950 < 0 then (some true) else ((laws_toPart.f k a0_0 a0_1 l0_2).bind fun bt951 => ((laws_toAlarm.f k l1_0 a1_1 a1_2 a1_3).bind fun bt956 => ((spec_PutIn.f k bt951.1 bt951.2.1 bt951.2.2 bt956.1 bt956.2.1 bt956.2.2.1 bt956.2.2.2).bind fun bt962 => ((laws_toPart.f k a0_0 a0_1 l0_2).bind fun bt969 => ((laws_toAlarm.f k l1_0 a1_1 a1_2 a1_3).bind fun bt975 => ((impl_PutIn.f k bt969.1 bt969.2.1 bt969.2.2 bt975.1 bt975.2.1 bt975.2.2.1 bt975.2.2.2).bind fun bt982 => ((laws_eqPart.f k bt982.1 bt982.2.1 bt982.2.2.1 bt962.1 bt962.2.1 bt962.2.2.1).bind fun t989 => (if t989 = true then (if (bt982.2.2.2 != bt962.2.2.2) = true then (none) else ((laws_toPart.f k a0_0 a0_1 l0_2).bind fun bt990 => ((laws_eqPart.f k bt969.1 bt969.2.1 bt969.2.2 bt990.1 bt990.2.1 bt990.2.2).bind fun t995 => (if t995 = true then ((laws_toAlarm.f k l1_0 a1_1 a1_2 a1_3).bind fun bt996 => ((laws_eqAlarm.f k bt975.1 bt975.2.1 bt975.2.2.1 bt975.2.2.2 bt996.1 bt996.2.1 bt996.2.2.1 bt996.2.2.2).bind fun t1002 => (if t1002 = true then ((laws_markPart.f k bt969.1 bt969.2.1 bt969.2.2 1).bind fun bt1003 => ((laws_markAlarm.f k bt975.1 bt975.2.1 bt975.2.2.1 bt975.2.2.2 bt1003.1).bind fun bt1005 => (if bt1005.1 < 0 then (none) else ((laws_eqPart.f k bt982.1 bt982.2.1 bt982.2.2.1 bt962.1 bt962.2.1 bt962.2.2.1).bind fun t1007 => (if t1007 = true then ((laws_markPart.f k bt982.1 bt982.2.1 bt982.2.2.1 1).bind fun bt1008 => ((laws_heldPart.f k bt982.1 bt982.2.1 bt1008.2 1).bind fun t1010 => (if t1010 < 0 then (none) else (if t1010 = bt1008.1 then ((laws_toPart.f k a0_0 a0_1 l0_2).bind fun bt1011 => ((laws_toAlarm.f k l1_0 a1_1 a1_2 a1_3).bind fun bt1016 => ((impl_PutIn.f k bt1011.1 bt1011.2.1 bt1011.2.2 bt1016.1 bt1016.2.1 bt1016.2.2.1 bt1016.2.2.2).bind fun bt1022 => ((laws_eqPart.f k bt1022.1 bt1022.2.1 bt1022.2.2.1 bt962.1 bt962.2.1 bt962.2.2.1).bind fun t1029 => (if t1029 = true then (if (bt1022.2.2.2 != bt962.2.2.2) = true then (none) else ((laws_heldPart.f k bt982.1 bt982.2.1 bt1008.2 1).bind fun t1030 => (if t1030 < 0 then (none) else (if t1030 = bt1008.1 then (some true) else (none))))) else (none)))))) else (none))))) else (none)))))) else (none)))) else (none))))) else (none))))))))))))
theorem laws_FnExactPutIn.mono : ∀ a0 a1 a2 a3 a4 a5 a6 k, LeO (laws_FnExactPutIn.f k a0 a1 a2 a3 a4 a5 a6) (laws_FnExactPutIn.f (k + 1) a0 a1 a2 a3 a4 a5 a6) := by
 intro a0 a1 a2 a3 a4 a5 a6 k
 unfold laws_FnExactPutIn.f
 repeat' first
   | (with_reducible exact impl_PutIn.mono _ _ _ _ _ _ _ _)
   | (with_reducible exact laws_eqAlarm.mono _ _ _ _ _ _ _ _ _)
   | (with_reducible exact laws_eqPart.mono _ _ _ _ _ _ _)
   | (with_reducible exact laws_heldPart.mono _ _ _ _ _)
   | (with_reducible exact laws_markAlarm.mono _ _ _ _ _ _)
   | (with_reducible exact laws_markPart.mono _ _ _ _ _)
   | (with_reducible exact laws_szAlarm.mono _ _ _ _ _ _)
   | (with_reducible exact laws_szPart.mono _ _ _ _ _)
   | (with_reducible exact laws_toAlarm.mono _ _ _ _ _)
   | (with_reducible exact laws_toPart.mono _ _ _ _)
   | (with_reducible exact spec_PutIn.mono _ _ _ _ _ _ _ _)
   | (with_reducible exact LeO.refl _)
   | (with_reducible exact LeO.none _)
   | (with_reducible refine LeO.ite ?_ ?_)
   | (with_reducible refine LeO.bind ?_ (fun _ => ?_))
   | exact impl_PutIn.mono _ _ _ _ _ _ _ _
   | exact laws_eqAlarm.mono _ _ _ _ _ _ _ _ _
   | exact laws_eqPart.mono _ _ _ _ _ _ _
   | exact laws_heldPart.mono _ _ _ _ _
   | exact laws_markAlarm.mono _ _ _ _ _ _
   | exact laws_markPart.mono _ _ _ _ _
   | exact laws_szAlarm.mono _ _ _ _ _ _
   | exact laws_szPart.mono _ _ _ _ _
   | exact laws_toAlarm.mono _ _ _ _ _
   | exact laws_toPart.mono _ _ _ _
   | exact spec_PutIn.mono _ _ _ _ _ _ _ _
def laws_FnExactPutIn.T8 : Bool × List (List Nat × List Nat) := (true, [([], []), ([0], [0]), ([], []), ([2, 1], [2]), ([1, 3, 3], [1, 3]), ([4], [4]), ([5], [5]), ([5], [5]), ([], []), ([8, 6, 4, 0, 1, 2, 3, 4, 5, 6, 8], [6, 8]), ([7, 9, 0, 1, 2, 3, 4, 5, 6, 7, 8, 9], [7])])
def laws_FnExactPutIn.B8 : List Nat := [0, 1, 0, 7, 15, 31, 63, 63, 0, 383, 1023]
theorem laws_FnExactPutIn.tab8 : rtab .any (opsOf Try.f9 8) = laws_FnExactPutIn.T8 := by kernel_rfl
theorem laws_FnExactPutIn.bits8 : waitsOk laws_FnExactPutIn.T8.2 laws_FnExactPutIn.B8 = true := by kernel_rfl
def laws_FnExactPutIn.T31 : Bool × List (List Nat × List Nat) := (true, [([], []), ([0], [0]), ([], []), ([2, 1], [2]), ([1, 3, 3], [1, 3]), ([4], [4]), ([5], [5]), ([5], [5]), ([], []), ([8, 6, 4, 0, 1, 2, 3, 4, 5, 6, 8], [6, 8]), ([7, 9, 0, 1, 2, 3, 4, 5, 6, 7, 8, 9], [7])])
def laws_FnExactPutIn.B31 : List Nat := [0, 1, 0, 7, 15, 31, 63, 63, 0, 383, 1023]
theorem laws_FnExactPutIn.tab31 : rtab .any (opsOf Try.f9 31) = laws_FnExactPutIn.T31 := by kernel_rfl
theorem laws_FnExactPutIn.bits31 : waitsOk laws_FnExactPutIn.T31.2 laws_FnExactPutIn.B31 = true := by kernel_rfl
theorem laws_FnExactPutIn.calls (k : Nat) (a0_0 : Int) (a0_1 : Int) (A0_2 : Option Addr) (c0_2 : Nat) (l0_2 : List (S119)) (A1_0 : Option Addr) (c1_0 : Nat) (l1_0 : List (S85)) (a1_1 : Int) (a1_2 : Int) (a1_3 : ByteArray) (r : Bool) (w : World) (hr0_2 : Kd.C k119 w A0_2 l0_2.length l0_2) (hc0_2 : l0_2.length ≤ c0_2) (hr1_0 : Kd.C k85 w A1_0 l1_0.length l1_0) (hc1_0 : l1_0.length ≤ c1_0) (h : laws_FnExactPutIn.f k a0_0 a0_1 l0_2 l1_0 a1_1 a1_2 a1_3 = some r) :
  Calls Try.prog 9 #[.agg #[.int .i64 a0_0, .int .i64 a0_1, .slice A0_2 l0_2.length c0_2], .agg #[.slice A1_0 l1_0.length c1_0, .int .i64 a1_1, .int .i64 a1_2, .string a1_3]] w fun e w' => e = .returned (.bool r) ∧ Below w.heap.size w w' := by
 have hu52 := Try.underlying52
 have hu35 := Try.underlying35
 have hu57 := Try.underlying57
 have hu43 := Try.underlying43
 have HR0_2 := Aside0.mk hr0_2
 have HC0_2 := Aside0.mk hc0_2
 clear hr0_2 hc0_2
 have HR1_0 := Aside0.mk hr1_0
 have HC1_0 := Aside0.mk hc1_0
 clear hr1_0 hc1_0
 have HB := Aside0.mk (Below.refl w.heap.size w)
 have H : ((laws_szPart.f k a0_0 a0_1 l0_2 1048576).bind fun t949 => (if t949 < 0 then (some true) else ((laws_szAlarm.f k l1_0 a1_1 a1_2 a1_3 t949).bind fun t950 => (if t950 < 0 then (some true) else ((laws_toPart.f k a0_0 a0_1 l0_2).bind fun bt951 => ((laws_toAlarm.f k l1_0 a1_1 a1_2 a1_3).bind fun bt956 => ((spec_PutIn.f k bt951.1 bt951.2.1 bt951.2.2 bt956.1 bt956.2.1 bt956.2.2.1 bt956.2.2.2).bind fun bt962 => ((laws_toPart.f k a0_0 a0_1 l0_2).bind fun bt969 => ((laws_toAlarm.f k l1_0 a1_1 a1_2 a1_3).bind fun bt975 => ((impl_PutIn.f k bt969.1 bt969.2.1 bt969.2.2 bt975.1 bt975.2.1 bt975.2.2.1 bt975.2.2.2).bind fun bt982 => ((laws_eqPart.f k bt982.1 bt982.2.1 bt982.2.2.1 bt962.1 bt962.2.1 bt962.2.2.1).bind fun t989 => (if t989 = true then (if (bt982.2.2.2 != bt962.2.2.2) = true then (none) else ((laws_toPart.f k a0_0 a0_1 l0_2).bind fun bt990 => ((laws_eqPart.f k bt969.1 bt969.2.1 bt969.2.2 bt990.1 bt990.2.1 bt990.2.2).bind fun t995 => (if t995 = true then ((laws_toAlarm.f k l1_0 a1_1 a1_2 a1_3).bind fun bt996 => ((laws_eqAlarm.f k bt975.1 bt975.2.1 bt975.2.2.1 bt975.2.2.2 bt996.1 bt996.2.1 bt996.2.2.1 bt996.2.2.2).bind fun t1002 => (if t1002 = true then ((laws_markPart.f k bt969.1 bt969.2.1 bt969.2.2 1).bind fun bt1003 => ((laws_markAlarm.f k bt975.1 bt975.2.1 bt975.2.2.1 bt975.2.2.2 bt1003.1).bind fun bt1005 => (if bt1005.1 < 0 then (none) else ((laws_eqPart.f k bt982.1 bt982.2.1 bt982.2.2.1 bt962.1 bt962.2.1 bt962.2.2.1).bind fun t1007 => (if t1007 = true then ((laws_markPart.f k bt982.1 bt982.2.1 bt982.2.2.1 1).bind fun bt1008 => ((laws_heldPart.f k bt982.1 bt982.2.1 bt1008.2 1).bind fun t1010 => (if t1010 < 0 then (none) else (if t1010 = bt1008.1 then ((laws_toPart.f k a0_0 a0_1 l0_2).bind fun bt1011 => ((laws_toAlarm.f k l1_0 a1_1 a1_2 a1_3).bind fun bt1016 => ((impl_PutIn.f k bt1011.1 bt1011.2.1 bt1011.2.2 bt1016.1 bt1016.2.1 bt1016.2.2.1 bt1016.2.2.2).bind fun bt1022 => ((laws_eqPart.f k bt1022.1 bt1022.2.1 bt1022.2.2.1 bt962.1 bt962.2.1 bt962.2.2.1).bind fun t1029 => (if t1029 = true then (if (bt1022.2.2.2 != bt962.2.2.2) = true then (none) else ((laws_heldPart.f k bt982.1 bt982.2.1 bt1008.2 1).bind fun t1030 => (if t1030 < 0 then (none) else (if t1030 = bt1008.1 then (some true) else (none))))) else (none)))))) else (none))))) else (none)))))) else (none)))) else (none))))) else (none))))))))))))) = some r := h
 clear h
 replace H := Option.bind_eq_some_iff.mp H
 obtain ⟨t949, A30, H⟩ := H
 have A3 := Aside0.mk A30
 clear A30
 by_cases c4 : t949 < 0
 ·
  rw [if_pos c4] at H
  have c4b0 := decide_eq_true c4
  clear c4
  obtain rfl := Option.some.inj H
  go_enter Try.func9, Try.ntmps9
  go_wp2_with (first | ((with_reducible refine gd_ 2 rfl ?_); refine bv_ 2 #[.int .i64 a0_0, .int .i64 a0_1, .slice A0_2 l0_2.length c0_2] 52 ?_; intro gb947 hg w5 hbox hb; have BK947 := Aside0.mk (hbox); have GW947 := Aside0.mk ((gw_ hg (hs_ HB.out))); replace HB := st_ HB hb; have GE947 := Ge_.mk GW947.out; clear hb hbox hg) | ((with_reducible refine gd_ 3 rfl ?_); refine bv_ 3 #[.slice A1_0 l1_0.length c1_0, .int .i64 a1_1, .int .i64 a1_2, .string a1_3] 35 ?_; intro gb948 hg w6 hbox hb; have BK948 := Aside0.mk (hbox); have GW948 := Aside0.mk ((gw_ hg (hs_ HB.out))); replace HB := st_ HB hb; have GE948 := Ge_.mk GW948.out; have NB947_948 := Ne_.mk (nl_ BK947.out hg); replace BK947 := bk2_ BK947 hb; have NB948_947 := Ne_.mk (NB947_948.out.symm); clear hb hbox hg; have hnb7 := NB947_948.out; have hnc7 := NB948_947.out; obtain ⟨hcz8_0, hcz8_1, hcz8_2, hfz8_0, hfz8_1, hfz8_2⟩ := bc3_ BK947.out) | ((with_reducible refine gate_callee (f := 25) rfl ?_); refine gl_ (some 19) Try.func25 #[.agg #[.int .i64 a0_0, .int .i64 a0_1, .slice A0_2 l0_2.length c0_2], .int .i64 1048576] ?_; (with_reducible refine (laws_szPart.calls k a0_0 a0_1 _ _ l0_2 1048576 t949 _ ?side1 ?side2 A3.out).mono ?_); (case side1 => exact cp_ ((Kd.C_below HR0_2.out HB.out))); (case side2 => exact HC0_2.out); rintro e w9 ⟨rfl, hb⟩; refine ⟨_, rfl, ?_⟩; replace HB := st_ HB hb; (try clear hb); (try clear hb2); (try clear hk); (try clear hi)))
  go_ret
  exact ⟨by first | rfl | (simp [errW_none, errW_some] <;> rfl) | (simp [*, errW_none, errW_some] <;> rfl), by exact hs_ HB.out⟩
 rw [if_neg c4] at H
 have c4b0 : decide (t949 < 0) = false := decide_eq_false c4
 clear c4
 replace H := Option.bind_eq_some_iff.mp H
 obtain ⟨t950, A100, H⟩ := H
 have A10 := Aside0.mk A100
 clear A100
 by_cases c11 : t950 < 0
 ·
  rw [if_pos c11] at H
  have c11b0 := decide_eq_true c11
  clear c11
  obtain rfl := Option.some.inj H
  go_enter Try.func9, Try.ntmps9
  go_wp2_with (first | ((with_reducible refine gd_ 2 rfl ?_); refine bv_ 2 #[.int .i64 a0_0, .int .i64 a0_1, .slice A0_2 l0_2.length c0_2] 52 ?_; intro gb947 hg w12 hbox hb; have BK947 := Aside0.mk (hbox); have GW947 := Aside0.mk ((gw_ hg (hs_ HB.out))); replace HB := st_ HB hb; have GE947 := Ge_.mk GW947.out; clear hb hbox hg) | ((with_reducible refine gd_ 3 rfl ?_); refine bv_ 3 #[.slice A1_0 l1_0.length c1_0, .int .i64 a1_1, .int .i64 a1_2, .string a1_3] 35 ?_; intro gb948 hg w13 hbox hb; have BK948 := Aside0.mk (hbox); have GW948 := Aside0.mk ((gw_ hg (hs_ HB.out))); replace HB := st_ HB hb; have GE948 := Ge_.mk GW948.out; have NB947_948 := Ne_.mk (nl_ BK947.out hg); replace BK947 := bk2_ BK947 hb; have NB948_947 := Ne_.mk (NB947_948.out.symm); clear hb hbox hg; have hnb14 := NB947_948.out; have hnc14 := NB948_947.out; obtain ⟨hcz15_0, hcz15_1, hcz15_2, hfz15_0, hfz15_1, hfz15_2⟩ := bc3_ BK947.out) | ((with_reducible refine gate_callee (f := 25) rfl ?_); refine gl_ (some 19) Try.func25 #[.agg #[.int .i64 a0_0, .int .i64 a0_1, .slice A0_2 l0_2.length c0_2], .int .i64 1048576] ?_; (with_reducible refine (laws_szPart.calls k a0_0 a0_1 _ _ l0_2 1048576 t949 _ ?side1 ?side2 A3.out).mono ?_); (case side1 => exact cp_ ((Kd.C_below HR0_2.out HB.out))); (case side2 => exact HC0_2.out); rintro e w16 ⟨rfl, hb⟩; refine ⟨_, rfl, ?_⟩; replace BK948 := bk2_ BK948 hb; replace HB := st_ HB hb; (try clear hb); (try clear hb2); (try clear hk); (try clear hi); obtain ⟨hcz17_0, hcz17_1, hcz17_2, hcz17_3, hfz17_0, hfz17_1, hfz17_2, hfz17_3⟩ := bc4_ BK948.out) | ((with_reducible refine gate_callee (f := 42) rfl ?_); refine gl_ (some 24) Try.func42 #[.agg #[.slice A1_0 l1_0.length c1_0, .int .i64 a1_1, .int .i64 a1_2, .string a1_3], .int .i64 t949] ?_; (with_reducible refine (laws_szAlarm.calls k _ _ l1_0 a1_1 a1_2 a1_3 t949 t950 _ ?side1 ?side2 A10.out).mono ?_); (case side1 => exact cp_ ((Kd.C_below HR1_0.out HB.out))); (case side2 => exact HC1_0.out); rintro e w18 ⟨rfl, hb⟩; refine ⟨_, rfl, ?_⟩; replace HB := st_ HB hb; (try clear hb); (try clear hb2); (try clear hk); (try clear hi)))
  go_ret
  exact ⟨by first | rfl | (simp [errW_none, errW_some] <;> rfl) | (simp [*, errW_none, errW_some] <;> rfl), by exact hs_ HB.out⟩
 rw [if_neg c11] at H
 have c11b0 : decide (t950 < 0) = false := decide_eq_false c11
 clear c11
 replace H := Option.bind_eq_some_iff.mp H
 obtain ⟨⟨t951, t952, t953⟩, A190, H⟩ := H
 have A19 := Aside0.mk A190
 clear A190
 replace H := Option.bind_eq_some_iff.mp H
 obtain ⟨⟨t956, t959, t960, t961⟩, A200, H⟩ := H
 have A20 := Aside0.mk A200
 clear A200
 replace H := Option.bind_eq_some_iff.mp H
 obtain ⟨⟨t962, t963, t964, t967⟩, A210, H⟩ := H
 have A21 := Aside0.mk A210
 clear A210
 replace H := Option.bind_eq_some_iff.mp H
 obtain ⟨⟨t969, t970, t971⟩, A220, H⟩ := H
 have A22 := Aside0.mk A220
 clear A220
 replace H := Option.bind_eq_some_iff.mp H
 obtain ⟨⟨t975, t978, t979, t980⟩, A230, H⟩ := H
 have A23 := Aside0.mk A230
 clear A230
 replace H := Option.bind_eq_some_iff.mp H
 obtain ⟨⟨t982, t983, t984, t987⟩, A240, H⟩ := H
 have A24 := Aside0.mk A240
 clear A240
 replace H := Option.bind_eq_some_iff.mp H
 obtain ⟨t989, A250, H⟩ := H
 have A25 := Aside0.mk A250
 clear A250
 by_cases c26 : t989 = true
 ·
  subst c26
  rw [if_pos rfl] at H
  by_cases c27 : (t987 != t967) = true
  ·
   rw [if_pos c27] at H
   exact absurd H (by simp)
  rw [if_neg c27] at H
  have c27b0 : (t987 != t967) = false := by simpa using c27
  (try (have c27b1 : decide (t987 = t967) = true := by simpa using c27))
  (try (have c27b2 : (t987 == t967) = true := by simpa using c27))
  clear c27
  replace H := Option.bind_eq_some_iff.mp H
  obtain ⟨⟨t990, t991, t992⟩, A280, H⟩ := H
  have A28 := Aside0.mk A280
  clear A280
  replace H := Option.bind_eq_some_iff.mp H
  obtain ⟨t995, A290, H⟩ := H
  have A29 := Aside0.mk A290
  clear A290
  by_cases c30 : t995 = true
  ·
   subst c30
   rw [if_pos rfl] at H
   replace H := Option.bind_eq_some_iff.mp H
   obtain ⟨⟨t996, t999, t1000, t1001⟩, A310, H⟩ := H
   have A31 := Aside0.mk A310
   clear A310
   replace H := Option.bind_eq_some_iff.mp H
   obtain ⟨t1002, A320, H⟩ := H
   have A32 := Aside0.mk A320
   clear A320
   by_cases c33 : t1002 = true
   ·
    subst c33
    rw [if_pos rfl] at H
    replace H := Option.bind_eq_some_iff.mp H
    obtain ⟨⟨t1003, t1004⟩, A340, H⟩ := H
    have A34 := Aside0.mk A340
    clear A340
    replace H := Option.bind_eq_some_iff.mp H
    obtain ⟨⟨t1005, t1006⟩, A350, H⟩ := H
    have A35 := Aside0.mk A350
    clear A350
    by_cases c36 : t1005 < 0
    ·
     rw [if_pos c36] at H
     exact absurd H (by simp)
    rw [if_neg c36] at H
    have c36b0 : decide (t1005 < 0) = false := decide_eq_false c36
    clear c36
    replace H := Option.bind_eq_some_iff.mp H
    obtain ⟨t1007, A370, H⟩ := H
    have A37 := Aside0.mk A370
    clear A370
    by_cases c38 : t1007 = true
    ·
     subst c38
     rw [if_pos rfl] at H
     replace H := Option.bind_eq_some_iff.mp H
     obtain ⟨⟨t1008, t1009⟩, A390, H⟩ := H
     have A39 := Aside0.mk A390
     clear A390
     replace H := Option.bind_eq_some_iff.mp H
     obtain ⟨t1010, A400, H⟩ := H
     have A40 := Aside0.mk A400
     clear A400
     by_cases c41 : t1010 < 0
     ·
      rw [if_pos c41] at H
      exact absurd H (by simp)
     rw [if_neg c41] at H
     have c41b0 : decide (t1010 < 0) = false := decide_eq_false c41
     clear c41
     by_cases c42 : t1010 = t1008
     ·
      rw [if_pos c42] at H
      have c42b0 : (t1010 == t1008) = true := beq_iff_eq.mpr c42
      have c42b1 : (t1010 != t1008) = false := bne_eq_false_iff_eq.mpr c42
      clear c42
      replace H := Option.bind_eq_some_iff.mp H
      obtain ⟨⟨t1011, t1012, t1013⟩, A430, H⟩ := H
      have A43 := Aside0.mk A430
      clear A430
      replace H := Option.bind_eq_some_iff.mp H
      obtain ⟨⟨t1016, t1019, t1020, t1021⟩, A440, H⟩ := H
      have A44 := Aside0.mk A440
      clear A440
      replace H := Option.bind_eq_some_iff.mp H
      obtain ⟨⟨t1022, t1023, t1024, t1027⟩, A450, H⟩ := H
      have A45 := Aside0.mk A450
      clear A450
      replace H := Option.bind_eq_some_iff.mp H
      obtain ⟨t1029, A460, H⟩ := H
      have A46 := Aside0.mk A460
      clear A460
      by_cases c47 : t1029 = true
      ·
       subst c47
       rw [if_pos rfl] at H
       by_cases c48 : (t1027 != t967) = true
       ·
        rw [if_pos c48] at H
        exact absurd H (by simp)
       rw [if_neg c48] at H
       have c48b0 : (t1027 != t967) = false := by simpa using c48
       (try (have c48b1 : decide (t1027 = t967) = true := by simpa using c48))
       (try (have c48b2 : (t1027 == t967) = true := by simpa using c48))
       clear c48
       replace H := Option.bind_eq_some_iff.mp H
       obtain ⟨t1030, A490, H⟩ := H
       have A49 := Aside0.mk A490
       clear A490
       by_cases c50 : t1030 < 0
       ·
        rw [if_pos c50] at H
        exact absurd H (by simp)
       rw [if_neg c50] at H
       have c50b0 : decide (t1030 < 0) = false := decide_eq_false c50
       clear c50
       by_cases c51 : t1030 = t1008
       ·
        rw [if_pos c51] at H
        have c51b0 : (t1030 == t1008) = true := beq_iff_eq.mpr c51
        have c51b1 : (t1030 != t1008) = false := bne_eq_false_iff_eq.mpr c51
        clear c51
        obtain rfl := Option.some.inj H
        go_enter Try.func9, Try.ntmps9
        try go_wp2_with (first | ((with_reducible refine gd_ 2 rfl ?_); refine bv_ 2 #[.int .i64 a0_0, .int .i64 a0_1, .slice A0_2 l0_2.length c0_2] 52 ?_; intro gb947 hg w52 hbox hb; have BK947 := Aside0.mk (hbox); have GW947 := Aside0.mk ((gw_ hg (hs_ HB.out))); replace HB := st_ HB hb; have GE947 := Ge_.mk GW947.out; clear hb hbox hg) | ((with_reducible refine gd_ 3 rfl ?_); refine bv_ 3 #[.slice A1_0 l1_0.length c1_0, .int .i64 a1_1, .int .i64 a1_2, .string a1_3] 35 ?_; intro gb948 hg w53 hbox hb; have BK948 := Aside0.mk (hbox); have GW948 := Aside0.mk ((gw_ hg (hs_ HB.out))); replace HB := st_ HB hb; have GE948 := Ge_.mk GW948.out; have NB947_948 := Ne_.mk (nl_ BK947.out hg); replace BK947 := bk2_ BK947 hb; have NB948_947 := Ne_.mk (NB947_948.out.symm); clear hb hbox hg; have hnb54 := NB947_948.out; have hnc54 := NB948_947.out; obtain ⟨hcz55_0, hcz55_1, hcz55_2, hfz55_0, hfz55_1, hfz55_2⟩ := bc3_ BK947.out) | ((with_reducible refine gate_callee (f := 25) rfl ?_); refine gl_ (some 19) Try.func25 #[.agg #[.int .i64 a0_0, .int .i64 a0_1, .slice A0_2 l0_2.length c0_2], .int .i64 1048576] ?_; (with_reducible refine (laws_szPart.calls k a0_0 a0_1 _ _ l0_2 1048576 t949 _ ?side1 ?side2 A3.out).mono ?_); (case side1 => exact cp_ ((Kd.C_below HR0_2.out HB.out))); (case side2 => exact HC0_2.out); rintro e w56 ⟨rfl, hb⟩; refine ⟨_, rfl, ?_⟩; replace BK947 := bk2_ BK947 hb; replace BK948 := bk2_ BK948 hb; replace HB := st_ HB hb; (try clear hb); (try clear hb2); (try clear hk); (try clear hi); obtain ⟨hcz57_0, hcz57_1, hcz57_2, hcz57_3, hfz57_0, hfz57_1, hfz57_2, hfz57_3⟩ := bc4_ BK948.out) | ((with_reducible refine gate_callee (f := 42) rfl ?_); refine gl_ (some 24) Try.func42 #[.agg #[.slice A1_0 l1_0.length c1_0, .int .i64 a1_1, .int .i64 a1_2, .string a1_3], .int .i64 t949] ?_; (with_reducible refine (laws_szAlarm.calls k _ _ l1_0 a1_1 a1_2 a1_3 t949 t950 _ ?side1 ?side2 A10.out).mono ?_); (case side1 => exact cp_ ((Kd.C_below HR1_0.out HB.out))); (case side2 => exact HC1_0.out); rintro e w58 ⟨rfl, hb⟩; refine ⟨_, rfl, ?_⟩; replace BK947 := bk2_ BK947 hb; replace BK948 := bk2_ BK948 hb; replace HB := st_ HB hb; (try clear hb); (try clear hb2); (try clear hk); (try clear hi)))
        replace BK947 := Aside0.mk (blk_drew BK947.out)
        replace BK948 := Aside0.mk (blk_drew BK948.out)
        replace HB := Aside0.mk (bd_ HB.out)
        refine start_ (n := 11) (S := fun w' => w'.cell? ⟨gb947, 0, none⟩ = some (.int .i64 a0_0) ∧ w'.cell? ⟨gb947, 1, none⟩ = some (.int .i64 a0_1) ∧ w'.cell? ⟨gb947, 2, none⟩ = some (.slice A0_2 l0_2.length c0_2) ∧ w'.cell? ⟨gb948, 0, none⟩ = some (.slice A1_0 l1_0.length c1_0) ∧ w'.cell? ⟨gb948, 1, none⟩ = some (.int .i64 a1_1) ∧ w'.cell? ⟨gb948, 2, none⟩ = some (.int .i64 a1_2) ∧ w'.cell? ⟨gb948, 3, none⟩ = some (.string a1_3)) (ds := []) #[f_,f_,f_,f_,f_,f_,f_,f_,f_,f_,f_] (by kernel_rfl) rfl rfl ⟨bx_ BK947.out 0, bx_ BK947.out 1, bx_ BK947.out 2, bx_ BK948.out 0, bx_ BK948.out 1, bx_ BK948.out 2, bx_ BK948.out 3⟩ (fun hHeld => ?_); refine with_tabW laws_FnExactPutIn.tab8 laws_FnExactPutIn.bits8 (fun HT_ HW_ => ?_)
        generalize w58.drew = w59 at BK947 BK948 HB hHeld ⊢
        refine take_ (i := 0) (N := some 28) (v := ?_) (a' := ?_) #[t_,f_,f_,f_,f_,f_,f_,f_,f_,f_,f_] rfl rfl (take_ofW HT_.out HW_.out (by kernel_rfl)) (fun _ _ _ h => h) (Or.inl ⟨by rfl, ?_⟩) hHeld ?_ ?_
        rotate_left
        ·
         rintro w' ⟨s0, s1, s2, s3, s4, s5, s6⟩
         go_simp
         with_reducible rfl
        rotate_left
        ·
         simp only [fr_]
         rfl
        refine take_ (i := 2) (N := some 30) (v := ?_) (a' := ?_) #[t_,f_,t_,f_,f_,f_,f_,f_,f_,f_,f_] rfl rfl (take_ofW HT_.out HW_.out (by kernel_rfl)) (fun _ _ _ h => h) (Or.inl ⟨by rfl, ?_⟩) hHeld ?_ ?_
        rotate_left
        ·
         rintro w' ⟨s0, s1, s2, s3, s4, s5, s6⟩
         go_simp
         with_reducible rfl
        rotate_left
        ·
         simp only [fr_]
         rfl
        refine join_ (σ := Value × Nat × Value × Nat × Value × Nat × Nat) 2 #[t_,t_,t_,t_,t_,t_,t_,t_,t_,f_,f_] (fun s_ => [(29, .agg #[.int .i64 t951, .int .i64 t952, s_.1]), (31, .agg #[s_.2.2.1, .int .i64 t959, .int .i64 t960, .string t961]), (32, .tuple #[.agg #[.int .i64 t962, .int .i64 t963, s_.2.2.2.2.1], .bool t967]), (6, .pointer (some ⟨s_.2.2.2.2.2.2, 0, none⟩)), (27, .tuple #[.agg #[.int .i64 t962, .int .i64 t963, s_.2.2.2.2.1], .bool t967]), (33, .agg #[.int .i64 t962, .int .i64 t963, s_.2.2.2.2.1]), (34, .bool t967)]) (fun s_ w' => (w'.cell? ⟨gb947, 0, none⟩ = some (.int .i64 a0_0) ∧ w'.cell? ⟨gb947, 1, none⟩ = some (.int .i64 a0_1) ∧ w'.cell? ⟨gb947, 2, none⟩ = some (.slice A0_2 l0_2.length c0_2) ∧ w'.cell? ⟨gb948, 0, none⟩ = some (.slice A1_0 l1_0.length c1_0) ∧ w'.cell? ⟨gb948, 1, none⟩ = some (.int .i64 a1_1) ∧ w'.cell? ⟨gb948, 2, none⟩ = some (.int .i64 a1_2) ∧ w'.cell? ⟨gb948, 3, none⟩ = some (.string a1_3)) ∧ (Kd.S k100 100 w' w.heap.size (fun k_ => s_.2.1 ≤ k_ ∧ k_ < s_.2.2.2.1 ∧ k_ < s_.2.2.2.2.2.1) s_.1 t953) ∧ (Kd.R k88 88 w' w.heap.size (fun k_ => s_.2.2.2.1 ≤ k_ ∧ k_ < s_.2.2.2.2.2.1) s_.2.2.1 t956) ∧ (Kd.S k100 100 w' w.heap.size (fun k_ => s_.2.2.2.2.2.1 ≤ k_) s_.2.2.2.2.1 t964) ∧ (w'.heap[gb947]? = some (.cells #[.int .i64 a0_0, .int .i64 a0_1, .slice A0_2 l0_2.length c0_2] 52 (0, 0))) ∧ (w'.heap[gb948]? = some (.cells #[.slice A1_0 l1_0.length c1_0, .int .i64 a1_1, .int .i64 a1_2, .string a1_3] 35 (0, 0))) ∧ (w'.heap[s_.2.2.2.2.2.2]? = some (.cells #[.int .i64 0, .int .i64 0, .slice none 0 0] 57 (0, 0))) ∧ (w.heap.size ≤ s_.2.2.2.2.2.2) ∧ (w.heap.size ≤ s_.2.2.2.2.2.2) ∧ (gb947 ≠ s_.2.2.2.2.2.2) ∧ (s_.2.2.2.2.2.2 ≠ gb947) ∧ (gb948 ≠ s_.2.2.2.2.2.2) ∧ (s_.2.2.2.2.2.2 ≠ gb948) ∧ (Below w.heap.size w w')) ?_ ?_
        rotate_left
        ·
         intro hCont
         refine two_ (i := 1) (j := 8) (Ni := some 29) (Nj := some 6) #[t_,t_,t_,f_,f_,f_,f_,f_,f_,f_,f_] #[t_,f_,t_,f_,f_,f_,f_,f_,t_,f_,f_] rfl rfl rfl rfl (two_of HT_.out (by kernel_rfl)) (by decide) (by decide) (fun K hK => ?_) (fun K hK => ?_)
         ·
          skip
          refine gs_ Try.func27 #[.agg #[.int .i64 a0_0, .int .i64 a0_1, .slice A0_2 l0_2.length c0_2]] ?_
          with_reducible refine (laws_toPart.calls k a0_0 a0_1 _ _ l0_2 t951 t952 t953 _ ?side1 ?side2 A19.out).mono ?_
          (case side1 => exact cp_ ((Kd.C_below HR0_2.out HB.out)))
          (case side2 => exact HC0_2.out)
          rintro e w60 ⟨v954, rfl, ho0, hb⟩
          refine ⟨_, rfl, ?_⟩
          obtain ⟨gbz954, hz954⟩ := Kd.S_name ho0
          have HO955 := Aside0.mk (Kd.S_lower (Kd.S_gez hz954 ho0) (below_size (hs_ HB.out)))
          replace BK947 := bk2_ BK947 hb
          replace BK948 := bk2_ BK948 hb
          replace HB := st_ HB hb
          (try clear hb)
          (try clear hb2)
          (try clear hk)
          (try clear hi)
          (try clear ho0)
          refine hK.out _ _ ⟨bx_ BK947.out 0, bx_ BK947.out 1, bx_ BK947.out 2, bx_ BK948.out 0, bx_ BK948.out 1, bx_ BK948.out 2, bx_ BK948.out 3⟩ (fun hHeld => ?_)
          clear hK K
          refine norm_ (a' := ?_) ?_ ?_
          rotate_left
          ·
           show Act.put _ (some 29) _ = _
           simp only [fr_]
           rfl
          refine two_ (i := 3) (j := 8) (Ni := some 31) (Nj := some 6) #[t_,t_,t_,t_,f_,f_,f_,f_,f_,f_,f_] #[t_,t_,t_,f_,f_,f_,f_,f_,t_,f_,f_] rfl rfl rfl rfl (two_of HT_.out (by kernel_rfl)) (by decide) (by decide) (fun K hK => ?_) (fun K hK => ?_)
          ·
           skip
           refine gs_ Try.func44 #[.agg #[.slice A1_0 l1_0.length c1_0, .int .i64 a1_1, .int .i64 a1_2, .string a1_3]] ?_
           with_reducible refine (laws_toAlarm.calls k _ _ l1_0 a1_1 a1_2 a1_3 t956 t959 t960 t961 _ ?side1 ?side2 A20.out).mono ?_
           (case side1 => exact cp_ ((Kd.C_below HR1_0.out HB.out)))
           (case side2 => exact HC1_0.out)
           rintro e w61 ⟨v957, rfl, ho0, hb⟩
           refine ⟨_, rfl, ?_⟩
           obtain ⟨gbz957, hz957⟩ := Kd.R_name ho0
           replace HO955 := Aside0.mk (Kd.S_below (Kd.S_ltz hz957 (sp_ HO955.out)) hb)
           have HO958 := Aside0.mk (Kd.R_lower (Kd.R_gez hz957 ho0) (below_size (hs_ HB.out)))
           replace BK947 := bk2_ BK947 hb
           replace BK948 := bk2_ BK948 hb
           replace HB := st_ HB hb
           (try clear hb)
           (try clear hb2)
           (try clear hk)
           (try clear hi)
           (try clear ho0)
           obtain ⟨Ao62, co62, eo62⟩ := Kd.S_slice HO955.out
           (first | subst eo62 | (obtain ⟨rfl, rfl⟩ := si_ eo62))
           obtain ⟨Ao63, co63, eo63⟩ := Kd.R_slice HO958.out
           (first | subst eo63 | (obtain ⟨rfl, rfl⟩ := si_ eo63))
           refine hK.out _ _ ⟨bx_ BK947.out 0, bx_ BK947.out 1, bx_ BK947.out 2, bx_ BK948.out 0, bx_ BK948.out 1, bx_ BK948.out 2, bx_ BK948.out 3⟩ (fun hHeld => ?_)
           clear hK K
           refine norm_ (a' := ?_) ?_ ?_
           rotate_left
           ·
            show Act.put _ (some 31) _ = _
            simp only [fr_]
            rfl
           refine two_ (i := 4) (j := 8) (Ni := some 32) (Nj := some 6) #[t_,t_,t_,t_,t_,f_,f_,f_,f_,f_,f_] #[t_,t_,t_,t_,f_,f_,f_,f_,t_,f_,f_] rfl rfl rfl rfl (two_of HT_.out (by kernel_rfl)) (by decide) (by decide) (fun K hK => ?_) (fun K hK => ?_)
           ·
            skip
            refine gs_ Try.func43 #[.agg #[.int .i64 t951, .int .i64 t952, .slice Ao62 t953.length co62], .agg #[.slice Ao63 t956.length co63, .int .i64 t959, .int .i64 t960, .string t961]] ?_
            with_reducible refine (spec_PutIn.calls k t951 t952 _ _ t953 _ _ t956 t959 t960 t961 t962 t963 t964 t967 _ ?side1 ?side2 ?side3 ?side4 A21.out).mono ?_
            (case side1 => exact cp_ ((Kd.S_reads' HO955.out).2.2))
            (case side2 => exact (Kd.S_reads' HO955.out).2.1)
            (case side3 => exact cp_ ((Kd.R_reads' HO958.out).2.2))
            (case side4 => exact (Kd.R_reads' HO958.out).2.1)
            rintro e w64 ⟨v965, rfl, ho0, hb⟩
            refine ⟨_, rfl, ?_⟩
            obtain ⟨gbz965, hz965⟩ := Kd.S_name ho0
            replace HO955 := Aside0.mk (Kd.S_below (Kd.S_ltz hz965 (sp_ HO955.out)) hb)
            replace HO958 := Aside0.mk (Kd.R_below (Kd.R_ltz hz965 (rp_ HO958.out)) hb)
            have HO966 := Aside0.mk (Kd.S_lower (Kd.S_gez hz965 ho0) (below_size (hs_ HB.out)))
            replace BK947 := bk2_ BK947 hb
            replace BK948 := bk2_ BK948 hb
            replace HB := st_ HB hb
            (try clear hb)
            (try clear hb2)
            (try clear hk)
            (try clear hi)
            (try clear ho0)
            refine hK.out _ _ ⟨bx_ BK947.out 0, bx_ BK947.out 1, bx_ BK947.out 2, bx_ BK948.out 0, bx_ BK948.out 1, bx_ BK948.out 2, bx_ BK948.out 3⟩ (fun hHeld => ?_)
            clear hK K
            refine norm_ (a' := ?_) ?_ ?_
            rotate_left
            ·
             show Act.put _ (some 32) _ = _
             simp only [fr_]
             rfl
            refine pw_ 5 27 (b_ 6 5) rfl rfl HT_.out ?_
            refine pw_ 6 33 (b_ 7 4) rfl rfl HT_.out ?_
            refine pw_ 7 34 (b_ 8 3) rfl rfl HT_.out ?_
            refine one_ (i := 8) (N := some 6) #[t_,t_,t_,t_,t_,t_,t_,t_,t_,f_,f_] rfl rfl (one_of HT_.out (by kernel_rfl)) (by decide) (fun K hK => ?_)
            refine bs1_ 6 #[.int .i64 0, .int .i64 0, .slice none 0 0] 57 ?_
            intro gb968 hg w65 hbox hb
            replace HO955 := Aside0.mk (Kd.S_below (sp_ HO955.out) hb)
            replace HO958 := Aside0.mk (Kd.R_below (rp_ HO958.out) hb)
            replace HO966 := Aside0.mk (Kd.S_below (sp_ HO966.out) hb)
            have BK968 := Aside0.mk (hbox)
            have GW968 := Aside0.mk ((gw_ hg (hs_ HB.out)))
            have GE968 := Ge_.mk ((gw_ hg (hs_ HB.out)))
            replace HB := st_ HB hb
            have NB947_968 := Ne_.mk (nl_ BK947.out hg)
            have NB968_947 := Ne_.mk (ng_ BK947.out hg)
            replace BK947 := bk2_ BK947 hb
            have NB948_968 := Ne_.mk (nl_ BK948.out hg)
            have NB968_948 := Ne_.mk (ng_ BK948.out hg)
            replace BK948 := bk2_ BK948 hb
            clear hb hbox hg
            refine hK.out _ _ ⟨bx_ BK947.out 0, bx_ BK947.out 1, bx_ BK947.out 2, bx_ BK948.out 0, bx_ BK948.out 1, bx_ BK948.out 2, bx_ BK948.out 3⟩ (fun hHeld => ?_)
            clear hK K
            refine norm_ (a' := ?_) ?_ ?_
            rotate_left
            ·
             show Act.put _ (some 6) _ = _
             simp only [fr_]
             rfl
            exact norm_ (by simp only [putAll, fr_]) (hCont (.slice Ao62 t953.length co62, gbz954, .slice Ao63 t956.length co63, gbz957, v965, gbz965, gb968) _ ⟨hHeld, (Kd.S_mono (sp_ HO955.out) (fun _ hk => ⟨hk.1.1.2, ⟨hk.1.2, hk.2⟩⟩)), (Kd.R_mono (rp_ HO958.out) (fun _ hk => ⟨hk.1.2, hk.2⟩)), (Kd.S_mono (sp_ HO966.out) (fun _ hk => hk.2)), (pb_ BK947.out), (pb_ BK948.out), (pb_ BK968.out), GW968.out, GE968.out, NB947_968.out, NB968_947.out, NB948_968.out, NB968_948.out, (hs_ HB.out)⟩)
           skip
           refine bs1_ 6 #[.int .i64 0, .int .i64 0, .slice none 0 0] 57 ?_
           intro gb968 hg w62 hbox hb
           replace HO955 := Aside0.mk (Kd.S_below (sp_ HO955.out) hb)
           replace HO958 := Aside0.mk (Kd.R_below (rp_ HO958.out) hb)
           have BK968 := Aside0.mk (hbox)
           have GW968 := Aside0.mk ((gw_ hg (hs_ HB.out)))
           have GE968 := Ge_.mk ((gw_ hg (hs_ HB.out)))
           replace HB := st_ HB hb
           have NB947_968 := Ne_.mk (nl_ BK947.out hg)
           have NB968_947 := Ne_.mk (ng_ BK947.out hg)
           replace BK947 := bk2_ BK947 hb
           have NB948_968 := Ne_.mk (nl_ BK948.out hg)
           have NB968_948 := Ne_.mk (ng_ BK948.out hg)
           replace BK948 := bk2_ BK948 hb
           clear hb hbox hg
           obtain ⟨Ao63, co63, eo63⟩ := Kd.S_slice HO955.out
           (first | subst eo63 | (obtain ⟨rfl, rfl⟩ := si_ eo63))
           obtain ⟨Ao64, co64, eo64⟩ := Kd.R_slice HO958.out
           (first | subst eo64 | (obtain ⟨rfl, rfl⟩ := si_ eo64))
           refine hK.out _ _ ⟨bx_ BK947.out 0, bx_ BK947.out 1, bx_ BK947.out 2, bx_ BK948.out 0, bx_ BK948.out 1, bx_ BK948.out 2, bx_ BK948.out 3⟩ (fun hHeld => ?_)
           clear hK K
           refine norm_ (a' := ?_) ?_ ?_
           rotate_left
           ·
            show Act.put _ (some 6) _ = _
            simp only [fr_]
            rfl
           refine one_ (i := 4) (N := some 32) #[t_,t_,t_,t_,t_,f_,f_,f_,t_,f_,f_] rfl rfl (one_of HT_.out (by kernel_rfl)) (by decide) (fun K hK => ?_)
           refine gs_ Try.func43 #[.agg #[.int .i64 t951, .int .i64 t952, .slice Ao63 t953.length co63], .agg #[.slice Ao64 t956.length co64, .int .i64 t959, .int .i64 t960, .string t961]] ?_
           with_reducible refine (spec_PutIn.calls k t951 t952 _ _ t953 _ _ t956 t959 t960 t961 t962 t963 t964 t967 _ ?side1 ?side2 ?side3 ?side4 A21.out).mono ?_
           (case side1 => exact cp_ ((Kd.S_reads' HO955.out).2.2))
           (case side2 => exact (Kd.S_reads' HO955.out).2.1)
           (case side3 => exact cp_ ((Kd.R_reads' HO958.out).2.2))
           (case side4 => exact (Kd.R_reads' HO958.out).2.1)
           rintro e w65 ⟨v965, rfl, ho0, hb⟩
           refine ⟨_, rfl, ?_⟩
           obtain ⟨gbz965, hz965⟩ := Kd.S_name ho0
           replace HO955 := Aside0.mk (Kd.S_below (Kd.S_ltz hz965 (sp_ HO955.out)) hb)
           replace HO958 := Aside0.mk (Kd.R_below (Kd.R_ltz hz965 (rp_ HO958.out)) hb)
           have HO966 := Aside0.mk (Kd.S_lower (Kd.S_gez hz965 ho0) (below_size (hs_ HB.out)))
           replace BK947 := bk2_ BK947 hb
           replace BK948 := bk2_ BK948 hb
           replace BK968 := bk2_ BK968 hb
           replace HB := st_ HB hb
           (try clear hb)
           (try clear hb2)
           (try clear hk)
           (try clear hi)
           (try clear ho0)
           refine hK.out _ _ ⟨bx_ BK947.out 0, bx_ BK947.out 1, bx_ BK947.out 2, bx_ BK948.out 0, bx_ BK948.out 1, bx_ BK948.out 2, bx_ BK948.out 3⟩ (fun hHeld => ?_)
           clear hK K
           refine norm_ (a' := ?_) ?_ ?_
           rotate_left
           ·
            show Act.put _ (some 32) _ = _
            simp only [fr_]
            rfl
           refine pw_ 5 27 #[t_,t_,t_,t_,t_,t_,f_,f_,t_,f_,f_] rfl rfl HT_.out ?_
           refine pw_ 6 33 #[t_,t_,t_,t_,t_,t_,t_,f_,t_,f_,f_] rfl rfl HT_.out ?_
           refine pw_ 7 34 (b_ 9 2) rfl rfl HT_.out ?_
           exact norm_ (by simp only [putAll, fr_]) (hCont (.slice Ao63 t953.length co63, gbz954, .slice Ao64 t956.length co64, gbz957, v965, gbz965, gb968) _ ⟨hHeld, (Kd.S_mono (sp_ HO955.out) (fun _ hk => ⟨hk.1.1.2, ⟨hk.1.2, hk.2⟩⟩)), (Kd.R_mono (rp_ HO958.out) (fun _ hk => ⟨hk.1.2, hk.2⟩)), (Kd.S_mono (sp_ HO966.out) (fun _ hk => hk.2)), (pb_ BK947.out), (pb_ BK948.out), (pb_ BK968.out), GW968.out, GE968.out, NB947_968.out, NB968_947.out, NB948_968.out, NB968_948.out, (hs_ HB.out)⟩)
          skip
          refine bs1_ 6 #[.int .i64 0, .int .i64 0, .slice none 0 0] 57 ?_
          intro gb968 hg w61 hbox hb
          replace HO955 := Aside0.mk (Kd.S_below (sp_ HO955.out) hb)
          have BK968 := Aside0.mk (hbox)
          have GW968 := Aside0.mk ((gw_ hg (hs_ HB.out)))
          have GE968 := Ge_.mk ((gw_ hg (hs_ HB.out)))
          replace HB := st_ HB hb
          have NB947_968 := Ne_.mk (nl_ BK947.out hg)
          have NB968_947 := Ne_.mk (ng_ BK947.out hg)
          replace BK947 := bk2_ BK947 hb
          have NB948_968 := Ne_.mk (nl_ BK948.out hg)
          have NB968_948 := Ne_.mk (ng_ BK948.out hg)
          replace BK948 := bk2_ BK948 hb
          clear hb hbox hg
          refine hK.out _ _ ⟨bx_ BK947.out 0, bx_ BK947.out 1, bx_ BK947.out 2, bx_ BK948.out 0, bx_ BK948.out 1, bx_ BK948.out 2, bx_ BK948.out 3⟩ (fun hHeld => ?_)
          clear hK K
          refine norm_ (a' := ?_) ?_ ?_
          rotate_left
          ·
           show Act.put _ (some 6) _ = _
           simp only [fr_]
           rfl
          refine one_ (i := 3) (N := some 31) #[t_,t_,t_,t_,f_,f_,f_,f_,t_,f_,f_] rfl rfl (one_of HT_.out (by kernel_rfl)) (by decide) (fun K hK => ?_)
          refine gs_ Try.func44 #[.agg #[.slice A1_0 l1_0.length c1_0, .int .i64 a1_1, .int .i64 a1_2, .string a1_3]] ?_
          with_reducible refine (laws_toAlarm.calls k _ _ l1_0 a1_1 a1_2 a1_3 t956 t959 t960 t961 _ ?side1 ?side2 A20.out).mono ?_
          (case side1 => exact cp_ ((Kd.C_below HR1_0.out HB.out)))
          (case side2 => exact HC1_0.out)
          rintro e w62 ⟨v957, rfl, ho0, hb⟩
          refine ⟨_, rfl, ?_⟩
          obtain ⟨gbz957, hz957⟩ := Kd.R_name ho0
          replace HO955 := Aside0.mk (Kd.S_below (Kd.S_ltz hz957 (sp_ HO955.out)) hb)
          have HO958 := Aside0.mk (Kd.R_lower (Kd.R_gez hz957 ho0) (below_size (hs_ HB.out)))
          replace BK947 := bk2_ BK947 hb
          replace BK948 := bk2_ BK948 hb
          replace BK968 := bk2_ BK968 hb
          replace HB := st_ HB hb
          (try clear hb)
          (try clear hb2)
          (try clear hk)
          (try clear hi)
          (try clear ho0)
          obtain ⟨Ao63, co63, eo63⟩ := Kd.S_slice HO955.out
          (first | subst eo63 | (obtain ⟨rfl, rfl⟩ := si_ eo63))
          obtain ⟨Ao64, co64, eo64⟩ := Kd.R_slice HO958.out
          (first | subst eo64 | (obtain ⟨rfl, rfl⟩ := si_ eo64))
          refine hK.out _ _ ⟨bx_ BK947.out 0, bx_ BK947.out 1, bx_ BK947.out 2, bx_ BK948.out 0, bx_ BK948.out 1, bx_ BK948.out 2, bx_ BK948.out 3⟩ (fun hHeld => ?_)
          clear hK K
          refine norm_ (a' := ?_) ?_ ?_
          rotate_left
          ·
           show Act.put _ (some 31) _ = _
           simp only [fr_]
           rfl
          refine one_ (i := 4) (N := some 32) #[t_,t_,t_,t_,t_,f_,f_,f_,t_,f_,f_] rfl rfl (one_of HT_.out (by kernel_rfl)) (by decide) (fun K hK => ?_)
          refine gs_ Try.func43 #[.agg #[.int .i64 t951, .int .i64 t952, .slice Ao63 t953.length co63], .agg #[.slice Ao64 t956.length co64, .int .i64 t959, .int .i64 t960, .string t961]] ?_
          with_reducible refine (spec_PutIn.calls k t951 t952 _ _ t953 _ _ t956 t959 t960 t961 t962 t963 t964 t967 _ ?side1 ?side2 ?side3 ?side4 A21.out).mono ?_
          (case side1 => exact cp_ ((Kd.S_reads' HO955.out).2.2))
          (case side2 => exact (Kd.S_reads' HO955.out).2.1)
          (case side3 => exact cp_ ((Kd.R_reads' HO958.out).2.2))
          (case side4 => exact (Kd.R_reads' HO958.out).2.1)
          rintro e w65 ⟨v965, rfl, ho0, hb⟩
          refine ⟨_, rfl, ?_⟩
          obtain ⟨gbz965, hz965⟩ := Kd.S_name ho0
          replace HO955 := Aside0.mk (Kd.S_below (Kd.S_ltz hz965 (sp_ HO955.out)) hb)
          replace HO958 := Aside0.mk (Kd.R_below (Kd.R_ltz hz965 (rp_ HO958.out)) hb)
          have HO966 := Aside0.mk (Kd.S_lower (Kd.S_gez hz965 ho0) (below_size (hs_ HB.out)))
          replace BK947 := bk2_ BK947 hb
          replace BK948 := bk2_ BK948 hb
          replace BK968 := bk2_ BK968 hb
          replace HB := st_ HB hb
          (try clear hb)
          (try clear hb2)
          (try clear hk)
          (try clear hi)
          (try clear ho0)
          refine hK.out _ _ ⟨bx_ BK947.out 0, bx_ BK947.out 1, bx_ BK947.out 2, bx_ BK948.out 0, bx_ BK948.out 1, bx_ BK948.out 2, bx_ BK948.out 3⟩ (fun hHeld => ?_)
          clear hK K
          refine norm_ (a' := ?_) ?_ ?_
          rotate_left
          ·
           show Act.put _ (some 32) _ = _
           simp only [fr_]
           rfl
          refine pw_ 5 27 #[t_,t_,t_,t_,t_,t_,f_,f_,t_,f_,f_] rfl rfl HT_.out ?_
          refine pw_ 6 33 #[t_,t_,t_,t_,t_,t_,t_,f_,t_,f_,f_] rfl rfl HT_.out ?_
          refine pw_ 7 34 (b_ 9 2) rfl rfl HT_.out ?_
          exact norm_ (by simp only [putAll, fr_]) (hCont (.slice Ao63 t953.length co63, gbz954, .slice Ao64 t956.length co64, gbz957, v965, gbz965, gb968) _ ⟨hHeld, (Kd.S_mono (sp_ HO955.out) (fun _ hk => ⟨hk.1.1.2, ⟨hk.1.2, hk.2⟩⟩)), (Kd.R_mono (rp_ HO958.out) (fun _ hk => ⟨hk.1.2, hk.2⟩)), (Kd.S_mono (sp_ HO966.out) (fun _ hk => hk.2)), (pb_ BK947.out), (pb_ BK948.out), (pb_ BK968.out), GW968.out, GE968.out, NB947_968.out, NB968_947.out, NB948_968.out, NB968_948.out, (hs_ HB.out)⟩)
         skip
         refine bs1_ 6 #[.int .i64 0, .int .i64 0, .slice none 0 0] 57 ?_
         intro gb968 hg w60 hbox hb
         have BK968 := Aside0.mk (hbox)
         have GW968 := Aside0.mk ((gw_ hg (hs_ HB.out)))
         have GE968 := Ge_.mk ((gw_ hg (hs_ HB.out)))
         replace HB := st_ HB hb
         have NB947_968 := Ne_.mk (nl_ BK947.out hg)
         have NB968_947 := Ne_.mk (ng_ BK947.out hg)
         replace BK947 := bk2_ BK947 hb
         have NB948_968 := Ne_.mk (nl_ BK948.out hg)
         have NB968_948 := Ne_.mk (ng_ BK948.out hg)
         replace BK948 := bk2_ BK948 hb
         clear hb hbox hg
         refine hK.out _ _ ⟨bx_ BK947.out 0, bx_ BK947.out 1, bx_ BK947.out 2, bx_ BK948.out 0, bx_ BK948.out 1, bx_ BK948.out 2, bx_ BK948.out 3⟩ (fun hHeld => ?_)
         clear hK K
         refine norm_ (a' := ?_) ?_ ?_
         rotate_left
         ·
          show Act.put _ (some 6) _ = _
          simp only [fr_]
          rfl
         refine one_ (i := 1) (N := some 29) #[t_,t_,t_,f_,f_,f_,f_,f_,t_,f_,f_] rfl rfl (one_of HT_.out (by kernel_rfl)) (by decide) (fun K hK => ?_)
         refine gs_ Try.func27 #[.agg #[.int .i64 a0_0, .int .i64 a0_1, .slice A0_2 l0_2.length c0_2]] ?_
         with_reducible refine (laws_toPart.calls k a0_0 a0_1 _ _ l0_2 t951 t952 t953 _ ?side1 ?side2 A19.out).mono ?_
         (case side1 => exact cp_ ((Kd.C_below HR0_2.out HB.out)))
         (case side2 => exact HC0_2.out)
         rintro e w61 ⟨v954, rfl, ho0, hb⟩
         refine ⟨_, rfl, ?_⟩
         obtain ⟨gbz954, hz954⟩ := Kd.S_name ho0
         have HO955 := Aside0.mk (Kd.S_lower (Kd.S_gez hz954 ho0) (below_size (hs_ HB.out)))
         replace BK947 := bk2_ BK947 hb
         replace BK948 := bk2_ BK948 hb
         replace BK968 := bk2_ BK968 hb
         replace HB := st_ HB hb
         (try clear hb)
         (try clear hb2)
         (try clear hk)
         (try clear hi)
         (try clear ho0)
         refine hK.out _ _ ⟨bx_ BK947.out 0, bx_ BK947.out 1, bx_ BK947.out 2, bx_ BK948.out 0, bx_ BK948.out 1, bx_ BK948.out 2, bx_ BK948.out 3⟩ (fun hHeld => ?_)
         clear hK K
         refine norm_ (a' := ?_) ?_ ?_
         rotate_left
         ·
          show Act.put _ (some 29) _ = _
          simp only [fr_]
          rfl
         refine one_ (i := 3) (N := some 31) #[t_,t_,t_,t_,f_,f_,f_,f_,t_,f_,f_] rfl rfl (one_of HT_.out (by kernel_rfl)) (by decide) (fun K hK => ?_)
         refine gs_ Try.func44 #[.agg #[.slice A1_0 l1_0.length c1_0, .int .i64 a1_1, .int .i64 a1_2, .string a1_3]] ?_
         with_reducible refine (laws_toAlarm.calls k _ _ l1_0 a1_1 a1_2 a1_3 t956 t959 t960 t961 _ ?side1 ?side2 A20.out).mono ?_
         (case side1 => exact cp_ ((Kd.C_below HR1_0.out HB.out)))
         (case side2 => exact HC1_0.out)
         rintro e w62 ⟨v957, rfl, ho0, hb⟩
         refine ⟨_, rfl, ?_⟩
         obtain ⟨gbz957, hz957⟩ := Kd.R_name ho0
         replace HO955 := Aside0.mk (Kd.S_below (Kd.S_ltz hz957 (sp_ HO955.out)) hb)
         have HO958 := Aside0.mk (Kd.R_lower (Kd.R_gez hz957 ho0) (below_size (hs_ HB.out)))
         replace BK947 := bk2_ BK947 hb
         replace BK948 := bk2_ BK948 hb
         replace BK968 := bk2_ BK968 hb
         replace HB := st_ HB hb
         (try clear hb)
         (try clear hb2)
         (try clear hk)
         (try clear hi)
         (try clear ho0)
         obtain ⟨Ao63, co63, eo63⟩ := Kd.S_slice HO955.out
         (first | subst eo63 | (obtain ⟨rfl, rfl⟩ := si_ eo63))
         obtain ⟨Ao64, co64, eo64⟩ := Kd.R_slice HO958.out
         (first | subst eo64 | (obtain ⟨rfl, rfl⟩ := si_ eo64))
         refine hK.out _ _ ⟨bx_ BK947.out 0, bx_ BK947.out 1, bx_ BK947.out 2, bx_ BK948.out 0, bx_ BK948.out 1, bx_ BK948.out 2, bx_ BK948.out 3⟩ (fun hHeld => ?_)
         clear hK K
         refine norm_ (a' := ?_) ?_ ?_
         rotate_left
         ·
          show Act.put _ (some 31) _ = _
          simp only [fr_]
          rfl
         refine one_ (i := 4) (N := some 32) #[t_,t_,t_,t_,t_,f_,f_,f_,t_,f_,f_] rfl rfl (one_of HT_.out (by kernel_rfl)) (by decide) (fun K hK => ?_)
         refine gs_ Try.func43 #[.agg #[.int .i64 t951, .int .i64 t952, .slice Ao63 t953.length co63], .agg #[.slice Ao64 t956.length co64, .int .i64 t959, .int .i64 t960, .string t961]] ?_
         with_reducible refine (spec_PutIn.calls k t951 t952 _ _ t953 _ _ t956 t959 t960 t961 t962 t963 t964 t967 _ ?side1 ?side2 ?side3 ?side4 A21.out).mono ?_
         (case side1 => exact cp_ ((Kd.S_reads' HO955.out).2.2))
         (case side2 => exact (Kd.S_reads' HO955.out).2.1)
         (case side3 => exact cp_ ((Kd.R_reads' HO958.out).2.2))
         (case side4 => exact (Kd.R_reads' HO958.out).2.1)
         rintro e w65 ⟨v965, rfl, ho0, hb⟩
         refine ⟨_, rfl, ?_⟩
         obtain ⟨gbz965, hz965⟩ := Kd.S_name ho0
         replace HO955 := Aside0.mk (Kd.S_below (Kd.S_ltz hz965 (sp_ HO955.out)) hb)
         replace HO958 := Aside0.mk (Kd.R_below (Kd.R_ltz hz965 (rp_ HO958.out)) hb)
         have HO966 := Aside0.mk (Kd.S_lower (Kd.S_gez hz965 ho0) (below_size (hs_ HB.out)))
         replace BK947 := bk2_ BK947 hb
         replace BK948 := bk2_ BK948 hb
         replace BK968 := bk2_ BK968 hb
         replace HB := st_ HB hb
         (try clear hb)
         (try clear hb2)
         (try clear hk)
         (try clear hi)
         (try clear ho0)
         refine hK.out _ _ ⟨bx_ BK947.out 0, bx_ BK947.out 1, bx_ BK947.out 2, bx_ BK948.out 0, bx_ BK948.out 1, bx_ BK948.out 2, bx_ BK948.out 3⟩ (fun hHeld => ?_)
         clear hK K
         refine norm_ (a' := ?_) ?_ ?_
         rotate_left
         ·
          show Act.put _ (some 32) _ = _
          simp only [fr_]
          rfl
         refine pw_ 5 27 #[t_,t_,t_,t_,t_,t_,f_,f_,t_,f_,f_] rfl rfl HT_.out ?_
         refine pw_ 6 33 #[t_,t_,t_,t_,t_,t_,t_,f_,t_,f_,f_] rfl rfl HT_.out ?_
         refine pw_ 7 34 (b_ 9 2) rfl rfl HT_.out ?_
         exact norm_ (by simp only [putAll, fr_]) (hCont (.slice Ao63 t953.length co63, gbz954, .slice Ao64 t956.length co64, gbz957, v965, gbz965, gb968) _ ⟨hHeld, (Kd.S_mono (sp_ HO955.out) (fun _ hk => ⟨hk.1.1.2, ⟨hk.1.2, hk.2⟩⟩)), (Kd.R_mono (rp_ HO958.out) (fun _ hk => ⟨hk.1.2, hk.2⟩)), (Kd.S_mono (sp_ HO966.out) (fun _ hk => hk.2)), (pb_ BK947.out), (pb_ BK948.out), (pb_ BK968.out), GW968.out, GE968.out, NB947_968.out, NB968_947.out, NB948_968.out, NB968_948.out, (hs_ HB.out)⟩)
        rintro ⟨v954, gbz954, v957, gbz957, v965, gbz965, gb968⟩ w66 ⟨hS_, h0_, h1_, h2_, h3_, h4_, h5_, h6_, h7_, h8_, h9_, h10_, h11_, h12_⟩
        have HO955 : Aside0 (Kd.S k100 100 w66 w.heap.size (fun k_ => gbz954 ≤ k_ ∧ k_ < gbz957 ∧ k_ < gbz965) v954 t953) := ⟨h0_⟩
        have HO958 : Aside0 (Kd.R k88 88 w66 w.heap.size (fun k_ => gbz957 ≤ k_ ∧ k_ < gbz965) v957 t956) := ⟨h1_⟩
        have HO966 : Aside0 (Kd.S k100 100 w66 w.heap.size (fun k_ => gbz965 ≤ k_) v965 t964) := ⟨h2_⟩
        replace BK947 : Aside0 (w66.heap[gb947]? = some (.cells #[.int .i64 a0_0, .int .i64 a0_1, .slice A0_2 l0_2.length c0_2] 52 (0, 0))) := ⟨h3_⟩
        replace BK948 : Aside0 (w66.heap[gb948]? = some (.cells #[.slice A1_0 l1_0.length c1_0, .int .i64 a1_1, .int .i64 a1_2, .string a1_3] 35 (0, 0))) := ⟨h4_⟩
        have BK968 : Aside0 (w66.heap[gb968]? = some (.cells #[.int .i64 0, .int .i64 0, .slice none 0 0] 57 (0, 0))) := ⟨h5_⟩
        have GW968 : Aside0 (w.heap.size ≤ gb968) := ⟨h6_⟩
        have GE968 := Ge_.mk h7_
        have NB947_968 := Ne_.mk h8_
        have NB968_947 := Ne_.mk h9_
        have NB948_968 := Ne_.mk h10_
        have NB968_948 := Ne_.mk h11_
        replace HB : Aside0 (Below w.heap.size w w66) := ⟨h12_⟩
        clear h0_ h1_ h2_ h3_ h4_ h5_ h6_ h7_ h8_ h9_ h10_ h11_ h12_
        have hHeld : w66.cell? ⟨gb947, 0, none⟩ = some (.int .i64 a0_0) ∧ w66.cell? ⟨gb947, 1, none⟩ = some (.int .i64 a0_1) ∧ w66.cell? ⟨gb947, 2, none⟩ = some (.slice A0_2 l0_2.length c0_2) ∧ w66.cell? ⟨gb948, 0, none⟩ = some (.slice A1_0 l1_0.length c1_0) ∧ w66.cell? ⟨gb948, 1, none⟩ = some (.int .i64 a1_1) ∧ w66.cell? ⟨gb948, 2, none⟩ = some (.int .i64 a1_2) ∧ w66.cell? ⟨gb948, 3, none⟩ = some (.string a1_3) := hS_
        obtain ⟨Ao69, co69, eo69⟩ := Kd.S_slice HO966.out
        (first | subst eo69 | (obtain ⟨rfl, rfl⟩ := si_ eo69))
        refine norm_ (a' := ?_) ?_ ?_
        rotate_left
        ·
         simp only [putAll, fr_]
         rfl
        refine one_ (i := 9) (N := none) #[t_,t_,t_,t_,t_,t_,t_,t_,t_,t_,f_] rfl rfl (one_of HT_.out (by kernel_rfl)) (by decide) (fun K hK => ?_)
        have hs67 : w66.cell? ⟨gb968, 0, none⟩ = some (.int .i64 0) := bx_ BK968.out 0
        have hfs67 := blk_frozen BK968.out 0
        have hns67_0 := NB947_968.out
        have hns67_1 := NB948_968.out
        have hms67_0 := NB968_947.out
        have hms67_1 := NB968_948.out
        have hs68 : w66.cell? ⟨gb968, 1, none⟩ = some (.int .i64 0) := bx_ BK968.out 1
        have hfs68 := blk_frozen BK968.out 1
        have hns68_0 := NB947_968.out
        have hns68_1 := NB948_968.out
        have hms68_0 := NB968_947.out
        have hms68_1 := NB968_948.out
        have hs70 : w66.cell? ⟨gb968, 2, none⟩ = some (.slice none 0 0) := bx_ BK968.out 2
        have hfs70 := blk_frozen BK968.out 2
        have hns70_0 := NB947_968.out
        have hns70_1 := NB948_968.out
        have hms70_0 := NB968_947.out
        have hms70_1 := NB968_948.out
        refine skip_ (w1 := ?_) (by rfl) rfl ?_ ?_
        rotate_left
        ·
         go_simp
         rfl
        refine hK.out _ _ ⟨(cg_ (hHeld.1)), (cg_ (hHeld.2.1)), (cg_ (hHeld.2.2.1)), (cg_ (hHeld.2.2.2.1)), (cg_ (hHeld.2.2.2.2.1)), (cg_ (hHeld.2.2.2.2.2.1)), (cg_ (hHeld.2.2.2.2.2.2))⟩ (fun hHeld => ?_)
        clear hK K
        refine pw_ 10 7 (b_ 11 0) rfl rfl HT_.out ?_
        refine done_ (done_of HT_.out (by kernel_rfl)) ?_
        have hnb71 := NB947_968.out
        have hnc71 := NB968_947.out
        obtain ⟨hcz72_0, hcz72_1, hcz72_2, hfz72_0, hfz72_1, hfz72_2⟩ := bc3_ BK947.out
        try go_wp2_with (first | ((with_reducible refine gate_callee (f := 27) rfl ?_); refine gl_ (some 36) Try.func27 #[.agg #[.int .i64 a0_0, .int .i64 a0_1, .slice A0_2 l0_2.length c0_2]] ?_; (with_reducible refine (laws_toPart.calls k a0_0 a0_1 _ _ l0_2 t969 t970 t971 _ ?side1 ?side2 A22.out).mono ?_); (case side1 => exact Kd.C_below HR0_2.out (hs_ HB.out)); (case side2 => exact HC0_2.out); rintro e w73 ⟨v972, rfl, ho0, hb⟩; refine ⟨_, rfl, ?_⟩; obtain ⟨gbz972, hz972⟩ := Kd.S_name ho0; replace HO955 := Aside0.mk (Kd.S_below (Kd.S_ltz hz972 (by (with_reducible repeat (first | apply Kd.S_alloc | apply Kd.S_drewN | apply Kd.S_drew)); exact (Kd.S_mono (sf_ gb968 (Kd.S_types HO955.out BK968.out (by decide)) (fun _ hk => hk.2)) (fun _ h_ => h_.1)))) hb); replace HO958 := Aside0.mk (Kd.R_below (Kd.R_ltz hz972 (by (with_reducible repeat (first | apply Kd.R_alloc | apply Kd.R_drewN | apply Kd.R_drew)); exact (Kd.R_mono (rf_ gb968 (Kd.R_types HO958.out BK968.out (by decide)) (fun _ hk => hk.2)) (fun _ h_ => h_.1)))) hb); replace HO966 := Aside0.mk (Kd.S_below (Kd.S_ltz hz972 (by (with_reducible repeat (first | apply Kd.S_alloc | apply Kd.S_drewN | apply Kd.S_drew)); exact (Kd.S_mono (sf_ gb968 (Kd.S_types HO966.out BK968.out (by decide)) (fun _ hk => hk.2)) (fun _ h_ => h_.1)))) hb); have HO973 := Aside0.mk (Kd.S_lower (Kd.S_gez hz972 ho0) (below_size (hs_ HB.out))); replace BK947 := bk2_ BK947 hb; replace BK948 := bk2_ BK948 hb; replace BK968 := Aside0.mk (blk_below (g := gb968) (o := .cells #[.int .i64 t962, .int .i64 t963, .slice Ao69 t964.length co69] 57 (0, 0)) (bp_ BK968.out) hb); replace HB := st_ HB hb; (try clear hb); (try clear hb2); (try clear hk); (try clear hi); (try clear ho0)) | ((with_reducible refine gd_ 8 rfl ?_); refine bv_ 8 #[.int .i64 0, .int .i64 0, .slice none 0 0] 57 ?_; intro gb974 hg w74 hbox hb; replace HO966 := Aside0.mk (Kd.S_below (sp_ HO966.out) hb); replace HO973 := Aside0.mk (Kd.S_below (sp_ HO973.out) hb); have BK974 := Aside0.mk (hbox); have GW974 := Aside0.mk ((gw_ hg (hs_ HB.out))); replace HB := st_ HB hb; have GE974 := Ge_.mk GW974.out; have NB947_974 := Ne_.mk (nl_ BK947.out hg); replace BK947 := bk2_ BK947 hb; have NB974_947 := Ne_.mk (NB947_974.out.symm); have NB948_974 := Ne_.mk (nl_ BK948.out hg); replace BK948 := bk2_ BK948 hb; have NB974_948 := Ne_.mk (NB948_974.out.symm); have NB968_974 := Ne_.mk (nl_ BK968.out hg); replace BK968 := bk2_ BK968 hb; have NB974_968 := Ne_.mk (NB968_974.out.symm); clear hb hbox hg; have hnb75 := NB974_947.out; have hnc75 := NB947_974.out; have hnb76 := NB974_948.out; have hnc76 := NB948_974.out; have hnb77 := NB974_968.out; have hnc77 := NB968_974.out; obtain ⟨hcz78_0, hcz78_1, hcz78_2, hfz78_0, hfz78_1, hfz78_2⟩ := bc3_ BK974.out; obtain ⟨Ao79, co79, eo79⟩ := Kd.S_slice HO973.out; subst eo79; have hnb80 := NB948_968.out; have hnc80 := NB968_948.out; obtain ⟨hcz81_0, hcz81_1, hcz81_2, hcz81_3, hfz81_0, hfz81_1, hfz81_2, hfz81_3⟩ := bc4_ BK948.out) | ((with_reducible refine gate_callee (f := 44) rfl ?_); refine gl_ (some 38) Try.func44 #[.agg #[.slice A1_0 l1_0.length c1_0, .int .i64 a1_1, .int .i64 a1_2, .string a1_3]] ?_; (with_reducible refine (laws_toAlarm.calls k _ _ l1_0 a1_1 a1_2 a1_3 t975 t978 t979 t980 _ ?side1 ?side2 A23.out).mono ?_); (case side1 => exact Kd.C_below HR1_0.out (hs_ HB.out)); (case side2 => exact HC1_0.out); rintro e w82 ⟨v976, rfl, ho0, hb⟩; refine ⟨_, rfl, ?_⟩; obtain ⟨gbz976, hz976⟩ := Kd.R_name ho0; replace HO966 := Aside0.mk (Kd.S_below (Kd.S_ltz hz976 (by (with_reducible repeat (first | apply Kd.S_alloc | apply Kd.S_drewN | apply Kd.S_drew)); exact (Kd.S_mono (sf_ gb974 (Kd.S_types HO966.out BK974.out (by decide)) (fun _ hk => hk.2)) (fun _ h_ => h_.1)))) hb); replace HO973 := Aside0.mk (Kd.S_below (Kd.S_ltz hz976 (by (with_reducible repeat (first | apply Kd.S_alloc | apply Kd.S_drewN | apply Kd.S_drew)); exact (Kd.S_mono (sf_ gb974 (Kd.S_types HO973.out BK974.out (by decide)) (fun _ hk => hk.2)) (fun _ h_ => h_.1)))) hb); have HO977 := Aside0.mk (Kd.R_lower (Kd.R_gez hz976 ho0) (below_size (hs_ HB.out))); replace BK947 := bk2_ BK947 hb; replace BK948 := bk2_ BK948 hb; replace BK968 := bk2_ BK968 hb; replace BK974 := Aside0.mk (blk_below (g := gb974) (o := .cells #[.int .i64 t969, .int .i64 t970, .slice Ao79 t971.length co79] 57 (0, 0)) (bp_ BK974.out) hb); replace HB := st_ HB hb; (try clear hb); (try clear hb2); (try clear hk); (try clear hi); (try clear ho0)) | ((with_reducible refine gd_ 9 rfl ?_); refine bv_ 9 #[.slice none 0 0, .int .i64 0, .int .i64 0, .string (⟨#[]⟩ : ByteArray)] 43 ?_; intro gb981 hg w83 hbox hb; replace HO966 := Aside0.mk (Kd.S_below (Kd.S_elderB (sp_ HO966.out) gb981 (Nat.le_of_eq hg.symm)) hb); replace HO973 := Aside0.mk (Kd.S_below (Kd.S_elderB (sp_ HO973.out) gb981 (Nat.le_of_eq hg.symm)) hb); replace HO977 := Aside0.mk (Kd.R_below (rp_ HO977.out) hb); have BK981 := Aside0.mk (hbox); have GW981 := Aside0.mk ((gw_ hg (hs_ HB.out))); have GE981 := Ge_.mk ((gw_ hg (hs_ HB.out))); replace HB := st_ HB hb; have NB947_981 := Ne_.mk (nl_ BK947.out hg); replace BK947 := bk2_ BK947 hb; have NB981_947 := Ne_.mk (NB947_981.out.symm); have NB948_981 := Ne_.mk (nl_ BK948.out hg); replace BK948 := bk2_ BK948 hb; have NB981_948 := Ne_.mk (NB948_981.out.symm); have NB968_981 := Ne_.mk (nl_ BK968.out hg); replace BK968 := bk2_ BK968 hb; have NB981_968 := Ne_.mk (NB968_981.out.symm); have NB974_981 := Ne_.mk (nl_ BK974.out hg); replace BK974 := bk2_ BK974 hb; have NB981_974 := Ne_.mk (NB974_981.out.symm); clear hb hbox hg; obtain ⟨Ao84, co84, eo84⟩ := Kd.R_slice HO977.out; subst eo84; have hnb85 := NB981_947.out; have hnc85 := NB947_981.out; have hnb86 := NB981_948.out; have hnc86 := NB948_981.out; have hnb87 := NB981_968.out; have hnc87 := NB968_981.out; have hnb88 := NB981_974.out; have hnc88 := NB974_981.out; obtain ⟨hcz89_0, hcz89_1, hcz89_2, hcz89_3, hfz89_0, hfz89_1, hfz89_2, hfz89_3⟩ := bc4_ BK981.out; obtain ⟨hcz90_0, hcz90_1, hcz90_2, hfz90_0, hfz90_1, hfz90_2⟩ := bc3_ BK974.out) | ((with_reducible refine gate_callee (f := 45) rfl ?_); refine gl_ (some 42) Try.func45 #[.agg #[.int .i64 t969, .int .i64 t970, .slice Ao79 t971.length co79], .agg #[.slice Ao84 t975.length co84, .int .i64 t978, .int .i64 t979, .string t980]] ?_; (with_reducible refine (impl_PutIn.calls k t969 t970 _ _ t971 _ _ t975 t978 t979 t980 t982 t983 t984 t987 _ ?side1 ?side2 ?side3 ?side4 A24.out).mono ?_); (case side1 => refine (Kd.S_reads' (e := 100) (base := w.heap.size) (ok := fun k_ => (((True ∧ gbz972 ≤ k_) ∧ k_ < gbz976) ∧ k_ ≠ gb981)) (n := t971.length) (c := co79) ?_).2.2; exact (by (with_reducible repeat (first | apply Kd.S_alloc | apply Kd.S_drewN | apply Kd.S_drew)); exact (Kd.S_mono (sf_ gb981 (Kd.S_mono HO973.out (fun k_ hk => (⟨hk, hk.2⟩ : _ ∧ k_ ≠ gb981))) (fun _ hk => hk.2)) (fun _ h_ => h_.1)))); (case side2 => exact (Kd.S_reads' HO973.out).2.1); (case side3 => refine (Kd.R_reads' (e := 88) (base := w.heap.size) (ok := fun k_ => (True ∧ gbz976 ≤ k_)) (n := t975.length) (c := co84) ?_).2.2; exact (by (with_reducible repeat (first | apply Kd.R_alloc | apply Kd.R_drewN | apply Kd.R_drew)); exact (Kd.R_mono (rf_ gb981 (Kd.R_types HO977.out BK981.out (by decide)) (fun _ hk => hk.2)) (fun _ h_ => h_.1)))); (case side4 => exact (Kd.R_reads' HO977.out).2.1); rintro e w91 ⟨v985, rfl, ho0, hb⟩; refine ⟨_, rfl, ?_⟩; obtain ⟨gbz985, hz985⟩ := Kd.S_name ho0; replace HO966 := Aside0.mk (Kd.S_below (Kd.S_ltz hz985 (by (with_reducible repeat (first | apply Kd.S_alloc | apply Kd.S_drewN | apply Kd.S_drew)); exact (Kd.S_mono (sf_ gb981 (Kd.S_mono HO966.out (fun k_ hk => (⟨hk, hk.2⟩ : _ ∧ k_ ≠ gb981))) (fun _ hk => hk.2)) (fun _ h_ => h_.1)))) hb); replace HO973 := Aside0.mk (Kd.S_below (Kd.S_ltz hz985 (by (with_reducible repeat (first | apply Kd.S_alloc | apply Kd.S_drewN | apply Kd.S_drew)); exact (Kd.S_mono (sf_ gb981 (Kd.S_mono HO973.out (fun k_ hk => (⟨hk, hk.2⟩ : _ ∧ k_ ≠ gb981))) (fun _ hk => hk.2)) (fun _ h_ => h_.1)))) hb); replace HO977 := Aside0.mk (Kd.R_below (Kd.R_ltz hz985 (by (with_reducible repeat (first | apply Kd.R_alloc | apply Kd.R_drewN | apply Kd.R_drew)); exact (Kd.R_mono (rf_ gb981 (Kd.R_types HO977.out BK981.out (by decide)) (fun _ hk => hk.2)) (fun _ h_ => h_.1)))) hb); have HO986 := Aside0.mk (Kd.S_lower (Kd.S_newB (Kd.S_gez hz985 ho0) (g := gb981) (o := .cells #[.slice Ao84 t975.length co84, .int .i64 t978, .int .i64 t979, .string t980] 43 (0, 0)) (bp_ BK981.out)) (below_size (hs_ HB.out))); replace BK947 := bk2_ BK947 hb; replace BK948 := bk2_ BK948 hb; replace BK968 := bk2_ BK968 hb; replace BK974 := bk2_ BK974 hb; replace BK981 := Aside0.mk (blk_below (g := gb981) (o := .cells #[.slice Ao84 t975.length co84, .int .i64 t978, .int .i64 t979, .string t980] 43 (0, 0)) (bp_ BK981.out) hb); replace HB := st_ HB hb; (try clear hb); (try clear hb2); (try clear hk); (try clear hi); (try clear ho0)) | ((with_reducible refine gd_ 10 rfl ?_); refine bv_ 10 #[.int .i64 0, .int .i64 0, .slice none 0 0] 57 ?_; intro gb988 hg w92 hbox hb; replace HO966 := Aside0.mk (Kd.S_below (sp_ HO966.out) hb); replace HO973 := Aside0.mk (Kd.S_below (sp_ HO973.out) hb); replace HO977 := Aside0.mk (Kd.R_below (rp_ HO977.out) hb); replace HO986 := Aside0.mk (Kd.S_below (sp_ HO986.out) hb); have BK988 := Aside0.mk (hbox); have GW988 := Aside0.mk ((gw_ hg (hs_ HB.out))); have GE988 := Ge_.mk ((gw_ hg (hs_ HB.out))); replace HB := st_ HB hb; have NB947_988 := Ne_.mk (nl_ BK947.out hg); replace BK947 := bk2_ BK947 hb; have NB988_947 := Ne_.mk (NB947_988.out.symm); have NB948_988 := Ne_.mk (nl_ BK948.out hg); replace BK948 := bk2_ BK948 hb; have NB988_948 := Ne_.mk (NB948_988.out.symm); have NB968_988 := Ne_.mk (nl_ BK968.out hg); replace BK968 := bk2_ BK968 hb; have NB988_968 := Ne_.mk (NB968_988.out.symm); have NB974_988 := Ne_.mk (nl_ BK974.out hg); replace BK974 := bk2_ BK974 hb; have NB988_974 := Ne_.mk (NB974_988.out.symm); have NB981_988 := Ne_.mk (nl_ BK981.out hg); replace BK981 := bk2_ BK981 hb; have NB988_981 := Ne_.mk (NB981_988.out.symm); clear hb hbox hg; have hnb93 := NB988_947.out; have hnc93 := NB947_988.out; have hnb94 := NB988_948.out; have hnc94 := NB948_988.out; have hnb95 := NB988_968.out; have hnc95 := NB968_988.out; have hnb96 := NB988_974.out; have hnc96 := NB974_988.out; have hnb97 := NB988_981.out; have hnc97 := NB981_988.out; obtain ⟨hcz98_0, hcz98_1, hcz98_2, hfz98_0, hfz98_1, hfz98_2⟩ := bc3_ BK988.out; obtain ⟨Ao99, co99, eo99⟩ := Kd.S_slice HO986.out; subst eo99; obtain ⟨hcz100_0, hcz100_1, hcz100_2, hfz100_0, hfz100_1, hfz100_2⟩ := bc3_ BK968.out) | ((with_reducible refine gate_callee (f := 29) rfl ?_); refine gl_ (some 47) Try.func29 #[.agg #[.int .i64 t982, .int .i64 t983, .slice Ao99 t984.length co99], .agg #[.int .i64 t962, .int .i64 t963, .slice Ao69 t964.length co69]] ?_; (with_reducible refine (laws_eqPart.calls k t982 t983 _ _ t984 t962 t963 _ _ t964 true _ ?side1 ?side2 ?side3 ?side4 A25.out).mono ?_); (case side1 => refine (Kd.S_reads' (e := 100) (base := w.heap.size) (ok := fun k_ => ((True ∧ gbz985 ≤ k_) ∧ k_ ≠ gb981)) (n := t984.length) (c := co99) ?_).2.2; exact (by (with_reducible repeat (first | apply Kd.S_alloc | apply Kd.S_drewN | apply Kd.S_drew)); exact (Kd.S_mono (sf_ gb988 (Kd.S_types HO986.out BK988.out (by decide)) (fun _ hk => hk.2)) (fun _ h_ => h_.1)))); (case side2 => exact (Kd.S_reads' HO986.out).2.1); (case side3 => refine (Kd.S_reads' (e := 100) (base := w.heap.size) (ok := fun k_ => ((((gbz965 ≤ k_ ∧ k_ < gbz972) ∧ k_ < gbz976) ∧ k_ ≠ gb981) ∧ k_ < gbz985)) (n := t964.length) (c := co69) ?_).2.2; exact (by (with_reducible repeat (first | apply Kd.S_alloc | apply Kd.S_drewN | apply Kd.S_drew)); exact (Kd.S_mono (sf_ gb988 (Kd.S_types HO966.out BK988.out (by decide)) (fun _ hk => hk.2)) (fun _ h_ => h_.1)))); (case side4 => exact (Kd.S_reads' HO966.out).2.1); rintro e w101 ⟨rfl, hb⟩; refine ⟨_, rfl, ?_⟩; replace HO966 := Aside0.mk (Kd.S_below (by (with_reducible repeat (first | apply Kd.S_alloc | apply Kd.S_drewN | apply Kd.S_drew)); exact (Kd.S_mono (sf_ gb988 (Kd.S_types HO966.out BK988.out (by decide)) (fun _ hk => hk.2)) (fun _ h_ => h_.1))) hb); replace HO973 := Aside0.mk (Kd.S_below (by (with_reducible repeat (first | apply Kd.S_alloc | apply Kd.S_drewN | apply Kd.S_drew)); exact (Kd.S_mono (sf_ gb988 (Kd.S_types HO973.out BK988.out (by decide)) (fun _ hk => hk.2)) (fun _ h_ => h_.1))) hb); replace HO977 := Aside0.mk (Kd.R_below (by (with_reducible repeat (first | apply Kd.R_alloc | apply Kd.R_drewN | apply Kd.R_drew)); exact (Kd.R_mono (rf_ gb988 (Kd.R_types HO977.out BK988.out (by decide)) (fun _ hk => hk.2)) (fun _ h_ => h_.1))) hb); replace HO986 := Aside0.mk (Kd.S_below (by (with_reducible repeat (first | apply Kd.S_alloc | apply Kd.S_drewN | apply Kd.S_drew)); exact (Kd.S_mono (sf_ gb988 (Kd.S_types HO986.out BK988.out (by decide)) (fun _ hk => hk.2)) (fun _ h_ => h_.1))) hb); replace BK947 := bk2_ BK947 hb; replace BK948 := bk2_ BK948 hb; replace BK968 := bk2_ BK968 hb; replace BK974 := bk2_ BK974 hb; replace BK981 := bk2_ BK981 hb; replace BK988 := Aside0.mk (blk_below (g := gb988) (o := .cells #[.int .i64 t982, .int .i64 t983, .slice Ao99 t984.length co99] 57 (0, 0)) (bp_ BK988.out) hb); replace HB := st_ HB hb; (try clear hb); (try clear hb2); (try clear hk); (try clear hi)))
        replace HO966 := Aside0.mk (Kd.S_drew HO966.out)
        replace HO973 := Aside0.mk (Kd.S_drew HO973.out)
        replace HO977 := Aside0.mk (Kd.R_drew HO977.out)
        replace HO986 := Aside0.mk (Kd.S_drew HO986.out)
        replace BK947 := Aside0.mk (blk_drew BK947.out)
        replace BK948 := Aside0.mk (blk_drew BK948.out)
        replace BK968 := Aside0.mk (blk_drew BK968.out)
        replace BK974 := Aside0.mk (blk_drew BK974.out)
        replace BK981 := Aside0.mk (blk_drew BK981.out)
        replace BK988 := Aside0.mk (blk_drew BK988.out)
        replace HB := Aside0.mk (bd_ HB.out)
        refine start_ (n := 5) (S := fun w' => w'.cell? ⟨gb974, 0, none⟩ = some (.int .i64 t969) ∧ w'.cell? ⟨gb974, 1, none⟩ = some (.int .i64 t970) ∧ w'.cell? ⟨gb974, 2, none⟩ = some (.slice Ao79 t971.length co79) ∧ w'.cell? ⟨gb947, 0, none⟩ = some (.int .i64 a0_0) ∧ w'.cell? ⟨gb947, 1, none⟩ = some (.int .i64 a0_1) ∧ w'.cell? ⟨gb947, 2, none⟩ = some (.slice A0_2 l0_2.length c0_2)) (ds := []) #[f_,f_,f_,f_,f_] (by kernel_rfl) rfl rfl ⟨bx_ BK974.out 0, bx_ BK974.out 1, bx_ BK974.out 2, bx_ BK947.out 0, bx_ BK947.out 1, bx_ BK947.out 2⟩ (fun hHeld => ?_)
        generalize w101.drew = w102 at HO966 HO973 HO977 HO986 BK947 BK948 BK968 BK974 BK981 BK988 HB hHeld ⊢
        refine take_ (i := 0) (N := some 54) (v := ?_) (a' := ?_) #[t_,f_,f_,f_,f_] rfl rfl (by kernel_rfl) (fun _ _ _ h => h) (Or.inl ⟨by rfl, ?_⟩) hHeld ?_ ?_
        rotate_left
        ·
         rintro w' ⟨s0, s1, s2, s3, s4, s5⟩
         go_simp
         with_reducible rfl
        rotate_left
        ·
         simp only [fr_]
         rfl
        refine take_ (i := 1) (N := some 55) (v := ?_) (a' := ?_) #[t_,t_,f_,f_,f_] rfl rfl (by kernel_rfl) (fun _ _ _ h => h) (Or.inl ⟨by rfl, ?_⟩) hHeld ?_ ?_
        rotate_left
        ·
         rintro w' ⟨s0, s1, s2, s3, s4, s5⟩
         go_simp
         with_reducible rfl
        rotate_left
        ·
         simp only [fr_]
         rfl
        refine one_ (i := 2) (N := some 56) #[t_,t_,t_,f_,f_] rfl rfl (by kernel_rfl) (by decide) (fun K hK => ?_)
        refine gs_ Try.func27 #[.agg #[.int .i64 a0_0, .int .i64 a0_1, .slice A0_2 l0_2.length c0_2]] ?_
        with_reducible refine (laws_toPart.calls k a0_0 a0_1 _ _ l0_2 t990 t991 t992 _ ?side1 ?side2 A28.out).mono ?_
        (case side1 => exact cp_ ((Kd.C_below HR0_2.out HB.out)))
        (case side2 => exact HC0_2.out)
        rintro e w103 ⟨v993, rfl, ho0, hb⟩
        refine ⟨_, rfl, ?_⟩
        obtain ⟨gbz993, hz993⟩ := Kd.S_name ho0
        replace HO966 := Aside0.mk (Kd.S_below (Kd.S_ltz hz993 (sp_ HO966.out)) hb)
        replace HO973 := Aside0.mk (Kd.S_below (Kd.S_ltz hz993 (sp_ HO973.out)) hb)
        replace HO977 := Aside0.mk (Kd.R_below (Kd.R_ltz hz993 (rp_ HO977.out)) hb)
        replace HO986 := Aside0.mk (Kd.S_below (Kd.S_ltz hz993 (sp_ HO986.out)) hb)
        have HO994 := Aside0.mk (Kd.S_lower (Kd.S_newB (Kd.S_gez hz993 ho0) (g := gb981) (o := .cells #[.slice Ao84 t975.length co84, .int .i64 t978, .int .i64 t979, .string t980] 43 (0, 0)) (pb_ BK981.out)) (below_size (hs_ HB.out)))
        replace BK947 := bk2_ BK947 hb
        replace BK948 := bk2_ BK948 hb
        replace BK968 := bk2_ BK968 hb
        replace BK974 := bk2_ BK974 hb
        replace BK981 := bk2_ BK981 hb
        replace BK988 := bk2_ BK988 hb
        replace HB := st_ HB hb
        (try clear hb)
        (try clear hb2)
        (try clear hk)
        (try clear hi)
        (try clear ho0)
        obtain ⟨Ao104, co104, eo104⟩ := Kd.S_slice HO994.out
        (first | subst eo104 | (obtain ⟨rfl, rfl⟩ := si_ eo104))
        refine hK.out _ _ ⟨bx_ BK974.out 0, bx_ BK974.out 1, bx_ BK974.out 2, bx_ BK947.out 0, bx_ BK947.out 1, bx_ BK947.out 2⟩ (fun hHeld => ?_)
        clear hK K
        refine norm_ (a' := ?_) ?_ ?_
        rotate_left
        ·
         show Act.put _ (some 56) _ = _
         simp only [fr_]
         rfl
        refine one_ (i := 3) (N := some 57) #[t_,t_,t_,t_,f_] rfl rfl (by kernel_rfl) (by decide) (fun K hK => ?_)
        refine gs_ Try.func29 #[.agg #[.int .i64 t969, .int .i64 t970, .slice Ao79 t971.length co79], .agg #[.int .i64 t990, .int .i64 t991, .slice Ao104 t992.length co104]] ?_
        with_reducible refine (laws_eqPart.calls k t969 t970 _ _ t971 t990 t991 _ _ t992 true _ ?side1 ?side2 ?side3 ?side4 A29.out).mono ?_
        (case side1 => exact cp_ ((Kd.S_reads' HO973.out).2.2))
        (case side2 => exact (Kd.S_reads' HO973.out).2.1)
        (case side3 => exact cp_ ((Kd.S_reads' HO994.out).2.2))
        (case side4 => exact (Kd.S_reads' HO994.out).2.1)
        rintro e w105 ⟨rfl, hb⟩
        refine ⟨_, rfl, ?_⟩
        replace HO966 := Aside0.mk (Kd.S_below (sp_ HO966.out) hb)
        replace HO973 := Aside0.mk (Kd.S_below (sp_ HO973.out) hb)
        replace HO977 := Aside0.mk (Kd.R_below (rp_ HO977.out) hb)
        replace HO986 := Aside0.mk (Kd.S_below (sp_ HO986.out) hb)
        replace HO994 := Aside0.mk (Kd.S_below (sp_ HO994.out) hb)
        replace BK947 := bk2_ BK947 hb
        replace BK948 := bk2_ BK948 hb
        replace BK968 := bk2_ BK968 hb
        replace BK974 := bk2_ BK974 hb
        replace BK981 := bk2_ BK981 hb
        replace BK988 := bk2_ BK988 hb
        replace HB := st_ HB hb
        (try clear hb)
        (try clear hb2)
        (try clear hk)
        (try clear hi)
        refine hK.out _ _ ⟨bx_ BK974.out 0, bx_ BK974.out 1, bx_ BK974.out 2, bx_ BK947.out 0, bx_ BK947.out 1, bx_ BK947.out 2⟩ (fun hHeld => ?_)
        clear hK K
        refine norm_ (a' := ?_) ?_ ?_
        rotate_left
        ·
         show Act.put _ (some 57) _ = _
         simp only [fr_]
         rfl
        refine pure_ (i := 4) (N := some 58) (v := ?_) (a' := ?_) #[t_,t_,t_,t_,t_] rfl rfl (by kernel_rfl) (fun _ _ _ h => h) (Or.inl ⟨by rfl, ?_⟩) ?_ ?_
        rotate_left
        ·
         intro w'
         go_simp
         with_reducible rfl
        rotate_left
        ·
         simp only [fr_]
         rfl
        refine done_ (by kernel_rfl) ?_
        try go_wp2
        replace HO966 := Aside0.mk (Kd.S_drew HO966.out)
        replace HO973 := Aside0.mk (Kd.S_drew HO973.out)
        replace HO977 := Aside0.mk (Kd.R_drew HO977.out)
        replace HO986 := Aside0.mk (Kd.S_drew HO986.out)
        replace BK947 := Aside0.mk (blk_drew BK947.out)
        replace BK948 := Aside0.mk (blk_drew BK948.out)
        replace BK968 := Aside0.mk (blk_drew BK968.out)
        replace BK974 := Aside0.mk (blk_drew BK974.out)
        replace BK981 := Aside0.mk (blk_drew BK981.out)
        replace BK988 := Aside0.mk (blk_drew BK988.out)
        replace HB := Aside0.mk (bd_ HB.out)
        refine start_ (n := 5) (S := fun w' => w'.cell? ⟨gb981, 0, none⟩ = some (.slice Ao84 t975.length co84) ∧ w'.cell? ⟨gb981, 1, none⟩ = some (.int .i64 t978) ∧ w'.cell? ⟨gb981, 2, none⟩ = some (.int .i64 t979) ∧ w'.cell? ⟨gb981, 3, none⟩ = some (.string t980) ∧ w'.cell? ⟨gb948, 0, none⟩ = some (.slice A1_0 l1_0.length c1_0) ∧ w'.cell? ⟨gb948, 1, none⟩ = some (.int .i64 a1_1) ∧ w'.cell? ⟨gb948, 2, none⟩ = some (.int .i64 a1_2) ∧ w'.cell? ⟨gb948, 3, none⟩ = some (.string a1_3)) (ds := []) #[f_,f_,f_,f_,f_] (by kernel_rfl) rfl rfl ⟨bx_ BK981.out 0, bx_ BK981.out 1, bx_ BK981.out 2, bx_ BK981.out 3, bx_ BK948.out 0, bx_ BK948.out 1, bx_ BK948.out 2, bx_ BK948.out 3⟩ (fun hHeld => ?_)
        generalize w105.drew = w106 at HO966 HO973 HO977 HO986 BK947 BK948 BK968 BK974 BK981 BK988 HB hHeld ⊢
        refine take_ (i := 0) (N := some 59) (v := ?_) (a' := ?_) #[t_,f_,f_,f_,f_] rfl rfl (by kernel_rfl) (fun _ _ _ h => h) (Or.inl ⟨by rfl, ?_⟩) hHeld ?_ ?_
        rotate_left
        ·
         rintro w' ⟨s0, s1, s2, s3, s4, s5, s6, s7⟩
         go_simp
         with_reducible rfl
        rotate_left
        ·
         simp only [fr_]
         rfl
        refine take_ (i := 1) (N := some 60) (v := ?_) (a' := ?_) #[t_,t_,f_,f_,f_] rfl rfl (by kernel_rfl) (fun _ _ _ h => h) (Or.inl ⟨by rfl, ?_⟩) hHeld ?_ ?_
        rotate_left
        ·
         rintro w' ⟨s0, s1, s2, s3, s4, s5, s6, s7⟩
         go_simp
         with_reducible rfl
        rotate_left
        ·
         simp only [fr_]
         rfl
        refine one_ (i := 2) (N := some 61) #[t_,t_,t_,f_,f_] rfl rfl (by kernel_rfl) (by decide) (fun K hK => ?_)
        refine gs_ Try.func44 #[.agg #[.slice A1_0 l1_0.length c1_0, .int .i64 a1_1, .int .i64 a1_2, .string a1_3]] ?_
        with_reducible refine (laws_toAlarm.calls k _ _ l1_0 a1_1 a1_2 a1_3 t996 t999 t1000 t1001 _ ?side1 ?side2 A31.out).mono ?_
        (case side1 => exact cp_ ((Kd.C_below HR1_0.out HB.out)))
        (case side2 => exact HC1_0.out)
        rintro e w107 ⟨v997, rfl, ho0, hb⟩
        refine ⟨_, rfl, ?_⟩
        obtain ⟨gbz997, hz997⟩ := Kd.R_name ho0
        replace HO966 := Aside0.mk (Kd.S_below (Kd.S_ltz hz997 (sp_ HO966.out)) hb)
        replace HO973 := Aside0.mk (Kd.S_below (Kd.S_ltz hz997 (sp_ HO973.out)) hb)
        replace HO977 := Aside0.mk (Kd.R_below (Kd.R_ltz hz997 (rp_ HO977.out)) hb)
        replace HO986 := Aside0.mk (Kd.S_below (Kd.S_ltz hz997 (sp_ HO986.out)) hb)
        have HO998 := Aside0.mk (Kd.R_lower (Kd.R_gez hz997 ho0) (below_size (hs_ HB.out)))
        replace BK947 := bk2_ BK947 hb
        replace BK948 := bk2_ BK948 hb
        replace BK968 := bk2_ BK968 hb
        replace BK974 := bk2_ BK974 hb
        replace BK981 := bk2_ BK981 hb
        replace BK988 := bk2_ BK988 hb
        replace HB := st_ HB hb
        (try clear hb)
        (try clear hb2)
        (try clear hk)
        (try clear hi)
        (try clear ho0)
        obtain ⟨Ao108, co108, eo108⟩ := Kd.R_slice HO998.out
        (first | subst eo108 | (obtain ⟨rfl, rfl⟩ := si_ eo108))
        refine hK.out _ _ ⟨bx_ BK981.out 0, bx_ BK981.out 1, bx_ BK981.out 2, bx_ BK981.out 3, bx_ BK948.out 0, bx_ BK948.out 1, bx_ BK948.out 2, bx_ BK948.out 3⟩ (fun hHeld => ?_)
        clear hK K
        refine norm_ (a' := ?_) ?_ ?_
        rotate_left
        ·
         show Act.put _ (some 61) _ = _
         simp only [fr_]
         rfl
        refine one_ (i := 3) (N := some 62) #[t_,t_,t_,t_,f_] rfl rfl (by kernel_rfl) (by decide) (fun K hK => ?_)
        refine gs_ Try.func34 #[.agg #[.slice Ao84 t975.length co84, .int .i64 t978, .int .i64 t979, .string t980], .agg #[.slice Ao108 t996.length co108, .int .i64 t999, .int .i64 t1000, .string t1001]] ?_
        with_reducible refine (laws_eqAlarm.calls k _ _ t975 t978 t979 t980 _ _ t996 t999 t1000 t1001 true _ ?side1 ?side2 ?side3 ?side4 A32.out).mono ?_
        (case side1 => exact cp_ ((Kd.R_reads' HO977.out).2.2))
        (case side2 => exact (Kd.R_reads' HO977.out).2.1)
        (case side3 => exact cp_ ((Kd.R_reads' HO998.out).2.2))
        (case side4 => exact (Kd.R_reads' HO998.out).2.1)
        rintro e w109 ⟨rfl, hb⟩
        refine ⟨_, rfl, ?_⟩
        replace HO966 := Aside0.mk (Kd.S_below (sp_ HO966.out) hb)
        replace HO973 := Aside0.mk (Kd.S_below (sp_ HO973.out) hb)
        replace HO977 := Aside0.mk (Kd.R_below (rp_ HO977.out) hb)
        replace HO986 := Aside0.mk (Kd.S_below (sp_ HO986.out) hb)
        replace HO998 := Aside0.mk (Kd.R_below (rp_ HO998.out) hb)
        replace BK947 := bk2_ BK947 hb
        replace BK948 := bk2_ BK948 hb
        replace BK968 := bk2_ BK968 hb
        replace BK974 := bk2_ BK974 hb
        replace BK981 := bk2_ BK981 hb
        replace BK988 := bk2_ BK988 hb
        replace HB := st_ HB hb
        (try clear hb)
        (try clear hb2)
        (try clear hk)
        (try clear hi)
        refine hK.out _ _ ⟨bx_ BK981.out 0, bx_ BK981.out 1, bx_ BK981.out 2, bx_ BK981.out 3, bx_ BK948.out 0, bx_ BK948.out 1, bx_ BK948.out 2, bx_ BK948.out 3⟩ (fun hHeld => ?_)
        clear hK K
        refine norm_ (a' := ?_) ?_ ?_
        rotate_left
        ·
         show Act.put _ (some 62) _ = _
         simp only [fr_]
         rfl
        refine pure_ (i := 4) (N := some 63) (v := ?_) (a' := ?_) #[t_,t_,t_,t_,t_] rfl rfl (by kernel_rfl) (fun _ _ _ h => h) (Or.inl ⟨by rfl, ?_⟩) ?_ ?_
        rotate_left
        ·
         intro w'
         go_simp
         with_reducible rfl
        rotate_left
        ·
         simp only [fr_]
         rfl
        refine done_ (by kernel_rfl) ?_
        obtain ⟨hcz110_0, hcz110_1, hcz110_2, hfz110_0, hfz110_1, hfz110_2⟩ := bc3_ BK974.out
        obtain ⟨PXP111, hPXP111, hPlP111⟩ := Kd.S_fp HO973.out
        try go_wp2_with (first | ((with_reducible refine gate_callee (f := 35) rfl ?_); refine gl_ (some 66) Try.func35 #[.agg #[.int .i64 t969, .int .i64 t970, .slice Ao79 t971.length co79], .int .i64 1] ?_; (with_reducible refine (laws_markPart.calls k t969 t970 PXP111 (.slice Ao79 t971.length co79) t971 1 t1003 t1004 w _ ?side1 ?side2 A34.out).mono ?_); (case side1 => exact hs_ HB.out); (case side2 => exact hPXP111); rintro e w112 ⟨rfl, hy0, hb, hkp⟩; refine ⟨_, rfl, ?_⟩; replace BK947 := Aside0.mk (blk_kept (pb_ BK947.out) hkp (fun hs_ => (fun e_ => no_blk (pb_ BK947.out) (by decide) (hPlP111 _ e_).2.2) hs_)); replace BK948 := Aside0.mk (blk_kept (pb_ BK948.out) hkp (fun hs_ => (fun e_ => no_blk (pb_ BK948.out) (by decide) (hPlP111 _ e_).2.2) hs_)); replace HO966 := Aside0.mk (Kd.S_mono (ok' := fun k_ => k_ ≠ gb981 ∧ gbz965 ≤ k_ ∧ k_ < gbz972 ∧ k_ < gbz976 ∧ k_ < gbz985 ∧ k_ < gbz993 ∧ k_ < gbz997) (Kd.S_keptB (HO966.out) hkp (fun k_ hk_ hs_ => (fun e_ => Nat.lt_irrefl _ (Nat.lt_of_lt_of_le hk_.1.1.1.1.1.2 (hPlP111 _ e_).1.1.1.1.1.1.2)) hs_)) (fun k_ hk_ => ⟨hk_.1.1.1.1.2, hk_.1.1.1.1.1.1.1, hk_.1.1.1.1.1.1.2, hk_.1.1.1.1.1.2, hk_.1.1.1.2, hk_.1.1.2, hk_.1.2⟩)); replace BK968 := Aside0.mk (blk_kept (pb_ BK968.out) hkp (fun hs_ => (fun e_ => no_blk (pb_ BK968.out) (by decide) (hPlP111 _ e_).2.2) hs_)); replace HO973 := Aside0.mk (Kd.S_mono hy0 (fun k_ hk_ => (hPlP111 k_ hk_).1)); replace HO977 := Aside0.mk (Kd.R_mono (ok' := fun k_ => gbz976 ≤ k_ ∧ k_ < gbz985 ∧ k_ < gbz993 ∧ k_ < gbz997) (Kd.R_keptB (HO977.out) hkp (fun k_ hk_ hs_ => (fun e_ => Nat.lt_irrefl _ (Nat.lt_of_lt_of_le (hPlP111 _ e_).1.1.1.1.1.2 hk_.1.1.1.2)) hs_)) (fun k_ hk_ => ⟨hk_.1.1.1.1.2, hk_.1.1.1.2, hk_.1.1.2, hk_.1.2⟩)); replace BK981 := Aside0.mk (blk_kept (pb_ BK981.out) hkp (fun hs_ => (fun e_ => ((hPlP111 _ e_).1.1.1.1.2) rfl) hs_)); replace HO986 := Aside0.mk (Kd.S_mono (ok' := fun k_ => k_ ≠ gb981 ∧ gbz985 ≤ k_ ∧ k_ < gbz993 ∧ k_ < gbz997) (Kd.S_keptB (HO986.out) hkp (fun k_ hk_ hs_ => (fun e_ => Nat.lt_irrefl _ (Nat.lt_of_lt_of_le (hPlP111 _ e_).1.1.1.2 hk_.1.1.1.2)) hs_)) (fun k_ hk_ => ⟨hk_.1.1.1.2, hk_.1.1.1.1.2, hk_.1.1.2, hk_.1.2⟩)); replace BK988 := Aside0.mk (blk_kept (pb_ BK988.out) hkp (fun hs_ => (fun e_ => no_blk (pb_ BK988.out) (by decide) (hPlP111 _ e_).2.2) hs_)); replace HB := Aside0.mk (hb); (try clear hb); (try clear hkp); (try clear hy0); obtain ⟨hcz113_0, hcz113_1, hcz113_2, hcz113_3, hfz113_0, hfz113_1, hfz113_2, hfz113_3⟩ := bc4_ BK981.out; obtain ⟨PXP114, hPXP114, hPlP114⟩ := Kd.R_fpt rfl HO977.out) | ((with_reducible refine gate_callee (f := 37) rfl ?_); refine gl_ (some 69) Try.func37 #[.agg #[.slice Ao84 t975.length co84, .int .i64 t978, .int .i64 t979, .string t980], .int .i64 t1003] ?_; (with_reducible refine (laws_markAlarm.calls k PXP114 (.slice Ao84 t975.length co84) t975 t978 t979 t980 t1003 t1005 t1006 w _ ?side1 ?side2 A35.out).mono ?_); (case side1 => exact hs_ HB.out); (case side2 => exact hPXP114); rintro e w115 ⟨rfl, hy0, hb, hkp⟩; refine ⟨_, rfl, ?_⟩; replace BK947 := Aside0.mk (blk_kept (pb_ BK947.out) hkp (fun hs_ => (fun e_ => no_blk (pb_ BK947.out) (by decide) (hPlP114 _ e_).2.2) hs_)); replace BK948 := Aside0.mk (blk_kept (pb_ BK948.out) hkp (fun hs_ => (fun e_ => no_blk (pb_ BK948.out) (by decide) (hPlP114 _ e_).2.2) hs_)); replace HO966 := Aside0.mk (Kd.S_mono (ok' := fun k_ => k_ ≠ gb981 ∧ gbz965 ≤ k_ ∧ k_ < gbz972 ∧ k_ < gbz976 ∧ k_ < gbz985 ∧ k_ < gbz993 ∧ k_ < gbz997) (Kd.S_keptB (HO966.out) hkp (fun k_ hk_ hs_ => (fun e_ => Nat.lt_irrefl _ (Nat.lt_of_lt_of_le hk_.2.2.2.1 (hPlP114 _ e_).1.1.1)) hs_)) (fun k_ hk_ => ⟨hk_.1.1, hk_.1.2.1, hk_.1.2.2.1, hk_.1.2.2.2.1, hk_.1.2.2.2.2.1, hk_.1.2.2.2.2.2.1, hk_.1.2.2.2.2.2.2⟩)); replace BK968 := Aside0.mk (blk_kept (pb_ BK968.out) hkp (fun hs_ => (fun e_ => no_blk (pb_ BK968.out) (by decide) (hPlP114 _ e_).2.2) hs_)); replace HO977 := Aside0.mk (Kd.R_reok rfl hy0 (fun k_ e_ => HO977.out.1 k_ e_)); replace BK981 := Aside0.mk (blk_kept (pb_ BK981.out) hkp (fun hs_ => (fun e_ => no_blk (pb_ BK981.out) (by decide) (hPlP114 _ e_).2.2) hs_)); replace HO986 := Aside0.mk (Kd.S_mono (ok' := fun k_ => k_ ≠ gb981 ∧ gbz985 ≤ k_ ∧ k_ < gbz993 ∧ k_ < gbz997) (Kd.S_keptB (HO986.out) hkp (fun k_ hk_ hs_ => (fun e_ => Nat.lt_irrefl _ (Nat.lt_of_lt_of_le (hPlP114 _ e_).1.1.2.1 hk_.2.1)) hs_)) (fun k_ hk_ => ⟨hk_.1.1, hk_.1.2.1, hk_.1.2.2.1, hk_.1.2.2.2⟩)); replace BK988 := Aside0.mk (blk_kept (pb_ BK988.out) hkp (fun hs_ => (fun e_ => no_blk (pb_ BK988.out) (by decide) (hPlP114 _ e_).2.2) hs_)); replace HB := Aside0.mk (hb); (try clear hb); (try clear hkp); (try clear hy0); obtain ⟨hcz116_0, hcz116_1, hcz116_2, hfz116_0, hfz116_1, hfz116_2⟩ := bc3_ BK988.out; obtain ⟨hcz117_0, hcz117_1, hcz117_2, hfz117_0, hfz117_1, hfz117_2⟩ := bc3_ BK968.out) | (go_at_call 29; (with_reducible refine (laws_eqPart.calls k t982 t983 _ _ t984 t962 t963 _ _ t964 true _ ?side1 ?side2 ?side3 ?side4 A37.out).mono ?_); (case side1 => exact cp_ ((Kd.S_reads' HO986.out).2.2)); (case side2 => exact (Kd.S_reads' HO986.out).2.1); (case side3 => exact cp_ ((Kd.S_reads' HO966.out).2.2)); (case side4 => exact (Kd.S_reads' HO966.out).2.1); rintro e w118 ⟨rfl, hb⟩; replace HO966 := Aside0.mk (Kd.S_below (sp_ HO966.out) hb); replace HO986 := Aside0.mk (Kd.S_below (sp_ HO986.out) hb); replace BK947 := bk2_ BK947 hb; replace BK948 := bk2_ BK948 hb; replace BK968 := bk2_ BK968 hb; replace BK981 := bk2_ BK981 hb; replace BK988 := bk2_ BK988 hb; replace HB := st_ HB hb; (try clear hb); (try clear hb2); (try clear hk); (try clear hi); obtain ⟨hcz119_0, hcz119_1, hcz119_2, hfz119_0, hfz119_1, hfz119_2⟩ := bc3_ BK988.out; obtain ⟨PXP120, hPXP120, hPlP120⟩ := Kd.S_fp HO986.out) | ((with_reducible refine gate_callee (f := 35) rfl ?_); refine gl_ (some 85) Try.func35 #[.agg #[.int .i64 t982, .int .i64 t983, .slice Ao99 t984.length co99], .int .i64 1] ?_; (with_reducible refine (laws_markPart.calls k t982 t983 PXP120 (.slice Ao99 t984.length co99) t984 1 t1008 t1009 w _ ?side1 ?side2 A39.out).mono ?_); (case side1 => exact hs_ HB.out); (case side2 => exact hPXP120); rintro e w121 ⟨rfl, hy0, hb, hkp⟩; refine ⟨_, rfl, ?_⟩; replace BK947 := Aside0.mk (blk_kept (pb_ BK947.out) hkp (fun hs_ => (fun e_ => no_blk (pb_ BK947.out) (by decide) (hPlP120 _ e_).2.2) hs_)); replace BK948 := Aside0.mk (blk_kept (pb_ BK948.out) hkp (fun hs_ => (fun e_ => no_blk (pb_ BK948.out) (by decide) (hPlP120 _ e_).2.2) hs_)); replace HO966 := Aside0.mk (Kd.S_mono (ok' := fun k_ => k_ ≠ gb981 ∧ gbz965 ≤ k_ ∧ k_ < gbz972 ∧ k_ < gbz976 ∧ k_ < gbz985 ∧ k_ < gbz993 ∧ k_ < gbz997) (Kd.S_keptB (HO966.out) hkp (fun k_ hk_ hs_ => (fun e_ => Nat.lt_irrefl _ (Nat.lt_of_lt_of_le hk_.2.2.2.2.1 (hPlP120 _ e_).1.2.1)) hs_)) (fun k_ hk_ => ⟨hk_.1.1, hk_.1.2.1, hk_.1.2.2.1, hk_.1.2.2.2.1, hk_.1.2.2.2.2.1, hk_.1.2.2.2.2.2.1, hk_.1.2.2.2.2.2.2⟩)); replace BK968 := Aside0.mk (blk_kept (pb_ BK968.out) hkp (fun hs_ => (fun e_ => no_blk (pb_ BK968.out) (by decide) (hPlP120 _ e_).2.2) hs_)); replace BK981 := Aside0.mk (blk_kept (pb_ BK981.out) hkp (fun hs_ => (fun e_ => ((hPlP120 _ e_).1.1) rfl) hs_)); replace HO986 := Aside0.mk (Kd.S_mono hy0 (fun k_ hk_ => (hPlP120 k_ hk_).1)); replace BK988 := Aside0.mk (blk_kept (pb_ BK988.out) hkp (fun hs_ => (fun e_ => no_blk (pb_ BK988.out) (by decide) (hPlP120 _ e_).2.2) hs_)); replace HB := Aside0.mk (hb); (try clear hb); (try clear hkp); (try clear hy0); obtain ⟨hcz122_0, hcz122_1, hcz122_2, hfz122_0, hfz122_1, hfz122_2⟩ := bc3_ BK988.out) | ((with_reducible refine gate_callee (f := 46) rfl ?_); refine goesL_ (some 88) rfl rfl Try.func46 (by kernel_rfl) rfl #[.agg #[.int .i64 t982, .int .i64 t983, .slice Ao99 t1009.length co99], .int .i64 1] rfl (by (try simp only [mp_]); first | done | (rw [show t1009.length = t984.length from (Kd.S_reads' HO986.out).1.symm] <;> rfl) | rfl | (simp only [List.length_drop, List.length_take]; rfl)) ?_; (with_reducible refine (laws_heldPart.calls k t982 t983 _ _ t1009 1 t1010 _ ?side1 ?side2 A40.out).mono ?_); (case side1 => exact cp_ ((Kd.S_reads' HO986.out).2.2)); (case side2 => rw [show t1009.length = t984.length from (Kd.S_reads' HO986.out).1.symm]; exact (Kd.S_reads' HO986.out).2.1); rintro e w123 ⟨rfl, hb⟩; refine ⟨_, rfl, ?_⟩; replace HO966 := Aside0.mk (Kd.S_below (sp_ HO966.out) hb); replace HO986 := Aside0.mk (Kd.S_below (sp_ HO986.out) hb); replace BK947 := bk2_ BK947 hb; replace BK948 := bk2_ BK948 hb; replace BK968 := bk2_ BK968 hb; replace BK981 := bk2_ BK981 hb; replace BK988 := bk2_ BK988 hb; replace HB := st_ HB hb; (try clear hb); (try clear hb2); (try clear hk); (try clear hi)))
        replace HO966 := Aside0.mk (Kd.S_drew HO966.out)
        replace HO986 := Aside0.mk (Kd.S_drew HO986.out)
        replace BK947 := Aside0.mk (blk_drew BK947.out)
        replace BK948 := Aside0.mk (blk_drew BK948.out)
        replace BK968 := Aside0.mk (blk_drew BK968.out)
        replace BK981 := Aside0.mk (blk_drew BK981.out)
        replace BK988 := Aside0.mk (blk_drew BK988.out)
        replace HB := Aside0.mk (bd_ HB.out)
        refine start_ (n := 11) (S := fun w' => w'.cell? ⟨gb947, 0, none⟩ = some (.int .i64 a0_0) ∧ w'.cell? ⟨gb947, 1, none⟩ = some (.int .i64 a0_1) ∧ w'.cell? ⟨gb947, 2, none⟩ = some (.slice A0_2 l0_2.length c0_2) ∧ w'.cell? ⟨gb948, 0, none⟩ = some (.slice A1_0 l1_0.length c1_0) ∧ w'.cell? ⟨gb948, 1, none⟩ = some (.int .i64 a1_1) ∧ w'.cell? ⟨gb948, 2, none⟩ = some (.int .i64 a1_2) ∧ w'.cell? ⟨gb948, 3, none⟩ = some (.string a1_3)) (ds := []) #[f_,f_,f_,f_,f_,f_,f_,f_,f_,f_,f_] (by kernel_rfl) rfl rfl ⟨bx_ BK947.out 0, bx_ BK947.out 1, bx_ BK947.out 2, bx_ BK948.out 0, bx_ BK948.out 1, bx_ BK948.out 2, bx_ BK948.out 3⟩ (fun hHeld => ?_); refine with_tabW laws_FnExactPutIn.tab31 laws_FnExactPutIn.bits31 (fun HT_ HW_ => ?_)
        generalize w123.drew = w124 at HO966 HO986 BK947 BK948 BK968 BK981 BK988 HB hHeld ⊢
        refine take_ (i := 0) (N := some 95) (v := ?_) (a' := ?_) #[t_,f_,f_,f_,f_,f_,f_,f_,f_,f_,f_] rfl rfl (take_ofW HT_.out HW_.out (by kernel_rfl)) (fun _ _ _ h => h) (Or.inl ⟨by rfl, ?_⟩) hHeld ?_ ?_
        rotate_left
        ·
         rintro w' ⟨s0, s1, s2, s3, s4, s5, s6⟩
         go_simp
         with_reducible rfl
        rotate_left
        ·
         simp only [fr_]
         rfl
        refine take_ (i := 2) (N := some 97) (v := ?_) (a' := ?_) #[t_,f_,t_,f_,f_,f_,f_,f_,f_,f_,f_] rfl rfl (take_ofW HT_.out HW_.out (by kernel_rfl)) (fun _ _ _ h => h) (Or.inl ⟨by rfl, ?_⟩) hHeld ?_ ?_
        rotate_left
        ·
         rintro w' ⟨s0, s1, s2, s3, s4, s5, s6⟩
         go_simp
         with_reducible rfl
        rotate_left
        ·
         simp only [fr_]
         rfl
        refine join_ (σ := Value × Nat × Value × Nat × Value × Nat × Nat) 2 #[t_,t_,t_,t_,t_,t_,t_,t_,t_,f_,f_] (fun s_ => [(96, .agg #[.int .i64 t1011, .int .i64 t1012, s_.1]), (98, .agg #[s_.2.2.1, .int .i64 t1019, .int .i64 t1020, .string t1021]), (99, .tuple #[.agg #[.int .i64 t1022, .int .i64 t1023, s_.2.2.2.2.1], .bool t1027]), (15, .pointer (some ⟨s_.2.2.2.2.2.2, 0, none⟩)), (94, .tuple #[.agg #[.int .i64 t1022, .int .i64 t1023, s_.2.2.2.2.1], .bool t1027]), (100, .agg #[.int .i64 t1022, .int .i64 t1023, s_.2.2.2.2.1]), (101, .bool t1027)]) (fun s_ w' => (w'.cell? ⟨gb947, 0, none⟩ = some (.int .i64 a0_0) ∧ w'.cell? ⟨gb947, 1, none⟩ = some (.int .i64 a0_1) ∧ w'.cell? ⟨gb947, 2, none⟩ = some (.slice A0_2 l0_2.length c0_2) ∧ w'.cell? ⟨gb948, 0, none⟩ = some (.slice A1_0 l1_0.length c1_0) ∧ w'.cell? ⟨gb948, 1, none⟩ = some (.int .i64 a1_1) ∧ w'.cell? ⟨gb948, 2, none⟩ = some (.int .i64 a1_2) ∧ w'.cell? ⟨gb948, 3, none⟩ = some (.string a1_3)) ∧ (Kd.S k100 100 w' w.heap.size (fun k_ => k_ ≠ gb981 ∧ s_.2.1 ≤ k_ ∧ k_ < s_.2.2.2.1 ∧ k_ < s_.2.2.2.2.2.1) s_.1 t1013) ∧ (Kd.R k88 88 w' w.heap.size (fun k_ => s_.2.2.2.1 ≤ k_ ∧ k_ < s_.2.2.2.2.2.1) s_.2.2.1 t1016) ∧ (Kd.S k100 100 w' w.heap.size (fun k_ => k_ ≠ gb981 ∧ s_.2.2.2.2.2.1 ≤ k_) s_.2.2.2.2.1 t1024) ∧ (Kd.S k100 100 w' w.heap.size (fun k_ => k_ ≠ gb981 ∧ gbz965 ≤ k_ ∧ k_ < s_.2.1 ∧ k_ < s_.2.2.2.1 ∧ k_ < s_.2.2.2.2.2.1 ∧ k_ < gbz972 ∧ k_ < gbz976 ∧ k_ < gbz985 ∧ k_ < gbz993 ∧ k_ < gbz997) (.slice Ao69 t964.length co69) t964) ∧ (Kd.S k100 100 w' w.heap.size (fun k_ => k_ ≠ gb981 ∧ gbz985 ≤ k_ ∧ k_ < s_.2.1 ∧ k_ < s_.2.2.2.1 ∧ k_ < s_.2.2.2.2.2.1 ∧ k_ < gbz993 ∧ k_ < gbz997) (.slice Ao99 t984.length co99) t1009) ∧ (w'.heap[s_.2.2.2.2.2.2]? = some (.cells #[.int .i64 0, .int .i64 0, .slice none 0 0] 57 (0, 0))) ∧ (w'.heap[gb947]? = some (.cells #[.int .i64 a0_0, .int .i64 a0_1, .slice A0_2 l0_2.length c0_2] 52 (0, 0))) ∧ (w'.heap[gb948]? = some (.cells #[.slice A1_0 l1_0.length c1_0, .int .i64 a1_1, .int .i64 a1_2, .string a1_3] 35 (0, 0))) ∧ (w'.heap[gb968]? = some (.cells #[.int .i64 t962, .int .i64 t963, .slice Ao69 t964.length co69] 57 (0, 0))) ∧ (w'.heap[gb981]? = some (.cells #[.slice Ao84 t975.length co84, .int .i64 t978, .int .i64 t979, .string t980] 43 (0, 0))) ∧ (w'.heap[gb988]? = some (.cells #[.int .i64 t982, .int .i64 t983, .slice Ao99 t984.length co99] 57 (0, 0))) ∧ (w.heap.size ≤ s_.2.2.2.2.2.2) ∧ (w.heap.size ≤ s_.2.2.2.2.2.2) ∧ (gb947 ≠ s_.2.2.2.2.2.2) ∧ (s_.2.2.2.2.2.2 ≠ gb947) ∧ (gb948 ≠ s_.2.2.2.2.2.2) ∧ (s_.2.2.2.2.2.2 ≠ gb948) ∧ (gb968 ≠ s_.2.2.2.2.2.2) ∧ (s_.2.2.2.2.2.2 ≠ gb968) ∧ (gb981 ≠ s_.2.2.2.2.2.2) ∧ (s_.2.2.2.2.2.2 ≠ gb981) ∧ (gb988 ≠ s_.2.2.2.2.2.2) ∧ (s_.2.2.2.2.2.2 ≠ gb988) ∧ (Below w.heap.size w w')) ?_ ?_
        rotate_left
        ·
         intro hCont
         refine two_ (i := 1) (j := 8) (Ni := some 96) (Nj := some 15) #[t_,t_,t_,f_,f_,f_,f_,f_,f_,f_,f_] #[t_,f_,t_,f_,f_,f_,f_,f_,t_,f_,f_] rfl rfl rfl rfl (two_of HT_.out (by kernel_rfl)) (by decide) (by decide) (fun K hK => ?_) (fun K hK => ?_)
         ·
          skip
          refine gs_ Try.func27 #[.agg #[.int .i64 a0_0, .int .i64 a0_1, .slice A0_2 l0_2.length c0_2]] ?_
          with_reducible refine (laws_toPart.calls k a0_0 a0_1 _ _ l0_2 t1011 t1012 t1013 _ ?side1 ?side2 A43.out).mono ?_
          (case side1 => exact cp_ ((Kd.C_below HR0_2.out HB.out)))
          (case side2 => exact HC0_2.out)
          rintro e w125 ⟨v1014, rfl, ho0, hb⟩
          refine ⟨_, rfl, ?_⟩
          obtain ⟨gbz1014, hz1014⟩ := Kd.S_name ho0
          replace HO966 := Aside0.mk (Kd.S_below (Kd.S_ltz hz1014 (sp_ HO966.out)) hb)
          replace HO986 := Aside0.mk (Kd.S_below (Kd.S_ltz hz1014 (sp_ HO986.out)) hb)
          have HO1015 := Aside0.mk (Kd.S_lower (Kd.S_newB (Kd.S_gez hz1014 ho0) (g := gb981) (o := .cells #[.slice Ao84 t975.length co84, .int .i64 t978, .int .i64 t979, .string t980] 43 (0, 0)) (pb_ BK981.out)) (below_size (hs_ HB.out)))
          replace BK947 := bk2_ BK947 hb
          replace BK948 := bk2_ BK948 hb
          replace BK968 := bk2_ BK968 hb
          replace BK981 := bk2_ BK981 hb
          replace BK988 := bk2_ BK988 hb
          replace HB := st_ HB hb
          (try clear hb)
          (try clear hb2)
          (try clear hk)
          (try clear hi)
          (try clear ho0)
          refine hK.out _ _ ⟨bx_ BK947.out 0, bx_ BK947.out 1, bx_ BK947.out 2, bx_ BK948.out 0, bx_ BK948.out 1, bx_ BK948.out 2, bx_ BK948.out 3⟩ (fun hHeld => ?_)
          clear hK K
          refine norm_ (a' := ?_) ?_ ?_
          rotate_left
          ·
           show Act.put _ (some 96) _ = _
           simp only [fr_]
           rfl
          refine two_ (i := 3) (j := 8) (Ni := some 98) (Nj := some 15) #[t_,t_,t_,t_,f_,f_,f_,f_,f_,f_,f_] #[t_,t_,t_,f_,f_,f_,f_,f_,t_,f_,f_] rfl rfl rfl rfl (two_of HT_.out (by kernel_rfl)) (by decide) (by decide) (fun K hK => ?_) (fun K hK => ?_)
          ·
           skip
           refine gs_ Try.func44 #[.agg #[.slice A1_0 l1_0.length c1_0, .int .i64 a1_1, .int .i64 a1_2, .string a1_3]] ?_
           with_reducible refine (laws_toAlarm.calls k _ _ l1_0 a1_1 a1_2 a1_3 t1016 t1019 t1020 t1021 _ ?side1 ?side2 A44.out).mono ?_
           (case side1 => exact cp_ ((Kd.C_below HR1_0.out HB.out)))
           (case side2 => exact HC1_0.out)
           rintro e w126 ⟨v1017, rfl, ho0, hb⟩
           refine ⟨_, rfl, ?_⟩
           obtain ⟨gbz1017, hz1017⟩ := Kd.R_name ho0
           replace HO966 := Aside0.mk (Kd.S_below (Kd.S_ltz hz1017 (sp_ HO966.out)) hb)
           replace HO986 := Aside0.mk (Kd.S_below (Kd.S_ltz hz1017 (sp_ HO986.out)) hb)
           replace HO1015 := Aside0.mk (Kd.S_below (Kd.S_ltz hz1017 (sp_ HO1015.out)) hb)
           have HO1018 := Aside0.mk (Kd.R_lower (Kd.R_gez hz1017 ho0) (below_size (hs_ HB.out)))
           replace BK947 := bk2_ BK947 hb
           replace BK948 := bk2_ BK948 hb
           replace BK968 := bk2_ BK968 hb
           replace BK981 := bk2_ BK981 hb
           replace BK988 := bk2_ BK988 hb
           replace HB := st_ HB hb
           (try clear hb)
           (try clear hb2)
           (try clear hk)
           (try clear hi)
           (try clear ho0)
           obtain ⟨Ao127, co127, eo127⟩ := Kd.S_slice HO1015.out
           (first | subst eo127 | (obtain ⟨rfl, rfl⟩ := si_ eo127))
           obtain ⟨Ao128, co128, eo128⟩ := Kd.R_slice HO1018.out
           (first | subst eo128 | (obtain ⟨rfl, rfl⟩ := si_ eo128))
           refine hK.out _ _ ⟨bx_ BK947.out 0, bx_ BK947.out 1, bx_ BK947.out 2, bx_ BK948.out 0, bx_ BK948.out 1, bx_ BK948.out 2, bx_ BK948.out 3⟩ (fun hHeld => ?_)
           clear hK K
           refine norm_ (a' := ?_) ?_ ?_
           rotate_left
           ·
            show Act.put _ (some 98) _ = _
            simp only [fr_]
            rfl
           refine two_ (i := 4) (j := 8) (Ni := some 99) (Nj := some 15) #[t_,t_,t_,t_,t_,f_,f_,f_,f_,f_,f_] #[t_,t_,t_,t_,f_,f_,f_,f_,t_,f_,f_] rfl rfl rfl rfl (two_of HT_.out (by kernel_rfl)) (by decide) (by decide) (fun K hK => ?_) (fun K hK => ?_)
           ·
            skip
            refine gs_ Try.func45 #[.agg #[.int .i64 t1011, .int .i64 t1012, .slice Ao127 t1013.length co127], .agg #[.slice Ao128 t1016.length co128, .int .i64 t1019, .int .i64 t1020, .string t1021]] ?_
            with_reducible refine (impl_PutIn.calls k t1011 t1012 _ _ t1013 _ _ t1016 t1019 t1020 t1021 t1022 t1023 t1024 t1027 _ ?side1 ?side2 ?side3 ?side4 A45.out).mono ?_
            (case side1 => exact cp_ ((Kd.S_reads' HO1015.out).2.2))
            (case side2 => exact (Kd.S_reads' HO1015.out).2.1)
            (case side3 => exact cp_ ((Kd.R_reads' HO1018.out).2.2))
            (case side4 => exact (Kd.R_reads' HO1018.out).2.1)
            rintro e w129 ⟨v1025, rfl, ho0, hb⟩
            refine ⟨_, rfl, ?_⟩
            obtain ⟨gbz1025, hz1025⟩ := Kd.S_name ho0
            replace HO966 := Aside0.mk (Kd.S_below (Kd.S_ltz hz1025 (sp_ HO966.out)) hb)
            replace HO986 := Aside0.mk (Kd.S_below (Kd.S_ltz hz1025 (sp_ HO986.out)) hb)
            replace HO1015 := Aside0.mk (Kd.S_below (Kd.S_ltz hz1025 (sp_ HO1015.out)) hb)
            replace HO1018 := Aside0.mk (Kd.R_below (Kd.R_ltz hz1025 (rp_ HO1018.out)) hb)
            have HO1026 := Aside0.mk (Kd.S_lower (Kd.S_newB (Kd.S_gez hz1025 ho0) (g := gb981) (o := .cells #[.slice Ao84 t975.length co84, .int .i64 t978, .int .i64 t979, .string t980] 43 (0, 0)) (pb_ BK981.out)) (below_size (hs_ HB.out)))
            replace BK947 := bk2_ BK947 hb
            replace BK948 := bk2_ BK948 hb
            replace BK968 := bk2_ BK968 hb
            replace BK981 := bk2_ BK981 hb
            replace BK988 := bk2_ BK988 hb
            replace HB := st_ HB hb
            (try clear hb)
            (try clear hb2)
            (try clear hk)
            (try clear hi)
            (try clear ho0)
            refine hK.out _ _ ⟨bx_ BK947.out 0, bx_ BK947.out 1, bx_ BK947.out 2, bx_ BK948.out 0, bx_ BK948.out 1, bx_ BK948.out 2, bx_ BK948.out 3⟩ (fun hHeld => ?_)
            clear hK K
            refine norm_ (a' := ?_) ?_ ?_
            rotate_left
            ·
             show Act.put _ (some 99) _ = _
             simp only [fr_]
             rfl
            refine pw_ 5 94 (b_ 6 5) rfl rfl HT_.out ?_
            refine pw_ 6 100 (b_ 7 4) rfl rfl HT_.out ?_
            refine pw_ 7 101 (b_ 8 3) rfl rfl HT_.out ?_
            refine one_ (i := 8) (N := some 15) #[t_,t_,t_,t_,t_,t_,t_,t_,t_,f_,f_] rfl rfl (one_of HT_.out (by kernel_rfl)) (by decide) (fun K hK => ?_)
            refine bs1_ 15 #[.int .i64 0, .int .i64 0, .slice none 0 0] 57 ?_
            intro gb1028 hg w130 hbox hb
            replace HO966 := Aside0.mk (Kd.S_below (sp_ HO966.out) hb)
            replace HO986 := Aside0.mk (Kd.S_below (sp_ HO986.out) hb)
            replace HO1015 := Aside0.mk (Kd.S_below (sp_ HO1015.out) hb)
            replace HO1018 := Aside0.mk (Kd.R_below (rp_ HO1018.out) hb)
            replace HO1026 := Aside0.mk (Kd.S_below (sp_ HO1026.out) hb)
            have BK1028 := Aside0.mk (hbox)
            have GW1028 := Aside0.mk ((gw_ hg (hs_ HB.out)))
            have GE1028 := Ge_.mk ((gw_ hg (hs_ HB.out)))
            replace HB := st_ HB hb
            have NB947_1028 := Ne_.mk (nl_ BK947.out hg)
            have NB1028_947 := Ne_.mk (ng_ BK947.out hg)
            replace BK947 := bk2_ BK947 hb
            have NB948_1028 := Ne_.mk (nl_ BK948.out hg)
            have NB1028_948 := Ne_.mk (ng_ BK948.out hg)
            replace BK948 := bk2_ BK948 hb
            have NB968_1028 := Ne_.mk (nl_ BK968.out hg)
            have NB1028_968 := Ne_.mk (ng_ BK968.out hg)
            replace BK968 := bk2_ BK968 hb
            have NB981_1028 := Ne_.mk (nl_ BK981.out hg)
            have NB1028_981 := Ne_.mk (ng_ BK981.out hg)
            replace BK981 := bk2_ BK981 hb
            have NB988_1028 := Ne_.mk (nl_ BK988.out hg)
            have NB1028_988 := Ne_.mk (ng_ BK988.out hg)
            replace BK988 := bk2_ BK988 hb
            clear hb hbox hg
            refine hK.out _ _ ⟨bx_ BK947.out 0, bx_ BK947.out 1, bx_ BK947.out 2, bx_ BK948.out 0, bx_ BK948.out 1, bx_ BK948.out 2, bx_ BK948.out 3⟩ (fun hHeld => ?_)
            clear hK K
            refine norm_ (a' := ?_) ?_ ?_
            rotate_left
            ·
             show Act.put _ (some 15) _ = _
             simp only [fr_]
             rfl
            exact norm_ (by simp only [putAll, fr_]) (hCont (.slice Ao127 t1013.length co127, gbz1014, .slice Ao128 t1016.length co128, gbz1017, v1025, gbz1025, gb1028) _ ⟨hHeld, (Kd.S_mono (sp_ HO1015.out) (fun _ hk => ⟨hk.1.1.2, ⟨hk.1.1.1.2, ⟨hk.1.2, hk.2⟩⟩⟩)), (Kd.R_mono (rp_ HO1018.out) (fun _ hk => ⟨hk.1.2, hk.2⟩)), (Kd.S_mono (sp_ HO1026.out) (fun _ hk => ⟨hk.2, hk.1.2⟩)), (Kd.S_mono (sp_ HO966.out) (fun _ hk => ⟨hk.1.1.1.1, ⟨hk.1.1.1.2.1, ⟨hk.1.1.2, ⟨hk.1.2, ⟨hk.2, ⟨hk.1.1.1.2.2.1, ⟨hk.1.1.1.2.2.2.1, ⟨hk.1.1.1.2.2.2.2.1, ⟨hk.1.1.1.2.2.2.2.2.1, hk.1.1.1.2.2.2.2.2.2⟩⟩⟩⟩⟩⟩⟩⟩⟩)), (Kd.S_mono (sp_ HO986.out) (fun _ hk => ⟨hk.1.1.1.1, ⟨hk.1.1.1.2.1, ⟨hk.1.1.2, ⟨hk.1.2, ⟨hk.2, ⟨hk.1.1.1.2.2.1, hk.1.1.1.2.2.2⟩⟩⟩⟩⟩⟩)), (pb_ BK1028.out), (pb_ BK947.out), (pb_ BK948.out), (pb_ BK968.out), (pb_ BK981.out), (pb_ BK988.out), GW1028.out, GE1028.out, NB947_1028.out, NB1028_947.out, NB948_1028.out, NB1028_948.out, NB968_1028.out, NB1028_968.out, NB981_1028.out, NB1028_981.out, NB988_1028.out, NB1028_988.out, (hs_ HB.out)⟩)
           skip
           refine bs1_ 15 #[.int .i64 0, .int .i64 0, .slice none 0 0] 57 ?_
           intro gb1028 hg w127 hbox hb
           replace HO966 := Aside0.mk (Kd.S_below (sp_ HO966.out) hb)
           replace HO986 := Aside0.mk (Kd.S_below (sp_ HO986.out) hb)
           replace HO1015 := Aside0.mk (Kd.S_below (sp_ HO1015.out) hb)
           replace HO1018 := Aside0.mk (Kd.R_below (rp_ HO1018.out) hb)
           have BK1028 := Aside0.mk (hbox)
           have GW1028 := Aside0.mk ((gw_ hg (hs_ HB.out)))
           have GE1028 := Ge_.mk ((gw_ hg (hs_ HB.out)))
           replace HB := st_ HB hb
           have NB947_1028 := Ne_.mk (nl_ BK947.out hg)
           have NB1028_947 := Ne_.mk (ng_ BK947.out hg)
           replace BK947 := bk2_ BK947 hb
           have NB948_1028 := Ne_.mk (nl_ BK948.out hg)
           have NB1028_948 := Ne_.mk (ng_ BK948.out hg)
           replace BK948 := bk2_ BK948 hb
           have NB968_1028 := Ne_.mk (nl_ BK968.out hg)
           have NB1028_968 := Ne_.mk (ng_ BK968.out hg)
           replace BK968 := bk2_ BK968 hb
           have NB981_1028 := Ne_.mk (nl_ BK981.out hg)
           have NB1028_981 := Ne_.mk (ng_ BK981.out hg)
           replace BK981 := bk2_ BK981 hb
           have NB988_1028 := Ne_.mk (nl_ BK988.out hg)
           have NB1028_988 := Ne_.mk (ng_ BK988.out hg)
           replace BK988 := bk2_ BK988 hb
           clear hb hbox hg
           obtain ⟨Ao128, co128, eo128⟩ := Kd.S_slice HO1015.out
           (first | subst eo128 | (obtain ⟨rfl, rfl⟩ := si_ eo128))
           obtain ⟨Ao129, co129, eo129⟩ := Kd.R_slice HO1018.out
           (first | subst eo129 | (obtain ⟨rfl, rfl⟩ := si_ eo129))
           refine hK.out _ _ ⟨bx_ BK947.out 0, bx_ BK947.out 1, bx_ BK947.out 2, bx_ BK948.out 0, bx_ BK948.out 1, bx_ BK948.out 2, bx_ BK948.out 3⟩ (fun hHeld => ?_)
           clear hK K
           refine norm_ (a' := ?_) ?_ ?_
           rotate_left
           ·
            show Act.put _ (some 15) _ = _
            simp only [fr_]
            rfl
           refine one_ (i := 4) (N := some 99) #[t_,t_,t_,t_,t_,f_,f_,f_,t_,f_,f_] rfl rfl (one_of HT_.out (by kernel_rfl)) (by decide) (fun K hK => ?_)
           refine gs_ Try.func45 #[.agg #[.int .i64 t1011, .int .i64 t1012, .slice Ao128 t1013.length co128], .agg #[.slice Ao129 t1016.length co129, .int .i64 t1019, .int .i64 t1020, .string t1021]] ?_
           with_reducible refine (impl_PutIn.calls k t1011 t1012 _ _ t1013 _ _ t1016 t1019 t1020 t1021 t1022 t1023 t1024 t1027 _ ?side1 ?side2 ?side3 ?side4 A45.out).mono ?_
           (case side1 => exact cp_ ((Kd.S_reads' HO1015.out).2.2))
           (case side2 => exact (Kd.S_reads' HO1015.out).2.1)
           (case side3 => exact cp_ ((Kd.R_reads' HO1018.out).2.2))
           (case side4 => exact (Kd.R_reads' HO1018.out).2.1)
           rintro e w130 ⟨v1025, rfl, ho0, hb⟩
           refine ⟨_, rfl, ?_⟩
           obtain ⟨gbz1025, hz1025⟩ := Kd.S_name ho0
           replace HO966 := Aside0.mk (Kd.S_below (Kd.S_ltz hz1025 (sp_ HO966.out)) hb)
           replace HO986 := Aside0.mk (Kd.S_below (Kd.S_ltz hz1025 (sp_ HO986.out)) hb)
           replace HO1015 := Aside0.mk (Kd.S_below (Kd.S_ltz hz1025 (sp_ HO1015.out)) hb)
           replace HO1018 := Aside0.mk (Kd.R_below (Kd.R_ltz hz1025 (rp_ HO1018.out)) hb)
           have HO1026 := Aside0.mk (Kd.S_lower (Kd.S_newB (Kd.S_gez hz1025 ho0) (g := gb981) (o := .cells #[.slice Ao84 t975.length co84, .int .i64 t978, .int .i64 t979, .string t980] 43 (0, 0)) (pb_ BK981.out)) (below_size (hs_ HB.out)))
           replace BK947 := bk2_ BK947 hb
           replace BK948 := bk2_ BK948 hb
           replace BK968 := bk2_ BK968 hb
           replace BK981 := bk2_ BK981 hb
           replace BK988 := bk2_ BK988 hb
           replace BK1028 := bk2_ BK1028 hb
           replace HB := st_ HB hb
           (try clear hb)
           (try clear hb2)
           (try clear hk)
           (try clear hi)
           (try clear ho0)
           refine hK.out _ _ ⟨bx_ BK947.out 0, bx_ BK947.out 1, bx_ BK947.out 2, bx_ BK948.out 0, bx_ BK948.out 1, bx_ BK948.out 2, bx_ BK948.out 3⟩ (fun hHeld => ?_)
           clear hK K
           refine norm_ (a' := ?_) ?_ ?_
           rotate_left
           ·
            show Act.put _ (some 99) _ = _
            simp only [fr_]
            rfl
           refine pw_ 5 94 #[t_,t_,t_,t_,t_,t_,f_,f_,t_,f_,f_] rfl rfl HT_.out ?_
           refine pw_ 6 100 #[t_,t_,t_,t_,t_,t_,t_,f_,t_,f_,f_] rfl rfl HT_.out ?_
           refine pw_ 7 101 (b_ 9 2) rfl rfl HT_.out ?_
           exact norm_ (by simp only [putAll, fr_]) (hCont (.slice Ao128 t1013.length co128, gbz1014, .slice Ao129 t1016.length co129, gbz1017, v1025, gbz1025, gb1028) _ ⟨hHeld, (Kd.S_mono (sp_ HO1015.out) (fun _ hk => ⟨hk.1.1.2, ⟨hk.1.1.1.2, ⟨hk.1.2, hk.2⟩⟩⟩)), (Kd.R_mono (rp_ HO1018.out) (fun _ hk => ⟨hk.1.2, hk.2⟩)), (Kd.S_mono (sp_ HO1026.out) (fun _ hk => ⟨hk.2, hk.1.2⟩)), (Kd.S_mono (sp_ HO966.out) (fun _ hk => ⟨hk.1.1.1.1, ⟨hk.1.1.1.2.1, ⟨hk.1.1.2, ⟨hk.1.2, ⟨hk.2, ⟨hk.1.1.1.2.2.1, ⟨hk.1.1.1.2.2.2.1, ⟨hk.1.1.1.2.2.2.2.1, ⟨hk.1.1.1.2.2.2.2.2.1, hk.1.1.1.2.2.2.2.2.2⟩⟩⟩⟩⟩⟩⟩⟩⟩)), (Kd.S_mono (sp_ HO986.out) (fun _ hk => ⟨hk.1.1.1.1, ⟨hk.1.1.1.2.1, ⟨hk.1.1.2, ⟨hk.1.2, ⟨hk.2, ⟨hk.1.1.1.2.2.1, hk.1.1.1.2.2.2⟩⟩⟩⟩⟩⟩)), (pb_ BK1028.out), (pb_ BK947.out), (pb_ BK948.out), (pb_ BK968.out), (pb_ BK981.out), (pb_ BK988.out), GW1028.out, GE1028.out, NB947_1028.out, NB1028_947.out, NB948_1028.out, NB1028_948.out, NB968_1028.out, NB1028_968.out, NB981_1028.out, NB1028_981.out, NB988_1028.out, NB1028_988.out, (hs_ HB.out)⟩)
          skip
          refine bs1_ 15 #[.int .i64 0, .int .i64 0, .slice none 0 0] 57 ?_
          intro gb1028 hg w126 hbox hb
          replace HO966 := Aside0.mk (Kd.S_below (sp_ HO966.out) hb)
          replace HO986 := Aside0.mk (Kd.S_below (sp_ HO986.out) hb)
          replace HO1015 := Aside0.mk (Kd.S_below (sp_ HO1015.out) hb)
          have BK1028 := Aside0.mk (hbox)
          have GW1028 := Aside0.mk ((gw_ hg (hs_ HB.out)))
          have GE1028 := Ge_.mk ((gw_ hg (hs_ HB.out)))
          replace HB := st_ HB hb
          have NB947_1028 := Ne_.mk (nl_ BK947.out hg)
          have NB1028_947 := Ne_.mk (ng_ BK947.out hg)
          replace BK947 := bk2_ BK947 hb
          have NB948_1028 := Ne_.mk (nl_ BK948.out hg)
          have NB1028_948 := Ne_.mk (ng_ BK948.out hg)
          replace BK948 := bk2_ BK948 hb
          have NB968_1028 := Ne_.mk (nl_ BK968.out hg)
          have NB1028_968 := Ne_.mk (ng_ BK968.out hg)
          replace BK968 := bk2_ BK968 hb
          have NB981_1028 := Ne_.mk (nl_ BK981.out hg)
          have NB1028_981 := Ne_.mk (ng_ BK981.out hg)
          replace BK981 := bk2_ BK981 hb
          have NB988_1028 := Ne_.mk (nl_ BK988.out hg)
          have NB1028_988 := Ne_.mk (ng_ BK988.out hg)
          replace BK988 := bk2_ BK988 hb
          clear hb hbox hg
          refine hK.out _ _ ⟨bx_ BK947.out 0, bx_ BK947.out 1, bx_ BK947.out 2, bx_ BK948.out 0, bx_ BK948.out 1, bx_ BK948.out 2, bx_ BK948.out 3⟩ (fun hHeld => ?_)
          clear hK K
          refine norm_ (a' := ?_) ?_ ?_
          rotate_left
          ·
           show Act.put _ (some 15) _ = _
           simp only [fr_]
           rfl
          refine one_ (i := 3) (N := some 98) #[t_,t_,t_,t_,f_,f_,f_,f_,t_,f_,f_] rfl rfl (one_of HT_.out (by kernel_rfl)) (by decide) (fun K hK => ?_)
          refine gs_ Try.func44 #[.agg #[.slice A1_0 l1_0.length c1_0, .int .i64 a1_1, .int .i64 a1_2, .string a1_3]] ?_
          with_reducible refine (laws_toAlarm.calls k _ _ l1_0 a1_1 a1_2 a1_3 t1016 t1019 t1020 t1021 _ ?side1 ?side2 A44.out).mono ?_
          (case side1 => exact cp_ ((Kd.C_below HR1_0.out HB.out)))
          (case side2 => exact HC1_0.out)
          rintro e w127 ⟨v1017, rfl, ho0, hb⟩
          refine ⟨_, rfl, ?_⟩
          obtain ⟨gbz1017, hz1017⟩ := Kd.R_name ho0
          replace HO966 := Aside0.mk (Kd.S_below (Kd.S_ltz hz1017 (sp_ HO966.out)) hb)
          replace HO986 := Aside0.mk (Kd.S_below (Kd.S_ltz hz1017 (sp_ HO986.out)) hb)
          replace HO1015 := Aside0.mk (Kd.S_below (Kd.S_ltz hz1017 (sp_ HO1015.out)) hb)
          have HO1018 := Aside0.mk (Kd.R_lower (Kd.R_gez hz1017 ho0) (below_size (hs_ HB.out)))
          replace BK947 := bk2_ BK947 hb
          replace BK948 := bk2_ BK948 hb
          replace BK968 := bk2_ BK968 hb
          replace BK981 := bk2_ BK981 hb
          replace BK988 := bk2_ BK988 hb
          replace BK1028 := bk2_ BK1028 hb
          replace HB := st_ HB hb
          (try clear hb)
          (try clear hb2)
          (try clear hk)
          (try clear hi)
          (try clear ho0)
          obtain ⟨Ao128, co128, eo128⟩ := Kd.S_slice HO1015.out
          (first | subst eo128 | (obtain ⟨rfl, rfl⟩ := si_ eo128))
          obtain ⟨Ao129, co129, eo129⟩ := Kd.R_slice HO1018.out
          (first | subst eo129 | (obtain ⟨rfl, rfl⟩ := si_ eo129))
          refine hK.out _ _ ⟨bx_ BK947.out 0, bx_ BK947.out 1, bx_ BK947.out 2, bx_ BK948.out 0, bx_ BK948.out 1, bx_ BK948.out 2, bx_ BK948.out 3⟩ (fun hHeld => ?_)
          clear hK K
          refine norm_ (a' := ?_) ?_ ?_
          rotate_left
          ·
           show Act.put _ (some 98) _ = _
           simp only [fr_]
           rfl
          refine one_ (i := 4) (N := some 99) #[t_,t_,t_,t_,t_,f_,f_,f_,t_,f_,f_] rfl rfl (one_of HT_.out (by kernel_rfl)) (by decide) (fun K hK => ?_)
          refine gs_ Try.func45 #[.agg #[.int .i64 t1011, .int .i64 t1012, .slice Ao128 t1013.length co128], .agg #[.slice Ao129 t1016.length co129, .int .i64 t1019, .int .i64 t1020, .string t1021]] ?_
          with_reducible refine (impl_PutIn.calls k t1011 t1012 _ _ t1013 _ _ t1016 t1019 t1020 t1021 t1022 t1023 t1024 t1027 _ ?side1 ?side2 ?side3 ?side4 A45.out).mono ?_
          (case side1 => exact cp_ ((Kd.S_reads' HO1015.out).2.2))
          (case side2 => exact (Kd.S_reads' HO1015.out).2.1)
          (case side3 => exact cp_ ((Kd.R_reads' HO1018.out).2.2))
          (case side4 => exact (Kd.R_reads' HO1018.out).2.1)
          rintro e w130 ⟨v1025, rfl, ho0, hb⟩
          refine ⟨_, rfl, ?_⟩
          obtain ⟨gbz1025, hz1025⟩ := Kd.S_name ho0
          replace HO966 := Aside0.mk (Kd.S_below (Kd.S_ltz hz1025 (sp_ HO966.out)) hb)
          replace HO986 := Aside0.mk (Kd.S_below (Kd.S_ltz hz1025 (sp_ HO986.out)) hb)
          replace HO1015 := Aside0.mk (Kd.S_below (Kd.S_ltz hz1025 (sp_ HO1015.out)) hb)
          replace HO1018 := Aside0.mk (Kd.R_below (Kd.R_ltz hz1025 (rp_ HO1018.out)) hb)
          have HO1026 := Aside0.mk (Kd.S_lower (Kd.S_newB (Kd.S_gez hz1025 ho0) (g := gb981) (o := .cells #[.slice Ao84 t975.length co84, .int .i64 t978, .int .i64 t979, .string t980] 43 (0, 0)) (pb_ BK981.out)) (below_size (hs_ HB.out)))
          replace BK947 := bk2_ BK947 hb
          replace BK948 := bk2_ BK948 hb
          replace BK968 := bk2_ BK968 hb
          replace BK981 := bk2_ BK981 hb
          replace BK988 := bk2_ BK988 hb
          replace BK1028 := bk2_ BK1028 hb
          replace HB := st_ HB hb
          (try clear hb)
          (try clear hb2)
          (try clear hk)
          (try clear hi)
          (try clear ho0)
          refine hK.out _ _ ⟨bx_ BK947.out 0, bx_ BK947.out 1, bx_ BK947.out 2, bx_ BK948.out 0, bx_ BK948.out 1, bx_ BK948.out 2, bx_ BK948.out 3⟩ (fun hHeld => ?_)
          clear hK K
          refine norm_ (a' := ?_) ?_ ?_
          rotate_left
          ·
           show Act.put _ (some 99) _ = _
           simp only [fr_]
           rfl
          refine pw_ 5 94 #[t_,t_,t_,t_,t_,t_,f_,f_,t_,f_,f_] rfl rfl HT_.out ?_
          refine pw_ 6 100 #[t_,t_,t_,t_,t_,t_,t_,f_,t_,f_,f_] rfl rfl HT_.out ?_
          refine pw_ 7 101 (b_ 9 2) rfl rfl HT_.out ?_
          exact norm_ (by simp only [putAll, fr_]) (hCont (.slice Ao128 t1013.length co128, gbz1014, .slice Ao129 t1016.length co129, gbz1017, v1025, gbz1025, gb1028) _ ⟨hHeld, (Kd.S_mono (sp_ HO1015.out) (fun _ hk => ⟨hk.1.1.2, ⟨hk.1.1.1.2, ⟨hk.1.2, hk.2⟩⟩⟩)), (Kd.R_mono (rp_ HO1018.out) (fun _ hk => ⟨hk.1.2, hk.2⟩)), (Kd.S_mono (sp_ HO1026.out) (fun _ hk => ⟨hk.2, hk.1.2⟩)), (Kd.S_mono (sp_ HO966.out) (fun _ hk => ⟨hk.1.1.1.1, ⟨hk.1.1.1.2.1, ⟨hk.1.1.2, ⟨hk.1.2, ⟨hk.2, ⟨hk.1.1.1.2.2.1, ⟨hk.1.1.1.2.2.2.1, ⟨hk.1.1.1.2.2.2.2.1, ⟨hk.1.1.1.2.2.2.2.2.1, hk.1.1.1.2.2.2.2.2.2⟩⟩⟩⟩⟩⟩⟩⟩⟩)), (Kd.S_mono (sp_ HO986.out) (fun _ hk => ⟨hk.1.1.1.1, ⟨hk.1.1.1.2.1, ⟨hk.1.1.2, ⟨hk.1.2, ⟨hk.2, ⟨hk.1.1.1.2.2.1, hk.1.1.1.2.2.2⟩⟩⟩⟩⟩⟩)), (pb_ BK1028.out), (pb_ BK947.out), (pb_ BK948.out), (pb_ BK968.out), (pb_ BK981.out), (pb_ BK988.out), GW1028.out, GE1028.out, NB947_1028.out, NB1028_947.out, NB948_1028.out, NB1028_948.out, NB968_1028.out, NB1028_968.out, NB981_1028.out, NB1028_981.out, NB988_1028.out, NB1028_988.out, (hs_ HB.out)⟩)
         skip
         refine bs1_ 15 #[.int .i64 0, .int .i64 0, .slice none 0 0] 57 ?_
         intro gb1028 hg w125 hbox hb
         replace HO966 := Aside0.mk (Kd.S_below (sp_ HO966.out) hb)
         replace HO986 := Aside0.mk (Kd.S_below (sp_ HO986.out) hb)
         have BK1028 := Aside0.mk (hbox)
         have GW1028 := Aside0.mk ((gw_ hg (hs_ HB.out)))
         have GE1028 := Ge_.mk ((gw_ hg (hs_ HB.out)))
         replace HB := st_ HB hb
         have NB947_1028 := Ne_.mk (nl_ BK947.out hg)
         have NB1028_947 := Ne_.mk (ng_ BK947.out hg)
         replace BK947 := bk2_ BK947 hb
         have NB948_1028 := Ne_.mk (nl_ BK948.out hg)
         have NB1028_948 := Ne_.mk (ng_ BK948.out hg)
         replace BK948 := bk2_ BK948 hb
         have NB968_1028 := Ne_.mk (nl_ BK968.out hg)
         have NB1028_968 := Ne_.mk (ng_ BK968.out hg)
         replace BK968 := bk2_ BK968 hb
         have NB981_1028 := Ne_.mk (nl_ BK981.out hg)
         have NB1028_981 := Ne_.mk (ng_ BK981.out hg)
         replace BK981 := bk2_ BK981 hb
         have NB988_1028 := Ne_.mk (nl_ BK988.out hg)
         have NB1028_988 := Ne_.mk (ng_ BK988.out hg)
         replace BK988 := bk2_ BK988 hb
         clear hb hbox hg
         refine hK.out _ _ ⟨bx_ BK947.out 0, bx_ BK947.out 1, bx_ BK947.out 2, bx_ BK948.out 0, bx_ BK948.out 1, bx_ BK948.out 2, bx_ BK948.out 3⟩ (fun hHeld => ?_)
         clear hK K
         refine norm_ (a' := ?_) ?_ ?_
         rotate_left
         ·
          show Act.put _ (some 15) _ = _
          simp only [fr_]
          rfl
         refine one_ (i := 1) (N := some 96) #[t_,t_,t_,f_,f_,f_,f_,f_,t_,f_,f_] rfl rfl (one_of HT_.out (by kernel_rfl)) (by decide) (fun K hK => ?_)
         refine gs_ Try.func27 #[.agg #[.int .i64 a0_0, .int .i64 a0_1, .slice A0_2 l0_2.length c0_2]] ?_
         with_reducible refine (laws_toPart.calls k a0_0 a0_1 _ _ l0_2 t1011 t1012 t1013 _ ?side1 ?side2 A43.out).mono ?_
         (case side1 => exact cp_ ((Kd.C_below HR0_2.out HB.out)))
         (case side2 => exact HC0_2.out)
         rintro e w126 ⟨v1014, rfl, ho0, hb⟩
         refine ⟨_, rfl, ?_⟩
         obtain ⟨gbz1014, hz1014⟩ := Kd.S_name ho0
         replace HO966 := Aside0.mk (Kd.S_below (Kd.S_ltz hz1014 (sp_ HO966.out)) hb)
         replace HO986 := Aside0.mk (Kd.S_below (Kd.S_ltz hz1014 (sp_ HO986.out)) hb)
         have HO1015 := Aside0.mk (Kd.S_lower (Kd.S_newB (Kd.S_gez hz1014 ho0) (g := gb981) (o := .cells #[.slice Ao84 t975.length co84, .int .i64 t978, .int .i64 t979, .string t980] 43 (0, 0)) (pb_ BK981.out)) (below_size (hs_ HB.out)))
         replace BK947 := bk2_ BK947 hb
         replace BK948 := bk2_ BK948 hb
         replace BK968 := bk2_ BK968 hb
         replace BK981 := bk2_ BK981 hb
         replace BK988 := bk2_ BK988 hb
         replace BK1028 := bk2_ BK1028 hb
         replace HB := st_ HB hb
         (try clear hb)
         (try clear hb2)
         (try clear hk)
         (try clear hi)
         (try clear ho0)
         refine hK.out _ _ ⟨bx_ BK947.out 0, bx_ BK947.out 1, bx_ BK947.out 2, bx_ BK948.out 0, bx_ BK948.out 1, bx_ BK948.out 2, bx_ BK948.out 3⟩ (fun hHeld => ?_)
         clear hK K
         refine norm_ (a' := ?_) ?_ ?_
         rotate_left
         ·
          show Act.put _ (some 96) _ = _
          simp only [fr_]
          rfl
         refine one_ (i := 3) (N := some 98) #[t_,t_,t_,t_,f_,f_,f_,f_,t_,f_,f_] rfl rfl (one_of HT_.out (by kernel_rfl)) (by decide) (fun K hK => ?_)
         refine gs_ Try.func44 #[.agg #[.slice A1_0 l1_0.length c1_0, .int .i64 a1_1, .int .i64 a1_2, .string a1_3]] ?_
         with_reducible refine (laws_toAlarm.calls k _ _ l1_0 a1_1 a1_2 a1_3 t1016 t1019 t1020 t1021 _ ?side1 ?side2 A44.out).mono ?_
         (case side1 => exact cp_ ((Kd.C_below HR1_0.out HB.out)))
         (case side2 => exact HC1_0.out)
         rintro e w127 ⟨v1017, rfl, ho0, hb⟩
         refine ⟨_, rfl, ?_⟩
         obtain ⟨gbz1017, hz1017⟩ := Kd.R_name ho0
         replace HO966 := Aside0.mk (Kd.S_below (Kd.S_ltz hz1017 (sp_ HO966.out)) hb)
         replace HO986 := Aside0.mk (Kd.S_below (Kd.S_ltz hz1017 (sp_ HO986.out)) hb)
         replace HO1015 := Aside0.mk (Kd.S_below (Kd.S_ltz hz1017 (sp_ HO1015.out)) hb)
         have HO1018 := Aside0.mk (Kd.R_lower (Kd.R_gez hz1017 ho0) (below_size (hs_ HB.out)))
         replace BK947 := bk2_ BK947 hb
         replace BK948 := bk2_ BK948 hb
         replace BK968 := bk2_ BK968 hb
         replace BK981 := bk2_ BK981 hb
         replace BK988 := bk2_ BK988 hb
         replace BK1028 := bk2_ BK1028 hb
         replace HB := st_ HB hb
         (try clear hb)
         (try clear hb2)
         (try clear hk)
         (try clear hi)
         (try clear ho0)
         obtain ⟨Ao128, co128, eo128⟩ := Kd.S_slice HO1015.out
         (first | subst eo128 | (obtain ⟨rfl, rfl⟩ := si_ eo128))
         obtain ⟨Ao129, co129, eo129⟩ := Kd.R_slice HO1018.out
         (first | subst eo129 | (obtain ⟨rfl, rfl⟩ := si_ eo129))
         refine hK.out _ _ ⟨bx_ BK947.out 0, bx_ BK947.out 1, bx_ BK947.out 2, bx_ BK948.out 0, bx_ BK948.out 1, bx_ BK948.out 2, bx_ BK948.out 3⟩ (fun hHeld => ?_)
         clear hK K
         refine norm_ (a' := ?_) ?_ ?_
         rotate_left
         ·
          show Act.put _ (some 98) _ = _
          simp only [fr_]
          rfl
         refine one_ (i := 4) (N := some 99) #[t_,t_,t_,t_,t_,f_,f_,f_,t_,f_,f_] rfl rfl (one_of HT_.out (by kernel_rfl)) (by decide) (fun K hK => ?_)
         refine gs_ Try.func45 #[.agg #[.int .i64 t1011, .int .i64 t1012, .slice Ao128 t1013.length co128], .agg #[.slice Ao129 t1016.length co129, .int .i64 t1019, .int .i64 t1020, .string t1021]] ?_
         with_reducible refine (impl_PutIn.calls k t1011 t1012 _ _ t1013 _ _ t1016 t1019 t1020 t1021 t1022 t1023 t1024 t1027 _ ?side1 ?side2 ?side3 ?side4 A45.out).mono ?_
         (case side1 => exact cp_ ((Kd.S_reads' HO1015.out).2.2))
         (case side2 => exact (Kd.S_reads' HO1015.out).2.1)
         (case side3 => exact cp_ ((Kd.R_reads' HO1018.out).2.2))
         (case side4 => exact (Kd.R_reads' HO1018.out).2.1)
         rintro e w130 ⟨v1025, rfl, ho0, hb⟩
         refine ⟨_, rfl, ?_⟩
         obtain ⟨gbz1025, hz1025⟩ := Kd.S_name ho0
         replace HO966 := Aside0.mk (Kd.S_below (Kd.S_ltz hz1025 (sp_ HO966.out)) hb)
         replace HO986 := Aside0.mk (Kd.S_below (Kd.S_ltz hz1025 (sp_ HO986.out)) hb)
         replace HO1015 := Aside0.mk (Kd.S_below (Kd.S_ltz hz1025 (sp_ HO1015.out)) hb)
         replace HO1018 := Aside0.mk (Kd.R_below (Kd.R_ltz hz1025 (rp_ HO1018.out)) hb)
         have HO1026 := Aside0.mk (Kd.S_lower (Kd.S_newB (Kd.S_gez hz1025 ho0) (g := gb981) (o := .cells #[.slice Ao84 t975.length co84, .int .i64 t978, .int .i64 t979, .string t980] 43 (0, 0)) (pb_ BK981.out)) (below_size (hs_ HB.out)))
         replace BK947 := bk2_ BK947 hb
         replace BK948 := bk2_ BK948 hb
         replace BK968 := bk2_ BK968 hb
         replace BK981 := bk2_ BK981 hb
         replace BK988 := bk2_ BK988 hb
         replace BK1028 := bk2_ BK1028 hb
         replace HB := st_ HB hb
         (try clear hb)
         (try clear hb2)
         (try clear hk)
         (try clear hi)
         (try clear ho0)
         refine hK.out _ _ ⟨bx_ BK947.out 0, bx_ BK947.out 1, bx_ BK947.out 2, bx_ BK948.out 0, bx_ BK948.out 1, bx_ BK948.out 2, bx_ BK948.out 3⟩ (fun hHeld => ?_)
         clear hK K
         refine norm_ (a' := ?_) ?_ ?_
         rotate_left
         ·
          show Act.put _ (some 99) _ = _
          simp only [fr_]
          rfl
         refine pw_ 5 94 #[t_,t_,t_,t_,t_,t_,f_,f_,t_,f_,f_] rfl rfl HT_.out ?_
         refine pw_ 6 100 #[t_,t_,t_,t_,t_,t_,t_,f_,t_,f_,f_] rfl rfl HT_.out ?_
         refine pw_ 7 101 (b_ 9 2) rfl rfl HT_.out ?_
         exact norm_ (by simp only [putAll, fr_]) (hCont (.slice Ao128 t1013.length co128, gbz1014, .slice Ao129 t1016.length co129, gbz1017, v1025, gbz1025, gb1028) _ ⟨hHeld, (Kd.S_mono (sp_ HO1015.out) (fun _ hk => ⟨hk.1.1.2, ⟨hk.1.1.1.2, ⟨hk.1.2, hk.2⟩⟩⟩)), (Kd.R_mono (rp_ HO1018.out) (fun _ hk => ⟨hk.1.2, hk.2⟩)), (Kd.S_mono (sp_ HO1026.out) (fun _ hk => ⟨hk.2, hk.1.2⟩)), (Kd.S_mono (sp_ HO966.out) (fun _ hk => ⟨hk.1.1.1.1, ⟨hk.1.1.1.2.1, ⟨hk.1.1.2, ⟨hk.1.2, ⟨hk.2, ⟨hk.1.1.1.2.2.1, ⟨hk.1.1.1.2.2.2.1, ⟨hk.1.1.1.2.2.2.2.1, ⟨hk.1.1.1.2.2.2.2.2.1, hk.1.1.1.2.2.2.2.2.2⟩⟩⟩⟩⟩⟩⟩⟩⟩)), (Kd.S_mono (sp_ HO986.out) (fun _ hk => ⟨hk.1.1.1.1, ⟨hk.1.1.1.2.1, ⟨hk.1.1.2, ⟨hk.1.2, ⟨hk.2, ⟨hk.1.1.1.2.2.1, hk.1.1.1.2.2.2⟩⟩⟩⟩⟩⟩)), (pb_ BK1028.out), (pb_ BK947.out), (pb_ BK948.out), (pb_ BK968.out), (pb_ BK981.out), (pb_ BK988.out), GW1028.out, GE1028.out, NB947_1028.out, NB1028_947.out, NB948_1028.out, NB1028_948.out, NB968_1028.out, NB1028_968.out, NB981_1028.out, NB1028_981.out, NB988_1028.out, NB1028_988.out, (hs_ HB.out)⟩)
        rintro ⟨v1014, gbz1014, v1017, gbz1017, v1025, gbz1025, gb1028⟩ w131 ⟨hS_, h0_, h1_, h2_, h3_, h4_, h5_, h6_, h7_, h8_, h9_, h10_, h11_, h12_, h13_, h14_, h15_, h16_, h17_, h18_, h19_, h20_, h21_, h22_, h23_⟩
        have HO1015 : Aside0 (Kd.S k100 100 w131 w.heap.size (fun k_ => k_ ≠ gb981 ∧ gbz1014 ≤ k_ ∧ k_ < gbz1017 ∧ k_ < gbz1025) v1014 t1013) := ⟨h0_⟩
        have HO1018 : Aside0 (Kd.R k88 88 w131 w.heap.size (fun k_ => gbz1017 ≤ k_ ∧ k_ < gbz1025) v1017 t1016) := ⟨h1_⟩
        have HO1026 : Aside0 (Kd.S k100 100 w131 w.heap.size (fun k_ => k_ ≠ gb981 ∧ gbz1025 ≤ k_) v1025 t1024) := ⟨h2_⟩
        replace HO966 : Aside0 (Kd.S k100 100 w131 w.heap.size (fun k_ => k_ ≠ gb981 ∧ gbz965 ≤ k_ ∧ k_ < gbz1014 ∧ k_ < gbz1017 ∧ k_ < gbz1025 ∧ k_ < gbz972 ∧ k_ < gbz976 ∧ k_ < gbz985 ∧ k_ < gbz993 ∧ k_ < gbz997) (.slice Ao69 t964.length co69) t964) := ⟨h3_⟩
        replace HO986 : Aside0 (Kd.S k100 100 w131 w.heap.size (fun k_ => k_ ≠ gb981 ∧ gbz985 ≤ k_ ∧ k_ < gbz1014 ∧ k_ < gbz1017 ∧ k_ < gbz1025 ∧ k_ < gbz993 ∧ k_ < gbz997) (.slice Ao99 t984.length co99) t1009) := ⟨h4_⟩
        have BK1028 : Aside0 (w131.heap[gb1028]? = some (.cells #[.int .i64 0, .int .i64 0, .slice none 0 0] 57 (0, 0))) := ⟨h5_⟩
        replace BK947 : Aside0 (w131.heap[gb947]? = some (.cells #[.int .i64 a0_0, .int .i64 a0_1, .slice A0_2 l0_2.length c0_2] 52 (0, 0))) := ⟨h6_⟩
        replace BK948 : Aside0 (w131.heap[gb948]? = some (.cells #[.slice A1_0 l1_0.length c1_0, .int .i64 a1_1, .int .i64 a1_2, .string a1_3] 35 (0, 0))) := ⟨h7_⟩
        replace BK968 : Aside0 (w131.heap[gb968]? = some (.cells #[.int .i64 t962, .int .i64 t963, .slice Ao69 t964.length co69] 57 (0, 0))) := ⟨h8_⟩
        replace BK981 : Aside0 (w131.heap[gb981]? = some (.cells #[.slice Ao84 t975.length co84, .int .i64 t978, .int .i64 t979, .string t980] 43 (0, 0))) := ⟨h9_⟩
        replace BK988 : Aside0 (w131.heap[gb988]? = some (.cells #[.int .i64 t982, .int .i64 t983, .slice Ao99 t984.length co99] 57 (0, 0))) := ⟨h10_⟩
        have GW1028 : Aside0 (w.heap.size ≤ gb1028) := ⟨h11_⟩
        have GE1028 := Ge_.mk h12_
        have NB947_1028 := Ne_.mk h13_
        have NB1028_947 := Ne_.mk h14_
        have NB948_1028 := Ne_.mk h15_
        have NB1028_948 := Ne_.mk h16_
        have NB968_1028 := Ne_.mk h17_
        have NB1028_968 := Ne_.mk h18_
        have NB981_1028 := Ne_.mk h19_
        have NB1028_981 := Ne_.mk h20_
        have NB988_1028 := Ne_.mk h21_
        have NB1028_988 := Ne_.mk h22_
        replace HB : Aside0 (Below w.heap.size w w131) := ⟨h23_⟩
        clear h0_ h1_ h2_ h3_ h4_ h5_ h6_ h7_ h8_ h9_ h10_ h11_ h12_ h13_ h14_ h15_ h16_ h17_ h18_ h19_ h20_ h21_ h22_ h23_
        have hHeld : w131.cell? ⟨gb947, 0, none⟩ = some (.int .i64 a0_0) ∧ w131.cell? ⟨gb947, 1, none⟩ = some (.int .i64 a0_1) ∧ w131.cell? ⟨gb947, 2, none⟩ = some (.slice A0_2 l0_2.length c0_2) ∧ w131.cell? ⟨gb948, 0, none⟩ = some (.slice A1_0 l1_0.length c1_0) ∧ w131.cell? ⟨gb948, 1, none⟩ = some (.int .i64 a1_1) ∧ w131.cell? ⟨gb948, 2, none⟩ = some (.int .i64 a1_2) ∧ w131.cell? ⟨gb948, 3, none⟩ = some (.string a1_3) := hS_
        obtain ⟨Ao134, co134, eo134⟩ := Kd.S_slice HO1026.out
        (first | subst eo134 | (obtain ⟨rfl, rfl⟩ := si_ eo134))
        refine norm_ (a' := ?_) ?_ ?_
        rotate_left
        ·
         simp only [putAll, fr_]
         rfl
        refine one_ (i := 9) (N := none) #[t_,t_,t_,t_,t_,t_,t_,t_,t_,t_,f_] rfl rfl (one_of HT_.out (by kernel_rfl)) (by decide) (fun K hK => ?_)
        have hs132 : w131.cell? ⟨gb1028, 0, none⟩ = some (.int .i64 0) := bx_ BK1028.out 0
        have hfs132 := blk_frozen BK1028.out 0
        have hns132_0 := NB947_1028.out
        have hns132_1 := NB948_1028.out
        have hns132_2 := NB968_1028.out
        have hns132_3 := NB981_1028.out
        have hns132_4 := NB988_1028.out
        have hms132_0 := NB1028_947.out
        have hms132_1 := NB1028_948.out
        have hms132_2 := NB1028_968.out
        have hms132_3 := NB1028_981.out
        have hms132_4 := NB1028_988.out
        have hs133 : w131.cell? ⟨gb1028, 1, none⟩ = some (.int .i64 0) := bx_ BK1028.out 1
        have hfs133 := blk_frozen BK1028.out 1
        have hns133_0 := NB947_1028.out
        have hns133_1 := NB948_1028.out
        have hns133_2 := NB968_1028.out
        have hns133_3 := NB981_1028.out
        have hns133_4 := NB988_1028.out
        have hms133_0 := NB1028_947.out
        have hms133_1 := NB1028_948.out
        have hms133_2 := NB1028_968.out
        have hms133_3 := NB1028_981.out
        have hms133_4 := NB1028_988.out
        have hs135 : w131.cell? ⟨gb1028, 2, none⟩ = some (.slice none 0 0) := bx_ BK1028.out 2
        have hfs135 := blk_frozen BK1028.out 2
        have hns135_0 := NB947_1028.out
        have hns135_1 := NB948_1028.out
        have hns135_2 := NB968_1028.out
        have hns135_3 := NB981_1028.out
        have hns135_4 := NB988_1028.out
        have hms135_0 := NB1028_947.out
        have hms135_1 := NB1028_948.out
        have hms135_2 := NB1028_968.out
        have hms135_3 := NB1028_981.out
        have hms135_4 := NB1028_988.out
        refine skip_ (w1 := ?_) (by rfl) rfl ?_ ?_
        rotate_left
        ·
         go_simp
         rfl
        refine hK.out _ _ ⟨(cg_ (hHeld.1)), (cg_ (hHeld.2.1)), (cg_ (hHeld.2.2.1)), (cg_ (hHeld.2.2.2.1)), (cg_ (hHeld.2.2.2.2.1)), (cg_ (hHeld.2.2.2.2.2.1)), (cg_ (hHeld.2.2.2.2.2.2))⟩ (fun hHeld => ?_)
        clear hK K
        refine pw_ 10 16 (b_ 11 0) rfl rfl HT_.out ?_
        refine done_ (done_of HT_.out (by kernel_rfl)) ?_
        have hnb136 := NB1028_947.out
        have hnc136 := NB947_1028.out
        have hnb137 := NB1028_948.out
        have hnc137 := NB948_1028.out
        have hnb138 := NB1028_968.out
        have hnc138 := NB968_1028.out
        have hnb139 := NB1028_981.out
        have hnc139 := NB981_1028.out
        have hnb140 := NB1028_988.out
        have hnc140 := NB988_1028.out
        obtain ⟨hcz141_0, hcz141_1, hcz141_2, hfz141_0, hfz141_1, hfz141_2⟩ := bc3_ BK1028.out
        obtain ⟨hcz142_0, hcz142_1, hcz142_2, hfz142_0, hfz142_1, hfz142_2⟩ := bc3_ BK968.out
        try go_wp2_with (first | ((with_reducible refine gate_callee (f := 29) rfl ?_); refine gl_ (some 104) Try.func29 #[.agg #[.int .i64 t1022, .int .i64 t1023, .slice Ao134 t1024.length co134], .agg #[.int .i64 t962, .int .i64 t963, .slice Ao69 t964.length co69]] ?_; (with_reducible refine (laws_eqPart.calls k t1022 t1023 _ _ t1024 t962 t963 _ _ t964 true _ ?side1 ?side2 ?side3 ?side4 A46.out).mono ?_); (case side1 => refine (Kd.S_reads' (e := 100) (base := w.heap.size) (ok := fun k_ => (k_ ≠ gb981 ∧ gbz1025 ≤ k_)) (n := t1024.length) (c := co134) ?_).2.2; exact (by (with_reducible repeat (first | apply Kd.S_alloc | apply Kd.S_drewN | apply Kd.S_drew)); exact (Kd.S_mono (sf_ gb1028 (Kd.S_types HO1026.out BK1028.out (by decide)) (fun _ hk => hk.2)) (fun _ h_ => h_.1)))); (case side2 => exact (Kd.S_reads' HO1026.out).2.1); (case side3 => refine (Kd.S_reads' (e := 100) (base := w.heap.size) (ok := fun k_ => (k_ ≠ gb981 ∧ (gbz965 ≤ k_ ∧ (k_ < gbz1014 ∧ (k_ < gbz1017 ∧ (k_ < gbz1025 ∧ (k_ < gbz972 ∧ (k_ < gbz976 ∧ (k_ < gbz985 ∧ (k_ < gbz993 ∧ k_ < gbz997)))))))))) (n := t964.length) (c := co69) ?_).2.2; exact (by (with_reducible repeat (first | apply Kd.S_alloc | apply Kd.S_drewN | apply Kd.S_drew)); exact (Kd.S_mono (sf_ gb1028 (Kd.S_types HO966.out BK1028.out (by decide)) (fun _ hk => hk.2)) (fun _ h_ => h_.1)))); (case side4 => exact (Kd.S_reads' HO966.out).2.1); rintro e w143 ⟨rfl, hb⟩; refine ⟨_, rfl, ?_⟩; replace HO966 := Aside0.mk (Kd.S_below (by (with_reducible repeat (first | apply Kd.S_alloc | apply Kd.S_drewN | apply Kd.S_drew)); exact (Kd.S_mono (sf_ gb1028 (Kd.S_types HO966.out BK1028.out (by decide)) (fun _ hk => hk.2)) (fun _ h_ => h_.1))) hb); replace HO986 := Aside0.mk (Kd.S_below (by (with_reducible repeat (first | apply Kd.S_alloc | apply Kd.S_drewN | apply Kd.S_drew)); exact (Kd.S_mono (sf_ gb1028 (Kd.S_types HO986.out BK1028.out (by decide)) (fun _ hk => hk.2)) (fun _ h_ => h_.1))) hb); replace HO1015 := Aside0.mk (Kd.S_below (by (with_reducible repeat (first | apply Kd.S_alloc | apply Kd.S_drewN | apply Kd.S_drew)); exact (Kd.S_mono (sf_ gb1028 (Kd.S_types HO1015.out BK1028.out (by decide)) (fun _ hk => hk.2)) (fun _ h_ => h_.1))) hb); replace HO1018 := Aside0.mk (Kd.R_below (by (with_reducible repeat (first | apply Kd.R_alloc | apply Kd.R_drewN | apply Kd.R_drew)); exact (Kd.R_mono (rf_ gb1028 (Kd.R_types HO1018.out BK1028.out (by decide)) (fun _ hk => hk.2)) (fun _ h_ => h_.1))) hb); replace HO1026 := Aside0.mk (Kd.S_below (by (with_reducible repeat (first | apply Kd.S_alloc | apply Kd.S_drewN | apply Kd.S_drew)); exact (Kd.S_mono (sf_ gb1028 (Kd.S_types HO1026.out BK1028.out (by decide)) (fun _ hk => hk.2)) (fun _ h_ => h_.1))) hb); replace BK947 := bk2_ BK947 hb; replace BK948 := bk2_ BK948 hb; replace BK968 := bk2_ BK968 hb; replace BK981 := bk2_ BK981 hb; replace BK988 := bk2_ BK988 hb; replace BK1028 := Aside0.mk (blk_below (g := gb1028) (o := .cells #[.int .i64 t1022, .int .i64 t1023, .slice Ao134 t1024.length co134] 57 (0, 0)) (bp_ BK1028.out) hb); replace HB := st_ HB hb; (try clear hb); (try clear hb2); (try clear hk); (try clear hi); obtain ⟨hcz144_0, hcz144_1, hcz144_2, hfz144_0, hfz144_1, hfz144_2⟩ := bc3_ BK988.out) | ((with_reducible refine gate_callee (f := 46) rfl ?_); refine goesL_ (some 113) rfl rfl Try.func46 (by kernel_rfl) rfl #[.agg #[.int .i64 t982, .int .i64 t983, .slice Ao99 t1009.length co99], .int .i64 1] rfl (by (try simp only [mp_]); first | done | (rw [show t1009.length = t984.length from (Kd.S_reads' HO986.out).1.symm] <;> rfl) | rfl | (simp only [List.length_drop, List.length_take]; rfl)) ?_; (with_reducible refine (laws_heldPart.calls k t982 t983 _ _ t1009 1 t1030 _ ?side1 ?side2 A49.out).mono ?_); (case side1 => exact cp_ ((Kd.S_reads' HO986.out).2.2)); (case side2 => rw [show t1009.length = t984.length from (Kd.S_reads' HO986.out).1.symm]; exact (Kd.S_reads' HO986.out).2.1); rintro e w145 ⟨rfl, hb⟩; refine ⟨_, rfl, ?_⟩; replace HO986 := Aside0.mk (Kd.S_below (sp_ HO986.out) hb); replace BK981 := bk2_ BK981 hb; replace HB := st_ HB hb; (try clear hb); (try clear hb2); (try clear hk); (try clear hi)))
        go_ret
        exact ⟨by first | rfl | (simp [errW_none, errW_some] <;> rfl) | (simp [*, errW_none, errW_some] <;> rfl), by exact hs_ HB.out⟩
       rw [if_neg c51] at H
       exact absurd H (by simp)
      replace c47 := Bool.eq_false_iff.mpr c47
      subst c47
      rw [if_neg (show ¬ (false = true) by decide)] at H
      exact absurd H (by simp)
     rw [if_neg c42] at H
     exact absurd H (by simp)
    replace c38 := Bool.eq_false_iff.mpr c38
    subst c38
    rw [if_neg (show ¬ (false = true) by decide)] at H
    exact absurd H (by simp)
   replace c33 := Bool.eq_false_iff.mpr c33
   subst c33
   rw [if_neg (show ¬ (false = true) by decide)] at H
   exact absurd H (by simp)
  replace c30 := Bool.eq_false_iff.mpr c30
  subst c30
  rw [if_neg (show ¬ (false = true) by decide)] at H
  exact absurd H (by simp)
 replace c26 := Bool.eq_false_iff.mpr c26
 subst c26
 rw [if_neg (show ¬ (false = true) by decide)] at H
 exact absurd H (by simp)
end Go.Proofs.Yticgekgojgkbgaa.Print
end
section
namespace Go.Proofs.Yticgekgojgkbgaa.Print
open Go.RowKit Go.Proofs.YticgekgojgkbgaaV.PrintWords Go.Proofs.YticgekgojgkbgaaV.PrintLast Go.Proofs.YticgekgojgkbgaaV.PrintMore
set_option linter.unusedVariables false
/-- The pure statement of laws_FnExactPutIn. -/
def laws_FnExactPutIn.Pure : Prop := ∀ (a0_0 : Int) (a0_1 : Int) (l0_2 : List (S119)) (l1_0 : List (S85)) (a1_1 : Int) (a1_2 : Int) (a1_3 : ByteArray), (Lit.int .i64 a0_0).wf = true → (Lit.int .i64 a0_1).wf = true → (l0_2.length ≤ maxLen ∧ ∀ y ∈ l0_2, B119 y) → (l1_0.length ≤ maxLen ∧ ∀ y ∈ l1_0, B85 y) → (Lit.int .i64 a1_1).wf = true → (Lit.int .i64 a1_2).wf = true → a1_3.size ≤ maxLen → ∃ k, laws_FnExactPutIn.f k a0_0 a0_1 l0_2 l1_0 a1_1 a1_2 a1_3 = some true
end Go.Proofs.Yticgekgojgkbgaa.Print
end
section
namespace Go.Proofs.Yticgekgojgkbgaa.Print
open Go.RowKit Go.Proofs.YticgekgojgkbgaaV.PrintWords Go.Proofs.YticgekgojgkbgaaV.PrintLast Go.Proofs.YticgekgojgkbgaaV.PrintMore
set_option linter.unusedVariables false
set_option linter.unusedSimpArgs false
theorem wrap_id {x : Int} (h1 : -9223372036854775808 ≤ x) (h2 : x ≤ 9223372036854775807) : wrap64 x = x := by unfold wrap64; omega
theorem wrap_up (n : Nat) (h : n < 9223372036854775807) : wrap64 ((n : Int) + 1) = ((n + 1 : Nat) : Int) := by unfold wrap64; omega
theorem set_mid {α : Type} (pre suf : List α) (y v : α) : (pre ++ y :: suf).set pre.length v = pre ++ v :: suf := by simp
theorem lt_mid {α : Type} (pre suf : List α) (y : α) : (pre.length : Int) < ((pre ++ y :: suf).length : Int) := by simp only [List.length_append, List.length_cons]; omega
theorem not_lt_end {α : Type} (pre : List α) : ¬ ((pre.length : Int) < ((pre ++ []).length : Int)) := by simp
theorem nn (n : Nat) : (0 : Int) ≤ (n : Int) := by omega
theorem mid_assoc {α : Type} (pre suf : List α) (y : α) : pre ++ y :: suf = (pre ++ [y]) ++ suf := by simp
def cvLabel (x : S85) : S88 := ⟨x.f0, x.f1⟩
def WLabel (x : S85) : Prop := x.f0.size ≤ 1048576 ∧ x.f1.size ≤ 1048576
def WiLabel (x : S88) : Prop := x.f0.size ≤ 4000000 ∧ x.f1.size ≤ 4000000
theorem Wi_cvLabel {x : S85} (h : WLabel x) : WiLabel (cvLabel x) := ⟨Nat.le_trans h.1 (by decide), Nat.le_trans h.2 (by decide)⟩
theorem szLabel_ev (x : S85) (hB : B85 x) (n : Int) (h0 : 0 ≤ n) (h1 : n ≤ 1048576) : ∃ r, Ev (fun k => laws_szLabel.f x.f0 x.f1 n) r ∧ r ≤ n ∧ (0 ≤ r → WLabel x) := by
  have q1 : x.f0.size ≤ 9223372036854775807 := hB.1
  have e1 : wrap64 (n - (x.f0.size : Int)) = n - (x.f0.size : Int) := wrap_id (by omega) (by omega)
  by_cases c1 : n - (x.f0.size : Int) < 0
  · exact ⟨-1, ⟨0, fun k hk => by simp [laws_szLabel.f, e1, c1]⟩, by omega, by omega⟩
  have q2 : x.f1.size ≤ 9223372036854775807 := hB.2
  have e2 : wrap64 ((n - (x.f0.size : Int)) - (x.f1.size : Int)) = (n - (x.f0.size : Int)) - (x.f1.size : Int) := wrap_id (by omega) (by omega)
  by_cases c2 : (n - (x.f0.size : Int)) - (x.f1.size : Int) < 0
  · exact ⟨-1, ⟨0, fun k hk => by simp [laws_szLabel.f, e1, c1, e2, c2]⟩, by omega, by omega⟩
  exact ⟨((n - (x.f0.size : Int)) - (x.f1.size : Int)), ⟨0, fun k hk => by simp [laws_szLabel.f, e1, c1, e2, c2]⟩, by omega, fun _ => ⟨(by omega), (by omega)⟩⟩
theorem toLabel_ev (x : S85) (h : WLabel x) : Ev (fun k => laws_toLabel.f x.f0 x.f1) ((cvLabel x).f0, (cvLabel x).f1) := by
  exact ⟨0, fun k hk => by simp [laws_toLabel.f, cvLabel]⟩
theorem eqLabel_ev (x : S88) (h : WiLabel x) : Ev (fun k => laws_eqLabel.f x.f0 x.f1 x.f0 x.f1) true := by
  exact ⟨0, fun k hk => by simp [laws_eqLabel.f]⟩
theorem rdmidLabell (pre suf : List S85) (y : S85) : rd_T85 (pre ++ y :: suf) (pre.length : Int) = y := by unfold rd_T85; simp
theorem rdmidLabeli (pre suf : List S88) (y : S88) : rd_T88 (pre ++ y :: suf) (pre.length : Int) = y := by unfold rd_T88; simp
theorem szLabelS_l0 : ∀ (suf pre : List S85) (n : Int), 0 ≤ n → n ≤ 1048576 → (∀ y ∈ suf, B85 y) → (pre ++ suf).length < 4611686018427387904 → ∃ r, Ev (fun k => laws_szLabelS.l0 k (pre ++ suf) n (pre.length : Int)) r ∧ r ≤ n ∧ (0 ≤ r → ∀ y ∈ suf, WLabel y)
  | [], pre, n, h0, h1, hB, h => by
    refine ⟨n, Ev.step (f := fun _ => some n) (fun k => ?_) (Ev.now _), Int.le_refl _, fun _ y hy => by cases hy⟩
    simp only [laws_szLabelS.l0]
    rw [if_neg (not_lt_end pre)]
  | y :: suf, pre, n, h0, h1, hB, h => by
    have hp : pre.length < 4611686018427387904 := by simp at h; omega
    have hy := hB y List.mem_cons_self
    obtain ⟨r1, g1, l1, w1⟩ := szLabel_ev y hy n h0 h1
    by_cases c : r1 < 0
    · refine ⟨-1, Ev.step (f := fun k => (laws_szLabel.f y.f0 y.f1 n).bind fun t => if t < 0 then some (-1) else laws_szLabelS.l0 k (pre ++ y :: suf) t (wrap64 ((pre.length : Int) + 1))) (fun k => ?_) (Ev.bind g1 ?_), by omega, by omega⟩
      · simp only [laws_szLabelS.l0]
        rw [if_pos (lt_mid pre suf y), if_pos (nn _), rdmidLabell]
      · simp only [if_pos c]
        exact Ev.now _
    · obtain ⟨r, g, hl, hw⟩ := szLabelS_l0 suf (pre ++ [y]) r1 (by omega) (by omega) (fun z hz => hB z (List.mem_cons_of_mem _ hz)) (by simpa using h)
      refine ⟨r, Ev.step (f := fun k => (laws_szLabel.f y.f0 y.f1 n).bind fun t => if t < 0 then some (-1) else laws_szLabelS.l0 k ((pre ++ [y]) ++ suf) t ((pre ++ [y]).length : Int)) (fun k => ?_) (Ev.bind g1 ?_), by omega, fun hr z hz => ?_⟩
      · simp only [laws_szLabelS.l0]
        rw [if_pos (lt_mid pre suf y), if_pos (nn _), rdmidLabell, wrap_up _ (by omega)]
        simp
      · simp only [if_neg c]
        exact g
      · rcases List.mem_cons.1 hz with rfl | hz
        · exact w1 (by omega)
        · exact hw hr z hz
theorem szLabelS_ev (l : List S85) (hB : l.length ≤ maxLen ∧ ∀ y ∈ l, B85 y) (n : Int) (h0 : 0 ≤ n) (h1 : n ≤ 1048576) : ∃ r, Ev (fun k => laws_szLabelS.f k l n) r ∧ r ≤ n ∧ (0 ≤ r → l.length ≤ 1048576 ∧ ∀ y ∈ l, WLabel y) := by
  have q : l.length ≤ 9223372036854775807 := hB.1
  have e : wrap64 (n - (l.length : Int)) = n - (l.length : Int) := wrap_id (by omega) (by omega)
  by_cases c : n - (l.length : Int) < 0
  · exact ⟨-1, ⟨0, fun k _ => by simp [laws_szLabelS.f, e, c]⟩, by omega, by omega⟩
  · obtain ⟨r, g, hl, hw⟩ := szLabelS_l0 l [] (n - (l.length : Int)) (by omega) (by omega) hB.2 (by simp; omega)
    refine ⟨r, Ev.congr (fun k => ?_) g, by omega, fun hr => ⟨by omega, hw hr⟩⟩
    unfold laws_szLabelS.f
    rw [e, if_neg c]
    rfl
theorem toLabelS_l0 : ∀ (suf pre : List S85), (pre ++ suf).length < 4611686018427387904 → (∀ y ∈ suf, WLabel y) → Ev (fun k => laws_toLabelS.l0 k (pre ++ suf) ((pre.map cvLabel) ++ List.replicate suf.length z88) (pre.length : Int)) ((pre ++ suf).map cvLabel)
  | [], pre, h, hW => by
    refine Ev.step (f := fun _ => some ((pre ++ []).map cvLabel)) (fun k => ?_) (Ev.now _)
    simp only [laws_toLabelS.l0]
    rw [if_neg (not_lt_end pre)]
    simp
  | y :: suf, pre, h, hW => by
    have hp : pre.length < 4611686018427387904 := by simp at h; omega
    have ih := toLabelS_l0 suf (pre ++ [y]) (by simpa using h) (fun z hz => hW z (List.mem_cons_of_mem _ hz))
    have g := toLabel_ev y (hW y List.mem_cons_self)
    refine Ev.step (f := fun k => (laws_toLabel.f y.f0 y.f1).bind fun t => laws_toLabelS.l0 k ((pre ++ [y]) ++ suf) ((pre.map cvLabel) ++ (⟨t.1, t.2⟩ : S88) :: List.replicate suf.length z88) ((pre ++ [y]).length : Int)) (fun k => ?_) (Ev.bind g ?_)
    · simp only [laws_toLabelS.l0]
      rw [if_pos (lt_mid pre suf y), if_pos (nn _), rdmidLabell, wrap_up _ (by omega)]
      congr 1
      funext t
      rw [if_pos (by simp; omega)]
      congr 1
      · simp
      · simp [List.replicate_succ]
      · simp
    · rw [mid_assoc pre suf y]
      have e : (pre.map cvLabel) ++ (cvLabel y) :: List.replicate suf.length z88 = ((pre ++ [y]).map cvLabel) ++ List.replicate suf.length z88 := by simp
      rw [← e] at ih
      exact ih
theorem toLabelS_ev (l : List S85) (h : l.length ≤ 1048576 ∧ ∀ y ∈ l, WLabel y) : Ev (fun k => laws_toLabelS.f k l) (l.map cvLabel) := by
  have h1 := h.1
  refine Ev.congr (fun k => ?_) (toLabelS_l0 l [] (by simp; omega) h.2)
  unfold laws_toLabelS.f
  rw [if_pos (nn l.length), Int.toNat_natCast, if_pos (by omega)]
  rfl
theorem eqLabelS_l0 : ∀ (suf pre : List S88), (pre ++ suf).length < 4611686018427387904 → (∀ y ∈ suf, WiLabel y) → Ev (fun k => laws_eqLabelS.l0 k (pre ++ suf) (pre ++ suf) (pre.length : Int)) true
  | [], pre, h, hW => by
    refine Ev.step (f := fun _ => some true) (fun k => ?_) (Ev.now _)
    simp only [laws_eqLabelS.l0]
    rw [if_neg (not_lt_end pre)]
  | y :: suf, pre, h, hW => by
    have hp : pre.length < 4611686018427387904 := by simp at h; omega
    have ih := eqLabelS_l0 suf (pre ++ [y]) (by simpa using h) (fun z hz => hW z (List.mem_cons_of_mem _ hz))
    have g := eqLabel_ev y (hW y List.mem_cons_self)
    refine Ev.step (f := fun k => (laws_eqLabel.f y.f0 y.f1 y.f0 y.f1).bind fun t => if t = true then laws_eqLabelS.l0 k ((pre ++ [y]) ++ suf) ((pre ++ [y]) ++ suf) ((pre ++ [y]).length : Int) else none) (fun k => ?_) (Ev.bind g ?_)
    · simp only [laws_eqLabelS.l0]
      rw [if_pos (lt_mid pre suf y), if_pos (nn _), if_pos (lt_mid pre suf y), rdmidLabeli, wrap_up _ (by omega)]
      simp
    · simp only [if_true]
      exact ih
theorem eqLabelS_ev (l : List S88) (h : l.length ≤ 4000000 ∧ ∀ y ∈ l, WiLabel y) : Ev (fun k => laws_eqLabelS.f k l l) true := by
  have h1 := h.1
  refine Ev.congr (fun k => ?_) (eqLabelS_l0 l [] (by simp; omega) h.2)
  unfold laws_eqLabelS.f
  rw [if_pos rfl]
  rfl
def cvAlarm (x : S35) : S43 := ⟨(x.f0.map cvLabel), x.f1, x.f2, x.f3⟩
def WAlarm (x : S35) : Prop := (x.f0.length ≤ 1048576 ∧ ∀ y ∈ x.f0, WLabel y) ∧ True ∧ True ∧ x.f3.size ≤ 1048576
def WiAlarm (x : S43) : Prop := (x.f0.length ≤ 4000000 ∧ ∀ y ∈ x.f0, WiLabel y) ∧ True ∧ True ∧ x.f3.size ≤ 4000000
theorem Wi_cvAlarm {x : S35} (h : WAlarm x) : WiAlarm (cvAlarm x) := ⟨⟨by show (List.map cvLabel x.f0).length ≤ 4000000; rw [List.length_map]; exact Nat.le_trans h.1.1 (by decide), fun y hy => by obtain ⟨z, hz, rfl⟩ := List.mem_map.1 hy; exact Wi_cvLabel (h.1.2 z hz)⟩, trivial, trivial, Nat.le_trans h.2.2.2 (by decide)⟩
theorem szAlarm_ev (x : S35) (hB : B35 x) (n : Int) (h0 : 0 ≤ n) (h1 : n ≤ 1048576) : ∃ r, Ev (fun k => laws_szAlarm.f k x.f0 x.f1 x.f2 x.f3 n) r ∧ r ≤ n ∧ (0 ≤ r → WAlarm x) := by
  obtain ⟨r1, ⟨K1, g1⟩, l1, w1⟩ := szLabelS_ev x.f0 hB.1 n (by omega) (by omega)
  by_cases c1 : r1 < 0
  · exact ⟨-1, ⟨K1, fun k hk => by simp [laws_szAlarm.f, g1 k (by omega), c1]⟩, by omega, by omega⟩
  have q2 : x.f3.size ≤ 9223372036854775807 := hB.2.2.2
  have e2 : wrap64 (r1 - (x.f3.size : Int)) = r1 - (x.f3.size : Int) := wrap_id (by omega) (by omega)
  by_cases c2 : r1 - (x.f3.size : Int) < 0
  · exact ⟨-1, ⟨K1, fun k hk => by simp [laws_szAlarm.f, g1 k (by omega), c1, e2, c2]⟩, by omega, by omega⟩
  exact ⟨(r1 - (x.f3.size : Int)), ⟨K1, fun k hk => by simp [laws_szAlarm.f, g1 k (by omega), c1, e2, c2]⟩, by omega, fun _ => ⟨(w1 (by omega)), trivial, trivial, (by omega)⟩⟩
theorem toAlarm_ev (x : S35) (h : WAlarm x) : Ev (fun k => laws_toAlarm.f k x.f0 x.f1 x.f2 x.f3) ((cvAlarm x).f0, (cvAlarm x).f1, (cvAlarm x).f2, (cvAlarm x).f3) := by
  obtain ⟨K0, g0⟩ := toLabelS_ev x.f0 h.1
  exact ⟨K0, fun k hk => by simp [laws_toAlarm.f, cvAlarm, g0 k (by omega)]⟩
theorem eqAlarm_ev (x : S43) (h : WiAlarm x) : Ev (fun k => laws_eqAlarm.f k x.f0 x.f1 x.f2 x.f3 x.f0 x.f1 x.f2 x.f3) true := by
  obtain ⟨K0, g0⟩ := eqLabelS_ev x.f0 h.1
  exact ⟨K0, fun k hk => by simp [laws_eqAlarm.f, g0 k (by omega)]⟩
theorem markText_l0 : ∀ (n : Nat) (x : Int) (acc : ByteArray), 0 ≤ x → x.toNat = n → acc.size + n < 4611686018427387904 → ∃ s, Ev (fun k => laws_markText.l0 k x acc) s := by
  intro n
  induction n using Nat.strongRecOn with
  | _ n ih =>
    intro x acc h0 hx hs
    by_cases c : x > 0
    · have e : wrap64 (Int.tdiv x 10) = x / 10 := by rw [Int.tdiv_eq_ediv_of_nonneg h0]; exact wrap_id (by omega) (by omega)
      have hz : (strOfNums [(wrap64 (48 + (Int.tmod x 10))) % 256]).size = 1 := by rw [strOfNums_size]; rfl
      have hsz : ((strOfNums [(wrap64 (48 + (Int.tmod x 10))) % 256]) ++ acc).size = 1 + acc.size := by rw [ByteArray.size_append, hz]
      obtain ⟨s, g⟩ := ih (x / 10).toNat (by omega) (x / 10) ((strOfNums [(wrap64 (48 + (Int.tmod x 10))) % 256]) ++ acc) (by omega) rfl (by rw [hsz]; omega)
      refine ⟨s, Ev.step (fun k => ?_) g⟩
      simp only [laws_markText.l0]
      rw [if_pos c, Option.bind_some, if_pos (by rw [hz]; omega), e]
    · refine ⟨(⟨#[109]⟩ : ByteArray) ++ acc, Ev.step (f := fun _ => some ((⟨#[109]⟩ : ByteArray) ++ acc)) (fun k => ?_) (Ev.now _)⟩
      simp only [laws_markText.l0]
      rw [if_neg c, if_pos (by omega)]
theorem markText_some (x : Int) (h0 : 0 ≤ x) (h1 : x < 4611686018427387904) : ∃ s, Ev (fun k => laws_markText.f k x) s := by
  by_cases c : x ≤ 0
  · exact ⟨⟨#[109, 48]⟩, 0, fun k _ => by show laws_markText.f k x = _; unfold laws_markText.f; exact if_pos c⟩
  · obtain ⟨s, g⟩ := markText_l0 x.toNat x ⟨#[]⟩ h0 rfl (by have : (⟨#[]⟩ : ByteArray).size = 0 := rfl; omega)
    exact ⟨s, Ev.congr (fun k => by show laws_markText.f k x = laws_markText.l0 k x ⟨#[]⟩; unfold laws_markText.f; exact if_neg c) g⟩
open Classical in
noncomputable def mkText (x : Int) : ByteArray := if h : ∃ s, Ev (fun k => laws_markText.f k x) s then h.choose else ⟨#[]⟩
theorem markText_ev (x : Int) (h0 : 0 ≤ x) (h1 : x < 4611686018427387904) : Ev (fun k => laws_markText.f k x) (mkText x) := by
  have h := markText_some x h0 h1
  unfold mkText
  rw [dif_pos h]
  exact h.choose_spec
def cnLabels : List S88 → Nat
  | [] => 0
  | _ :: ys => 2 + cnLabels ys
noncomputable def mkLabels : Int → List S88 → List S88
  | _, [] => []
  | k0, _ :: ys => ⟨mkText k0, mkText (k0 + 1)⟩ :: mkLabels (k0 + 2) ys
theorem cnLabels_le : ∀ (l : List S88), l.length ≤ cnLabels l
  | [] => Nat.le_refl _
  | y :: ys => by have := cnLabels_le ys; simp only [cnLabels, List.length_cons]; omega
theorem rdmmLabel (pre suf : List S88) (y : S88) : rd_T88 (pre ++ y :: suf) (pre.length : Int) = y := by unfold rd_T88; simp
theorem markLabelS_l0 : ∀ (suf pre : List S88) (k0 : Int), 0 ≤ k0 → k0 + (cnLabels suf : Int) < 4611686018427387904 → (pre ++ suf).length < 4611686018427387904 → Ev (fun k => laws_markLabelS.l0 k (pre ++ suf) k0 (pre.length : Int)) (k0 + (cnLabels suf : Int), pre ++ mkLabels k0 suf)
  | [], pre, k0, h0, h1, h => by
    refine Ev.step (f := fun _ => some (k0, pre ++ [])) (fun k => ?_) (by rw [show (k0 + (cnLabels [] : Int), pre ++ mkLabels k0 []) = (k0, pre ++ []) from by simp [cnLabels, mkLabels]]; exact Ev.now _)
    simp only [laws_markLabelS.l0]
    rw [if_neg (not_lt_end pre)]
  | y :: suf, pre, k0, h0, h1, h => by
    have hp : pre.length < 4611686018427387904 := by simp at h; omega
    have hc : cnLabels (y :: suf) = 2 + cnLabels suf := rfl
    rw [hc] at h1 ⊢
    obtain ⟨K, g⟩ := markLabelS_l0 suf (pre ++ [(⟨mkText k0, mkText (k0 + 1)⟩ : S88)]) (k0 + 2) (by omega) (by omega) (by simpa using h)
    obtain ⟨K0, g0⟩ := markText_ev k0 (by omega) (by omega)
    obtain ⟨K1, g1⟩ := markText_ev (k0 + 1) (by omega) (by omega)
    refine ⟨K + K0 + K1 + 1, fun k hk => ?_⟩
    obtain ⟨k, rfl⟩ : ∃ m, k = m + 1 := ⟨k - 1, by omega⟩
    have G := g k (by omega)
    have G0 := g0 k (by omega)
    have G1 := g1 k (by omega)
    dsimp only at G G0 G1
    have w0 : wrap64 (k0 + 1) = (k0 + 1) := (wrap_id (by omega) (by omega)).trans (by omega)
    have w1 : wrap64 ((k0 + 1) + 1) = (k0 + 2) := (wrap_id (by omega) (by omega)).trans (by omega)
    simp only [laws_markLabelS.l0]
    rw [if_pos (lt_mid pre suf y)]
    simp only [nn, if_true, rdmmLabel, Option.bind_some, Int.toNat_natCast, set_mid, wrap_up pre.length (by omega), G0, G1, w0, w1]
    have eL : pre ++ (⟨mkText k0, mkText (k0 + 1)⟩ : S88) :: suf = (pre ++ [(⟨mkText k0, mkText (k0 + 1)⟩ : S88)]) ++ suf := by simp
    have eN : ((pre.length + 1 : Nat) : Int) = ((pre ++ [(⟨mkText k0, mkText (k0 + 1)⟩ : S88)]).length : Int) := by simp
    rw [eL, eN, G]
    refine congrArg some (Prod.ext ?_ ?_)
    · simp only []; push_cast; omega
    · simp [mkLabels]
theorem markLabelS_ev (l : List S88) (k0 : Int) (h0 : 0 ≤ k0) (h1 : k0 + (cnLabels l : Int) < 4611686018427387904) : Ev (fun k => laws_markLabelS.f k l k0) (k0 + (cnLabels l : Int), mkLabels k0 l) := by
  have := cnLabels_le l
  exact Ev.congr (fun k => by unfold laws_markLabelS.f; rfl) (markLabelS_l0 l [] k0 h0 h1 (by simp; omega))
theorem heldLabelS_l0 : ∀ (suf pre : List S88) (k0 : Int), 0 ≤ k0 → k0 + (cnLabels suf : Int) < 4611686018427387904 → (pre ++ suf).length < 4611686018427387904 → Ev (fun k => laws_heldLabelS.l0 k (pre ++ mkLabels k0 suf) k0 (pre.length : Int)) (k0 + (cnLabels suf : Int))
  | [], pre, k0, h0, h1, h => by
    refine Ev.step (f := fun _ => some k0) (fun k => ?_) (by simpa [cnLabels] using Ev.now k0)
    rw [show mkLabels k0 [] = [] from rfl]
    simp only [laws_heldLabelS.l0]
    rw [if_neg (not_lt_end pre)]
  | y :: suf, pre, k0, h0, h1, h => by
    have hp : pre.length < 4611686018427387904 := by simp at h; omega
    have hc : cnLabels (y :: suf) = 2 + cnLabels suf := rfl
    rw [hc] at h1 ⊢
    obtain ⟨K, g⟩ := heldLabelS_l0 suf (pre ++ [(⟨mkText k0, mkText (k0 + 1)⟩ : S88)]) (k0 + 2) (by omega) (by omega) (by simpa using h)
    obtain ⟨K0, g0⟩ := markText_ev k0 (by omega) (by omega)
    obtain ⟨K1, g1⟩ := markText_ev (k0 + 1) (by omega) (by omega)
    refine ⟨K + K0 + K1 + 1, fun k hk => ?_⟩
    obtain ⟨k, rfl⟩ : ∃ m, k = m + 1 := ⟨k - 1, by omega⟩
    have G := g k (by omega)
    have G0 := g0 k (by omega)
    have G1 := g1 k (by omega)
    dsimp only at G G0 G1
    have w0 : wrap64 (k0 + 1) = (k0 + 1) := (wrap_id (by omega) (by omega)).trans (by omega)
    have w1 : wrap64 ((k0 + 1) + 1) = (k0 + 2) := (wrap_id (by omega) (by omega)).trans (by omega)
    rw [show mkLabels k0 (y :: suf) = ⟨mkText k0, mkText (k0 + 1)⟩ :: mkLabels (k0 + 2) suf from rfl]
    simp only [laws_heldLabelS.l0]
    rw [if_pos (lt_mid pre _ _)]
    simp only [nn, if_true, if_false, rdmmLabel, Option.bind_some, wrap_up pre.length (by omega), G0, G1, w0, w1, bne_self_eq_false, Bool.false_eq_true]
    have eL : pre ++ (⟨mkText k0, mkText (k0 + 1)⟩ : S88) :: mkLabels (k0 + 2) suf = (pre ++ [(⟨mkText k0, mkText (k0 + 1)⟩ : S88)]) ++ mkLabels (k0 + 2) suf := by simp
    have eN : ((pre.length + 1 : Nat) : Int) = ((pre ++ [(⟨mkText k0, mkText (k0 + 1)⟩ : S88)]).length : Int) := by simp
    rw [eL, eN, G]
    refine congrArg some ?_
    push_cast; omega
theorem heldLabelS_ev (l : List S88) (k0 : Int) (h0 : 0 ≤ k0) (h1 : k0 + (cnLabels l : Int) < 4611686018427387904) : Ev (fun k => laws_heldLabelS.f k (mkLabels k0 l) k0) (k0 + (cnLabels l : Int)) := by
  have := cnLabels_le l
  exact Ev.congr (fun k => by unfold laws_heldLabelS.f; rfl) (heldLabelS_l0 l [] k0 h0 h1 (by simp; omega))
theorem rdmidAlarml (pre suf : List S35) (y : S35) : rd_T35 (pre ++ y :: suf) (pre.length : Int) = y := by unfold rd_T35; simp
theorem rdmidAlarmi (pre suf : List S43) (y : S43) : rd_T43 (pre ++ y :: suf) (pre.length : Int) = y := by unfold rd_T43; simp
theorem szAlarmS_l0 : ∀ (suf pre : List S35) (n : Int), 0 ≤ n → n ≤ 1048576 → (∀ y ∈ suf, B35 y) → (pre ++ suf).length < 4611686018427387904 → ∃ r, Ev (fun k => laws_szAlarmS.l0 k (pre ++ suf) n (pre.length : Int)) r ∧ r ≤ n ∧ (0 ≤ r → ∀ y ∈ suf, WAlarm y)
  | [], pre, n, h0, h1, hB, h => by
    refine ⟨n, Ev.step (f := fun _ => some n) (fun k => ?_) (Ev.now _), Int.le_refl _, fun _ y hy => by cases hy⟩
    simp only [laws_szAlarmS.l0]
    rw [if_neg (not_lt_end pre)]
  | y :: suf, pre, n, h0, h1, hB, h => by
    have hp : pre.length < 4611686018427387904 := by simp at h; omega
    have hy := hB y List.mem_cons_self
    obtain ⟨r1, g1, l1, w1⟩ := szAlarm_ev y hy n h0 h1
    by_cases c : r1 < 0
    · refine ⟨-1, Ev.step (f := fun k => (laws_szAlarm.f k y.f0 y.f1 y.f2 y.f3 n).bind fun t => if t < 0 then some (-1) else laws_szAlarmS.l0 k (pre ++ y :: suf) t (wrap64 ((pre.length : Int) + 1))) (fun k => ?_) (Ev.bind g1 ?_), by omega, by omega⟩
      · simp only [laws_szAlarmS.l0]
        rw [if_pos (lt_mid pre suf y), if_pos (nn _), rdmidAlarml]
      · simp only [if_pos c]
        exact Ev.now _
    · obtain ⟨r, g, hl, hw⟩ := szAlarmS_l0 suf (pre ++ [y]) r1 (by omega) (by omega) (fun z hz => hB z (List.mem_cons_of_mem _ hz)) (by simpa using h)
      refine ⟨r, Ev.step (f := fun k => (laws_szAlarm.f k y.f0 y.f1 y.f2 y.f3 n).bind fun t => if t < 0 then some (-1) else laws_szAlarmS.l0 k ((pre ++ [y]) ++ suf) t ((pre ++ [y]).length : Int)) (fun k => ?_) (Ev.bind g1 ?_), by omega, fun hr z hz => ?_⟩
      · simp only [laws_szAlarmS.l0]
        rw [if_pos (lt_mid pre suf y), if_pos (nn _), rdmidAlarml, wrap_up _ (by omega)]
        simp
      · simp only [if_neg c]
        exact g
      · rcases List.mem_cons.1 hz with rfl | hz
        · exact w1 (by omega)
        · exact hw hr z hz
theorem szAlarmS_ev (l : List S35) (hB : l.length ≤ maxLen ∧ ∀ y ∈ l, B35 y) (n : Int) (h0 : 0 ≤ n) (h1 : n ≤ 1048576) : ∃ r, Ev (fun k => laws_szAlarmS.f k l n) r ∧ r ≤ n ∧ (0 ≤ r → l.length ≤ 1048576 ∧ ∀ y ∈ l, WAlarm y) := by
  have q : l.length ≤ 9223372036854775807 := hB.1
  have e : wrap64 (n - (l.length : Int)) = n - (l.length : Int) := wrap_id (by omega) (by omega)
  by_cases c : n - (l.length : Int) < 0
  · exact ⟨-1, ⟨0, fun k _ => by simp [laws_szAlarmS.f, e, c]⟩, by omega, by omega⟩
  · obtain ⟨r, g, hl, hw⟩ := szAlarmS_l0 l [] (n - (l.length : Int)) (by omega) (by omega) hB.2 (by simp; omega)
    refine ⟨r, Ev.congr (fun k => ?_) g, by omega, fun hr => ⟨by omega, hw hr⟩⟩
    unfold laws_szAlarmS.f
    rw [e, if_neg c]
    rfl
theorem toAlarmS_l0 : ∀ (suf pre : List S35), (pre ++ suf).length < 4611686018427387904 → (∀ y ∈ suf, WAlarm y) → Ev (fun k => laws_toAlarmS.l0 k (pre ++ suf) ((pre.map cvAlarm) ++ List.replicate suf.length z43) (pre.length : Int)) ((pre ++ suf).map cvAlarm)
  | [], pre, h, hW => by
    refine Ev.step (f := fun _ => some ((pre ++ []).map cvAlarm)) (fun k => ?_) (Ev.now _)
    simp only [laws_toAlarmS.l0]
    rw [if_neg (not_lt_end pre)]
    simp
  | y :: suf, pre, h, hW => by
    have hp : pre.length < 4611686018427387904 := by simp at h; omega
    have ih := toAlarmS_l0 suf (pre ++ [y]) (by simpa using h) (fun z hz => hW z (List.mem_cons_of_mem _ hz))
    have g := toAlarm_ev y (hW y List.mem_cons_self)
    refine Ev.step (f := fun k => (laws_toAlarm.f k y.f0 y.f1 y.f2 y.f3).bind fun t => laws_toAlarmS.l0 k ((pre ++ [y]) ++ suf) ((pre.map cvAlarm) ++ (⟨t.1, t.2.1, t.2.2.1, t.2.2.2⟩ : S43) :: List.replicate suf.length z43) ((pre ++ [y]).length : Int)) (fun k => ?_) (Ev.bind g ?_)
    · simp only [laws_toAlarmS.l0]
      rw [if_pos (lt_mid pre suf y), if_pos (nn _), rdmidAlarml, wrap_up _ (by omega)]
      congr 1
      funext t
      rw [if_pos (by simp; omega)]
      congr 1
      · simp
      · simp [List.replicate_succ]
      · simp
    · rw [mid_assoc pre suf y]
      have e : (pre.map cvAlarm) ++ (cvAlarm y) :: List.replicate suf.length z43 = ((pre ++ [y]).map cvAlarm) ++ List.replicate suf.length z43 := by simp
      rw [← e] at ih
      exact ih
theorem toAlarmS_ev (l : List S35) (h : l.length ≤ 1048576 ∧ ∀ y ∈ l, WAlarm y) : Ev (fun k => laws_toAlarmS.f k l) (l.map cvAlarm) := by
  have h1 := h.1
  refine Ev.congr (fun k => ?_) (toAlarmS_l0 l [] (by simp; omega) h.2)
  unfold laws_toAlarmS.f
  rw [if_pos (nn l.length), Int.toNat_natCast, if_pos (by omega)]
  rfl
theorem eqAlarmS_l0 : ∀ (suf pre : List S43), (pre ++ suf).length < 4611686018427387904 → (∀ y ∈ suf, WiAlarm y) → Ev (fun k => laws_eqAlarmS.l0 k (pre ++ suf) (pre ++ suf) (pre.length : Int)) true
  | [], pre, h, hW => by
    refine Ev.step (f := fun _ => some true) (fun k => ?_) (Ev.now _)
    simp only [laws_eqAlarmS.l0]
    rw [if_neg (not_lt_end pre)]
  | y :: suf, pre, h, hW => by
    have hp : pre.length < 4611686018427387904 := by simp at h; omega
    have ih := eqAlarmS_l0 suf (pre ++ [y]) (by simpa using h) (fun z hz => hW z (List.mem_cons_of_mem _ hz))
    have g := eqAlarm_ev y (hW y List.mem_cons_self)
    refine Ev.step (f := fun k => (laws_eqAlarm.f k y.f0 y.f1 y.f2 y.f3 y.f0 y.f1 y.f2 y.f3).bind fun t => if t = true then laws_eqAlarmS.l0 k ((pre ++ [y]) ++ suf) ((pre ++ [y]) ++ suf) ((pre ++ [y]).length : Int) else none) (fun k => ?_) (Ev.bind g ?_)
    · simp only [laws_eqAlarmS.l0]
      rw [if_pos (lt_mid pre suf y), if_pos (nn _), if_pos (lt_mid pre suf y), rdmidAlarmi, wrap_up _ (by omega)]
      simp
    · simp only [if_true]
      exact ih
theorem eqAlarmS_ev (l : List S43) (h : l.length ≤ 4000000 ∧ ∀ y ∈ l, WiAlarm y) : Ev (fun k => laws_eqAlarmS.f k l l) true := by
  have h1 := h.1
  refine Ev.congr (fun k => ?_) (eqAlarmS_l0 l [] (by simp; omega) h.2)
  unfold laws_eqAlarmS.f
  rw [if_pos rfl]
  rfl
def cvChain (x : S119) : S100 := ⟨x.f0, (x.f1.map cvAlarm)⟩
def WChain (x : S119) : Prop := True ∧ (x.f1.length ≤ 1048576 ∧ ∀ y ∈ x.f1, WAlarm y)
def WiChain (x : S100) : Prop := True ∧ (x.f1.length ≤ 4000000 ∧ ∀ y ∈ x.f1, WiAlarm y)
theorem Wi_cvChain {x : S119} (h : WChain x) : WiChain (cvChain x) := ⟨trivial, ⟨by show (List.map cvAlarm x.f1).length ≤ 4000000; rw [List.length_map]; exact Nat.le_trans h.2.1 (by decide), fun y hy => by obtain ⟨z, hz, rfl⟩ := List.mem_map.1 hy; exact Wi_cvAlarm (h.2.2 z hz)⟩⟩
theorem szChain_ev (x : S119) (hB : B119 x) (n : Int) (h0 : 0 ≤ n) (h1 : n ≤ 1048576) : ∃ r, Ev (fun k => laws_szChain.f k x.f0 x.f1 n) r ∧ r ≤ n ∧ (0 ≤ r → WChain x) := by
  obtain ⟨r1, ⟨K1, g1⟩, l1, w1⟩ := szAlarmS_ev x.f1 hB.2 n (by omega) (by omega)
  by_cases c1 : r1 < 0
  · exact ⟨-1, ⟨K1, fun k hk => by simp [laws_szChain.f, g1 k (by omega), c1]⟩, by omega, by omega⟩
  exact ⟨r1, ⟨K1, fun k hk => by simp [laws_szChain.f, g1 k (by omega), c1]⟩, by omega, fun _ => ⟨trivial, (w1 (by omega))⟩⟩
theorem toChain_ev (x : S119) (h : WChain x) : Ev (fun k => laws_toChain.f k x.f0 x.f1) ((cvChain x).f0, (cvChain x).f1) := by
  obtain ⟨K1, g1⟩ := toAlarmS_ev x.f1 h.2
  exact ⟨K1, fun k hk => by simp [laws_toChain.f, cvChain, g1 k (by omega)]⟩
theorem eqChain_ev (x : S100) (h : WiChain x) : Ev (fun k => laws_eqChain.f k x.f0 x.f1 x.f0 x.f1) true := by
  obtain ⟨K1, g1⟩ := eqAlarmS_ev x.f1 h.2
  exact ⟨K1, fun k hk => by simp [laws_eqChain.f, g1 k (by omega)]⟩
theorem rdmidChainl (pre suf : List S119) (y : S119) : rd_T119 (pre ++ y :: suf) (pre.length : Int) = y := by unfold rd_T119; simp
theorem rdmidChaini (pre suf : List S100) (y : S100) : rd_T100 (pre ++ y :: suf) (pre.length : Int) = y := by unfold rd_T100; simp
theorem szChainS_l0 : ∀ (suf pre : List S119) (n : Int), 0 ≤ n → n ≤ 1048576 → (∀ y ∈ suf, B119 y) → (pre ++ suf).length < 4611686018427387904 → ∃ r, Ev (fun k => laws_szChainS.l0 k (pre ++ suf) n (pre.length : Int)) r ∧ r ≤ n ∧ (0 ≤ r → ∀ y ∈ suf, WChain y)
  | [], pre, n, h0, h1, hB, h => by
    refine ⟨n, Ev.step (f := fun _ => some n) (fun k => ?_) (Ev.now _), Int.le_refl _, fun _ y hy => by cases hy⟩
    simp only [laws_szChainS.l0]
    rw [if_neg (not_lt_end pre)]
  | y :: suf, pre, n, h0, h1, hB, h => by
    have hp : pre.length < 4611686018427387904 := by simp at h; omega
    have hy := hB y List.mem_cons_self
    obtain ⟨r1, g1, l1, w1⟩ := szChain_ev y hy n h0 h1
    by_cases c : r1 < 0
    · refine ⟨-1, Ev.step (f := fun k => (laws_szChain.f k y.f0 y.f1 n).bind fun t => if t < 0 then some (-1) else laws_szChainS.l0 k (pre ++ y :: suf) t (wrap64 ((pre.length : Int) + 1))) (fun k => ?_) (Ev.bind g1 ?_), by omega, by omega⟩
      · simp only [laws_szChainS.l0]
        rw [if_pos (lt_mid pre suf y), if_pos (nn _), rdmidChainl]
      · simp only [if_pos c]
        exact Ev.now _
    · obtain ⟨r, g, hl, hw⟩ := szChainS_l0 suf (pre ++ [y]) r1 (by omega) (by omega) (fun z hz => hB z (List.mem_cons_of_mem _ hz)) (by simpa using h)
      refine ⟨r, Ev.step (f := fun k => (laws_szChain.f k y.f0 y.f1 n).bind fun t => if t < 0 then some (-1) else laws_szChainS.l0 k ((pre ++ [y]) ++ suf) t ((pre ++ [y]).length : Int)) (fun k => ?_) (Ev.bind g1 ?_), by omega, fun hr z hz => ?_⟩
      · simp only [laws_szChainS.l0]
        rw [if_pos (lt_mid pre suf y), if_pos (nn _), rdmidChainl, wrap_up _ (by omega)]
        simp
      · simp only [if_neg c]
        exact g
      · rcases List.mem_cons.1 hz with rfl | hz
        · exact w1 (by omega)
        · exact hw hr z hz
theorem szChainS_ev (l : List S119) (hB : l.length ≤ maxLen ∧ ∀ y ∈ l, B119 y) (n : Int) (h0 : 0 ≤ n) (h1 : n ≤ 1048576) : ∃ r, Ev (fun k => laws_szChainS.f k l n) r ∧ r ≤ n ∧ (0 ≤ r → l.length ≤ 1048576 ∧ ∀ y ∈ l, WChain y) := by
  have q : l.length ≤ 9223372036854775807 := hB.1
  have e : wrap64 (n - (l.length : Int)) = n - (l.length : Int) := wrap_id (by omega) (by omega)
  by_cases c : n - (l.length : Int) < 0
  · exact ⟨-1, ⟨0, fun k _ => by simp [laws_szChainS.f, e, c]⟩, by omega, by omega⟩
  · obtain ⟨r, g, hl, hw⟩ := szChainS_l0 l [] (n - (l.length : Int)) (by omega) (by omega) hB.2 (by simp; omega)
    refine ⟨r, Ev.congr (fun k => ?_) g, by omega, fun hr => ⟨by omega, hw hr⟩⟩
    unfold laws_szChainS.f
    rw [e, if_neg c]
    rfl
theorem toChainS_l0 : ∀ (suf pre : List S119), (pre ++ suf).length < 4611686018427387904 → (∀ y ∈ suf, WChain y) → Ev (fun k => laws_toChainS.l0 k (pre ++ suf) ((pre.map cvChain) ++ List.replicate suf.length z100) (pre.length : Int)) ((pre ++ suf).map cvChain)
  | [], pre, h, hW => by
    refine Ev.step (f := fun _ => some ((pre ++ []).map cvChain)) (fun k => ?_) (Ev.now _)
    simp only [laws_toChainS.l0]
    rw [if_neg (not_lt_end pre)]
    simp
  | y :: suf, pre, h, hW => by
    have hp : pre.length < 4611686018427387904 := by simp at h; omega
    have ih := toChainS_l0 suf (pre ++ [y]) (by simpa using h) (fun z hz => hW z (List.mem_cons_of_mem _ hz))
    have g := toChain_ev y (hW y List.mem_cons_self)
    refine Ev.step (f := fun k => (laws_toChain.f k y.f0 y.f1).bind fun t => laws_toChainS.l0 k ((pre ++ [y]) ++ suf) ((pre.map cvChain) ++ (⟨t.1, t.2⟩ : S100) :: List.replicate suf.length z100) ((pre ++ [y]).length : Int)) (fun k => ?_) (Ev.bind g ?_)
    · simp only [laws_toChainS.l0]
      rw [if_pos (lt_mid pre suf y), if_pos (nn _), rdmidChainl, wrap_up _ (by omega)]
      congr 1
      funext t
      rw [if_pos (by simp; omega)]
      congr 1
      · simp
      · simp [List.replicate_succ]
      · simp
    · rw [mid_assoc pre suf y]
      have e : (pre.map cvChain) ++ (cvChain y) :: List.replicate suf.length z100 = ((pre ++ [y]).map cvChain) ++ List.replicate suf.length z100 := by simp
      rw [← e] at ih
      exact ih
theorem toChainS_ev (l : List S119) (h : l.length ≤ 1048576 ∧ ∀ y ∈ l, WChain y) : Ev (fun k => laws_toChainS.f k l) (l.map cvChain) := by
  have h1 := h.1
  refine Ev.congr (fun k => ?_) (toChainS_l0 l [] (by simp; omega) h.2)
  unfold laws_toChainS.f
  rw [if_pos (nn l.length), Int.toNat_natCast, if_pos (by omega)]
  rfl
theorem eqChainS_l0 : ∀ (suf pre : List S100), (pre ++ suf).length < 4611686018427387904 → (∀ y ∈ suf, WiChain y) → Ev (fun k => laws_eqChainS.l0 k (pre ++ suf) (pre ++ suf) (pre.length : Int)) true
  | [], pre, h, hW => by
    refine Ev.step (f := fun _ => some true) (fun k => ?_) (Ev.now _)
    simp only [laws_eqChainS.l0]
    rw [if_neg (not_lt_end pre)]
  | y :: suf, pre, h, hW => by
    have hp : pre.length < 4611686018427387904 := by simp at h; omega
    have ih := eqChainS_l0 suf (pre ++ [y]) (by simpa using h) (fun z hz => hW z (List.mem_cons_of_mem _ hz))
    have g := eqChain_ev y (hW y List.mem_cons_self)
    refine Ev.step (f := fun k => (laws_eqChain.f k y.f0 y.f1 y.f0 y.f1).bind fun t => if t = true then laws_eqChainS.l0 k ((pre ++ [y]) ++ suf) ((pre ++ [y]) ++ suf) ((pre ++ [y]).length : Int) else none) (fun k => ?_) (Ev.bind g ?_)
    · simp only [laws_eqChainS.l0]
      rw [if_pos (lt_mid pre suf y), if_pos (nn _), if_pos (lt_mid pre suf y), rdmidChaini, wrap_up _ (by omega)]
      simp
    · simp only [if_true]
      exact ih
theorem eqChainS_ev (l : List S100) (h : l.length ≤ 4000000 ∧ ∀ y ∈ l, WiChain y) : Ev (fun k => laws_eqChainS.f k l l) true := by
  have h1 := h.1
  refine Ev.congr (fun k => ?_) (eqChainS_l0 l [] (by simp; omega) h.2)
  unfold laws_eqChainS.f
  rw [if_pos rfl]
  rfl
def cvPart (x : S52) : S57 := ⟨x.f0, x.f1, (x.f2.map cvChain)⟩
def WPart (x : S52) : Prop := True ∧ True ∧ (x.f2.length ≤ 1048576 ∧ ∀ y ∈ x.f2, WChain y)
def WiPart (x : S57) : Prop := True ∧ True ∧ (x.f2.length ≤ 4000000 ∧ ∀ y ∈ x.f2, WiChain y)
theorem Wi_cvPart {x : S52} (h : WPart x) : WiPart (cvPart x) := ⟨trivial, trivial, ⟨by show (List.map cvChain x.f2).length ≤ 4000000; rw [List.length_map]; exact Nat.le_trans h.2.2.1 (by decide), fun y hy => by obtain ⟨z, hz, rfl⟩ := List.mem_map.1 hy; exact Wi_cvChain (h.2.2.2 z hz)⟩⟩
theorem szPart_ev (x : S52) (hB : B52 x) (n : Int) (h0 : 0 ≤ n) (h1 : n ≤ 1048576) : ∃ r, Ev (fun k => laws_szPart.f k x.f0 x.f1 x.f2 n) r ∧ r ≤ n ∧ (0 ≤ r → WPart x) := by
  obtain ⟨r1, ⟨K1, g1⟩, l1, w1⟩ := szChainS_ev x.f2 hB.2.2 n (by omega) (by omega)
  by_cases c1 : r1 < 0
  · exact ⟨-1, ⟨K1, fun k hk => by simp [laws_szPart.f, g1 k (by omega), c1]⟩, by omega, by omega⟩
  exact ⟨r1, ⟨K1, fun k hk => by simp [laws_szPart.f, g1 k (by omega), c1]⟩, by omega, fun _ => ⟨trivial, trivial, (w1 (by omega))⟩⟩
theorem toPart_ev (x : S52) (h : WPart x) : Ev (fun k => laws_toPart.f k x.f0 x.f1 x.f2) ((cvPart x).f0, (cvPart x).f1, (cvPart x).f2) := by
  obtain ⟨K2, g2⟩ := toChainS_ev x.f2 h.2.2
  exact ⟨K2, fun k hk => by simp [laws_toPart.f, cvPart, g2 k (by omega)]⟩
theorem eqPart_ev (x : S57) (h : WiPart x) : Ev (fun k => laws_eqPart.f k x.f0 x.f1 x.f2 x.f0 x.f1 x.f2) true := by
  obtain ⟨K2, g2⟩ := eqChainS_ev x.f2 h.2.2
  exact ⟨K2, fun k hk => by simp [laws_eqPart.f, g2 k (by omega)]⟩
def cnAlarms : List S43 → Nat
  | [] => 0
  | y :: ys => cnLabels y.f0 + 3 + cnAlarms ys
noncomputable def mkAlarms : Int → List S43 → List S43
  | _, [] => []
  | k0, y :: ys => ⟨mkLabels k0 y.f0, (k0 + (cnLabels y.f0 : Int)), (k0 + (cnLabels y.f0 : Int) + 1), mkText (k0 + (cnLabels y.f0 : Int) + 2)⟩ :: mkAlarms (k0 + (cnLabels y.f0 : Int) + 3) ys
theorem cnAlarms_le : ∀ (l : List S43), l.length ≤ cnAlarms l
  | [] => Nat.le_refl _
  | y :: ys => by have := cnAlarms_le ys; simp only [cnAlarms, List.length_cons]; omega
theorem rdmmAlarm (pre suf : List S43) (y : S43) : rd_T43 (pre ++ y :: suf) (pre.length : Int) = y := by unfold rd_T43; simp
theorem markAlarmS_l0 : ∀ (suf pre : List S43) (k0 : Int), 0 ≤ k0 → k0 + (cnAlarms suf : Int) < 4611686018427387904 → (pre ++ suf).length < 4611686018427387904 → Ev (fun k => laws_markAlarmS.l0 k (pre ++ suf) k0 (pre.length : Int)) (k0 + (cnAlarms suf : Int), pre ++ mkAlarms k0 suf)
  | [], pre, k0, h0, h1, h => by
    refine Ev.step (f := fun _ => some (k0, pre ++ [])) (fun k => ?_) (by rw [show (k0 + (cnAlarms [] : Int), pre ++ mkAlarms k0 []) = (k0, pre ++ []) from by simp [cnAlarms, mkAlarms]]; exact Ev.now _)
    simp only [laws_markAlarmS.l0]
    rw [if_neg (not_lt_end pre)]
  | y :: suf, pre, k0, h0, h1, h => by
    have hp : pre.length < 4611686018427387904 := by simp at h; omega
    have hc : cnAlarms (y :: suf) = cnLabels y.f0 + 3 + cnAlarms suf := rfl
    rw [hc] at h1 ⊢
    obtain ⟨K, g⟩ := markAlarmS_l0 suf (pre ++ [(⟨mkLabels k0 y.f0, (k0 + (cnLabels y.f0 : Int)), (k0 + (cnLabels y.f0 : Int) + 1), mkText (k0 + (cnLabels y.f0 : Int) + 2)⟩ : S43)]) (k0 + (cnLabels y.f0 : Int) + 3) (by omega) (by omega) (by simpa using h)
    obtain ⟨K0, g0⟩ := markLabelS_ev y.f0 k0 (by omega) (by omega)
    obtain ⟨K1, g1⟩ := markText_ev (k0 + (cnLabels y.f0 : Int) + 2) (by omega) (by omega)
    refine ⟨K + K0 + K1 + 1, fun k hk => ?_⟩
    obtain ⟨k, rfl⟩ : ∃ m, k = m + 1 := ⟨k - 1, by omega⟩
    have G := g k (by omega)
    have G0 := g0 k (by omega)
    have G1 := g1 k (by omega)
    dsimp only at G G0 G1
    have w1 : wrap64 ((k0 + (cnLabels y.f0 : Int)) + 1) = (k0 + (cnLabels y.f0 : Int) + 1) := (wrap_id (by omega) (by omega)).trans (by omega)
    have w2 : wrap64 ((k0 + (cnLabels y.f0 : Int) + 1) + 1) = (k0 + (cnLabels y.f0 : Int) + 2) := (wrap_id (by omega) (by omega)).trans (by omega)
    have w3 : wrap64 ((k0 + (cnLabels y.f0 : Int) + 2) + 1) = (k0 + (cnLabels y.f0 : Int) + 3) := (wrap_id (by omega) (by omega)).trans (by omega)
    simp only [laws_markAlarmS.l0]
    rw [if_pos (lt_mid pre suf y)]
    simp only [nn, if_true, rdmmAlarm, Option.bind_some, Int.toNat_natCast, set_mid, wrap_up pre.length (by omega), G0, G1, w1, w2, w3]
    have eL : pre ++ (⟨mkLabels k0 y.f0, (k0 + (cnLabels y.f0 : Int)), (k0 + (cnLabels y.f0 : Int) + 1), mkText (k0 + (cnLabels y.f0 : Int) + 2)⟩ : S43) :: suf = (pre ++ [(⟨mkLabels k0 y.f0, (k0 + (cnLabels y.f0 : Int)), (k0 + (cnLabels y.f0 : Int) + 1), mkText (k0 + (cnLabels y.f0 : Int) + 2)⟩ : S43)]) ++ suf := by simp
    have eN : ((pre.length + 1 : Nat) : Int) = ((pre ++ [(⟨mkLabels k0 y.f0, (k0 + (cnLabels y.f0 : Int)), (k0 + (cnLabels y.f0 : Int) + 1), mkText (k0 + (cnLabels y.f0 : Int) + 2)⟩ : S43)]).length : Int) := by simp
    rw [eL, eN, G]
    refine congrArg some (Prod.ext ?_ ?_)
    · simp only []; push_cast; omega
    · simp [mkAlarms]
theorem markAlarmS_ev (l : List S43) (k0 : Int) (h0 : 0 ≤ k0) (h1 : k0 + (cnAlarms l : Int) < 4611686018427387904) : Ev (fun k => laws_markAlarmS.f k l k0) (k0 + (cnAlarms l : Int), mkAlarms k0 l) := by
  have := cnAlarms_le l
  exact Ev.congr (fun k => by unfold laws_markAlarmS.f; rfl) (markAlarmS_l0 l [] k0 h0 h1 (by simp; omega))
theorem heldAlarmS_l0 : ∀ (suf pre : List S43) (k0 : Int), 0 ≤ k0 → k0 + (cnAlarms suf : Int) < 4611686018427387904 → (pre ++ suf).length < 4611686018427387904 → Ev (fun k => laws_heldAlarmS.l0 k (pre ++ mkAlarms k0 suf) k0 (pre.length : Int)) (k0 + (cnAlarms suf : Int))
  | [], pre, k0, h0, h1, h => by
    refine Ev.step (f := fun _ => some k0) (fun k => ?_) (by simpa [cnAlarms] using Ev.now k0)
    rw [show mkAlarms k0 [] = [] from rfl]
    simp only [laws_heldAlarmS.l0]
    rw [if_neg (not_lt_end pre)]
  | y :: suf, pre, k0, h0, h1, h => by
    have hp : pre.length < 4611686018427387904 := by simp at h; omega
    have hc : cnAlarms (y :: suf) = cnLabels y.f0 + 3 + cnAlarms suf := rfl
    rw [hc] at h1 ⊢
    obtain ⟨K, g⟩ := heldAlarmS_l0 suf (pre ++ [(⟨mkLabels k0 y.f0, (k0 + (cnLabels y.f0 : Int)), (k0 + (cnLabels y.f0 : Int) + 1), mkText (k0 + (cnLabels y.f0 : Int) + 2)⟩ : S43)]) (k0 + (cnLabels y.f0 : Int) + 3) (by omega) (by omega) (by simpa using h)
    obtain ⟨K0, g0⟩ := heldLabelS_ev y.f0 k0 (by omega) (by omega)
    obtain ⟨K1, g1⟩ := markText_ev (k0 + (cnLabels y.f0 : Int) + 2) (by omega) (by omega)
    refine ⟨K + K0 + K1 + 1, fun k hk => ?_⟩
    obtain ⟨k, rfl⟩ : ∃ m, k = m + 1 := ⟨k - 1, by omega⟩
    have G := g k (by omega)
    have G0 := g0 k (by omega)
    have G1 := g1 k (by omega)
    dsimp only at G G0 G1
    have w1 : wrap64 ((k0 + (cnLabels y.f0 : Int)) + 1) = (k0 + (cnLabels y.f0 : Int) + 1) := (wrap_id (by omega) (by omega)).trans (by omega)
    have w2 : wrap64 ((k0 + (cnLabels y.f0 : Int) + 1) + 1) = (k0 + (cnLabels y.f0 : Int) + 2) := (wrap_id (by omega) (by omega)).trans (by omega)
    have w3 : wrap64 ((k0 + (cnLabels y.f0 : Int) + 2) + 1) = (k0 + (cnLabels y.f0 : Int) + 3) := (wrap_id (by omega) (by omega)).trans (by omega)
    have n0 : ¬ (k0 + (cnLabels y.f0 : Int) < 0) := by omega
    rw [show mkAlarms k0 (y :: suf) = ⟨mkLabels k0 y.f0, (k0 + (cnLabels y.f0 : Int)), (k0 + (cnLabels y.f0 : Int) + 1), mkText (k0 + (cnLabels y.f0 : Int) + 2)⟩ :: mkAlarms (k0 + (cnLabels y.f0 : Int) + 3) suf from rfl]
    simp only [laws_heldAlarmS.l0]
    rw [if_pos (lt_mid pre _ _)]
    simp only [nn, if_true, if_false, rdmmAlarm, Option.bind_some, wrap_up pre.length (by omega), G0, G1, w1, w2, w3, n0, bne_self_eq_false, Bool.false_eq_true]
    have eL : pre ++ (⟨mkLabels k0 y.f0, (k0 + (cnLabels y.f0 : Int)), (k0 + (cnLabels y.f0 : Int) + 1), mkText (k0 + (cnLabels y.f0 : Int) + 2)⟩ : S43) :: mkAlarms (k0 + (cnLabels y.f0 : Int) + 3) suf = (pre ++ [(⟨mkLabels k0 y.f0, (k0 + (cnLabels y.f0 : Int)), (k0 + (cnLabels y.f0 : Int) + 1), mkText (k0 + (cnLabels y.f0 : Int) + 2)⟩ : S43)]) ++ mkAlarms (k0 + (cnLabels y.f0 : Int) + 3) suf := by simp
    have eN : ((pre.length + 1 : Nat) : Int) = ((pre ++ [(⟨mkLabels k0 y.f0, (k0 + (cnLabels y.f0 : Int)), (k0 + (cnLabels y.f0 : Int) + 1), mkText (k0 + (cnLabels y.f0 : Int) + 2)⟩ : S43)]).length : Int) := by simp
    rw [eL, eN, G]
    refine congrArg some ?_
    push_cast; omega
theorem heldAlarmS_ev (l : List S43) (k0 : Int) (h0 : 0 ≤ k0) (h1 : k0 + (cnAlarms l : Int) < 4611686018427387904) : Ev (fun k => laws_heldAlarmS.f k (mkAlarms k0 l) k0) (k0 + (cnAlarms l : Int)) := by
  have := cnAlarms_le l
  exact Ev.congr (fun k => by unfold laws_heldAlarmS.f; rfl) (heldAlarmS_l0 l [] k0 h0 h1 (by simp; omega))
def cnChains : List S100 → Nat
  | [] => 0
  | y :: ys => cnAlarms y.f1 + 1 + cnChains ys
noncomputable def mkChains : Int → List S100 → List S100
  | _, [] => []
  | k0, y :: ys => ⟨k0, mkAlarms (k0 + 1) y.f1⟩ :: mkChains (k0 + 1 + (cnAlarms y.f1 : Int)) ys
theorem cnChains_le : ∀ (l : List S100), l.length ≤ cnChains l
  | [] => Nat.le_refl _
  | y :: ys => by have := cnChains_le ys; simp only [cnChains, List.length_cons]; omega
theorem rdmmChain (pre suf : List S100) (y : S100) : rd_T100 (pre ++ y :: suf) (pre.length : Int) = y := by unfold rd_T100; simp
theorem markChainS_l0 : ∀ (suf pre : List S100) (k0 : Int), 0 ≤ k0 → k0 + (cnChains suf : Int) < 4611686018427387904 → (pre ++ suf).length < 4611686018427387904 → Ev (fun k => laws_markChainS.l0 k (pre ++ suf) k0 (pre.length : Int)) (k0 + (cnChains suf : Int), pre ++ mkChains k0 suf)
  | [], pre, k0, h0, h1, h => by
    refine Ev.step (f := fun _ => some (k0, pre ++ [])) (fun k => ?_) (by rw [show (k0 + (cnChains [] : Int), pre ++ mkChains k0 []) = (k0, pre ++ []) from by simp [cnChains, mkChains]]; exact Ev.now _)
    simp only [laws_markChainS.l0]
    rw [if_neg (not_lt_end pre)]
  | y :: suf, pre, k0, h0, h1, h => by
    have hp : pre.length < 4611686018427387904 := by simp at h; omega
    have hc : cnChains (y :: suf) = cnAlarms y.f1 + 1 + cnChains suf := rfl
    rw [hc] at h1 ⊢
    obtain ⟨K, g⟩ := markChainS_l0 suf (pre ++ [(⟨k0, mkAlarms (k0 + 1) y.f1⟩ : S100)]) (k0 + 1 + (cnAlarms y.f1 : Int)) (by omega) (by omega) (by simpa using h)
    obtain ⟨K0, g0⟩ := markAlarmS_ev y.f1 (k0 + 1) (by omega) (by omega)
    refine ⟨K + K0 + 1, fun k hk => ?_⟩
    obtain ⟨k, rfl⟩ : ∃ m, k = m + 1 := ⟨k - 1, by omega⟩
    have G := g k (by omega)
    have G0 := g0 k (by omega)
    dsimp only at G G0
    have w0 : wrap64 (k0 + 1) = (k0 + 1) := (wrap_id (by omega) (by omega)).trans (by omega)
    simp only [laws_markChainS.l0]
    rw [if_pos (lt_mid pre suf y)]
    simp only [nn, if_true, rdmmChain, Option.bind_some, Int.toNat_natCast, set_mid, wrap_up pre.length (by omega), G0, w0]
    have eL : pre ++ (⟨k0, mkAlarms (k0 + 1) y.f1⟩ : S100) :: suf = (pre ++ [(⟨k0, mkAlarms (k0 + 1) y.f1⟩ : S100)]) ++ suf := by simp
    have eN : ((pre.length + 1 : Nat) : Int) = ((pre ++ [(⟨k0, mkAlarms (k0 + 1) y.f1⟩ : S100)]).length : Int) := by simp
    rw [eL, eN, G]
    refine congrArg some (Prod.ext ?_ ?_)
    · simp only []; push_cast; omega
    · simp [mkChains]
theorem markChainS_ev (l : List S100) (k0 : Int) (h0 : 0 ≤ k0) (h1 : k0 + (cnChains l : Int) < 4611686018427387904) : Ev (fun k => laws_markChainS.f k l k0) (k0 + (cnChains l : Int), mkChains k0 l) := by
  have := cnChains_le l
  exact Ev.congr (fun k => by unfold laws_markChainS.f; rfl) (markChainS_l0 l [] k0 h0 h1 (by simp; omega))
theorem heldChainS_l0 : ∀ (suf pre : List S100) (k0 : Int), 0 ≤ k0 → k0 + (cnChains suf : Int) < 4611686018427387904 → (pre ++ suf).length < 4611686018427387904 → Ev (fun k => laws_heldChainS.l0 k (pre ++ mkChains k0 suf) k0 (pre.length : Int)) (k0 + (cnChains suf : Int))
  | [], pre, k0, h0, h1, h => by
    refine Ev.step (f := fun _ => some k0) (fun k => ?_) (by simpa [cnChains] using Ev.now k0)
    rw [show mkChains k0 [] = [] from rfl]
    simp only [laws_heldChainS.l0]
    rw [if_neg (not_lt_end pre)]
  | y :: suf, pre, k0, h0, h1, h => by
    have hp : pre.length < 4611686018427387904 := by simp at h; omega
    have hc : cnChains (y :: suf) = cnAlarms y.f1 + 1 + cnChains suf := rfl
    rw [hc] at h1 ⊢
    obtain ⟨K, g⟩ := heldChainS_l0 suf (pre ++ [(⟨k0, mkAlarms (k0 + 1) y.f1⟩ : S100)]) (k0 + 1 + (cnAlarms y.f1 : Int)) (by omega) (by omega) (by simpa using h)
    obtain ⟨K0, g0⟩ := heldAlarmS_ev y.f1 (k0 + 1) (by omega) (by omega)
    refine ⟨K + K0 + 1, fun k hk => ?_⟩
    obtain ⟨k, rfl⟩ : ∃ m, k = m + 1 := ⟨k - 1, by omega⟩
    have G := g k (by omega)
    have G0 := g0 k (by omega)
    dsimp only at G G0
    have w0 : wrap64 (k0 + 1) = (k0 + 1) := (wrap_id (by omega) (by omega)).trans (by omega)
    have n1 : ¬ ((k0 + 1) + (cnAlarms y.f1 : Int) < 0) := by omega
    rw [show mkChains k0 (y :: suf) = ⟨k0, mkAlarms (k0 + 1) y.f1⟩ :: mkChains (k0 + 1 + (cnAlarms y.f1 : Int)) suf from rfl]
    simp only [laws_heldChainS.l0]
    rw [if_pos (lt_mid pre _ _)]
    simp only [nn, if_true, if_false, rdmmChain, Option.bind_some, wrap_up pre.length (by omega), G0, w0, n1, bne_self_eq_false, Bool.false_eq_true]
    have eL : pre ++ (⟨k0, mkAlarms (k0 + 1) y.f1⟩ : S100) :: mkChains (k0 + 1 + (cnAlarms y.f1 : Int)) suf = (pre ++ [(⟨k0, mkAlarms (k0 + 1) y.f1⟩ : S100)]) ++ mkChains (k0 + 1 + (cnAlarms y.f1 : Int)) suf := by simp
    have eN : ((pre.length + 1 : Nat) : Int) = ((pre ++ [(⟨k0, mkAlarms (k0 + 1) y.f1⟩ : S100)]).length : Int) := by simp
    rw [eL, eN, G]
    refine congrArg some ?_
    push_cast; omega
theorem heldChainS_ev (l : List S100) (k0 : Int) (h0 : 0 ≤ k0) (h1 : k0 + (cnChains l : Int) < 4611686018427387904) : Ev (fun k => laws_heldChainS.f k (mkChains k0 l) k0) (k0 + (cnChains l : Int)) := by
  have := cnChains_le l
  exact Ev.congr (fun k => by unfold laws_heldChainS.f; rfl) (heldChainS_l0 l [] k0 h0 h1 (by simp; omega))
theorem cnLabels_eq : ∀ l : List S88, cnLabels l = 2 * l.length
  | [] => rfl
  | y :: ys => by have := cnLabels_eq ys; simp only [cnLabels, List.length_cons]; omega
theorem cnLabels_wi {l : List S88} (h : l.length ≤ 4000000 ∧ ∀ y ∈ l, WiLabel y) : cnLabels l ≤ 8000000 := by have := h.1; rw [cnLabels_eq]; omega
/-- A loop that goes on or stops with an answer. -/
def scan {ρ : Type} (step : Nat → Option ρ) (fin : ρ) : Nat → Nat → ρ
  | 0, _ => fin
  | d + 1, i => match step i with
    | some r => r
    | none => scan step fin d (i + 1)
/-- What one round does. -/
def goOn {ρ : Type} (o : Option ρ) (next : Option ρ) : Option ρ := match o with
  | some r => some r
  | none => next
theorem scan_ev2 {ρ : Type} {F : Nat → Int → Option ρ} {n : Nat} {step : Nat → Option ρ} {fin : ρ} (hend : ∃ K, ∀ k, K ≤ k → F (k + 1) (n : Int) = some fin)
    (hstep : ∀ i, i < n → ∃ K, ∀ k, K ≤ k → F (k + 1) (i : Int) = goOn (step i) (F k ((i + 1 : Nat) : Int))) : ∀ d i, d + i = n → Ev (fun k => F k (i : Int)) (scan step fin d i)
  | 0, i, h => by
    obtain rfl : i = n := by omega
    obtain ⟨K, hK⟩ := hend
    refine ⟨K + 1, fun k hk => ?_⟩
    obtain ⟨m, rfl⟩ : ∃ m, k = m + 1 := ⟨k - 1, by omega⟩
    exact hK m (by omega)
  | d + 1, i, h => by
    obtain ⟨K, hK⟩ := hstep i (by omega)
    unfold scan
    cases hs : step i with
    | some r =>
      refine ⟨K + 1, fun k hk => ?_⟩
      obtain ⟨m, rfl⟩ : ∃ m, k = m + 1 := ⟨k - 1, by omega⟩
      have := hK m (by omega)
      rw [hs] at this
      exact this
    | none =>
      obtain ⟨K', hK'⟩ := scan_ev2 hend hstep d (i + 1) (by omega)
      refine ⟨max K K' + 1, fun k hk => ?_⟩
      obtain ⟨m, rfl⟩ : ∃ m, k = m + 1 := ⟨k - 1, by omega⟩
      have := hK m (by omega)
      rw [hs] at this
      exact this.trans (hK' m (by omega))
theorem scan_ev {ρ : Type} {F : Nat → Int → Option ρ} {n : Nat} {step : Nat → Option ρ} {fin : ρ} (hend : ∀ k, F (k + 1) (n : Int) = some fin)
    (hstep : ∀ i, i < n → ∃ K, ∀ k, K ≤ k → F (k + 1) (i : Int) = goOn (step i) (F k ((i + 1 : Nat) : Int))) : ∀ d i, d + i = n → Ev (fun k => F k (i : Int)) (scan step fin d i) := scan_ev2 ⟨0, fun k _ => hend k⟩ hstep
theorem scan_congr {ρ : Type} {s s' : Nat → Option ρ} {f : ρ} : ∀ d i, (∀ j, i ≤ j → j < i + d → s j = s' j) → scan s f d i = scan s' f d i
  | 0, _, _ => rfl
  | d + 1, i, h => by
    unfold scan
    rw [h i (Nat.le_refl _) (by omega)]
    cases s' i with
    | some r => rfl
    | none => exact scan_congr d (i + 1) (fun j h1 h2 => h j (by omega) (by omega))
/-- Two lists of one length, element by element. -/
theorem scan_same {α β : Type} [DecidableEq β] (f : α → β) (z : α) : ∀ (a b pa pb : List α), a.length = b.length → pa.length = pb.length →
    scan (fun i => if f ((pa ++ a).getD i z) = f ((pb ++ b).getD i z) then none else some false) true a.length pa.length = decide (a.map f = b.map f)
  | [], [], pa, pb, _, _ => by simp [scan]
  | [], _ :: _, _, _, h, _ => by simp at h
  | _ :: _, [], _, _, h, _ => by simp at h
  | x :: a, y :: b, pa, pb, h, h2 => by
    have ih := scan_same f z a b (pa ++ [x]) (pb ++ [y]) (by simpa using h) (by simp [h2])
    simp only [List.append_assoc, List.singleton_append, List.length_append, List.length_singleton] at ih
    simp only [List.length_cons, scan]
    rw [show (pa ++ x :: a).getD pa.length z = x by simp, show (pb ++ y :: b).getD pa.length z = y by rw [h2]; simp]
    by_cases he : f x = f y
    · simp only [if_pos he]; rw [ih]; simp [he]
    · simp [he]
theorem scan_same0 {α β : Type} [DecidableEq β] (f : α → β) (z : α) (a b : List α) (h : a.length = b.length) : scan (fun i => if f (a.getD i z) = f (b.getD i z) then none else some false) true a.length 0 = decide (a.map f = b.map f) := scan_same f z a b [] [] h rfl
/-- The place of the first that is so, or -1. -/
def place {α : Type} (p : α → Bool) : List α → Nat → Int
  | [], _ => -1
  | x :: l, i => if p x = true then (i : Int) else place p l (i + 1)
theorem scan_place {α : Type} (p : α → Bool) (z : α) : ∀ (suf pre : List α), scan (fun i => if p ((pre ++ suf).getD i z) = true then some (i : Int) else none) (-1) suf.length pre.length = place p suf pre.length
  | [], pre => by simp [scan, place]
  | y :: suf, pre => by
    have ih := scan_place p z suf (pre ++ [y])
    simp only [List.append_assoc, List.singleton_append, List.length_append, List.length_singleton] at ih
    simp only [List.length_cons, scan, place]
    rw [show (pre ++ y :: suf).getD pre.length z = y by simp]
    by_cases hp : p y = true
    · simp [hp]
    · simp only [if_neg hp]; exact ih
theorem scan_place0 {α : Type} (p : α → Bool) (z : α) (l : List α) : scan (fun i => if p (l.getD i z) = true then some (i : Int) else none) (-1) l.length 0 = place p l 0 := scan_place p z l []
theorem getD_eq {α : Type} (l : List α) (i : Nat) (z : α) (h : i < l.length) : l.getD i z = l[i] := by simp [List.getD_eq_getElem?_getD, List.getElem?_eq_getElem h]
theorem getD_mem {α : Type} (l : List α) (i : Nat) (z : α) (h : i < l.length) : l.getD i z ∈ l := by rw [getD_eq l i z h]; exact List.getElem_mem h
theorem place_ge {α : Type} (p : α → Bool) : ∀ (l : List α) (i : Nat), (0 ≤ place p l i) ↔ l.any p = true
  | [], i => by simp [place]
  | x :: l, i => by
    unfold place
    by_cases h : p x = true
    · rw [if_pos h]; simp [h]
    · rw [if_neg h, place_ge p l (i + 1)]; simp [h]
theorem rdnLabel (l : List S88) (i : Nat) : rd_T88 l (i : Int) = l.getD i z88 := by unfold rd_T88; simp
theorem rdnAlarm (l : List S43) (i : Nat) : rd_T43 l (i : Int) = l.getD i z43 := by unfold rd_T43; simp
/-- A label as two lists of bytes; an alarm as what it holds. -/
def lab (x : S88) : List UInt8 × List UInt8 := (x.f0.toList, x.f1.toList)
def sameSet (a b : List S88) : Bool := decide (a.map lab = b.map lab)
theorem map_ne_of_length {α β : Type} {f : α → β} {a b : List α} (h : ¬ a.length = b.length) : ¬ (a.map f = b.map f) := fun e => h (by simpa using congrArg List.length e)
theorem labNe (x y : S88) : ((!(x.f0.toList == y.f0.toList) || (!(x.f1.toList == y.f1.toList))) = true) ↔ ¬ lab x = lab y := by
  unfold lab
  simp only [Prod.mk.injEq, Bool.or_eq_true, Bool.not_eq_true', beq_eq_false_iff_ne]
  constructor
  · rintro (h | h) ⟨h1, h2⟩
    · exact h h1
    · exact h h2
  · intro h
    by_cases h1 : x.f0.toList = y.f0.toList
    · exact .inr fun h2 => h ⟨h1, h2⟩
    · exact .inl h1
theorem implSameSet_ev (a b : List S88) (h : a.length < 4611686018427387904) : Ev (fun k => impl_SameSet.f k a b) (sameSet a b) := by
  unfold impl_SameSet.f sameSet
  by_cases hl : a.length = b.length
  · simp only [if_pos (show (a.length : Int) = (b.length : Int) by omega)]
    rw [← scan_same0 lab z88 a b hl]
    refine scan_ev (F := fun k i => impl_SameSet.l0 k a b (a.length : Int) i) (n := a.length) (fun k => ?_) (fun i hi => ⟨0, fun k _ => ?_⟩) a.length 0 (by omega)
    · simp only [impl_SameSet.l0]; rw [if_neg (by omega)]
    · simp only [impl_SameSet.l0]
      rw [if_pos (by omega), if_pos (by omega), if_pos (by omega), if_pos (by omega), rdnLabel, rdnLabel, wrap_up i (by omega)]
      by_cases hc : lab (a.getD i z88) = lab (b.getD i z88)
      · rw [if_neg (fun e => (labNe _ _).1 e hc), if_pos hc]; rfl
      · rw [if_pos ((labNe _ _).2 hc), if_neg hc]; rfl
  · simp only [if_neg (show ¬ (a.length : Int) = (b.length : Int) by omega), decide_eq_false (map_ne_of_length hl)]
    exact Ev.now _
theorem specSameSet_ev (a b : List S88) (h : a.length < 4611686018427387904) : Ev (fun k => spec_SameSet.f k a b) (sameSet a b) := by
  unfold spec_SameSet.f sameSet
  by_cases hl : a.length = b.length
  · simp only [if_pos (show (a.length : Int) = (b.length : Int) by omega)]
    rw [← scan_same0 lab z88 a b hl]
    refine scan_ev (F := fun k i => spec_SameSet.l0 k a b i) (n := a.length) (fun k => ?_) (fun i hi => ⟨0, fun k _ => ?_⟩) a.length 0 (by omega)
    · simp only [spec_SameSet.l0]; rw [if_neg (by omega)]
    · simp only [spec_SameSet.l0]
      rw [if_pos (by omega), if_pos (by omega), if_pos (by omega), rdnLabel, rdnLabel, wrap_up i (by omega)]
      by_cases hc : lab (a.getD i z88) = lab (b.getD i z88)
      · rw [if_neg (fun e => (labNe _ _).1 e hc), if_pos hc]; rfl
      · rw [if_pos ((labNe _ _).2 hc), if_neg hc]; rfl
  · simp only [if_neg (show ¬ (a.length : Int) = (b.length : Int) by omega), decide_eq_false (map_ne_of_length hl)]
    exact Ev.now _
def labelsAt (l : List S43) (s : List S88) : Int := place (fun a => sameSet a.f0 s) l 0
theorem implLabelsAt_ev (l : List S43) (s : List S88) (h : l.length ≤ 4000000 ∧ ∀ y ∈ l, WiAlarm y) : Ev (fun k => impl_labelsAt.f k l s) (labelsAt l s) := by
  have h1 := h.1
  unfold impl_labelsAt.f labelsAt
  rw [← scan_place0 (fun a : S43 => sameSet a.f0 s) z43 l]
  refine scan_ev (F := fun k i => impl_labelsAt.l0 k s l (l.length : Int) i) (n := l.length) (fun k => ?_) (fun i hi => ?_) l.length 0 (by omega)
  · simp only [impl_labelsAt.l0]; rw [if_neg (by omega)]
  · have hw := (h.2 _ (getD_mem l i z43 hi)).1.1
    obtain ⟨K, g⟩ := implSameSet_ev (l.getD i z43).f0 s (by omega)
    refine ⟨K, fun k hk => ?_⟩
    have e := g k hk
    simp only at e
    simp only [impl_labelsAt.l0]
    rw [if_pos (by omega), if_pos (by omega), if_pos (by omega), rdnAlarm, e, Option.bind_some, wrap_up i (by omega)]
    cases sameSet (l.getD i z43).f0 s <;> simp [goOn]
theorem inEq (a b c : Int) : impl_in.f a b c = some (decide (b ≤ a) && decide (a ≤ c)) := by
  unfold impl_in.f
  by_cases h : a ≥ b
  · rw [if_pos h]; simp [show b ≤ a from h]
  · rw [if_neg h]; simp [show ¬ b ≤ a from h]
theorem l1InEq (a b c : Int) : spec_l1In.f a b c = some (decide (b ≤ a) && decide (a ≤ c)) := by
  unfold spec_l1In.f
  by_cases h : a ≥ b
  · rw [if_pos h]; simp [show b ≤ a from h]
  · rw [if_neg h]; simp [show ¬ b ≤ a from h]
/-- Each byte of a name. -/
def nameStep {ρ : Type} (no : ρ) (s : ByteArray) (i : Nat) : Option ρ := if (bt s (i : Int)) < 97 then some no else if (bt s (i : Int)) > 122 then some no else none
def nameOk (s : ByteArray) : Bool := (decide (1 ≤ (s.size : Int)) && decide ((s.size : Int) ≤ 8)) && scan (nameStep false s) true s.size 0
/-- Where nothing stops a loop but with 'false', its end may wait. -/
theorem scan_end {step : Nat → Option Bool} (h : ∀ i r, step i = some r → r = false) (e : Bool) : ∀ d i, scan step e d i = (e && scan step true d i)
  | 0, i => by simp [scan]
  | d + 1, i => by
    unfold scan
    cases hs : step i with
    | some r => rw [h i r hs]; simp
    | none => exact scan_end h e d (i + 1)
theorem nameStep_false (s : ByteArray) (i : Nat) (r : Bool) (h : nameStep false s i = some r) : r = false := by
  unfold nameStep at h
  split at h
  · injection h with h; exact h.symm
  · split at h
    · injection h with h; exact h.symm
    · cases h
theorem implNameOk_ev (s : ByteArray) (h : s.size < 4611686018427387904) : Ev (fun k => impl_NameOk.f k s) (nameOk s) := by
  unfold impl_NameOk.f nameOk
  simp only [inEq, Option.bind_some]
  cases hc : (decide (1 ≤ (s.size : Int)) && decide ((s.size : Int) ≤ 8)) with
  | false => simp only [Bool.false_eq_true, if_false, Bool.false_and]; exact Ev.now _
  | true =>
    simp only [if_true, Bool.true_and]
    refine scan_ev (F := fun k i => impl_NameOk.l0 k s i) (n := s.size) (fun k => ?_) (fun i hi => ⟨0, fun k _ => ?_⟩) s.size 0 (by omega)
    · simp only [impl_NameOk.l0]; rw [if_neg (by omega)]
    · simp only [impl_NameOk.l0, nameStep]
      rw [if_pos (by omega), if_pos (by omega), wrap_up i (by omega)]
      split
      · rfl
      · split <;> rfl
theorem specNameOk_ev (s : ByteArray) (h : s.size < 4611686018427387904) : Ev (fun k => spec_NameOk.f k s) (nameOk s) := by
  unfold spec_NameOk.f nameOk
  rw [← scan_end (nameStep_false s)]
  refine scan_ev (F := fun k i => spec_NameOk.l0 k s i) (n := s.size) (fun k => ?_) (fun i hi => ⟨0, fun k _ => ?_⟩) s.size 0 (by omega)
  · simp only [spec_NameOk.l0]; rw [if_neg (by omega), l1InEq]; rfl
  · simp only [spec_NameOk.l0, nameStep]
    rw [if_pos (by omega), if_pos (by omega), wrap_up i (by omega)]
    split
    · rfl
    · split <;> rfl
/-- Each byte of a plain text. -/
def plainStep {ρ : Type} (no : ρ) (s : ByteArray) (i : Nat) : Option ρ := if (bt s (i : Int)) < 32 then some no else if (bt s (i : Int)) > 126 then some no else if (bt s (i : Int)) = 34 then some no else if (bt s (i : Int)) = 92 then some no else none
def plainOk (s : ByteArray) : Bool := decide ((s.size : Int) ≤ 12) && scan (plainStep false s) true s.size 0
theorem plainStep_false (s : ByteArray) (i : Nat) (r : Bool) (h : plainStep false s i = some r) : r = false := by
  unfold plainStep at h
  repeat (split at h; (injection h with h; exact h.symm))
  cases h
theorem implPlainOk_ev (s : ByteArray) (h : s.size < 4611686018427387904) : Ev (fun k => impl_PlainOk.f k s) (plainOk s) := by
  unfold impl_PlainOk.f plainOk
  by_cases hc : (s.size : Int) > 12
  · simp only [if_pos hc, decide_eq_false (show ¬ (s.size : Int) ≤ 12 by omega), Bool.false_and]; exact Ev.now _
  · simp only [if_neg hc, decide_eq_true (show (s.size : Int) ≤ 12 by omega), Bool.true_and]
    refine scan_ev (F := fun k i => impl_PlainOk.l0 k s i) (n := s.size) (fun k => ?_) (fun i hi => ⟨0, fun k _ => ?_⟩) s.size 0 (by omega)
    · simp only [impl_PlainOk.l0]; rw [if_neg (by omega)]
    · simp only [impl_PlainOk.l0, plainStep]
      rw [if_pos (by omega), if_pos (by omega), wrap_up i (by omega)]
      repeat (split; rfl)
      rfl
theorem specPlainOk_ev (s : ByteArray) (h : s.size < 4611686018427387904) : Ev (fun k => spec_PlainOk.f k s) (plainOk s) := by
  unfold spec_PlainOk.f plainOk
  rw [← scan_end (plainStep_false s)]
  refine scan_ev (F := fun k i => spec_PlainOk.l0 k s i) (n := s.size) (fun k => ?_) (fun i hi => ⟨0, fun k _ => ?_⟩) s.size 0 (by omega)
  · simp only [spec_PlainOk.l0]; rw [if_neg (by omega)]
  · simp only [spec_PlainOk.l0, plainStep]
    rw [if_pos (by omega), if_pos (by omega), wrap_up i (by omega)]
    repeat (split; rfl)
    rfl
def labelOk (x : S88) : Bool := nameOk x.f0 && plainOk x.f1
theorem implLabelOk_ev (x : S88) (h : WiLabel x) : Ev (fun k => impl_LabelOk.f k x.f0 x.f1) (labelOk x) := by
  have h1 := h.1
  have h2 := h.2
  obtain ⟨K1, g1⟩ := implNameOk_ev x.f0 (by omega)
  obtain ⟨K2, g2⟩ := implPlainOk_ev x.f1 (by omega)
  refine ⟨K1 + K2, fun k hk => ?_⟩
  have e1 := g1 k (by omega)
  have e2 := g2 k (by omega)
  simp only at e1 e2
  simp only [impl_LabelOk.f, e1, e2, Option.bind_some, labelOk]
  cases nameOk x.f0 <;> simp
theorem specLabelOk_ev (x : S88) (h : WiLabel x) : Ev (fun k => spec_LabelOk.f k x.f0 x.f1) (labelOk x) := by
  have h1 := h.1
  have h2 := h.2
  obtain ⟨K1, g1⟩ := specNameOk_ev x.f0 (by omega)
  obtain ⟨K2, g2⟩ := specPlainOk_ev x.f1 (by omega)
  refine ⟨K1 + K2, fun k hk => ?_⟩
  have e1 := g1 k (by omega)
  have e2 := g2 k (by omega)
  simp only at e1 e2
  simp only [spec_LabelOk.f, e1, e2, Option.bind_some, labelOk]
  cases nameOk x.f0 <;> simp
/-- Is label i right, behind the one before it? -/
def setBit (l : List S88) (i : Nat) : Bool := labelOk (l.getD i z88) && (decide (i = 0) || Op.bytesLess (l.getD (i - 1) z88).f0.toList (l.getD i z88).f0.toList)
def setStep (l : List S88) (i : Nat) : Option Bool := if setBit l i = true then none else some false
def setOk (l : List S88) : Bool := decide ((l.length : Int) ≤ 4) && scan (setStep l) true l.length 0
theorem setStep_false (l : List S88) (i : Nat) (r : Bool) (h : setStep l i = some r) : r = false := by
  unfold setStep at h
  split at h
  · cases h
  · injection h with h; exact h.symm
theorem scan_stop {step : Nat → Option Bool} (hf : ∀ i r, step i = some r → r = false) : ∀ d i j, i ≤ j → j < i + d → step j = some false → scan step true d i = false
  | 0, i, j, h1, h2, _ => by omega
  | d + 1, i, j, h1, h2, h3 => by
    unfold scan
    cases hs : step i with
    | some r => exact hf i r hs
    | none =>
      by_cases e : i = j
      · subst e; rw [hs] at h3; cases h3
      · exact scan_stop hf d (i + 1) j (by omega) (by omega) h3
theorem sub1 (i : Nat) (h : 0 < i) (hi : i < 4611686018427387904) : wrap64 ((i : Int) - 1) = ((i - 1 : Nat) : Int) := by rw [wrap_id (by omega) (by omega)]; omega
theorem implSetOk_ev (l : List S88) (h : l.length ≤ 4000000 ∧ ∀ y ∈ l, WiLabel y) : Ev (fun k => impl_SetOk.f k l) (setOk l) := by
  have h1 := h.1
  have hx : setOk l = scan (fun i => if 4 ≤ i then some false else setStep l i) true l.length 0 := by
    unfold setOk
    by_cases h4 : l.length ≤ 4
    · rw [decide_eq_true (show (l.length : Int) ≤ 4 by omega), Bool.true_and]
      exact scan_congr _ _ (fun j _ hj => by rw [if_neg (by omega)])
    · rw [decide_eq_false (show ¬ (l.length : Int) ≤ 4 by omega), Bool.false_and]
      exact (scan_stop (step := fun i => if 4 ≤ i then some false else setStep l i) (fun i r hr => by
        by_cases hi : 4 ≤ i
        · simp only [if_pos hi] at hr; injection hr with hr; exact hr.symm
        · simp only [if_neg hi] at hr; exact setStep_false l i r hr) l.length 0 4 (by omega) (by omega) (by simp)).symm
  rw [hx]
  unfold impl_SetOk.f
  refine scan_ev (F := fun k i => impl_SetOk.l0 k l l (l.length : Int) i) (n := l.length) (fun k => ?_) (fun i hi => ?_) l.length 0 (by omega)
  · simp only [impl_SetOk.l0]; rw [if_neg (by omega)]
  · obtain ⟨K, g⟩ := implLabelOk_ev (l.getD i z88) (h.2 _ (getD_mem l i _ hi))
    refine ⟨K, fun k hk => ?_⟩
    have e := g k hk
    simp only at e
    simp only [impl_SetOk.l0]
    rw [if_pos (by omega), if_pos (by omega), if_pos (by omega)]
    by_cases h4 : 4 ≤ i
    · rw [if_pos (by omega), if_pos h4]; rfl
    · rw [if_neg (by omega), if_neg h4, rdnLabel, e, Option.bind_some, wrap_up i (by omega)]
      unfold setStep setBit
      cases hl : labelOk (l.getD i z88) with
      | false => simp [goOn]
      | true =>
        by_cases h0 : i = 0
        · subst h0; simp [goOn]
        · rw [if_pos rfl, if_pos (by omega), sub1 i (by omega) (by omega), if_pos (by omega), if_pos (by omega), rdnLabel, decide_eq_false h0]
          cases Op.bytesLess (l.getD (i - 1) z88).f0.toList (l.getD i z88).f0.toList <;> simp [goOn]
theorem specSetOk_ev (l : List S88) (h : l.length ≤ 4000000 ∧ ∀ y ∈ l, WiLabel y) : Ev (fun k => spec_SetOk.f k l) (setOk l) := by
  have h1 := h.1
  unfold spec_SetOk.f setOk
  rw [← scan_end (setStep_false l)]
  refine scan_ev (F := fun k i => spec_SetOk.l0 k l i) (n := l.length) (fun k => ?_) (fun i hi => ?_) l.length 0 (by omega)
  · simp only [spec_SetOk.l0]; rw [if_neg (by omega)]
  · obtain ⟨K, g⟩ := specLabelOk_ev (l.getD i z88) (h.2 _ (getD_mem l i _ hi))
    refine ⟨K, fun k hk => ?_⟩
    have e := g k hk
    simp only at e
    simp only [spec_SetOk.l0, spec_Less.f]
    rw [if_pos (by omega), if_pos (by omega), rdnLabel, e, Option.bind_some, wrap_up i (by omega)]
    unfold setStep setBit
    cases hl : labelOk (l.getD i z88) with
    | false => simp [goOn]
    | true =>
      by_cases h0 : i = 0
      · subst h0; simp [goOn]
      · rw [if_pos rfl, if_pos (by omega), sub1 i (by omega) (by omega), if_pos (by omega), if_pos (by omega), rdnLabel, decide_eq_false h0]
        cases Op.bytesLess (l.getD (i - 1) z88).f0.toList (l.getD i z88).f0.toList <;> simp [goOn]
def labL (x : S88) : List UInt8 := x.f0.data.toList ++ [61, 34] ++ x.f1.data.toList ++ [34]
def setTail : Bool → List S88 → List UInt8
  | _, [] => []
  | first, x :: r => (if first then [] else [44, 32]) ++ labL x ++ setTail false r
def setText (l : List S88) : ByteArray := if setOk l = true then ⟨([123] ++ setTail true l ++ [125]).toArray⟩ else ⟨#[]⟩
theorem ba_ext {a b : ByteArray} (h : a.data.toList = b.data.toList) : a = b := by
  cases a; cases b
  simp only at h
  rw [Array.toList_inj.1 h]
theorem ba_app (a b : ByteArray) : (a ++ b).data.toList = a.data.toList ++ b.data.toList := by simp [ByteArray.data_append]
theorem ba_len (a : ByteArray) : a.size = a.data.toList.length := rfl
theorem ba_szapp (a b : ByteArray) : (a ++ b).size = a.size + b.size := by rw [ba_len, ba_app, List.length_append, ← ba_len, ← ba_len]
theorem setOk_len (l : List S88) (h : setOk l = true) : l.length ≤ 4 := by
  unfold setOk at h
  rw [Bool.and_eq_true] at h
  have := of_decide_eq_true h.1
  omega
theorem sz2 : (⟨#[44, 32]⟩ : ByteArray).size = 2 := rfl
theorem sz2' : (⟨#[61, 34]⟩ : ByteArray).size = 2 := rfl
theorem sz1 : (⟨#[34]⟩ : ByteArray).size = 1 := rfl
theorem sz1a : (⟨#[123]⟩ : ByteArray).size = 1 := rfl
theorem specText_go : ∀ (suf pre : List S88) (acc : ByteArray), pre.length + suf.length ≤ 4 → (∀ y ∈ suf, WiLabel y) → acc.size ≤ 1 + pre.length * 10000000 →
    Ev (fun k => spec_SetText.l0 k (pre ++ suf) acc (pre.length : Int)) ⟨(acc.data.toList ++ setTail (decide (pre.length = 0)) suf ++ [125]).toArray⟩
  | [], pre, acc, h1, h2, h3 => by
    refine ⟨1, fun k hk => ?_⟩
    obtain ⟨m, rfl⟩ : ∃ m, k = m + 1 := ⟨k - 1, by omega⟩
    simp only [spec_SetText.l0]
    rw [if_neg (not_lt_end pre), if_pos (by simp only [List.length_nil] at h1; omega)]
    refine congrArg some (ba_ext ?_)
    rw [ba_app]
    simp [setTail]
  | y :: suf, pre, acc, h1, h2, h3 => by
    simp only [List.length_cons] at h1
    have hy := h2 y List.mem_cons_self
    have hy0 := hy.1
    have hy1 := hy.2
    have ih := fun a ha => specText_go suf (pre ++ [y]) a (by simp only [List.length_append, List.length_singleton]; omega) (fun z hz => h2 z (List.mem_cons_of_mem _ hz)) ha
    simp only [List.append_assoc, List.singleton_append, List.length_append, List.length_singleton] at ih
    by_cases hp : pre.length = 0
    · obtain ⟨K, hK⟩ := ih ((((acc ++ y.f0) ++ (⟨#[61, 34]⟩ : ByteArray)) ++ y.f1) ++ (⟨#[34]⟩ : ByteArray)) (by simp only [ba_szapp, sz2', sz1]; omega)
      refine ⟨K + 1, fun k hk => ?_⟩
      obtain ⟨m, rfl⟩ : ∃ m, k = m + 1 := ⟨k - 1, by omega⟩
      have e := hK m (by omega)
      simp only at e
      simp only [spec_SetText.l0, rdmidLabeli]
      rw [if_pos (lt_mid pre suf y), if_neg (by omega), if_pos (by omega), if_pos (by omega), if_pos (by simp only [ba_szapp]; omega), if_pos (by simp only [ba_szapp, sz2']; omega), if_pos (by simp only [ba_szapp, sz2']; omega), wrap_up pre.length (by omega), e]
      refine congrArg some (ba_ext ?_)
      simp only [ba_app, setTail, labL, hp, decide_true, if_true, List.nil_append, List.append_assoc]
      simp [setTail]
    · obtain ⟨K, hK⟩ := ih (((((acc ++ (⟨#[44, 32]⟩ : ByteArray)) ++ y.f0) ++ (⟨#[61, 34]⟩ : ByteArray)) ++ y.f1) ++ (⟨#[34]⟩ : ByteArray)) (by simp only [ba_szapp, sz2', sz2, sz1]; omega)
      refine ⟨K + 1, fun k hk => ?_⟩
      obtain ⟨m, rfl⟩ : ∃ m, k = m + 1 := ⟨k - 1, by omega⟩
      have e := hK m (by omega)
      simp only at e
      simp only [spec_SetText.l0, rdmidLabeli]
      rw [if_pos (lt_mid pre suf y), if_pos (by omega), if_pos (by omega), if_pos (by omega), if_pos (by simp only [ba_szapp, sz2]; omega), if_pos (by simp only [ba_szapp, sz2]; omega), if_pos (by simp only [ba_szapp, sz2, sz2']; omega), if_pos (by simp only [ba_szapp, sz2, sz2']; omega), wrap_up pre.length (by omega), e]
      refine congrArg some (ba_ext ?_)
      simp only [ba_app, setTail, labL, decide_eq_false hp, if_false, List.append_assoc]
      simp [setTail]
theorem specSetText_ev (l : List S88) (h : l.length ≤ 4000000 ∧ ∀ y ∈ l, WiLabel y) : Ev (fun k => spec_SetText.f k l) (setText l) := by
  obtain ⟨K, hK⟩ := specSetOk_ev l h
  by_cases ho : setOk l = true
  · have hl := setOk_len l ho
    obtain ⟨K', hK'⟩ := specText_go l [] (⟨#[123]⟩ : ByteArray) (by simp; omega) h.2 (by simp [sz1a])
    refine ⟨K + K', fun k hk => ?_⟩
    have e := hK k (by omega)
    have e' := hK' k (by omega)
    simp only at e
    simp only [List.nil_append, List.length_nil] at e'
    simp only [spec_SetText.f, e, Option.bind_some, ho, if_true, setText]
    exact e'
  · refine ⟨K, fun k hk => ?_⟩
    have e := hK k hk
    simp only at e
    simp [spec_SetText.f, e, ho, setText]
/-- The parts, each a text. -/
def partB (x : S88) : ByteArray := ((x.f0 ++ (⟨#[61, 34]⟩ : ByteArray)) ++ x.f1) ++ (⟨#[34]⟩ : ByteArray)
theorem partB_l (x : S88) : (partB x).data.toList = labL x := by simp [partB, labL, ba_app]
theorem tail_join : ∀ l : List S88, Lib.joinTail [44, 32] ((l.map partB).map (·.data.toList)) = setTail false l
  | [] => rfl
  | x :: r => by
    have ih := tail_join r
    unfold Lib.joinTail at ih ⊢
    simp only [List.map_cons, List.flatten_cons, setTail, ih, partB_l]
    simp
theorem all_join (l : List S88) : Lib.join ((l.map partB).map (·.data.toList)) [44, 32] = setTail true l := by
  cases l with
  | nil => rfl
  | cons x r =>
    have := tail_join r
    simp only [List.map_cons, Lib.join_cons, setTail, this, partB_l]
    simp
theorem setTail_len : ∀ (b : Bool) (l : List S88), (∀ y ∈ l, WiLabel y) → (setTail b l).length ≤ l.length * 10000000
  | _, [], _ => by simp [setTail]
  | b, x :: r, h => by
    have ih := setTail_len false r (fun y hy => h y (List.mem_cons_of_mem _ hy))
    have h0 := h x List.mem_cons_self
    have h1 := h0.1
    have h2 := h0.2
    have e1 : x.f0.data.toList.length = x.f0.size := rfl
    have e2 : x.f1.data.toList.length = x.f1.size := rfl
    cases b
    · simp only [setTail, labL, List.length_append, List.length_cons, List.length_nil, e1, e2, Bool.false_eq_true, if_false]; omega
    · simp only [setTail, labL, List.length_append, List.length_cons, List.length_nil, e1, e2, if_true]; omega
theorem implText_go (l : List S88) (hl : l.length ≤ 4) (hw : ∀ y ∈ l, WiLabel y) : ∀ (suf pre : List S88), pre ++ suf = l →
    Ev (fun k => impl_SetText.l0 k (pre.map partB) l (l.length : Int) (pre.length : Int)) ⟨([123] ++ setTail true l ++ [125]).toArray⟩
  | [], pre, h => by
    refine ⟨1, fun k hk => ?_⟩
    obtain ⟨m, rfl⟩ : ∃ m, k = m + 1 := ⟨k - 1, by omega⟩
    rw [List.append_nil] at h
    subst h
    have hj := all_join pre
    have ht := setTail_len true pre hw
    have hs : strings_Join.f (pre.map partB) (⟨#[44, 32]⟩ : ByteArray) = some ⟨(setTail true pre).toArray⟩ := by
      unfold strings_Join.f
      rw [show (⟨#[44, 32]⟩ : ByteArray).data.toList = [44, 32] from rfl, hj, List.length_map, if_pos ⟨by omega, by omega⟩]
    have hz : (⟨(setTail true pre).toArray⟩ : ByteArray).size = (setTail true pre).length := by simp [ByteArray.size]
    simp only [impl_SetText.l0]
    rw [if_neg (by omega), hs, Option.bind_some, if_pos (by rw [hz]; omega), if_pos (by rw [ba_szapp, hz, sz1a]; omega)]
    refine congrArg some (ba_ext ?_)
    simp [ba_app]
  | y :: suf, pre, h => by
    obtain ⟨K, hK⟩ := implText_go l hl hw suf (pre ++ [y]) (by rw [← h]; simp)
    have hy := hw y (by rw [← h]; simp)
    have hy0 := hy.1
    have hy1 := hy.2
    have hlen : pre.length < l.length := by rw [← h]; simp
    refine ⟨K + 1, fun k hk => ?_⟩
    obtain ⟨m, rfl⟩ : ∃ m, k = m + 1 := ⟨k - 1, by omega⟩
    have e := hK m (by omega)
    simp only [List.map_append, List.map_cons, List.map_nil, List.length_append, List.length_singleton] at e
    have hr : rd_T88 l (pre.length : Int) = y := by rw [← h]; exact rdmidLabeli pre suf y
    simp only [impl_SetText.l0, hr]
    rw [if_pos (by omega), if_pos (by omega), if_pos (by omega), if_pos (by omega), if_pos (by simp only [ba_szapp, sz2']; omega), if_pos (by simp only [ba_szapp, sz2']; omega), if_pos (by rw [List.length_map]; omega), wrap_up pre.length (by omega)]
    exact e
theorem implSetText_ev (l : List S88) (h : l.length ≤ 4000000 ∧ ∀ y ∈ l, WiLabel y) : Ev (fun k => impl_SetText.f k l) (setText l) := by
  obtain ⟨K, hK⟩ := implSetOk_ev l h
  by_cases ho : setOk l = true
  · have hl := setOk_len l ho
    obtain ⟨K', hK'⟩ := implText_go l hl h.2 l [] rfl
    refine ⟨K + K', fun k hk => ?_⟩
    have e := hK k (by omega)
    have e' := hK' k (by omega)
    simp only at e
    simp only [List.map_nil, List.length_nil] at e'
    simp only [impl_SetText.f, e, Option.bind_some, ho, if_true, setText]
    exact e'
  · refine ⟨K, fun k hk => ?_⟩
    have e := hK k hk
    simp only at e
    simp [impl_SetText.f, e, ho, setText]
theorem setText_sz (l : List S88) (h : l.length ≤ 4000000 ∧ ∀ y ∈ l, WiLabel y) : (setText l).size < 4611686018427387904 := by
  unfold setText
  split
  · have := setTail_len true l h.2
    have h1 := h.1
    rw [ba_len]
    simp only [List.length_append, List.length_singleton]
    omega
  · simp [ByteArray.size]
/-- A sum's step. -/
def sumStep (n b : Int) : Int := ((Go.bits .xor .u32 n b) * 16777619) % 4294967296
def sumGo (s : ByteArray) : Nat → Nat → Int → Int
  | 0, _, n => n
  | d + 1, i, n => sumGo s d (i + 1) (sumStep n (bt s (i : Int)))
theorem xor_nat (k : IntKind) (j : Nat) (hj : j ≤ k.bits) (hk : ∀ n : Int, 0 ≤ n → n < 2 ^ j → k.wrap n = n) (a b : Nat) (ha : a < 2 ^ j) (hb : b < 2 ^ j) :
    Go.bits .xor k a b = ((a ^^^ b : Nat) : Int) := by
  have hp : 2 ^ j ≤ 2 ^ k.bits := Nat.pow_le_pow_right (by decide) hj
  have ha' : a % 2 ^ k.bits = a := Nat.mod_eq_of_lt (Nat.lt_of_lt_of_le ha hp)
  have hb' : b % 2 ^ k.bits = b := Nat.mod_eq_of_lt (Nat.lt_of_lt_of_le hb hp)
  have cast : ∀ n : Nat, n < 2 ^ j → ((n : Nat) : Int) < 2 ^ j := fun n h => by exact_mod_cast h
  simp only [Go.bits, BitVec.ofInt_natCast, BitVec.toNat_xor, BitVec.toNat_ofNat, ha', hb']
  exact hk _ (Int.natCast_nonneg _) (cast _ (Nat.xor_lt_two_pow ha hb))
theorem xor_both (n b : Int) (h0 : 0 ≤ n) (h1 : n < 4294967296) (h2 : 0 ≤ b) (h3 : b ≤ 255) : ∃ X : Nat, X < 4294967296 ∧ Go.bits .xor .u32 n b = (X : Int) ∧ Go.bits .xor .i64 n b = (X : Int) := by
  obtain ⟨a, rfl⟩ := Int.eq_ofNat_of_zero_le h0
  obtain ⟨c, rfl⟩ := Int.eq_ofNat_of_zero_le h2
  have ha : a < 2 ^ 32 := by omega
  have hc : c < 2 ^ 32 := by omega
  refine ⟨a ^^^ c, Nat.xor_lt_two_pow ha hc, ?_, ?_⟩
  · exact xor_nat .u32 32 (by decide) (fun n h h' => by rw [IntKind.wrap_u32]; omega) a c ha hc
  · exact xor_nat .i64 32 (by decide) (fun n h h' => by rw [IntKind.wrap_i64]; omega) a c ha hc
theorem sumStep_range (n b : Int) : 0 ≤ sumStep n b ∧ sumStep n b < 4294967296 := by unfold sumStep; omega
theorem step_spec (n b : Int) (h0 : 0 ≤ n) (h1 : n < 4294967296) (h2 : 0 ≤ b) (h3 : b ≤ 255) :
    Go.bits .and .i64 (wrap64 ((Go.bits .xor .i64 n (wrap64 b)) * 16777619)) 4294967295 = sumStep n b := by
  obtain ⟨X, hX, e1, e2⟩ := xor_both n b h0 h1 h2 h3
  unfold sumStep
  rw [wrap_id (x := b) (by omega) (by omega), e1, e2, wrap_id (by omega) (by omega)]
  exact bits_mask .i64 62 (by decide) (fun n h h' => by rw [IntKind.wrap_i64]; omega) 32 (by decide) _ (by omega) (by omega)
theorem step_impl (n b : Int) (h2 : 0 ≤ b) (h3 : b ≤ 255) : ((Go.bits .xor .u32 n (b % 4294967296)) * 16777619) % 4294967296 = sumStep n b := by
  rw [Int.emod_eq_of_lt h2 (by omega)]; rfl
theorem implSum_go (s : ByteArray) (h : s.size < 4611686018427387904) : ∀ d i n, d + i = s.size → 0 ≤ n → n < 4294967296 → Ev (fun k => impl_Sum.l0 k s n (i : Int)) (sumGo s d i n)
  | 0, i, n, hd, h0, h1 => by
    refine ⟨1, fun k hk => ?_⟩
    obtain ⟨m, rfl⟩ : ∃ m, k = m + 1 := ⟨k - 1, by omega⟩
    simp only [impl_Sum.l0, sumGo]
    rw [if_neg (by omega), wrap_id (by omega) (by omega)]
  | d + 1, i, n, hd, h0, h1 => by
    have hr := sumStep_range n (bt s (i : Int))
    obtain ⟨K, hK⟩ := implSum_go s h d (i + 1) (sumStep n (bt s (i : Int))) (by omega) hr.1 hr.2
    refine ⟨K + 1, fun k hk => ?_⟩
    obtain ⟨m, rfl⟩ : ∃ m, k = m + 1 := ⟨k - 1, by omega⟩
    have e := hK m (by omega)
    have hb := bt_range s (i : Int)
    simp only [impl_Sum.l0, sumGo]
    rw [if_pos (by omega), if_pos (by omega), step_impl n _ hb.1 hb.2, wrap_up i (by omega)]
    exact e
theorem specSum_go (s : ByteArray) (h : s.size < 4611686018427387904) : ∀ d i n, d + i = s.size → 0 ≤ n → n < 4294967296 → Ev (fun k => spec_Sum.l0 k s n (i : Int)) (sumGo s d i n)
  | 0, i, n, hd, h0, h1 => by
    refine ⟨1, fun k hk => ?_⟩
    obtain ⟨m, rfl⟩ : ∃ m, k = m + 1 := ⟨k - 1, by omega⟩
    simp only [spec_Sum.l0, sumGo]
    rw [if_neg (by omega)]
  | d + 1, i, n, hd, h0, h1 => by
    have hr := sumStep_range n (bt s (i : Int))
    obtain ⟨K, hK⟩ := specSum_go s h d (i + 1) (sumStep n (bt s (i : Int))) (by omega) hr.1 hr.2
    refine ⟨K + 1, fun k hk => ?_⟩
    obtain ⟨m, rfl⟩ : ∃ m, k = m + 1 := ⟨k - 1, by omega⟩
    have e := hK m (by omega)
    have hb := bt_range s (i : Int)
    simp only [spec_Sum.l0, sumGo]
    rw [if_pos (by omega), if_pos (by omega), step_spec n _ h0 h1 hb.1 hb.2, wrap_up i (by omega)]
    exact e
def sumOf (s : ByteArray) : Int := sumGo s s.size 0 2166136261
def fingerOf (l : List S88) : Int := Int.tmod (Go.bits .xor .i64 (sumOf (setText l)) (sumOf (setText l) / 65536)) 32
theorem implFinger_ev (l : List S88) (h : l.length ≤ 4000000 ∧ ∀ y ∈ l, WiLabel y) : Ev (fun k => impl_Finger.f k l) (fingerOf l) := by
  obtain ⟨K, g⟩ := implSetText_ev l h
  obtain ⟨K', g'⟩ := implSum_go (setText l) (setText_sz l h) (setText l).size 0 2166136261 (by omega) (by omega) (by omega)
  refine ⟨K + K', fun k hk => ?_⟩
  have e := g k (by omega)
  have e' := g' k (by omega)
  simp only at e e'
  simp only [impl_Finger.f, impl_Sum.f, e, Option.bind_some, show ((0 : Nat) : Int) = 0 from rfl] at e' ⊢
  rw [e', Option.bind_some]; rfl
theorem specFinger_ev (l : List S88) (h : l.length ≤ 4000000 ∧ ∀ y ∈ l, WiLabel y) : Ev (fun k => spec_Finger.f k l) (fingerOf l) := by
  obtain ⟨K, g⟩ := specSetText_ev l h
  obtain ⟨K', g'⟩ := specSum_go (setText l) (setText_sz l h) (setText l).size 0 2166136261 (by omega) (by omega) (by omega)
  refine ⟨K + K', fun k hk => ?_⟩
  have e := g k (by omega)
  have e' := g' k (by omega)
  simp only at e e'
  simp only [spec_Finger.f, spec_Sum.f, e, Option.bind_some, show ((0 : Nat) : Int) = 0 from rfl] at e' ⊢
  rw [e', Option.bind_some]; rfl
theorem specL4Copy_ev (x : S43) (h : x.f0.length ≤ 5000000) : spec_l4Copy.f x.f0 x.f1 x.f2 x.f3 = some (x.f0, x.f1, x.f2, x.f3) := by
  simp only [spec_l4Copy.f, Option.bind_some, List.nil_append, List.length_nil]
  exact if_pos (by omega)
theorem implCopySet_ev (l : List S88) (h : l.length ≤ 5000000) : impl_copySet.f l = some l := by
  simp only [impl_copySet.f, List.nil_append, List.length_nil]
  exact if_pos (by omega)
theorem implCopyAlarm_ev (x : S43) (h : x.f0.length ≤ 5000000) : impl_copyAlarm.f x.f0 x.f1 x.f2 x.f3 = some (x.f0, x.f1, x.f2, x.f3) := by
  simp only [impl_copyAlarm.f, implCopySet_ev x.f0 h, Option.bind_some]
theorem rdnChainF (l : List S100) (i : Nat) : rd_T100 l (i : Int) = l.getD i z100 := by unfold rd_T100; simp
theorem place_lt {α : Type} (p : α → Bool) : ∀ (l : List α) (i : Nat), place p l i < (i : Int) + l.length ∨ place p l i = -1
  | [], i => .inr rfl
  | x :: l, i => by
    unfold place
    split
    · left; simp only [List.length_cons]; omega
    · rcases place_lt p l (i + 1) with h | h
      · left; simp only [List.length_cons]; omega
      · exact .inr h
def chainAt (l : List S100) (f : Int) : Int := place (fun c => decide (c.f0 = f)) l 0
theorem implChainOf_ev (p : S57) (f : Int) (h : p.f2.length ≤ 4000001) : Ev (fun k => impl_chainOf.f k p.f0 p.f1 p.f2 f) (chainAt p.f2 f) := by
  unfold impl_chainOf.f chainAt
  rw [← scan_place0 (fun c : S100 => decide (c.f0 = f)) z100 p.f2]
  refine scan_ev (F := fun k i => impl_chainOf.l0 k f p.f2 (p.f2.length : Int) i) (n := p.f2.length) (fun k => ?_) (fun i hi => ?_) p.f2.length 0 (by omega)
  · simp only [impl_chainOf.l0]; rw [if_neg (by omega)]
  · refine ⟨0, fun k _ => ?_⟩
    simp only [impl_chainOf.l0]
    rw [if_pos (by omega), if_pos (by omega), if_pos (by omega), rdnChainF, wrap_up i (by omega)]
    by_cases c : (p.f2.getD i z100).f0 = f
    · rw [if_pos c]; simp only [decide_eq_true c, if_true, goOn]
    · rw [if_neg c]; simp only [decide_eq_false c, Bool.false_eq_true, if_false, goOn]
theorem specL7At_ev (p : S57) (f : Int) (h : p.f2.length ≤ 4000001) : Ev (fun k => spec_l7At.f k p.f0 p.f1 p.f2 f) (chainAt p.f2 f) := by
  unfold spec_l7At.f chainAt
  rw [← scan_place0 (fun c : S100 => decide (c.f0 = f)) z100 p.f2]
  refine scan_ev (F := fun k i => spec_l7At.l0 k f i p.f0 p.f1 p.f2) (n := p.f2.length) (fun k => ?_) (fun i hi => ?_) p.f2.length 0 (by omega)
  · simp only [spec_l7At.l0]; rw [if_neg (by omega)]
  · refine ⟨0, fun k _ => ?_⟩
    simp only [spec_l7At.l0]
    rw [if_pos (by omega), if_pos (by omega), rdnChainF, wrap_up i (by omega)]
    by_cases c : (p.f2.getD i z100).f0 = f
    · rw [if_pos c]; simp only [decide_eq_true c, if_true, goOn]
    · rw [if_neg c]; simp only [decide_eq_false c, Bool.false_eq_true, if_false, goOn]
theorem implInChain_ev (c : S100) (s : List S88) (h : c.f1.length ≤ 4000000 ∧ ∀ y ∈ c.f1, WiAlarm y) : Ev (fun k => impl_InChain.f k c.f0 c.f1 s) (labelsAt c.f1 s) := by
  obtain ⟨K, g⟩ := implLabelsAt_ev c.f1 s h
  exact ⟨K, fun k hk => by simp only [impl_InChain.f, g k hk, Option.bind_some]⟩
theorem specInChain_ev (c : S100) (s : List S88) (h : c.f1.length ≤ 4000000 ∧ ∀ y ∈ c.f1, WiAlarm y) : Ev (fun k => spec_InChain.f k c.f0 c.f1 s) (labelsAt c.f1 s) := by
  have h1 := h.1
  unfold spec_InChain.f labelsAt
  rw [← scan_place0 (fun a : S43 => sameSet a.f0 s) z43 c.f1]
  refine scan_ev (F := fun k i => spec_InChain.l0 k s i c.f0 c.f1) (n := c.f1.length) (fun k => ?_) (fun i hi => ?_) c.f1.length 0 (by omega)
  · simp only [spec_InChain.l0]; rw [if_neg (by omega)]
  · have hw := (h.2 _ (getD_mem c.f1 i z43 hi)).1.1
    obtain ⟨K, g⟩ := specSameSet_ev (c.f1.getD i z43).f0 s (by omega)
    refine ⟨K, fun k hk => ?_⟩
    have e := g k hk
    simp only at e
    simp only [spec_InChain.l0]
    rw [if_pos (by omega), if_pos (by omega), rdnAlarm, e, Option.bind_some, wrap_up i (by omega)]
    cases sameSet (c.f1.getD i z43).f0 s <;> simp [goOn]
theorem specL4All_l0 : ∀ (suf pre : List S43), (pre ++ suf).length ≤ 5000000 → (∀ y ∈ suf, y.f0.length ≤ 5000000) → Ev (fun k => spec_l4All.l0 k (pre ++ suf) pre (pre.length : Int)) (pre ++ suf)
  | [], pre, h, hW => by
    refine Ev.step (f := fun _ => some (pre ++ [])) (fun k => ?_) (Ev.now _)
    simp only [spec_l4All.l0]
    rw [if_neg (not_lt_end pre), List.append_nil]
  | y :: suf, pre, h, hW => by
    have ih := specL4All_l0 suf (pre ++ [y]) (by simpa using h) (fun z hz => hW z (List.mem_cons_of_mem _ hz))
    have hp : pre.length < 5000000 := by simp at h; omega
    refine Ev.step (f := fun k => spec_l4All.l0 k ((pre ++ [y]) ++ suf) (pre ++ [y]) ((pre ++ [y]).length : Int)) (fun k => ?_) (by rw [mid_assoc pre suf y]; exact ih)
    simp only [spec_l4All.l0]
    rw [if_pos (lt_mid pre suf y)]
    simp only [nn, if_true, rdmmAlarm, specL4Copy_ev y (hW y List.mem_cons_self), Option.bind_some, wrap_up pre.length (by omega)]
    rw [if_pos (by omega)]
    congr 1
    · simp
    · simp
theorem specL4All_ev (l : List S43) (h : l.length ≤ 5000000) (hW : ∀ y ∈ l, y.f0.length ≤ 5000000) : Ev (fun k => spec_l4All.f k l) l :=
  Ev.congr (fun k => by unfold spec_l4All.f; rfl) (specL4All_l0 l [] (by simpa using h) hW)
theorem implCopyAlarms_l0 : ∀ (suf pre : List S43), (pre ++ suf).length ≤ 5000000 → (∀ y ∈ suf, y.f0.length ≤ 5000000) → Ev (fun k => impl_copyAlarms.l0 k pre (pre ++ suf) ((pre ++ suf).length : Int) (pre.length : Int)) (pre ++ suf)
  | [], pre, h, hW => by
    refine Ev.step (f := fun _ => some (pre ++ [])) (fun k => ?_) (Ev.now _)
    simp only [impl_copyAlarms.l0]
    rw [if_neg (by simp), List.append_nil]
  | y :: suf, pre, h, hW => by
    have ih := implCopyAlarms_l0 suf (pre ++ [y]) (by simpa using h) (fun z hz => hW z (List.mem_cons_of_mem _ hz))
    have hp : pre.length < 5000000 := by simp at h; omega
    refine Ev.step (f := fun k => impl_copyAlarms.l0 k (pre ++ [y]) ((pre ++ [y]) ++ suf) (((pre ++ [y]) ++ suf).length : Int) ((pre ++ [y]).length : Int)) (fun k => ?_) (by rw [mid_assoc pre suf y]; exact ih)
    simp only [impl_copyAlarms.l0]
    rw [if_pos (lt_mid pre suf y)]
    simp only [nn, if_true, rdmmAlarm, implCopyAlarm_ev y (hW y List.mem_cons_self), Option.bind_some, wrap_up pre.length (by omega)]
    rw [if_pos (lt_mid pre suf y), if_pos (by omega)]
    congr 1
    · simp
    · simp
    · simp
theorem implCopyAlarms_ev (l : List S43) (h : l.length ≤ 5000000) (hW : ∀ y ∈ l, y.f0.length ≤ 5000000) : Ev (fun k => impl_copyAlarms.f k l) l :=
  Ev.congr (fun k => by unfold impl_copyAlarms.f; rfl) (implCopyAlarms_l0 l [] (by simpa using h) hW)
def mergeA (a b : S43) : S43 := if a.f1 ≤ b.f2 then (if b.f1 ≤ a.f2 then ⟨b.f0, mn a.f1 b.f1, b.f2, b.f3⟩ else b) else b
theorem least_mn (x y : Int) : spec_Least.f x y = some (mn x y) := by unfold spec_Least.f mn; split <;> rfl
theorem implMerge_ev (a b : S43) (h : b.f0.length ≤ 5000000) : impl_Merge.f a.f0 a.f1 a.f2 a.f3 b.f0 b.f1 b.f2 b.f3 = some ((mergeA a b).f0, (mergeA a b).f1, (mergeA a b).f2, (mergeA a b).f3) := by
  simp only [impl_Merge.f, impl_Touch.f, implCopyAlarm_ev b h, Option.bind_some, mergeA]
  by_cases c : a.f1 ≤ b.f2
  · by_cases c2 : b.f1 ≤ a.f2
    · simp [c, c2]
    · simp [c, c2]
  · simp [c]
theorem specMerge_ev (a b : S43) (h : b.f0.length ≤ 5000000) : spec_Merge.f a.f0 a.f1 a.f2 a.f3 b.f0 b.f1 b.f2 b.f3 = some ((mergeA a b).f0, (mergeA a b).f1, (mergeA a b).f2, (mergeA a b).f3) := by
  simp only [spec_Merge.f, spec_Touch.f, specL4Copy_ev b h, Option.bind_some, mergeA, least_mn]
  by_cases c : a.f1 ≤ b.f2
  · by_cases c2 : b.f1 ≤ a.f2
    · simp [c, c2]
    · simp [c, c2]
  · simp [c]
theorem mergeA_f0 (a b : S43) : (mergeA a b).f0 = b.f0 := by unfold mergeA; split <;> (try split) <;> rfl
theorem mergeA_wi {a b : S43} (h : WiAlarm b) : WiAlarm (mergeA a b) := by
  unfold mergeA
  split
  · split
    · exact ⟨h.1, trivial, trivial, h.2.2.2⟩
    · exact h
  · exact h
theorem labelsAt_end (l : List S43) (s : List S88) (h : labelsAt l s ≥ 0) : labelsAt l s < (l.length : Int) := by
  have := place_lt (fun a : S43 => sameSet a.f0 s) l 0
  unfold labelsAt at *
  omega
theorem chainAt_end (l : List S100) (f : Int) (h : chainAt l f ≥ 0) : chainAt l f < (l.length : Int) := by
  have := place_lt (fun c : S100 => decide (c.f0 = f)) l 0
  unfold chainAt at *
  omega
/-- An alarm put into a chain: in place of the one of its labels, or behind all. -/
def putChain (c : S100) (a : S43) : S100 × Bool :=
  if labelsAt c.f1 a.f0 ≥ 0 then (⟨c.f0, c.f1.set (labelsAt c.f1 a.f0).toNat (mergeA (c.f1.getD (labelsAt c.f1 a.f0).toNat z43) a)⟩, false) else (⟨c.f0, c.f1 ++ [a]⟩, true)
theorem okC {l : List S43} (h : l.length ≤ 4000000 ∧ ∀ y ∈ l, WiAlarm y) : l.length ≤ 5000000 ∧ ∀ y ∈ l, y.f0.length ≤ 5000000 := ⟨by omega, fun y hy => Nat.le_trans (h.2 y hy).1.1 (by decide)⟩
theorem implPutChain_ev (c : S100) (a : S43) (h : WiChain c) (ha : WiAlarm a) : Ev (fun k => impl_PutChain.f k c.f0 c.f1 a.f0 a.f1 a.f2 a.f3) ((putChain c a).1.f0, (putChain c a).1.f1, (putChain c a).2) := by
  obtain ⟨K1, g1⟩ := implCopyAlarms_ev c.f1 (okC h.2).1 (okC h.2).2
  obtain ⟨K2, g2⟩ := implInChain_ev c a.f0 h.2
  have ho : a.f0.length ≤ 5000000 := Nat.le_trans ha.1.1 (by decide)
  have hlt := labelsAt_end c.f1 a.f0
  have hl := h.2.1
  refine ⟨K1 + K2, fun k hk => ?_⟩
  have e1 := g1 k (by omega)
  have e2 := g2 k (by omega)
  simp only at e1 e2
  simp only [impl_PutChain.f, impl_copyChain.f, e1, Option.bind_some, e2]
  unfold putChain
  by_cases c0 : labelsAt c.f1 a.f0 ≥ 0
  · rw [if_pos c0, if_pos c0, if_pos (hlt c0)]
    unfold rd_T43
    rw [implMerge_ev _ a ho]
    simp only [Option.bind_some]
    rw [if_pos (hlt c0), if_pos c0]
  · rw [if_neg c0, implCopyAlarm_ev a ho]
    simp only [Option.bind_some]
    rw [if_pos (by omega), if_neg c0]
theorem specPutChain_ev (c : S100) (a : S43) (h : WiChain c) (ha : WiAlarm a) : Ev (fun k => spec_PutChain.f k c.f0 c.f1 a.f0 a.f1 a.f2 a.f3) ((putChain c a).1.f0, (putChain c a).1.f1, (putChain c a).2) := by
  obtain ⟨K1, g1⟩ := specL4All_ev c.f1 (okC h.2).1 (okC h.2).2
  obtain ⟨K2, g2⟩ := specInChain_ev c a.f0 h.2
  have ho : a.f0.length ≤ 5000000 := Nat.le_trans ha.1.1 (by decide)
  have hlt := labelsAt_end c.f1 a.f0
  have hl := h.2.1
  refine ⟨K1 + K2, fun k hk => ?_⟩
  have e1 := g1 k (by omega)
  have e2 := g2 k (by omega)
  simp only at e1 e2
  simp only [spec_PutChain.f, spec_l6Copy.f, e1, Option.bind_some, e2]
  unfold putChain
  by_cases c0 : labelsAt c.f1 a.f0 ≥ 0
  · rw [if_neg (by omega), if_pos c0, if_pos (hlt c0)]
    unfold rd_T43
    rw [specMerge_ev _ a ho]
    simp only [Option.bind_some]
    rw [if_pos (hlt c0), if_pos c0]
  · rw [if_pos (by omega), specL4Copy_ev a ho]
    simp only [Option.bind_some]
    rw [if_pos (by omega), if_neg c0]
theorem implCopyPart_l0 (o0 o1 : Int) : ∀ (suf pre acc : List S100), (pre ++ suf).length ≤ 5000000 → acc.length = pre.length → (∀ y ∈ suf, WiChain y) →
    Ev (fun k => impl_copyPart.l0 k (pre ++ suf) ((pre ++ suf).length : Int) (pre.length : Int) o0 o1 acc) (o0, o1, acc ++ suf)
  | [], pre, acc, h, hl, hW => by
    refine Ev.step (f := fun _ => some (o0, o1, acc ++ ([] : List S100))) (fun k => ?_) (Ev.now _)
    simp only [impl_copyPart.l0]
    rw [if_neg (by simp)]
    simp
  | y :: suf, pre, acc, h, hl, hW => by
    obtain ⟨K, g⟩ := implCopyPart_l0 o0 o1 suf (pre ++ [y]) (acc ++ [y]) (by simpa using h) (by simp [hl]) (fun z hz => hW z (List.mem_cons_of_mem _ hz))
    obtain ⟨K2, g2⟩ := implCopyAlarms_ev y.f1 (okC (hW y List.mem_cons_self).2).1 (okC (hW y List.mem_cons_self).2).2
    have hp : pre.length < 5000000 := by simp at h; omega
    refine ⟨K + K2 + 1, fun k hk => ?_⟩
    obtain ⟨k, rfl⟩ : ∃ m, k = m + 1 := ⟨k - 1, by omega⟩
    have e := g k (by omega)
    have e2 := g2 k (by omega)
    simp only at e e2
    rw [← mid_assoc pre suf y] at e
    simp only [impl_copyPart.l0, impl_copyChain.f]
    rw [if_pos (lt_mid pre suf y)]
    simp only [nn, if_true, rdmmChain, wrap_up pre.length (by omega)]
    rw [if_pos (lt_mid pre suf y), e2]
    simp only [Option.bind_some]
    rw [if_pos (by omega), show ((pre.length + 1 : Nat) : Int) = ((pre ++ [y]).length : Int) by simp, e]
    simp
theorem implCopyPart_ev (p : S57) (h : WiPart p) : Ev (fun k => impl_copyPart.f k p.f0 p.f1 p.f2) (p.f0, p.f1, p.f2) :=
  Ev.congr (fun k => by unfold impl_copyPart.f; rfl) (by simpa using implCopyPart_l0 p.f0 p.f1 p.f2 [] [] (by have := h.2.2.1; simp; omega) rfl h.2.2.2)
theorem specCopyPart_l0 (q0 q1 o0 o1 : Int) : ∀ (suf pre acc : List S100), (pre ++ suf).length ≤ 5000000 → acc.length = pre.length → (∀ y ∈ suf, WiChain y) →
    Ev (fun k => spec_l7Copy.l0 k (pre.length : Int) q0 q1 (pre ++ suf) o0 o1 acc) (o0, o1, acc ++ suf)
  | [], pre, acc, h, hl, hW => by
    refine Ev.step (f := fun _ => some (o0, o1, acc ++ ([] : List S100))) (fun k => ?_) (Ev.now _)
    simp only [spec_l7Copy.l0]
    rw [if_neg (not_lt_end pre)]
    simp
  | y :: suf, pre, acc, h, hl, hW => by
    obtain ⟨K, g⟩ := specCopyPart_l0 q0 q1 o0 o1 suf (pre ++ [y]) (acc ++ [y]) (by simpa using h) (by simp [hl]) (fun z hz => hW z (List.mem_cons_of_mem _ hz))
    obtain ⟨K2, g2⟩ := specL4All_ev y.f1 (okC (hW y List.mem_cons_self).2).1 (okC (hW y List.mem_cons_self).2).2
    have hp : pre.length < 5000000 := by simp at h; omega
    refine ⟨K + K2 + 1, fun k hk => ?_⟩
    obtain ⟨k, rfl⟩ : ∃ m, k = m + 1 := ⟨k - 1, by omega⟩
    have e := g k (by omega)
    have e2 := g2 k (by omega)
    simp only at e e2
    rw [← mid_assoc pre suf y] at e
    simp only [spec_l7Copy.l0, spec_l6Copy.f]
    rw [if_pos (lt_mid pre suf y)]
    simp only [nn, if_true, rdmmChain, wrap_up pre.length (by omega)]
    rw [e2]
    simp only [Option.bind_some]
    rw [if_pos (by omega), show ((pre.length + 1 : Nat) : Int) = ((pre ++ [y]).length : Int) by simp, e]
    simp
theorem specCopyPart_ev (p : S57) (h : WiPart p) : Ev (fun k => spec_l7Copy.f k p.f0 p.f1 p.f2) (p.f0, p.f1, p.f2) :=
  Ev.congr (fun k => by unfold spec_l7Copy.f; rfl) (by simpa using specCopyPart_l0 p.f0 p.f1 p.f0 p.f1 p.f2 [] [] (by have := h.2.2.1; simp; omega) rfl h.2.2.2)
/-- How many stand ahead of the first one that a question denies. -/
def firstNot {α : Type} (p : α → Bool) : List α → Nat
  | [] => 0
  | x :: l => if p x = true then firstNot p l + 1 else 0
theorem firstNot_congr {α : Type} (p q : α → Bool) : ∀ l : List α, (∀ x ∈ l, p x = q x) → firstNot p l = firstNot q l
  | [], _ => rfl
  | x :: l, h => by unfold firstNot; rw [h x List.mem_cons_self, firstNot_congr p q l (fun y hy => h y (List.mem_cons_of_mem _ hy))]
def insC (l : List S100) (f : Int) (a : S43) (i : Nat) : List S100 := ((([] : List S100) ++ l.take i) ++ [⟨f, [a]⟩]) ++ l.drop i
theorem insC_length (l : List S100) (f : Int) (a : S43) (i : Nat) : (insC l f a i).length = l.length + 1 := by
  unfold insC; simp only [List.length_append, List.length_take, List.length_drop, List.length_singleton, List.length_nil]; omega
theorem insC_mem {l : List S100} {f : Int} {a : S43} {i : Nat} {y : S100} (h : y ∈ insC l f a i) : y ∈ l ∨ y = ⟨f, [a]⟩ := by
  unfold insC at h
  rcases List.mem_append.1 h with h | h
  · rcases List.mem_append.1 h with h | h
    · rcases List.mem_append.1 h with h | h
      · simp at h
      · exact .inl (List.mem_of_mem_take h)
    · exact .inr (List.mem_singleton.1 h)
  · exact .inl (List.mem_of_mem_drop h)
theorem specPut_j1 (f : Int) (a : S43) (q0 q1 : Int) (ql : List S100) (o0 o1 : Int) (ha : a.f0.length ≤ 5000000) (l : List S100) (i : Nat) (hi : i ≤ l.length) (hl : l.length ≤ 5000000) (k : Nat) :
    spec_PutIn.j1 (k + 1) f (i : Int) false q0 q1 ql a.f0 a.f1 a.f2 a.f3 o0 o1 l = some (o0, o1, insC l f a i, true) := by
  simp only [spec_PutIn.j1]
  rw [if_neg (by decide)]
  simp only [specL4Copy_ev a ha, Option.bind_some, nn, if_true, Int.toNat_natCast]
  rw [if_pos (by omega), if_pos (by simp only [List.length_append, List.length_take, List.length_nil]; omega), if_pos (by simp only [List.length_append, List.length_take, List.length_nil]; omega), if_pos (by simp only [List.length_append, List.length_take, List.length_drop, List.length_nil, List.length_singleton]; omega)]
  rfl
theorem specPut_l0 (f : Int) (a : S43) (q0 q1 : Int) (o0 o1 : Int) (ha : a.f0.length ≤ 5000000) : ∀ (suf pre : List S100), (pre ++ suf).length ≤ 5000000 →
    Ev (fun k => spec_PutIn.l0 k f (pre.length : Int) q0 q1 (pre ++ suf) a.f0 a.f1 a.f2 a.f3 o0 o1 (pre ++ suf)) (o0, o1, insC (pre ++ suf) f a (pre.length + firstNot (fun c : S100 => decide (c.f0 < f)) suf), true)
  | [], pre, h => by
    refine ⟨2, fun k hk => ?_⟩
    obtain ⟨k, rfl⟩ : ∃ m, k = m + 2 := ⟨k - 2, by omega⟩
    simp only [spec_PutIn.l0]
    rw [if_neg (not_lt_end pre)]
    exact specPut_j1 f a q0 q1 (pre ++ []) o0 o1 ha (pre ++ []) pre.length (by simp) h k
  | y :: suf, pre, h => by
    have hl : pre.length < 5000000 := by simp at h; omega
    by_cases c : y.f0 < f
    · obtain ⟨K, g⟩ := specPut_l0 f a q0 q1 o0 o1 ha suf (pre ++ [y]) (by simpa using h)
      refine ⟨K + 2, fun k hk => ?_⟩
      obtain ⟨k, rfl⟩ : ∃ m, k = m + 2 := ⟨k - 2, by omega⟩
      have e := g k (by omega)
      simp only at e
      rw [← mid_assoc pre suf y] at e
      simp only [spec_PutIn.l0]
      rw [if_pos (lt_mid pre suf y)]
      simp only [nn, if_true, rdmmChain]
      rw [decide_eq_true c]
      simp only [spec_PutIn.j1, if_true, wrap_up pre.length (by omega)]
      rw [show ((pre.length + 1 : Nat) : Int) = ((pre ++ [y]).length : Int) by simp, e]
      simp only [firstNot, decide_eq_true c, if_true, List.length_append, List.length_singleton]
      rw [show pre.length + 1 + firstNot (fun c : S100 => decide (c.f0 < f)) suf = pre.length + (firstNot (fun c : S100 => decide (c.f0 < f)) suf + 1) by omega]
    · refine ⟨2, fun k hk => ?_⟩
      obtain ⟨k, rfl⟩ : ∃ m, k = m + 2 := ⟨k - 2, by omega⟩
      simp only [spec_PutIn.l0]
      rw [if_pos (lt_mid pre suf y)]
      simp only [nn, if_true, rdmmChain]
      rw [decide_eq_false c, specPut_j1 f a q0 q1 (pre ++ y :: suf) o0 o1 ha (pre ++ y :: suf) pre.length (by simp) h k]
      simp only [firstNot, decide_eq_false c, Bool.false_eq_true, if_false, Nat.add_zero]
theorem implPut_j1 (f : Int) (a : S43) (o0 o1 : Int) (ha : a.f0.length ≤ 5000000) (l : List S100) (i : Nat) (hi : i ≤ l.length) (hl : l.length ≤ 5000000) (k : Nat) :
    impl_PutIn.j1 (k + 1) f (i : Int) false a.f0 a.f1 a.f2 a.f3 o0 o1 l = some (o0, o1, insC l f a i, true) := by
  simp only [impl_PutIn.j1]
  rw [if_neg (by decide)]
  simp only [implCopyAlarm_ev a ha, Option.bind_some, nn, if_true, Int.toNat_natCast]
  rw [if_pos (by omega), if_pos (by simp only [List.length_append, List.length_take, List.length_nil]; omega), if_pos (by simp only [List.length_append, List.length_take, List.length_nil]; omega), if_pos (by simp only [List.length_append, List.length_take, List.length_drop, List.length_nil, List.length_singleton]; omega)]
  rfl
theorem implPut_l0 (f : Int) (a : S43) (o0 o1 : Int) (ha : a.f0.length ≤ 5000000) : ∀ (suf pre : List S100), (pre ++ suf).length ≤ 5000000 →
    Ev (fun k => impl_PutIn.l0 k f (pre.length : Int) a.f0 a.f1 a.f2 a.f3 o0 o1 (pre ++ suf)) (o0, o1, insC (pre ++ suf) f a (pre.length + firstNot (fun c : S100 => decide (c.f0 ≤ f)) suf), true)
  | [], pre, h => by
    refine ⟨2, fun k hk => ?_⟩
    obtain ⟨k, rfl⟩ : ∃ m, k = m + 2 := ⟨k - 2, by omega⟩
    simp only [impl_PutIn.l0]
    rw [if_neg (not_lt_end pre)]
    exact implPut_j1 f a  o0 o1 ha (pre ++ []) pre.length (by simp) h k
  | y :: suf, pre, h => by
    have hl : pre.length < 5000000 := by simp at h; omega
    by_cases c : y.f0 ≤ f
    · obtain ⟨K, g⟩ := implPut_l0 f a o0 o1 ha suf (pre ++ [y]) (by simpa using h)
      refine ⟨K + 2, fun k hk => ?_⟩
      obtain ⟨k, rfl⟩ : ∃ m, k = m + 2 := ⟨k - 2, by omega⟩
      have e := g k (by omega)
      simp only at e
      rw [← mid_assoc pre suf y] at e
      simp only [impl_PutIn.l0]
      rw [if_pos (lt_mid pre suf y)]
      simp only [nn, if_true, rdmmChain]
      rw [decide_eq_true c]
      simp only [impl_PutIn.j1, if_true, wrap_up pre.length (by omega)]
      rw [show ((pre.length + 1 : Nat) : Int) = ((pre ++ [y]).length : Int) by simp, e]
      simp only [firstNot, decide_eq_true c, if_true, List.length_append, List.length_singleton]
      rw [show pre.length + 1 + firstNot (fun c : S100 => decide (c.f0 ≤ f)) suf = pre.length + (firstNot (fun c : S100 => decide (c.f0 ≤ f)) suf + 1) by omega]
    · refine ⟨2, fun k hk => ?_⟩
      obtain ⟨k, rfl⟩ : ∃ m, k = m + 2 := ⟨k - 2, by omega⟩
      simp only [impl_PutIn.l0]
      rw [if_pos (lt_mid pre suf y)]
      simp only [nn, if_true, rdmmChain]
      rw [decide_eq_false c, implPut_j1 f a  o0 o1 ha (pre ++ y :: suf) pre.length (by simp) h k]
      simp only [firstNot, decide_eq_false c, Bool.false_eq_true, if_false, Nat.add_zero]
def putIn (p : S57) (a : S43) : S57 × Bool :=
  if chainAt p.f2 (fingerOf a.f0) ≥ 0 then (⟨p.f0, wrap64 (p.f1 + 1), p.f2.set (chainAt p.f2 (fingerOf a.f0)).toNat (putChain (p.f2.getD (chainAt p.f2 (fingerOf a.f0)).toNat z100) a).1⟩, (putChain (p.f2.getD (chainAt p.f2 (fingerOf a.f0)).toNat z100) a).2)
  else (⟨p.f0, wrap64 (p.f1 + 1), insC p.f2 (fingerOf a.f0) a (firstNot (fun c : S100 => decide (c.f0 < fingerOf a.f0)) p.f2)⟩, true)
theorem getD_wi {l : List S100} (h : ∀ y ∈ l, WiChain y) {i : Int} (h0 : 0 ≤ i) (h1 : i < (l.length : Int)) : WiChain (l.getD i.toNat z100) := h _ (getD_mem l i.toNat z100 (by omega))
theorem implPutIn_ev (p : S57) (a : S43) (h : WiPart p) (ha : WiAlarm a) : Ev (fun k => impl_PutIn.f k p.f0 p.f1 p.f2 a.f0 a.f1 a.f2 a.f3) ((putIn p a).1.f0, (putIn p a).1.f1, (putIn p a).1.f2, (putIn p a).2) := by
  have hl := h.2.2.1
  have ho : a.f0.length ≤ 5000000 := Nat.le_trans ha.1.1 (by decide)
  have hlt := chainAt_end p.f2 (fingerOf a.f0)
  obtain ⟨K1, g1⟩ := implCopyPart_ev p h
  obtain ⟨K2, g2⟩ := implFinger_ev a.f0 ha.1
  obtain ⟨K3, g3⟩ := implChainOf_ev p (fingerOf a.f0) (by omega)
  obtain ⟨K5, g5⟩ := implPut_l0 (fingerOf a.f0) a p.f0 (wrap64 (p.f1 + 1)) ho p.f2 [] (by simp; omega)
  by_cases c : chainAt p.f2 (fingerOf a.f0) ≥ 0
  · obtain ⟨K4, g4⟩ := implPutChain_ev (p.f2.getD (chainAt p.f2 (fingerOf a.f0)).toNat z100) a (getD_wi h.2.2.2 c (hlt c)) ha
    refine ⟨K1 + K2 + K3 + K4, fun k hk => ?_⟩
    have e1 := g1 k (by omega)
    have e2 := g2 k (by omega)
    have e3 := g3 k (by omega)
    have e4 := g4 k (by omega)
    simp only at e1 e2 e3 e4
    simp only [impl_PutIn.f, e1, Option.bind_some, e2, e3]
    rw [if_pos c, if_pos c, if_pos (hlt c)]
    unfold rd_T100
    rw [e4]
    simp only [Option.bind_some]
    rw [if_pos (hlt c)]
    unfold putIn
    rw [if_pos c]
  · refine ⟨K1 + K2 + K3 + K5, fun k hk => ?_⟩
    have e1 := g1 k (by omega)
    have e2 := g2 k (by omega)
    have e3 := g3 k (by omega)
    have e5 := g5 k (by omega)
    simp only [List.nil_append, List.length_nil] at e1 e2 e3 e5
    simp only [impl_PutIn.f, e1, Option.bind_some, e2, e3]
    rw [if_neg c]
    have hn : ∀ y ∈ p.f2, y.f0 ≠ fingerOf a.f0 := by
      intro y hy he
      refine c ((place_ge (fun c : S100 => decide (c.f0 = fingerOf a.f0)) p.f2 0).2 ?_)
      exact List.any_eq_true.2 ⟨y, hy, decide_eq_true he⟩
    have hc : firstNot (fun c : S100 => decide (c.f0 ≤ fingerOf a.f0)) p.f2 = firstNot (fun c : S100 => decide (c.f0 < fingerOf a.f0)) p.f2 :=
      firstNot_congr _ _ p.f2 (fun y hy => decide_eq_decide.2 ⟨fun h9 => by have := hn y hy; omega, fun h9 => by omega⟩)
    unfold putIn
    rw [if_neg c, ← hc]
    simpa using e5
theorem specPutIn_ev (p : S57) (a : S43) (h : WiPart p) (ha : WiAlarm a) : Ev (fun k => spec_PutIn.f k p.f0 p.f1 p.f2 a.f0 a.f1 a.f2 a.f3) ((putIn p a).1.f0, (putIn p a).1.f1, (putIn p a).1.f2, (putIn p a).2) := by
  have hl := h.2.2.1
  have ho : a.f0.length ≤ 5000000 := Nat.le_trans ha.1.1 (by decide)
  have hlt := chainAt_end p.f2 (fingerOf a.f0)
  obtain ⟨K1, g1⟩ := specCopyPart_ev p h
  obtain ⟨K2, g2⟩ := specFinger_ev a.f0 ha.1
  obtain ⟨K3, g3⟩ := specL7At_ev p (fingerOf a.f0) (by omega)
  obtain ⟨K5, g5⟩ := specPut_l0 (fingerOf a.f0) a p.f0 p.f1 p.f0 (wrap64 (p.f1 + 1)) ho p.f2 [] (by simp; omega)
  by_cases c : chainAt p.f2 (fingerOf a.f0) ≥ 0
  · obtain ⟨K4, g4⟩ := specPutChain_ev (p.f2.getD (chainAt p.f2 (fingerOf a.f0)).toNat z100) a (getD_wi h.2.2.2 c (hlt c)) ha
    refine ⟨K1 + K2 + K3 + K4, fun k hk => ?_⟩
    have e1 := g1 k (by omega)
    have e2 := g2 k (by omega)
    have e3 := g3 k (by omega)
    have e4 := g4 k (by omega)
    simp only at e1 e2 e3 e4
    simp only [spec_PutIn.f, e1, Option.bind_some, e2, e3]
    rw [if_pos c, if_pos c, if_pos (hlt c)]
    unfold rd_T100
    rw [e4]
    simp only [Option.bind_some]
    rw [if_pos (hlt c)]
    unfold putIn
    rw [if_pos c]
  · refine ⟨K1 + K2 + K3 + K5, fun k hk => ?_⟩
    have e1 := g1 k (by omega)
    have e2 := g2 k (by omega)
    have e3 := g3 k (by omega)
    have e5 := g5 k (by omega)
    simp only [List.nil_append, List.length_nil] at e1 e2 e3 e5
    simp only [spec_PutIn.f, e1, Option.bind_some, e2, e3]
    rw [if_neg c]
    unfold putIn
    rw [if_neg c]
    simpa using e5
theorem putChain_wi {c : S100} {a : S43} (hc : c.f1.length ≤ 1048576) (h : WiChain c) (ha : WiAlarm a) : WiChain (putChain c a).1 := by
  unfold putChain
  split
  · refine ⟨trivial, by show (List.set _ _ _).length ≤ 4000000; rw [List.length_set]; omega, fun y hy => ?_⟩
    rcases List.mem_or_eq_of_mem_set hy with hy | rfl
    · exact h.2.2 y hy
    · exact mergeA_wi ha
  · refine ⟨trivial, by show (_ ++ [_]).length ≤ 4000000; rw [List.length_append, List.length_singleton]; omega, fun y hy => ?_⟩
    rcases List.mem_append.1 hy with hy | hy
    · exact h.2.2 y hy
    · rw [List.mem_singleton.1 hy]; exact ha
theorem putIn_wi {p : S57} {a : S43} (hl : p.f2.length ≤ 1048576) (hc : ∀ y ∈ p.f2, y.f1.length ≤ 1048576) (h : WiPart p) (ha : WiAlarm a) : WiPart (putIn p a).1 := by
  have hlt := chainAt_end p.f2 (fingerOf a.f0)
  unfold putIn
  by_cases c : chainAt p.f2 (fingerOf a.f0) ≥ 0
  · rw [if_pos c]
    refine ⟨trivial, trivial, by show (List.set _ _ _).length ≤ 4000000; rw [List.length_set]; omega, fun y hy => ?_⟩
    rcases List.mem_or_eq_of_mem_set hy with hy | rfl
    · exact h.2.2.2 y hy
    · have hm := getD_mem p.f2 (chainAt p.f2 (fingerOf a.f0)).toNat z100 (by have := hlt c; omega)
      exact putChain_wi (hc _ hm) (h.2.2.2 _ hm) ha
  · rw [if_neg c]
    refine ⟨trivial, trivial, by show (insC _ _ _ _).length ≤ 4000000; rw [insC_length]; omega, fun y hy => ?_⟩
    rcases insC_mem hy with hy | rfl
    · exact h.2.2.2 y hy
    · refine ⟨trivial, by show (1 : Nat) ≤ 4000000; decide, fun z hz => ?_⟩
      rw [List.mem_singleton.1 hz]; exact ha
theorem cnA_append : ∀ (x y : List S43), cnAlarms (x ++ y) = cnAlarms x + cnAlarms y
  | [], y => by simp [cnAlarms]
  | z :: xs, y => by have := cnA_append xs y; simp only [List.cons_append, cnAlarms]; omega
theorem cnA_set (a : S43) : ∀ (l : List S43) (i : Nat), cnAlarms (l.set i a) ≤ cnAlarms l + cnAlarms [a]
  | [], i => by simp [cnAlarms]
  | z :: xs, 0 => by simp only [List.set_cons_zero, cnAlarms]; omega
  | z :: xs, i + 1 => by have := cnA_set a xs i; simp only [List.set_cons_succ, cnAlarms] at *; omega
theorem cnPutChain (c : S100) (a : S43) : cnAlarms (putChain c a).1.f1 ≤ cnAlarms c.f1 + cnAlarms [a] := by
  unfold putChain
  split
  · have h1 := cnA_set (mergeA (c.f1.getD (labelsAt c.f1 a.f0).toNat z43) a) c.f1 (labelsAt c.f1 a.f0).toNat
    have h2 : cnAlarms [mergeA (c.f1.getD (labelsAt c.f1 a.f0).toNat z43) a] = cnAlarms [a] := by simp only [cnAlarms, mergeA_f0]
    rw [h2] at h1; exact h1
  · show cnAlarms (_ ++ _) ≤ _
    rw [cnA_append]; omega
theorem cnC_append : ∀ (x y : List S100), cnChains (x ++ y) = cnChains x + cnChains y
  | [], y => by simp [cnChains]
  | z :: xs, y => by have := cnC_append xs y; simp only [List.cons_append, cnChains]; omega
theorem cnC_set (a : S43) : ∀ (l : List S100) (i : Nat), i < l.length → cnChains (l.set i (putChain (l.getD i z100) a).1) ≤ cnChains l + cnAlarms [a]
  | [], i, h => by simp at h
  | z :: xs, 0, h => by
    have h1 := cnPutChain z a
    simp only [List.set_cons_zero, List.getD_cons_zero, cnChains]
    omega
  | z :: xs, i + 1, h => by
    have := cnC_set a xs i (by simpa using h)
    simp only [List.set_cons_succ, List.getD_cons_succ, cnChains] at *; omega
theorem cnPutIn (p : S57) (a : S43) : cnChains (putIn p a).1.f2 ≤ cnChains p.f2 + cnAlarms [a] + 100 := by
  have hlt := chainAt_end p.f2 (fingerOf a.f0)
  unfold putIn
  by_cases c : chainAt p.f2 (fingerOf a.f0) ≥ 0
  · rw [if_pos c]
    have := cnC_set a p.f2 (chainAt p.f2 (fingerOf a.f0)).toNat (by have := hlt c; omega)
    show cnChains (List.set _ _ _) ≤ _
    omega
  · rw [if_neg c]
    show cnChains (insC _ _ _ _) ≤ _
    have e : cnChains p.f2 = cnChains (p.f2.take (firstNot (fun c : S100 => decide (c.f0 < fingerOf a.f0)) p.f2)) + cnChains (p.f2.drop (firstNot (fun c : S100 => decide (c.f0 < fingerOf a.f0)) p.f2)) := by rw [← cnC_append, List.take_append_drop]
    unfold insC
    rw [List.nil_append, cnC_append, cnC_append]
    simp only [cnChains]
    omega
theorem cnPutIn_le {p : S57} {a : S43} (ha : WiAlarm a) (hc : cnChains p.f2 ≤ 10000000) : cnChains (putIn p a).1.f2 ≤ 100000000 := by
  have h1 := cnPutIn p a
  have h2 := cnLabels_wi ha.1
  have h3 : cnAlarms [a] ≤ 8000003 := by simp only [cnAlarms]; omega
  omega
def nnLabels : List S85 → Nat
  | [] => 0
  | _ :: ys => 1 + nnLabels ys
theorem szLabel_nn (x : S85) (hB : B85 x) (k : Nat) (n r : Int) (h : laws_szLabel.f x.f0 x.f1 n = some r) (hr : 0 ≤ r) (h0 : 0 ≤ n) (h1 : n ≤ 1048576) : r ≤ n ∧ ((0 : Nat) : Int) ≤ n - r := by
  unfold laws_szLabel.f at h
  have q1 : x.f0.size ≤ 9223372036854775807 := hB.1
  rw [show wrap64 (n - (x.f0.size : Int)) = n - (x.f0.size : Int) from wrap_id (by omega) (by omega)] at h
  by_cases c1 : n - (x.f0.size : Int) < 0
  · rw [if_pos c1] at h; injection h with h; omega
  rw [if_neg c1] at h
  have q2 : x.f1.size ≤ 9223372036854775807 := hB.2
  rw [show wrap64 ((n - (x.f0.size : Int)) - (x.f1.size : Int)) = (n - (x.f0.size : Int)) - (x.f1.size : Int) from wrap_id (by omega) (by omega)] at h
  by_cases c2 : (n - (x.f0.size : Int)) - (x.f1.size : Int) < 0
  · rw [if_pos c2] at h; injection h with h; omega
  rw [if_neg c2] at h
  injection h with h
  exact ⟨by omega, by omega⟩
theorem szLabelS_nn_l0 : ∀ (suf pre : List S85) (k : Nat) (n r : Int), (∀ y ∈ suf, B85 y) → (pre ++ suf).length < 4611686018427387904 → laws_szLabelS.l0 k (pre ++ suf) n (pre.length : Int) = some r → 0 ≤ r → 0 ≤ n → n ≤ 1048576 → r ≤ n ∧ (nnLabels suf : Int) ≤ n - r + suf.length
  | [], pre, k, n, r, hB, hl, h, hr, h0, h1 => by
    cases k with
    | zero => simp [laws_szLabelS.l0] at h
    | succ k =>
      simp only [laws_szLabelS.l0] at h
      rw [if_neg (not_lt_end pre)] at h
      injection h with h
      subst h
      exact ⟨Int.le_refl _, by simp [nnLabels]⟩
  | y :: suf, pre, k, n, r, hB, hl, h, hr, h0, h1 => by
    have hp : pre.length < 4611686018427387904 := by simp at hl; omega
    cases k with
    | zero => simp [laws_szLabelS.l0] at h
    | succ k =>
      simp only [laws_szLabelS.l0] at h
      rw [if_pos (lt_mid pre suf y), if_pos (nn _), rdmidLabell, wrap_up pre.length (by omega)] at h
      obtain ⟨t, e, h⟩ := Option.bind_eq_some_iff.mp h
      by_cases c : t < 0
      · rw [if_pos c] at h; injection h with h; omega
      rw [if_neg c, show pre ++ y :: suf = (pre ++ [y]) ++ suf by simp, show ((pre.length + 1 : Nat) : Int) = ((pre ++ [y]).length : Int) by simp] at h
      obtain ⟨l1, m1⟩ := szLabel_nn y (hB y List.mem_cons_self) k n t e (by omega) h0 h1
      obtain ⟨l2, m2⟩ := szLabelS_nn_l0 suf (pre ++ [y]) k t r (fun z hz => hB z (List.mem_cons_of_mem _ hz)) (by simpa using hl) h hr (by omega) (by omega)
      refine ⟨by omega, ?_⟩
      simp only [nnLabels, List.length_cons]
      push_cast at m1 ⊢
      omega
theorem szLabelS_nn (l : List S85) (hB : l.length ≤ maxLen ∧ ∀ y ∈ l, B85 y) (k : Nat) (n r : Int) (h : laws_szLabelS.f k l n = some r) (hr : 0 ≤ r) (h0 : 0 ≤ n) (h1 : n ≤ 1048576) : r ≤ n ∧ (nnLabels l : Int) ≤ n - r := by
  have q : l.length ≤ 9223372036854775807 := hB.1
  unfold laws_szLabelS.f at h
  rw [show wrap64 (n - (l.length : Int)) = n - (l.length : Int) from wrap_id (by omega) (by omega)] at h
  by_cases c : n - (l.length : Int) < 0
  · rw [if_pos c] at h; injection h with h; omega
  rw [if_neg c] at h
  obtain ⟨l1, m1⟩ := szLabelS_nn_l0 l [] k (n - (l.length : Int)) r hB.2 (by simp; omega) h hr (by omega) (by omega)
  exact ⟨by omega, by omega⟩
def nnAlarms : List S35 → Nat
  | [] => 0
  | y :: ys => 1 + nnLabels y.f0 + nnAlarms ys
theorem szAlarm_nn (x : S35) (hB : B35 x) (k : Nat) (n r : Int) (h : laws_szAlarm.f k x.f0 x.f1 x.f2 x.f3 n = some r) (hr : 0 ≤ r) (h0 : 0 ≤ n) (h1 : n ≤ 1048576) : r ≤ n ∧ ((nnLabels x.f0 : Nat) : Int) ≤ n - r := by
  unfold laws_szAlarm.f at h
  obtain ⟨t1, e1, h⟩ := Option.bind_eq_some_iff.mp h
  by_cases c1 : t1 < 0
  · rw [if_pos c1] at h; injection h with h; omega
  rw [if_neg c1] at h
  obtain ⟨l1, m1⟩ := szLabelS_nn x.f0 hB.1 k n t1 e1 (by omega) (by omega) (by omega)
  have q2 : x.f3.size ≤ 9223372036854775807 := hB.2.2.2
  rw [show wrap64 (t1 - (x.f3.size : Int)) = t1 - (x.f3.size : Int) from wrap_id (by omega) (by omega)] at h
  by_cases c2 : t1 - (x.f3.size : Int) < 0
  · rw [if_pos c2] at h; injection h with h; omega
  rw [if_neg c2] at h
  injection h with h
  exact ⟨by omega, by omega⟩
theorem szAlarmS_nn_l0 : ∀ (suf pre : List S35) (k : Nat) (n r : Int), (∀ y ∈ suf, B35 y) → (pre ++ suf).length < 4611686018427387904 → laws_szAlarmS.l0 k (pre ++ suf) n (pre.length : Int) = some r → 0 ≤ r → 0 ≤ n → n ≤ 1048576 → r ≤ n ∧ (nnAlarms suf : Int) ≤ n - r + suf.length
  | [], pre, k, n, r, hB, hl, h, hr, h0, h1 => by
    cases k with
    | zero => simp [laws_szAlarmS.l0] at h
    | succ k =>
      simp only [laws_szAlarmS.l0] at h
      rw [if_neg (not_lt_end pre)] at h
      injection h with h
      subst h
      exact ⟨Int.le_refl _, by simp [nnAlarms]⟩
  | y :: suf, pre, k, n, r, hB, hl, h, hr, h0, h1 => by
    have hp : pre.length < 4611686018427387904 := by simp at hl; omega
    cases k with
    | zero => simp [laws_szAlarmS.l0] at h
    | succ k =>
      simp only [laws_szAlarmS.l0] at h
      rw [if_pos (lt_mid pre suf y), if_pos (nn _), rdmidAlarml, wrap_up pre.length (by omega)] at h
      obtain ⟨t, e, h⟩ := Option.bind_eq_some_iff.mp h
      by_cases c : t < 0
      · rw [if_pos c] at h; injection h with h; omega
      rw [if_neg c, show pre ++ y :: suf = (pre ++ [y]) ++ suf by simp, show ((pre.length + 1 : Nat) : Int) = ((pre ++ [y]).length : Int) by simp] at h
      obtain ⟨l1, m1⟩ := szAlarm_nn y (hB y List.mem_cons_self) k n t e (by omega) h0 h1
      obtain ⟨l2, m2⟩ := szAlarmS_nn_l0 suf (pre ++ [y]) k t r (fun z hz => hB z (List.mem_cons_of_mem _ hz)) (by simpa using hl) h hr (by omega) (by omega)
      refine ⟨by omega, ?_⟩
      simp only [nnAlarms, List.length_cons]
      push_cast at m1 ⊢
      omega
theorem szAlarmS_nn (l : List S35) (hB : l.length ≤ maxLen ∧ ∀ y ∈ l, B35 y) (k : Nat) (n r : Int) (h : laws_szAlarmS.f k l n = some r) (hr : 0 ≤ r) (h0 : 0 ≤ n) (h1 : n ≤ 1048576) : r ≤ n ∧ (nnAlarms l : Int) ≤ n - r := by
  have q : l.length ≤ 9223372036854775807 := hB.1
  unfold laws_szAlarmS.f at h
  rw [show wrap64 (n - (l.length : Int)) = n - (l.length : Int) from wrap_id (by omega) (by omega)] at h
  by_cases c : n - (l.length : Int) < 0
  · rw [if_pos c] at h; injection h with h; omega
  rw [if_neg c] at h
  obtain ⟨l1, m1⟩ := szAlarmS_nn_l0 l [] k (n - (l.length : Int)) r hB.2 (by simp; omega) h hr (by omega) (by omega)
  exact ⟨by omega, by omega⟩
def nnChains : List S119 → Nat
  | [] => 0
  | y :: ys => 1 + nnAlarms y.f1 + nnChains ys
theorem szChain_nn (x : S119) (hB : B119 x) (k : Nat) (n r : Int) (h : laws_szChain.f k x.f0 x.f1 n = some r) (hr : 0 ≤ r) (h0 : 0 ≤ n) (h1 : n ≤ 1048576) : r ≤ n ∧ ((nnAlarms x.f1 : Nat) : Int) ≤ n - r := by
  unfold laws_szChain.f at h
  obtain ⟨t1, e1, h⟩ := Option.bind_eq_some_iff.mp h
  by_cases c1 : t1 < 0
  · rw [if_pos c1] at h; injection h with h; omega
  rw [if_neg c1] at h
  obtain ⟨l1, m1⟩ := szAlarmS_nn x.f1 hB.2 k n t1 e1 (by omega) (by omega) (by omega)
  injection h with h
  exact ⟨by omega, by omega⟩
theorem szChainS_nn_l0 : ∀ (suf pre : List S119) (k : Nat) (n r : Int), (∀ y ∈ suf, B119 y) → (pre ++ suf).length < 4611686018427387904 → laws_szChainS.l0 k (pre ++ suf) n (pre.length : Int) = some r → 0 ≤ r → 0 ≤ n → n ≤ 1048576 → r ≤ n ∧ (nnChains suf : Int) ≤ n - r + suf.length
  | [], pre, k, n, r, hB, hl, h, hr, h0, h1 => by
    cases k with
    | zero => simp [laws_szChainS.l0] at h
    | succ k =>
      simp only [laws_szChainS.l0] at h
      rw [if_neg (not_lt_end pre)] at h
      injection h with h
      subst h
      exact ⟨Int.le_refl _, by simp [nnChains]⟩
  | y :: suf, pre, k, n, r, hB, hl, h, hr, h0, h1 => by
    have hp : pre.length < 4611686018427387904 := by simp at hl; omega
    cases k with
    | zero => simp [laws_szChainS.l0] at h
    | succ k =>
      simp only [laws_szChainS.l0] at h
      rw [if_pos (lt_mid pre suf y), if_pos (nn _), rdmidChainl, wrap_up pre.length (by omega)] at h
      obtain ⟨t, e, h⟩ := Option.bind_eq_some_iff.mp h
      by_cases c : t < 0
      · rw [if_pos c] at h; injection h with h; omega
      rw [if_neg c, show pre ++ y :: suf = (pre ++ [y]) ++ suf by simp, show ((pre.length + 1 : Nat) : Int) = ((pre ++ [y]).length : Int) by simp] at h
      obtain ⟨l1, m1⟩ := szChain_nn y (hB y List.mem_cons_self) k n t e (by omega) h0 h1
      obtain ⟨l2, m2⟩ := szChainS_nn_l0 suf (pre ++ [y]) k t r (fun z hz => hB z (List.mem_cons_of_mem _ hz)) (by simpa using hl) h hr (by omega) (by omega)
      refine ⟨by omega, ?_⟩
      simp only [nnChains, List.length_cons]
      push_cast at m1 ⊢
      omega
theorem szChainS_nn (l : List S119) (hB : l.length ≤ maxLen ∧ ∀ y ∈ l, B119 y) (k : Nat) (n r : Int) (h : laws_szChainS.f k l n = some r) (hr : 0 ≤ r) (h0 : 0 ≤ n) (h1 : n ≤ 1048576) : r ≤ n ∧ (nnChains l : Int) ≤ n - r := by
  have q : l.length ≤ 9223372036854775807 := hB.1
  unfold laws_szChainS.f at h
  rw [show wrap64 (n - (l.length : Int)) = n - (l.length : Int) from wrap_id (by omega) (by omega)] at h
  by_cases c : n - (l.length : Int) < 0
  · rw [if_pos c] at h; injection h with h; omega
  rw [if_neg c] at h
  obtain ⟨l1, m1⟩ := szChainS_nn_l0 l [] k (n - (l.length : Int)) r hB.2 (by simp; omega) h hr (by omega) (by omega)
  exact ⟨by omega, by omega⟩
theorem szPart_nn (x : S52) (hB : B52 x) (k : Nat) (n r : Int) (h : laws_szPart.f k x.f0 x.f1 x.f2 n = some r) (hr : 0 ≤ r) (h0 : 0 ≤ n) (h1 : n ≤ 1048576) : r ≤ n ∧ ((nnChains x.f2 : Nat) : Int) ≤ n - r := by
  unfold laws_szPart.f at h
  obtain ⟨t1, e1, h⟩ := Option.bind_eq_some_iff.mp h
  by_cases c1 : t1 < 0
  · rw [if_pos c1] at h; injection h with h; omega
  rw [if_neg c1] at h
  obtain ⟨l1, m1⟩ := szChainS_nn x.f2 hB.2.2 k n t1 e1 (by omega) (by omega) (by omega)
  injection h with h
  exact ⟨by omega, by omega⟩
theorem cnLabels_cv : ∀ l : List S85, cnLabels (l.map cvLabel) ≤ 6 * nnLabels l
  | [] => Nat.le_refl _
  | y :: ys => by
    have h0 := cnLabels_cv ys
    simp only [List.map_cons, cnLabels, nnLabels, cvLabel]
    omega
theorem cnAlarms_cv : ∀ l : List S35, cnAlarms (l.map cvAlarm) ≤ 6 * nnAlarms l
  | [] => Nat.le_refl _
  | y :: ys => by
    have h0 := cnAlarms_cv ys
    have h_0 := cnLabels_cv y.f0
    simp only [List.map_cons, cnAlarms, nnAlarms, cvAlarm]
    omega
theorem cnChains_cv : ∀ l : List S119, cnChains (l.map cvChain) ≤ 6 * nnChains l
  | [] => Nat.le_refl _
  | y :: ys => by
    have h0 := cnChains_cv ys
    have h_1 := cnAlarms_cv y.f1
    simp only [List.map_cons, cnChains, nnChains, cvChain]
    omega
end Go.Proofs.Yticgekgojgkbgaa.Print
end
