import Derived.Test.YtfholjcelnkleaaMFnSubs1
import Derived.Test.YtfholjcelnkleaaMFnSubs2
import Derived.Test.YtfholjcelnkleaaMFnSubs3
import Derived.Test.YtfholjcelnkleaaMFnSubs4
section
namespace Go.Proofs.Ytfholjcelnkleaa.Print
open Go.RowKit Go.Proofs.YtfholjcelnkleaaV.PrintWords Go.Proofs.YtfholjcelnkleaaV.PrintLast Go.Proofs.YtfholjcelnkleaaV.PrintMore
attribute [local go_sem] max2_int min2_int max_two min_two max_three min_three max_four min_four
set_option linter.unusedVariables false
set_option linter.unusedSimpArgs false
set_option maxHeartbeats 8000000
set_option maxRecDepth 100000
def laws_FnSubs.j0 : Nat → List (S44) → Bool → List (S164) → Int → Int → ByteArray → List (S44) → Bool → Option (Bool)
 | 0, _, _, _, _, _, _, _, _ => none
 | k + 1, x2008000, x2008001, x2009000, x2009001, x2009002, x2009003, x2014000, x2014001 => if x2008001 = true then ((impl_SameSub.f k x2014000 x2014001 x2008000 x2008001).bind fun t2088 => (some t2088)) else (if (x2008000.length : Int) ≥ 3 then (if x2014001 = true then (some ((x2014000.length : Int) == 0)) else (none)) else (if (x2014000.length : Int) = (wrap64 ((x2008000.length : Int) + 1)) then (if 0 ≤ (x2008000.length : Int) then (if (x2008000.length : Int) < (x2014000.length : Int) then ((impl_SameAlarm.f k ((rd_T44 x2014000 (x2008000.length : Int)).f0) ((rd_T44 x2014000 (x2008000.length : Int)).f1) ((rd_T44 x2014000 (x2008000.length : Int)).f2) ((rd_T44 x2014000 (x2008000.length : Int)).f3) x2009000 x2009001 x2009002 x2009003).bind fun t2090 => (if t2090 = true then (if (x2008000.length : Int) ≤ (x2014000.length : Int) then ((laws_sameList.f k (x2014000.take ((x2008000.length : Int) : Int).toNat) x2008000).bind fun t2095 => (some t2095)) else (none)) else (none))) else (none)) else (none)) else (none)))
def laws_FnSubs.f (k : Nat) (l0 : List Int) : Option (Bool) := (laws_big.f l0).bind fun t1996 => (if t1996 = true then (some true) else ((spec_DrawTell.f k l0).bind fun bt1997 => ((impl_Tell.f k bt1997.1 bt1997.2.1 bt1997.2.2.1 bt1997.2.2.2.1 bt1997.2.2.2.2.1 bt1997.2.2.2.2.2).bind fun bt2009 => ((spec_DrawHear.f k l0).bind fun bt2014 => ((impl_Hear.f k bt2014.1 bt2014.2).bind fun bt2019 => ((spec_Hear.f k bt2014.1 bt2014.2).bind fun bt2032 => ((spec_DrawSubOk.f k l0).bind fun bt2045 => ((spec_DrawSameSub.f k l0).bind fun bt2050 => ((spec_DrawTellAll.f k l0).bind fun bt2060 => ((spec_Tell.f k bt1997.1 bt1997.2.1 bt1997.2.2.1 bt1997.2.2.2.1 bt1997.2.2.2.2.1 bt1997.2.2.2.2.2).bind fun bt2070 => ((impl_SameSub.f k bt2009.1 bt2009.2 bt2070.1 bt2070.2).bind fun t2074 => (if t2074 = true then ((impl_SameSub.f k bt2019.1 bt2019.2.1 bt2032.1 bt2032.2.1).bind fun t2075 => (if t2075 = true then ((impl_SameAlarm.f k bt2019.2.2.1 bt2019.2.2.2.1 bt2019.2.2.2.2.1 bt2019.2.2.2.2.2.1 bt2032.2.2.1 bt2032.2.2.2.1 bt2032.2.2.2.2.1 bt2032.2.2.2.2.2.1).bind fun t2076 => (if t2076 = true then (if bt2019.2.2.2.2.2.2 = bt2032.2.2.2.2.2.2 then ((impl_SubOk.f k bt2045.1 bt2045.2).bind fun t2077 => ((spec_SubOk.f k bt2045.1 bt2045.2).bind fun t2078 => (if (t2077 != t2078) = true then (none) else ((impl_SameSub.f k bt2050.1 bt2050.2.1 bt2050.2.2.1 bt2050.2.2.2).bind fun t2079 => ((spec_SameSub.f k bt2050.1 bt2050.2.1 bt2050.2.2.1 bt2050.2.2.2).bind fun t2080 => (if (t2079 != t2080) = true then (none) else ((impl_TellAll.f k bt2060.1 bt2060.2.1 bt2060.2.2.1 bt2060.2.2.2.1 bt2060.2.2.2.2).bind fun t2081 => ((spec_TellAll.f k bt2060.1 bt2060.2.1 bt2060.2.2.1 bt2060.2.2.2.1 bt2060.2.2.2.2).bind fun t2084 => ((laws_sameSubs.f k t2081 t2084).bind fun t2087 => (if t2087 = true then (laws_FnSubs.j0 k bt1997.1 bt1997.2.1 bt1997.2.2.1 bt1997.2.2.2.1 bt1997.2.2.2.2.1 bt1997.2.2.2.2.2 bt2009.1 bt2009.2) else (none))))))))))) else (none)) else (none))) else (none))) else (none)))))))))))))
theorem laws_FnSubs.mono_l : ∀ k, (∀ y0 y1 y2 y3 y4 y5 y6 y7, LeO (laws_FnSubs.j0 k y0 y1 y2 y3 y4 y5 y6 y7) (laws_FnSubs.j0 (k + 1) y0 y1 y2 y3 y4 y5 y6 y7))
 | 0 => fun _ _ _ _ _ _ _ _ r h => by simp [laws_FnSubs.j0] at h
 | k + 1 => by
  have ih0 := laws_FnSubs.mono_l k
  intro y0 y1 y2 y3 y4 y5 y6 y7
  unfold laws_FnSubs.j0
  repeat' first
  | (with_reducible exact ih0 _ _ _ _ _ _ _ _)
  | (with_reducible exact impl_Hear.mono _ _ _)
  | (with_reducible exact impl_SameAlarm.mono _ _ _ _ _ _ _ _ _)
  | (with_reducible exact impl_SameSub.mono _ _ _ _ _)
  | (with_reducible exact impl_SubOk.mono _ _ _)
  | (with_reducible exact impl_Tell.mono _ _ _ _ _ _ _)
  | (with_reducible exact impl_TellAll.mono _ _ _ _ _ _)
  | (with_reducible exact laws_sameList.mono _ _ _)
  | (with_reducible exact laws_sameSubs.mono _ _ _)
  | (with_reducible exact spec_DrawHear.mono _ _)
  | (with_reducible exact spec_DrawSameSub.mono _ _)
  | (with_reducible exact spec_DrawSubOk.mono _ _)
  | (with_reducible exact spec_DrawTell.mono _ _)
  | (with_reducible exact spec_DrawTellAll.mono _ _)
  | (with_reducible exact spec_Hear.mono _ _ _)
  | (with_reducible exact spec_SameSub.mono _ _ _ _ _)
  | (with_reducible exact spec_SubOk.mono _ _ _)
  | (with_reducible exact spec_Tell.mono _ _ _ _ _ _ _)
  | (with_reducible exact spec_TellAll.mono _ _ _ _ _ _)
  | (with_reducible exact LeO.refl _)
  | (with_reducible exact LeO.none _)
  | (with_reducible refine LeO.ite ?_ ?_)
  | (with_reducible refine LeO.bind ?_ (fun _ => ?_))
  | exact ih0 _ _ _ _ _ _ _ _
  | exact impl_Hear.mono _ _ _
  | exact impl_SameAlarm.mono _ _ _ _ _ _ _ _ _
  | exact impl_SameSub.mono _ _ _ _ _
  | exact impl_SubOk.mono _ _ _
  | exact impl_Tell.mono _ _ _ _ _ _ _
  | exact impl_TellAll.mono _ _ _ _ _ _
  | exact laws_sameList.mono _ _ _
  | exact laws_sameSubs.mono _ _ _
  | exact spec_DrawHear.mono _ _
  | exact spec_DrawSameSub.mono _ _
  | exact spec_DrawSubOk.mono _ _
  | exact spec_DrawTell.mono _ _
  | exact spec_DrawTellAll.mono _ _
  | exact spec_Hear.mono _ _ _
  | exact spec_SameSub.mono _ _ _ _ _
  | exact spec_SubOk.mono _ _ _
  | exact spec_Tell.mono _ _ _ _ _ _ _
  | exact spec_TellAll.mono _ _ _ _ _ _
theorem laws_FnSubs.mono : ∀ a0 k, LeO (laws_FnSubs.f k a0) (laws_FnSubs.f (k + 1) a0) := by
 intro a0 k
 have ih0 := laws_FnSubs.mono_l k
 unfold laws_FnSubs.f
 repeat' first | (with_reducible first | exact ih0 _ _ _ _ _ _ _ _ | exact impl_Hear.mono _ _ _ | exact impl_SameAlarm.mono _ _ _ _ _ _ _ _ _ | exact impl_SameSub.mono _ _ _ _ _ | exact impl_SubOk.mono _ _ _ | exact impl_Tell.mono _ _ _ _ _ _ _ | exact impl_TellAll.mono _ _ _ _ _ _ | exact laws_sameList.mono _ _ _ | exact laws_sameSubs.mono _ _ _ | exact spec_DrawHear.mono _ _ | exact spec_DrawSameSub.mono _ _ | exact spec_DrawSubOk.mono _ _ | exact spec_DrawTell.mono _ _ | exact spec_DrawTellAll.mono _ _ | exact spec_Hear.mono _ _ _ | exact spec_SameSub.mono _ _ _ _ _ | exact spec_SubOk.mono _ _ _ | exact spec_Tell.mono _ _ _ _ _ _ _ | exact spec_TellAll.mono _ _ _ _ _ _ | exact LeO.refl _ | exact LeO.none _ | refine LeO.ite ?_ ?_ | refine LeO.bind ?_ (fun _ => ?_)) | exact ih0 _ _ _ _ _ _ _ _ | exact impl_Hear.mono _ _ _ | exact impl_SameAlarm.mono _ _ _ _ _ _ _ _ _ | exact impl_SameSub.mono _ _ _ _ _ | exact impl_SubOk.mono _ _ _ | exact impl_Tell.mono _ _ _ _ _ _ _ | exact impl_TellAll.mono _ _ _ _ _ _ | exact laws_sameList.mono _ _ _ | exact laws_sameSubs.mono _ _ _ | exact spec_DrawHear.mono _ _ | exact spec_DrawSameSub.mono _ _ | exact spec_DrawSubOk.mono _ _ | exact spec_DrawTell.mono _ _ | exact spec_DrawTellAll.mono _ _ | exact spec_Hear.mono _ _ _ | exact spec_SameSub.mono _ _ _ _ _ | exact spec_SubOk.mono _ _ _ | exact spec_Tell.mono _ _ _ _ _ _ _ | exact spec_TellAll.mono _ _ _ _ _ _
def laws_FnSubs.T11 : Bool × List (List Nat × List Nat) := (true, [([], []), ([], []), ([], []), ([1, 2], [1, 2]), ([0, 3, 3], [0, 3]), ([4], [4]), ([5, 4], [5]), ([6], [6]), ([6], [6]), ([7, 8, 6, 6], [6, 7, 8]), ([9, 6], [6, 9]), ([6, 10], [6, 10]), ([11, 9], [11]), ([12], [12]), ([12], [12]), ([13, 14, 12, 12], [12, 13, 14]), ([15, 12], [12, 15]), ([12, 16], [12, 16]), ([17, 15], [17]), ([18], [18]), ([18], [18]), ([19, 20, 18], [18, 19, 20]), ([18, 21], [18, 21]), ([22, 18], [22]), ([23], [23]), ([24, 23, 23], [23, 24]), ([23], [23]), ([26, 25, 23], [23, 26]), ([25, 27, 23], [23, 25, 27]), ([23, 28], [23, 28]), ([29, 27], [29]), ([30], [30]), ([30], [30]), ([31, 32, 30, 30], [30, 31, 32]), ([30], [30]), ([30], [30]), ([34, 35, 33, 30], [30, 34, 35]), ([33, 36, 30], [30, 33, 36]), ([30, 37], [30, 37]), ([38, 36], [38]), ([39], [39]), ([39], [39]), ([40, 41, 39, 39], [39, 40, 41]), ([39], [39]), ([39], [39]), ([43, 44, 42, 39], [39, 43, 44]), ([42, 45, 45, 39], [39, 42, 45]), ([46, 39], [39, 46]), ([39, 47], [39, 47])])
def laws_FnSubs.B11 : List Nat := [0, 0, 0, 6, 15, 31, 63, 127, 127, 511, 1023, 2047, 4095, 8191, 8191, 32767, 65535, 131071, 262143, 524287, 524287, 2097151, 4194303, 8388607, 16777215, 33554431, 16777215, 134217727, 268435455, 536870911, 1073741823, 2147483647, 2147483647, 8589934591, 2147483647, 2147483647, 68719476735, 137438953471, 274877906943, 549755813887, 1099511627775, 1099511627775, 4398046511103, 1099511627775, 1099511627775, 35184372088831, 70368744177663, 140737488355327, 281474976710655]
theorem laws_FnSubs.tab11 : rtab .any (opsOf Try.f14 11) = laws_FnSubs.T11 := by kernel_rfl
theorem laws_FnSubs.bits11 : waitsOk laws_FnSubs.T11.2 laws_FnSubs.B11 = true := by kernel_rfl
def laws_FnSubs.T17 : Bool × List (List Nat × List Nat) := (true, [([], []), ([0], [0]), ([1], [1]), ([], []), ([3], [3]), ([4], [4]), ([5], [5]), ([2, 6], [2, 6]), ([7], [7]), ([8], [8]), ([9, 8], [8, 9]), ([8], [8]), ([11, 8], [8, 11]), ([12, 8], [8, 12]), ([10, 13, 8], [8, 10, 13]), ([14, 8], [8, 14]), ([8], [8]), ([15, 16, 8, 8], [8, 15, 16]), ([8, 17], [8, 17]), ([18, 17], [18]), ([19], [19]), ([20, 19], [19, 20]), ([19], [19]), ([22, 19], [19, 22]), ([23, 19], [19, 23]), ([21, 24, 19], [19, 21, 24]), ([19], [19]), ([26, 19], [19, 26]), ([25, 27, 19, 19], [19, 25, 27]), ([19, 28], [19, 28]), ([29, 28, 0, 1, 2, 3, 4, 5, 6, 7, 8, 9, 10, 11, 12, 13, 14, 15, 16, 17, 18, 19, 20, 21, 22, 23, 24, 25, 26, 27, 28, 29], [29])])
def laws_FnSubs.B17 : List Nat := [0, 1, 3, 0, 8, 24, 56, 127, 255, 511, 1023, 511, 2559, 6655, 16383, 32767, 511, 131071, 262143, 524287, 1048575, 2097151, 1048575, 5242879, 13631487, 33554431, 1048575, 68157439, 268435455, 536870911, 1073741823]
theorem laws_FnSubs.tab17 : rtab .any (opsOf Try.f14 17) = laws_FnSubs.T17 := by kernel_rfl
theorem laws_FnSubs.bits17 : waitsOk laws_FnSubs.T17.2 laws_FnSubs.B17 = true := by kernel_rfl
theorem laws_FnSubs.calls (k : Nat) (A0 : Option Addr) (c0 : Nat) (l0 : List Int) (r : Bool) (w : World) (hr0 : Kd.C (Kd.int .u8) w A0 l0.length l0) (hc0 : l0.length ≤ c0) (h : laws_FnSubs.f k l0 = some r) :
  Calls Try.prog 14 #[.slice A0 l0.length c0] w fun e w' => e = .returned (.bool r) ∧ Below w.heap.size w w' := by
 have hu39 := Try.underlying39
 have hu44 := Try.underlying44
 have HR0 := Aside0.mk hr0
 have HC0 := Aside0.mk hc0
 clear hr0 hc0
 have HB := Aside0.mk (Below.refl w.heap.size w)
 have H : ((laws_big.f l0).bind fun t1996 => (if t1996 = true then (some true) else ((spec_DrawTell.f k l0).bind fun bt1997 => ((impl_Tell.f k bt1997.1 bt1997.2.1 bt1997.2.2.1 bt1997.2.2.2.1 bt1997.2.2.2.2.1 bt1997.2.2.2.2.2).bind fun bt2009 => ((spec_DrawHear.f k l0).bind fun bt2014 => ((impl_Hear.f k bt2014.1 bt2014.2).bind fun bt2019 => ((spec_Hear.f k bt2014.1 bt2014.2).bind fun bt2032 => ((spec_DrawSubOk.f k l0).bind fun bt2045 => ((spec_DrawSameSub.f k l0).bind fun bt2050 => ((spec_DrawTellAll.f k l0).bind fun bt2060 => ((spec_Tell.f k bt1997.1 bt1997.2.1 bt1997.2.2.1 bt1997.2.2.2.1 bt1997.2.2.2.2.1 bt1997.2.2.2.2.2).bind fun bt2070 => ((impl_SameSub.f k bt2009.1 bt2009.2 bt2070.1 bt2070.2).bind fun t2074 => (if t2074 = true then ((impl_SameSub.f k bt2019.1 bt2019.2.1 bt2032.1 bt2032.2.1).bind fun t2075 => (if t2075 = true then ((impl_SameAlarm.f k bt2019.2.2.1 bt2019.2.2.2.1 bt2019.2.2.2.2.1 bt2019.2.2.2.2.2.1 bt2032.2.2.1 bt2032.2.2.2.1 bt2032.2.2.2.2.1 bt2032.2.2.2.2.2.1).bind fun t2076 => (if t2076 = true then (if bt2019.2.2.2.2.2.2 = bt2032.2.2.2.2.2.2 then ((impl_SubOk.f k bt2045.1 bt2045.2).bind fun t2077 => ((spec_SubOk.f k bt2045.1 bt2045.2).bind fun t2078 => (if (t2077 != t2078) = true then (none) else ((impl_SameSub.f k bt2050.1 bt2050.2.1 bt2050.2.2.1 bt2050.2.2.2).bind fun t2079 => ((spec_SameSub.f k bt2050.1 bt2050.2.1 bt2050.2.2.1 bt2050.2.2.2).bind fun t2080 => (if (t2079 != t2080) = true then (none) else ((impl_TellAll.f k bt2060.1 bt2060.2.1 bt2060.2.2.1 bt2060.2.2.2.1 bt2060.2.2.2.2).bind fun t2081 => ((spec_TellAll.f k bt2060.1 bt2060.2.1 bt2060.2.2.1 bt2060.2.2.2.1 bt2060.2.2.2.2).bind fun t2084 => ((laws_sameSubs.f k t2081 t2084).bind fun t2087 => (if t2087 = true then (laws_FnSubs.j0 k bt1997.1 bt1997.2.1 bt1997.2.2.1 bt1997.2.2.2.1 bt1997.2.2.2.2.1 bt1997.2.2.2.2.2 bt2009.1 bt2009.2) else (none))))))))))) else (none)) else (none))) else (none))) else (none)))))))))))))) = some r := h
 clear h
 replace H := Option.bind_eq_some_iff.mp H
 obtain ⟨t1996, A20, H⟩ := H
 have A2 := Aside0.mk A20
 clear A20
 by_cases c3 : t1996 = true
 ·
  subst c3
  rw [if_pos rfl] at H
  obtain rfl := Option.some.inj H
  go_enter Try.func14, Try.ntmps14
  go_wp2_with (first | ((with_reducible refine gate_callee (f := 75) rfl ?_); refine gl_ (some 19) Try.func75 #[.slice A0 l0.length c0] ?_; (with_reducible refine (laws_big.calls _ _ l0 true _ ?side1 ?side2 A2.out).mono ?_); (case side1 => exact cp_ (HR0.out)); (case side2 => exact HC0.out); rintro e w' ⟨rfl, ⟨nd, rfl⟩⟩; refine ⟨_, rfl, ?_⟩))
  go_ret
  exact an_ (by exact hs_ HB.out)
 replace c3 := Bool.eq_false_iff.mpr c3
 subst c3
 rw [if_neg (show ¬ (false = true) by decide)] at H
 replace H := Option.bind_eq_some_iff.mp H
 obtain ⟨⟨t1997, t2000, t2001, t2004, t2005, t2006⟩, A40, H⟩ := H
 have A4 := Aside0.mk A40
 clear A40
 replace H := Option.bind_eq_some_iff.mp H
 obtain ⟨⟨t2009, t2012⟩, A50, H⟩ := H
 have A5 := Aside0.mk A50
 clear A50
 replace H := Option.bind_eq_some_iff.mp H
 obtain ⟨⟨t2014, t2017⟩, A60, H⟩ := H
 have A6 := Aside0.mk A60
 clear A60
 replace H := Option.bind_eq_some_iff.mp H
 obtain ⟨⟨t2019, t2022, t2023, t2026, t2027, t2028, t2029⟩, A70, H⟩ := H
 have A7 := Aside0.mk A70
 clear A70
 replace H := Option.bind_eq_some_iff.mp H
 obtain ⟨⟨t2032, t2035, t2036, t2039, t2040, t2041, t2042⟩, A80, H⟩ := H
 have A8 := Aside0.mk A80
 clear A80
 replace H := Option.bind_eq_some_iff.mp H
 obtain ⟨⟨t2045, t2048⟩, A90, H⟩ := H
 have A9 := Aside0.mk A90
 clear A90
 replace H := Option.bind_eq_some_iff.mp H
 obtain ⟨⟨t2050, t2053, t2054, t2057⟩, A100, H⟩ := H
 have A10 := Aside0.mk A100
 clear A100
 replace H := Option.bind_eq_some_iff.mp H
 obtain ⟨⟨t2060, t2063, t2066, t2067, t2068⟩, A110, H⟩ := H
 have A11 := Aside0.mk A110
 clear A110
 replace H := Option.bind_eq_some_iff.mp H
 obtain ⟨⟨t2070, t2073⟩, A120, H⟩ := H
 have A12 := Aside0.mk A120
 clear A120
 replace H := Option.bind_eq_some_iff.mp H
 obtain ⟨t2074, A130, H⟩ := H
 have A13 := Aside0.mk A130
 clear A130
 by_cases c14 : t2074 = true
 ·
  subst c14
  rw [if_pos rfl] at H
  replace H := Option.bind_eq_some_iff.mp H
  obtain ⟨t2075, A150, H⟩ := H
  have A15 := Aside0.mk A150
  clear A150
  by_cases c16 : t2075 = true
  ·
   subst c16
   rw [if_pos rfl] at H
   replace H := Option.bind_eq_some_iff.mp H
   obtain ⟨t2076, A170, H⟩ := H
   have A17 := Aside0.mk A170
   clear A170
   by_cases c18 : t2076 = true
   ·
    subst c18
    rw [if_pos rfl] at H
    by_cases c19 : t2029 = t2042
    ·
     rw [if_pos c19] at H
     have c19b0 : (t2029 == t2042) = true := beq_iff_eq.mpr c19
     have c19b1 : (t2029 != t2042) = false := bne_eq_false_iff_eq.mpr c19
     clear c19
     replace H := Option.bind_eq_some_iff.mp H
     obtain ⟨t2077, A200, H⟩ := H
     have A20 := Aside0.mk A200
     clear A200
     replace H := Option.bind_eq_some_iff.mp H
     obtain ⟨t2078, A210, H⟩ := H
     have A21 := Aside0.mk A210
     clear A210
     by_cases c22 : (t2077 != t2078) = true
     ·
      rw [if_pos c22] at H
      have c22b0 : (t2077 != t2078) = true := c22
      (try (have c22b1 : decide (t2077 = t2078) = false := by simpa using c22))
      (try (have c22b2 : (t2077 == t2078) = false := by simpa using c22))
      (try (have c22b3 : ¬ (t2077 = t2078) := by simpa using c22))
      clear c22
      exact absurd H (by simp)
     rw [if_neg c22] at H
     have c22b0 : (t2077 != t2078) = false := by simpa using c22
     (try (have c22b1 : decide (t2077 = t2078) = true := by simpa using c22))
     (try (have c22b2 : (t2077 == t2078) = true := by simpa using c22))
     clear c22
     replace H := Option.bind_eq_some_iff.mp H
     obtain ⟨t2079, A230, H⟩ := H
     have A23 := Aside0.mk A230
     clear A230
     replace H := Option.bind_eq_some_iff.mp H
     obtain ⟨t2080, A240, H⟩ := H
     have A24 := Aside0.mk A240
     clear A240
     by_cases c25 : (t2079 != t2080) = true
     ·
      rw [if_pos c25] at H
      have c25b0 : (t2079 != t2080) = true := c25
      (try (have c25b1 : decide (t2079 = t2080) = false := by simpa using c25))
      (try (have c25b2 : (t2079 == t2080) = false := by simpa using c25))
      (try (have c25b3 : ¬ (t2079 = t2080) := by simpa using c25))
      clear c25
      exact absurd H (by simp)
     rw [if_neg c25] at H
     have c25b0 : (t2079 != t2080) = false := by simpa using c25
     (try (have c25b1 : decide (t2079 = t2080) = true := by simpa using c25))
     (try (have c25b2 : (t2079 == t2080) = true := by simpa using c25))
     clear c25
     replace H := Option.bind_eq_some_iff.mp H
     obtain ⟨t2081, A260, H⟩ := H
     have A26 := Aside0.mk A260
     clear A260
     replace H := Option.bind_eq_some_iff.mp H
     obtain ⟨t2084, A270, H⟩ := H
     have A27 := Aside0.mk A270
     clear A270
     replace H := Option.bind_eq_some_iff.mp H
     obtain ⟨t2087, A280, H⟩ := H
     have A28 := Aside0.mk A280
     clear A280
     have HC29 := Aside0.mk H
     clear H
     go_enter Try.func14, Try.ntmps14
     try go_wp2_with (first | ((with_reducible refine gate_callee (f := 75) rfl ?_); refine gl_ (some 19) Try.func75 #[.slice A0 l0.length c0] ?_; (with_reducible refine (laws_big.calls _ _ l0 false _ ?side1 ?side2 A2.out).mono ?_); (case side1 => exact cp_ (HR0.out)); (case side2 => exact HC0.out); rintro e w' ⟨rfl, ⟨nd, rfl⟩⟩; refine ⟨_, rfl, ?_⟩) | ((with_reducible refine gate_callee (f := 79) rfl ?_); refine gl_ (some 22) Try.func79 #[.slice A0 l0.length c0] ?_; (with_reducible refine (spec_DrawTell.calls k _ _ l0 t1997 t2000 t2001 t2004 t2005 t2006 _ ?side1 ?side2 A4.out).mono ?_); (case side1 => exact cp_ (HR0.out)); (case side2 => exact HC0.out); rintro e w30 ⟨v1998, v2002, rfl, ho0, ho1, hb⟩; refine ⟨_, rfl, ?_⟩; obtain ⟨gbz1998, hz1998⟩ := Kd.S_name ho0; have HO1999 := Aside0.mk (Kd.S_lower (Kd.S_gez hz1998 ho0) (below_size (hs_ HB.out))); have HO2003 := Aside0.mk (Kd.R_lower (Kd.R_gez hz1998 ho1) (below_size (hs_ HB.out))); have n2_ := st_ HB hb; clear HB; have HB := n2_; clear n2_; (try clear hb); (try clear hk); (try clear ho0); (try clear ho1)) | ((with_reducible refine gd_ 3 rfl ?_); refine bv_ 3 #[.slice none 0 0, .bool false] 39 ?_; intro gb2007 hg w31 hbox hb; replace HO1999 := Aside0.mk (Kd.S_below (sp_ HO1999.out) hb); replace HO2003 := Aside0.mk (Kd.R_below (rp_ HO2003.out) hb); have BK2007 := Aside0.mk (hbox); have GW2007 := Aside0.mk ((gw_ hg (hs_ HB.out))); replace HB := st_ HB hb; have GE2007 := Ge_.mk GW2007.out; clear hb hbox hg) | ((with_reducible refine gd_ 4 rfl ?_); refine bv_ 4 #[.slice none 0 0, .int .i64 0, .int .i64 0, .string (⟨#[]⟩ : ByteArray)] 44 ?_; intro gb2008 hg w32 hbox hb; replace HO1999 := Aside0.mk (Kd.S_below (Kd.S_elderB (sp_ HO1999.out) gb2008 (Nat.le_of_eq hg.symm)) hb); replace HO2003 := Aside0.mk (Kd.R_below (rp_ HO2003.out) hb); have BK2008 := Aside0.mk (hbox); have GW2008 := Aside0.mk ((gw_ hg (hs_ HB.out))); replace HB := st_ HB hb; have GE2008 := Ge_.mk GW2008.out; have NB2007_2008 := Ne_.mk (nl_ BK2007.out hg); replace BK2007 := bk2_ BK2007 hb; have NB2008_2007 := Ne_.mk (NB2007_2008.out.symm); clear hb hbox hg; obtain ⟨Ao33, co33, eo33⟩ := Kd.S_slice HO1999.out; subst eo33; have hnb34 := NB2007_2008.out; have hnc34 := NB2008_2007.out; obtain ⟨z35_0, z35_1, y35_0, y35_1⟩ := bc2_ BK2007.out; obtain ⟨Ao36, co36, eo36⟩ := Kd.R_slice HO2003.out; subst eo36; obtain ⟨z37_0, z37_1, z37_2, z37_3, y37_0, y37_1, y37_2, y37_3⟩ := bc4_ BK2008.out) | ((with_reducible refine gate_callee (f := 25) rfl ?_); refine gl_ (some 27) Try.func25 #[.agg #[.slice Ao33 t1997.length co33, .bool t2000], .agg #[.slice Ao36 t2001.length co36, .int .i64 t2004, .int .i64 t2005, .string t2006]] ?_; (with_reducible refine (impl_Tell.calls k _ _ t1997 t2000 _ _ t2001 t2004 t2005 t2006 t2009 t2012 _ ?side1 ?side2 ?side3 ?side4 A5.out).mono ?_); (case side1 => refine (Kd.S_reads' (e := 44) (base := w.heap.size) (ok := fun k_ => ((some k_ ≠ (.slice Ao36 t2001.length co36 : Value).ownBlock ∧ gbz1998 ≤ k_) ∧ k_ ≠ gb2008)) (n := t1997.length) (c := co33) ?_).2.2; exact (by (with_reducible repeat (first | apply Kd.S_alloc | apply Kd.S_drewN | apply Kd.S_drew)); exact (Kd.S_mono (Kd.S_mono (sf_ gb2008 (Kd.S_far (p := ⟨gb2007, 1, none⟩) (Kd.S_far (p := ⟨gb2007, 0, none⟩) (Kd.S_mono (Kd.S_types HO1999.out BK2007.out (by decide)) (fun k_ hk => (⟨hk, hk.1.2⟩ : _ ∧ k_ ≠ gb2008))) (fun _ hk => hk.1.2) (.slice Ao33 t1997.length co33)) (fun _ hk => hk.1.2) (.bool t2000)) (fun _ hk => hk.2)) (fun _ h_ => h_.1)) (fun _ h_ => h_.1)))); (case side2 => exact (Kd.S_reads' HO1999.out).2.1); (case side3 => refine (Kd.R_reads' (e := 164) (base := w.heap.size) (ok := fun k_ => (True ∧ gbz1998 ≤ k_)) (n := t2001.length) (c := co36) ?_).2.2; exact (by (with_reducible repeat (first | apply Kd.R_alloc | apply Kd.R_drewN | apply Kd.R_drew)); exact (Kd.R_mono (Kd.R_mono (rf_ gb2008 (Kd.R_far (p := ⟨gb2007, 1, none⟩) (Kd.R_far (p := ⟨gb2007, 0, none⟩) (Kd.R_types (Kd.R_types HO2003.out BK2007.out (by decide)) BK2008.out (by decide)) (fun _ hk => hk.1.2) (.slice Ao33 t1997.length co33)) (fun _ hk => hk.1.2) (.bool t2000)) (fun _ hk => hk.2)) (fun _ h_ => h_.1)) (fun _ h_ => h_.1)))); (case side4 => exact (Kd.R_reads' HO2003.out).2.1); rintro e w38 ⟨v2010, rfl, ho0, hb⟩; refine ⟨_, rfl, ?_⟩; obtain ⟨gbz2010, hz2010⟩ := Kd.S_name ho0; replace HO1999 := Aside0.mk (Kd.S_below (Kd.S_ltz hz2010 (by (with_reducible repeat (first | apply Kd.S_alloc | apply Kd.S_drewN | apply Kd.S_drew)); exact (Kd.S_mono (Kd.S_mono (sf_ gb2008 (Kd.S_far (p := ⟨gb2007, 1, none⟩) (Kd.S_far (p := ⟨gb2007, 0, none⟩) (Kd.S_mono (Kd.S_types HO1999.out BK2007.out (by decide)) (fun k_ hk => (⟨hk, hk.1.2⟩ : _ ∧ k_ ≠ gb2008))) (fun _ hk => hk.1.2) (.slice Ao33 t1997.length co33)) (fun _ hk => hk.1.2) (.bool t2000)) (fun _ hk => hk.2)) (fun _ h_ => h_.1)) (fun _ h_ => h_.1)))) hb); replace HO2003 := Aside0.mk (Kd.R_below (Kd.R_ltz hz2010 (by (with_reducible repeat (first | apply Kd.R_alloc | apply Kd.R_drewN | apply Kd.R_drew)); exact (Kd.R_mono (Kd.R_mono (rf_ gb2008 (Kd.R_far (p := ⟨gb2007, 1, none⟩) (Kd.R_far (p := ⟨gb2007, 0, none⟩) (Kd.R_types (Kd.R_types HO2003.out BK2007.out (by decide)) BK2008.out (by decide)) (fun _ hk => hk.1.2) (.slice Ao33 t1997.length co33)) (fun _ hk => hk.1.2) (.bool t2000)) (fun _ hk => hk.2)) (fun _ h_ => h_.1)) (fun _ h_ => h_.1)))) hb); have HO2011 := Aside0.mk (Kd.S_lower (Kd.S_newB (Kd.S_gez hz2010 ho0) (g := gb2008) (o := .cells #[.slice Ao36 t2001.length co36, .int .i64 t2004, .int .i64 t2005, .string t2006] 44 (0, 0)) (bp_ BK2008.out)) (below_size (hs_ HB.out))); replace BK2007 := Aside0.mk (blk_below (g := gb2007) (o := .cells #[.slice Ao33 t1997.length co33, .bool t2000] 39 (0, 0)) (bp_ BK2007.out) hb); replace BK2008 := Aside0.mk (blk_below (g := gb2008) (o := .cells #[.slice Ao36 t2001.length co36, .int .i64 t2004, .int .i64 t2005, .string t2006] 44 (0, 0)) (bp_ BK2008.out) hb); replace HB := st_ HB hb; (try clear hb); (try clear hk); (try clear ho0)) | ((with_reducible refine gd_ 5 rfl ?_); refine bv_ 5 #[.slice none 0 0, .bool false] 39 ?_; intro gb2013 hg w39 hbox hb; replace HO1999 := Aside0.mk (Kd.S_below (sp_ HO1999.out) hb); replace HO2003 := Aside0.mk (Kd.R_below (rp_ HO2003.out) hb); replace HO2011 := Aside0.mk (Kd.S_below (sp_ HO2011.out) hb); have BK2013 := Aside0.mk (hbox); have GW2013 := Aside0.mk ((gw_ hg (hs_ HB.out))); replace HB := st_ HB hb; have GE2013 := Ge_.mk GW2013.out; have NB2007_2013 := Ne_.mk (nl_ BK2007.out hg); replace BK2007 := bk2_ BK2007 hb; have NB2013_2007 := Ne_.mk (NB2007_2013.out.symm); have NB2008_2013 := Ne_.mk (nl_ BK2008.out hg); replace BK2008 := bk2_ BK2008 hb; have NB2013_2008 := Ne_.mk (NB2008_2013.out.symm); clear hb hbox hg; obtain ⟨Ao40, co40, eo40⟩ := Kd.S_slice HO2011.out; subst eo40; have hnb41 := NB2013_2007.out; have hnc41 := NB2007_2013.out; have hnb42 := NB2013_2008.out; have hnc42 := NB2008_2013.out; obtain ⟨z43_0, z43_1, y43_0, y43_1⟩ := bc2_ BK2013.out) | ((with_reducible refine gate_callee (f := 80) rfl ?_); refine gl_ (some 29) Try.func80 #[.slice A0 l0.length c0] ?_; (with_reducible refine (spec_DrawHear.calls k _ _ l0 t2014 t2017 _ ?side1 ?side2 A6.out).mono ?_); (case side1 => exact Kd.C_below HR0.out (hs_ HB.out)); (case side2 => exact HC0.out); rintro e w44 ⟨v2015, rfl, ho0, hb⟩; refine ⟨_, rfl, ?_⟩; obtain ⟨gbz2015, hz2015⟩ := Kd.S_name ho0; replace HO1999 := Aside0.mk (Kd.S_below (Kd.S_ltz hz2015 (by (with_reducible repeat (first | apply Kd.S_alloc | apply Kd.S_drewN | apply Kd.S_drew)); exact (Kd.S_mono (sf_ gb2013 (Kd.S_types HO1999.out BK2013.out (by decide)) (fun _ hk => hk.2)) (fun _ h_ => h_.1)))) hb); replace HO2003 := Aside0.mk (Kd.R_below (Kd.R_ltz hz2015 (by (with_reducible repeat (first | apply Kd.R_alloc | apply Kd.R_drewN | apply Kd.R_drew)); exact (Kd.R_mono (rf_ gb2013 (Kd.R_types HO2003.out BK2013.out (by decide)) (fun _ hk => hk.2)) (fun _ h_ => h_.1)))) hb); replace HO2011 := Aside0.mk (Kd.S_below (Kd.S_ltz hz2015 (by (with_reducible repeat (first | apply Kd.S_alloc | apply Kd.S_drewN | apply Kd.S_drew)); exact (Kd.S_mono (sf_ gb2013 (Kd.S_types HO2011.out BK2013.out (by decide)) (fun _ hk => hk.2)) (fun _ h_ => h_.1)))) hb); have HO2016 := Aside0.mk (Kd.S_lower (Kd.S_newB (Kd.S_gez hz2015 ho0) (g := gb2008) (o := .cells #[.slice Ao36 t2001.length co36, .int .i64 t2004, .int .i64 t2005, .string t2006] 44 (0, 0)) (bq_ BK2008.out)) (below_size (hs_ HB.out))); replace BK2007 := bk2_ BK2007 hb; replace BK2008 := bk2_ BK2008 hb; replace BK2013 := Aside0.mk (blk_below (g := gb2013) (o := .cells #[.slice Ao40 t2009.length co40, .bool t2012] 39 (0, 0)) (bp_ BK2013.out) hb); replace HB := st_ HB hb; (try clear hb); (try clear hk); (try clear ho0)) | ((with_reducible refine gd_ 6 rfl ?_); refine bv_ 6 #[.slice none 0 0, .bool false] 39 ?_; intro gb2018 hg w45 hbox hb; replace HO1999 := Aside0.mk (Kd.S_below (sp_ HO1999.out) hb); replace HO2003 := Aside0.mk (Kd.R_below (rp_ HO2003.out) hb); replace HO2011 := Aside0.mk (Kd.S_below (sp_ HO2011.out) hb); replace HO2016 := Aside0.mk (Kd.S_below (sp_ HO2016.out) hb); have BK2018 := Aside0.mk (hbox); have GW2018 := Aside0.mk ((gw_ hg (hs_ HB.out))); have GE2018 := Ge_.mk ((gw_ hg (hs_ HB.out))); replace HB := st_ HB hb; have NB2007_2018 := Ne_.mk (nl_ BK2007.out hg); replace BK2007 := bk2_ BK2007 hb; have NB2018_2007 := Ne_.mk (NB2007_2018.out.symm); have NB2008_2018 := Ne_.mk (nl_ BK2008.out hg); replace BK2008 := bk2_ BK2008 hb; have NB2018_2008 := Ne_.mk (NB2008_2018.out.symm); have NB2013_2018 := Ne_.mk (nl_ BK2013.out hg); replace BK2013 := bk2_ BK2013 hb; have NB2018_2013 := Ne_.mk (NB2013_2018.out.symm); clear hb hbox hg; obtain ⟨Ao46, co46, eo46⟩ := Kd.S_slice HO2016.out; subst eo46; have hnb47 := NB2018_2007.out; have hnc47 := NB2007_2018.out; have hnb48 := NB2018_2008.out; have hnc48 := NB2008_2018.out; have hnb49 := NB2018_2013.out; have hnc49 := NB2013_2018.out; obtain ⟨z50_0, z50_1, y50_0, y50_1⟩ := bc2_ BK2018.out) | ((with_reducible refine gate_callee (f := 32) rfl ?_); refine gl_ (some 32) Try.func32 #[.agg #[.slice Ao46 t2014.length co46, .bool t2017]] ?_; (with_reducible refine (impl_Hear.calls k _ _ t2014 t2017 t2019 t2022 t2023 t2026 t2027 t2028 t2029 _ ?side1 ?side2 A7.out).mono ?_); (case side1 => refine (Kd.S_reads' (e := 44) (base := w.heap.size) (ok := fun k_ => ((True ∧ gbz2015 ≤ k_) ∧ k_ ≠ gb2008)) (n := t2014.length) (c := co46) ?_).2.2; exact (by (with_reducible repeat (first | apply Kd.S_alloc | apply Kd.S_drewN | apply Kd.S_drew)); exact (Kd.S_mono (sf_ gb2018 (Kd.S_types HO2016.out BK2018.out (by decide)) (fun _ hk => hk.2)) (fun _ h_ => h_.1)))); (case side2 => exact (Kd.S_reads' HO2016.out).2.1); rintro e w51 ⟨v2020, v2024, rfl, ho0, ho1, hb⟩; refine ⟨_, rfl, ?_⟩; obtain ⟨gbz2020, hz2020⟩ := Kd.S_name ho0; replace HO1999 := Aside0.mk (Kd.S_below (Kd.S_ltz hz2020 (by (with_reducible repeat (first | apply Kd.S_alloc | apply Kd.S_drewN | apply Kd.S_drew)); exact (Kd.S_mono (sf_ gb2018 (Kd.S_types HO1999.out BK2018.out (by decide)) (fun _ hk => hk.2)) (fun _ h_ => h_.1)))) hb); replace HO2003 := Aside0.mk (Kd.R_below (Kd.R_ltz hz2020 (by (with_reducible repeat (first | apply Kd.R_alloc | apply Kd.R_drewN | apply Kd.R_drew)); exact (Kd.R_mono (rf_ gb2018 (Kd.R_types HO2003.out BK2018.out (by decide)) (fun _ hk => hk.2)) (fun _ h_ => h_.1)))) hb); replace HO2011 := Aside0.mk (Kd.S_below (Kd.S_ltz hz2020 (by (with_reducible repeat (first | apply Kd.S_alloc | apply Kd.S_drewN | apply Kd.S_drew)); exact (Kd.S_mono (sf_ gb2018 (Kd.S_types HO2011.out BK2018.out (by decide)) (fun _ hk => hk.2)) (fun _ h_ => h_.1)))) hb); replace HO2016 := Aside0.mk (Kd.S_below (Kd.S_ltz hz2020 (by (with_reducible repeat (first | apply Kd.S_alloc | apply Kd.S_drewN | apply Kd.S_drew)); exact (Kd.S_mono (sf_ gb2018 (Kd.S_types HO2016.out BK2018.out (by decide)) (fun _ hk => hk.2)) (fun _ h_ => h_.1)))) hb); have HO2021 := Aside0.mk (Kd.S_lower (Kd.S_newB (Kd.S_gez hz2020 ho0) (g := gb2008) (o := .cells #[.slice Ao36 t2001.length co36, .int .i64 t2004, .int .i64 t2005, .string t2006] 44 (0, 0)) (bq_ BK2008.out)) (below_size (hs_ HB.out))); have HO2025 := Aside0.mk (Kd.R_lower (Kd.R_gez hz2020 ho1) (below_size (hs_ HB.out))); replace BK2007 := bk2_ BK2007 hb; replace BK2008 := bk2_ BK2008 hb; replace BK2013 := bk2_ BK2013 hb; replace BK2018 := Aside0.mk (blk_below (g := gb2018) (o := .cells #[.slice Ao46 t2014.length co46, .bool t2017] 39 (0, 0)) (bp_ BK2018.out) hb); replace HB := st_ HB hb; (try clear hb); (try clear hk); (try clear ho0); (try clear ho1)) | ((with_reducible refine gd_ 7 rfl ?_); refine bv_ 7 #[.slice none 0 0, .bool false] 39 ?_; intro gb2030 hg w52 hbox hb; replace HO1999 := Aside0.mk (Kd.S_below (sp_ HO1999.out) hb); replace HO2003 := Aside0.mk (Kd.R_below (rp_ HO2003.out) hb); replace HO2011 := Aside0.mk (Kd.S_below (sp_ HO2011.out) hb); replace HO2016 := Aside0.mk (Kd.S_below (sp_ HO2016.out) hb); replace HO2021 := Aside0.mk (Kd.S_below (sp_ HO2021.out) hb); replace HO2025 := Aside0.mk (Kd.R_below (rp_ HO2025.out) hb); have BK2030 := Aside0.mk (hbox); have GW2030 := Aside0.mk ((gw_ hg (hs_ HB.out))); have GE2030 := Ge_.mk ((gw_ hg (hs_ HB.out))); replace HB := st_ HB hb; have NB2007_2030 := Ne_.mk (nl_ BK2007.out hg); replace BK2007 := bk2_ BK2007 hb; have NB2030_2007 := Ne_.mk (NB2007_2030.out.symm); have NB2008_2030 := Ne_.mk (nl_ BK2008.out hg); replace BK2008 := bk2_ BK2008 hb; have NB2030_2008 := Ne_.mk (NB2008_2030.out.symm); have NB2013_2030 := Ne_.mk (nl_ BK2013.out hg); replace BK2013 := bk2_ BK2013 hb; have NB2030_2013 := Ne_.mk (NB2013_2030.out.symm); have NB2018_2030 := Ne_.mk (nl_ BK2018.out hg); replace BK2018 := bk2_ BK2018 hb; have NB2030_2018 := Ne_.mk (NB2018_2030.out.symm); clear hb hbox hg) | ((with_reducible refine gd_ 8 rfl ?_); refine bv_ 8 #[.slice none 0 0, .int .i64 0, .int .i64 0, .string (⟨#[]⟩ : ByteArray)] 44 ?_; intro gb2031 hg w53 hbox hb; replace HO1999 := Aside0.mk (Kd.S_below (Kd.S_elderB (sp_ HO1999.out) gb2031 (Nat.le_of_eq hg.symm)) hb); replace HO2003 := Aside0.mk (Kd.R_below (rp_ HO2003.out) hb); replace HO2011 := Aside0.mk (Kd.S_below (Kd.S_elderB (sp_ HO2011.out) gb2031 (Nat.le_of_eq hg.symm)) hb); replace HO2016 := Aside0.mk (Kd.S_below (Kd.S_elderB (sp_ HO2016.out) gb2031 (Nat.le_of_eq hg.symm)) hb); replace HO2021 := Aside0.mk (Kd.S_below (Kd.S_elderB (sp_ HO2021.out) gb2031 (Nat.le_of_eq hg.symm)) hb); replace HO2025 := Aside0.mk (Kd.R_below (rp_ HO2025.out) hb); have BK2031 := Aside0.mk (hbox); have GW2031 := Aside0.mk ((gw_ hg (hs_ HB.out))); have GE2031 := Ge_.mk ((gw_ hg (hs_ HB.out))); replace HB := st_ HB hb; have NB2007_2031 := Ne_.mk (nl_ BK2007.out hg); replace BK2007 := bk2_ BK2007 hb; have NB2031_2007 := Ne_.mk (NB2007_2031.out.symm); have NB2008_2031 := Ne_.mk (nl_ BK2008.out hg); replace BK2008 := bk2_ BK2008 hb; have NB2031_2008 := Ne_.mk (NB2008_2031.out.symm); have NB2013_2031 := Ne_.mk (nl_ BK2013.out hg); replace BK2013 := bk2_ BK2013 hb; have NB2031_2013 := Ne_.mk (NB2013_2031.out.symm); have NB2018_2031 := Ne_.mk (nl_ BK2018.out hg); replace BK2018 := bk2_ BK2018 hb; have NB2031_2018 := Ne_.mk (NB2018_2031.out.symm); have NB2030_2031 := Ne_.mk (nl_ BK2030.out hg); replace BK2030 := bk2_ BK2030 hb; have NB2031_2030 := Ne_.mk (NB2030_2031.out.symm); clear hb hbox hg; obtain ⟨Ao54, co54, eo54⟩ := Kd.S_slice HO2021.out; subst eo54; have hnb55 := NB2030_2007.out; have hnc55 := NB2007_2030.out; have hnb56 := NB2030_2008.out; have hnc56 := NB2008_2030.out; have hnb57 := NB2030_2013.out; have hnc57 := NB2013_2030.out; have hnb58 := NB2030_2018.out; have hnc58 := NB2018_2030.out; have hnb59 := NB2030_2031.out; have hnc59 := NB2031_2030.out; obtain ⟨z60_0, z60_1, y60_0, y60_1⟩ := bc2_ BK2030.out; obtain ⟨Ao61, co61, eo61⟩ := Kd.R_slice HO2025.out; subst eo61; have hnb62 := NB2031_2007.out; have hnc62 := NB2007_2031.out; have hnb63 := NB2031_2008.out; have hnc63 := NB2008_2031.out; have hnb64 := NB2031_2013.out; have hnc64 := NB2013_2031.out; have hnb65 := NB2031_2018.out; have hnc65 := NB2018_2031.out; obtain ⟨z66_0, z66_1, z66_2, z66_3, y66_0, y66_1, y66_2, y66_3⟩ := bc4_ BK2031.out; obtain ⟨z67_0, z67_1, y67_0, y67_1⟩ := bc2_ BK2018.out) | ((with_reducible refine gate_callee (f := 31) rfl ?_); refine gl_ (some 38) Try.func31 #[.agg #[.slice Ao46 t2014.length co46, .bool t2017]] ?_; (with_reducible refine (spec_Hear.calls k _ _ t2014 t2017 t2032 t2035 t2036 t2039 t2040 t2041 t2042 _ ?side1 ?side2 A8.out).mono ?_); (case side1 => refine (Kd.S_reads' (e := 44) (base := w.heap.size) (ok := fun k_ => ((((True ∧ gbz2015 ≤ k_) ∧ k_ ≠ gb2008) ∧ k_ < gbz2020) ∧ k_ ≠ gb2031)) (n := t2014.length) (c := co46) ?_).2.2; exact (by (with_reducible repeat (first | apply Kd.S_alloc | apply Kd.S_drewN | apply Kd.S_drew)); exact (Kd.S_mono (Kd.S_mono (sf_ gb2031 (Kd.S_far (p := ⟨gb2030, 1, none⟩) (Kd.S_far (p := ⟨gb2030, 0, none⟩) (Kd.S_mono (Kd.S_types HO2016.out BK2030.out (by decide)) (fun k_ hk => (⟨hk, hk.1.2⟩ : _ ∧ k_ ≠ gb2031))) (fun _ hk => hk.1.2) (.slice Ao54 t2019.length co54)) (fun _ hk => hk.1.2) (.bool t2022)) (fun _ hk => hk.2)) (fun _ h_ => h_.1)) (fun _ h_ => h_.1)))); (case side2 => exact (Kd.S_reads' HO2016.out).2.1); rintro e w68 ⟨v2033, v2037, rfl, ho0, ho1, hb⟩; refine ⟨_, rfl, ?_⟩; obtain ⟨gbz2033, hz2033⟩ := Kd.S_name ho0; replace HO1999 := Aside0.mk (Kd.S_below (Kd.S_ltz hz2033 (by (with_reducible repeat (first | apply Kd.S_alloc | apply Kd.S_drewN | apply Kd.S_drew)); exact (Kd.S_mono (Kd.S_mono (sf_ gb2031 (Kd.S_far (p := ⟨gb2030, 1, none⟩) (Kd.S_far (p := ⟨gb2030, 0, none⟩) (Kd.S_mono (Kd.S_types HO1999.out BK2030.out (by decide)) (fun k_ hk => (⟨hk, hk.1.2⟩ : _ ∧ k_ ≠ gb2031))) (fun _ hk => hk.1.2) (.slice Ao54 t2019.length co54)) (fun _ hk => hk.1.2) (.bool t2022)) (fun _ hk => hk.2)) (fun _ h_ => h_.1)) (fun _ h_ => h_.1)))) hb); replace HO2003 := Aside0.mk (Kd.R_below (Kd.R_ltz hz2033 (by (with_reducible repeat (first | apply Kd.R_alloc | apply Kd.R_drewN | apply Kd.R_drew)); exact (Kd.R_mono (Kd.R_mono (rf_ gb2031 (Kd.R_far (p := ⟨gb2030, 1, none⟩) (Kd.R_far (p := ⟨gb2030, 0, none⟩) (Kd.R_types (Kd.R_types HO2003.out BK2030.out (by decide)) BK2031.out (by decide)) (fun _ hk => hk.1.2) (.slice Ao54 t2019.length co54)) (fun _ hk => hk.1.2) (.bool t2022)) (fun _ hk => hk.2)) (fun _ h_ => h_.1)) (fun _ h_ => h_.1)))) hb); replace HO2011 := Aside0.mk (Kd.S_below (Kd.S_ltz hz2033 (by (with_reducible repeat (first | apply Kd.S_alloc | apply Kd.S_drewN | apply Kd.S_drew)); exact (Kd.S_mono (Kd.S_mono (sf_ gb2031 (Kd.S_far (p := ⟨gb2030, 1, none⟩) (Kd.S_far (p := ⟨gb2030, 0, none⟩) (Kd.S_mono (Kd.S_types HO2011.out BK2030.out (by decide)) (fun k_ hk => (⟨hk, hk.1.2⟩ : _ ∧ k_ ≠ gb2031))) (fun _ hk => hk.1.2) (.slice Ao54 t2019.length co54)) (fun _ hk => hk.1.2) (.bool t2022)) (fun _ hk => hk.2)) (fun _ h_ => h_.1)) (fun _ h_ => h_.1)))) hb); replace HO2016 := Aside0.mk (Kd.S_below (Kd.S_ltz hz2033 (by (with_reducible repeat (first | apply Kd.S_alloc | apply Kd.S_drewN | apply Kd.S_drew)); exact (Kd.S_mono (Kd.S_mono (sf_ gb2031 (Kd.S_far (p := ⟨gb2030, 1, none⟩) (Kd.S_far (p := ⟨gb2030, 0, none⟩) (Kd.S_mono (Kd.S_types HO2016.out BK2030.out (by decide)) (fun k_ hk => (⟨hk, hk.1.2⟩ : _ ∧ k_ ≠ gb2031))) (fun _ hk => hk.1.2) (.slice Ao54 t2019.length co54)) (fun _ hk => hk.1.2) (.bool t2022)) (fun _ hk => hk.2)) (fun _ h_ => h_.1)) (fun _ h_ => h_.1)))) hb); replace HO2021 := Aside0.mk (Kd.S_below (Kd.S_ltz hz2033 (by (with_reducible repeat (first | apply Kd.S_alloc | apply Kd.S_drewN | apply Kd.S_drew)); exact (Kd.S_mono (Kd.S_mono (sf_ gb2031 (Kd.S_far (p := ⟨gb2030, 1, none⟩) (Kd.S_far (p := ⟨gb2030, 0, none⟩) (Kd.S_mono (Kd.S_types HO2021.out BK2030.out (by decide)) (fun k_ hk => (⟨hk, hk.1.2⟩ : _ ∧ k_ ≠ gb2031))) (fun _ hk => hk.1.2) (.slice Ao54 t2019.length co54)) (fun _ hk => hk.1.2) (.bool t2022)) (fun _ hk => hk.2)) (fun _ h_ => h_.1)) (fun _ h_ => h_.1)))) hb); replace HO2025 := Aside0.mk (Kd.R_below (Kd.R_ltz hz2033 (by (with_reducible repeat (first | apply Kd.R_alloc | apply Kd.R_drewN | apply Kd.R_drew)); exact (Kd.R_mono (Kd.R_mono (rf_ gb2031 (Kd.R_far (p := ⟨gb2030, 1, none⟩) (Kd.R_far (p := ⟨gb2030, 0, none⟩) (Kd.R_types (Kd.R_types HO2025.out BK2030.out (by decide)) BK2031.out (by decide)) (fun _ hk => hk.1.2) (.slice Ao54 t2019.length co54)) (fun _ hk => hk.1.2) (.bool t2022)) (fun _ hk => hk.2)) (fun _ h_ => h_.1)) (fun _ h_ => h_.1)))) hb); have HO2034 := Aside0.mk (Kd.S_lower (Kd.S_newB (Kd.S_newB (Kd.S_gez hz2033 ho0) (g := gb2008) (o := .cells #[.slice Ao36 t2001.length co36, .int .i64 t2004, .int .i64 t2005, .string t2006] 44 (0, 0)) (bq_ BK2008.out)) (g := gb2031) (o := .cells #[.slice Ao61 t2023.length co61, .int .i64 t2026, .int .i64 t2027, .string t2028] 44 (0, 0)) (bp_ BK2031.out)) (below_size (hs_ HB.out))); have HO2038 := Aside0.mk (Kd.R_lower (Kd.R_gez hz2033 ho1) (below_size (hs_ HB.out))); replace BK2007 := bk2_ BK2007 hb; replace BK2008 := bk2_ BK2008 hb; replace BK2013 := bk2_ BK2013 hb; replace BK2018 := bk2_ BK2018 hb; replace BK2030 := Aside0.mk (blk_below (g := gb2030) (o := .cells #[.slice Ao54 t2019.length co54, .bool t2022] 39 (0, 0)) (bp_ BK2030.out) hb); replace BK2031 := Aside0.mk (blk_below (g := gb2031) (o := .cells #[.slice Ao61 t2023.length co61, .int .i64 t2026, .int .i64 t2027, .string t2028] 44 (0, 0)) (bp_ BK2031.out) hb); replace HB := st_ HB hb; (try clear hb); (try clear hk); (try clear ho0); (try clear ho1)) | ((with_reducible refine gd_ 10 rfl ?_); refine bv_ 10 #[.slice none 0 0, .bool false] 39 ?_; intro gb2043 hg w69 hbox hb; replace HO1999 := Aside0.mk (Kd.S_below (sp_ HO1999.out) hb); replace HO2003 := Aside0.mk (Kd.R_below (rp_ HO2003.out) hb); replace HO2011 := Aside0.mk (Kd.S_below (sp_ HO2011.out) hb); replace HO2021 := Aside0.mk (Kd.S_below (sp_ HO2021.out) hb); replace HO2025 := Aside0.mk (Kd.R_below (rp_ HO2025.out) hb); replace HO2034 := Aside0.mk (Kd.S_below (sp_ HO2034.out) hb); replace HO2038 := Aside0.mk (Kd.R_below (rp_ HO2038.out) hb); have BK2043 := Aside0.mk (hbox); have GW2043 := Aside0.mk ((gw_ hg (hs_ HB.out))); have GE2043 := Ge_.mk ((gw_ hg (hs_ HB.out))); replace HB := st_ HB hb; have NB2007_2043 := Ne_.mk (nl_ BK2007.out hg); replace BK2007 := bk2_ BK2007 hb; have NB2043_2007 := Ne_.mk (NB2007_2043.out.symm); have NB2008_2043 := Ne_.mk (nl_ BK2008.out hg); replace BK2008 := bk2_ BK2008 hb; have NB2043_2008 := Ne_.mk (NB2008_2043.out.symm); have NB2013_2043 := Ne_.mk (nl_ BK2013.out hg); replace BK2013 := bk2_ BK2013 hb; have NB2043_2013 := Ne_.mk (NB2013_2043.out.symm); have NB2030_2043 := Ne_.mk (nl_ BK2030.out hg); replace BK2030 := bk2_ BK2030 hb; have NB2043_2030 := Ne_.mk (NB2030_2043.out.symm); have NB2031_2043 := Ne_.mk (nl_ BK2031.out hg); replace BK2031 := bk2_ BK2031 hb; have NB2043_2031 := Ne_.mk (NB2031_2043.out.symm); clear hb hbox hg) | ((with_reducible refine gd_ 11 rfl ?_); refine bv_ 11 #[.slice none 0 0, .int .i64 0, .int .i64 0, .string (⟨#[]⟩ : ByteArray)] 44 ?_; intro gb2044 hg w70 hbox hb; replace HO1999 := Aside0.mk (Kd.S_below (Kd.S_elderB (sp_ HO1999.out) gb2044 (Nat.le_of_eq hg.symm)) hb); replace HO2003 := Aside0.mk (Kd.R_below (rp_ HO2003.out) hb); replace HO2011 := Aside0.mk (Kd.S_below (Kd.S_elderB (sp_ HO2011.out) gb2044 (Nat.le_of_eq hg.symm)) hb); replace HO2021 := Aside0.mk (Kd.S_below (Kd.S_elderB (sp_ HO2021.out) gb2044 (Nat.le_of_eq hg.symm)) hb); replace HO2025 := Aside0.mk (Kd.R_below (rp_ HO2025.out) hb); replace HO2034 := Aside0.mk (Kd.S_below (Kd.S_elderB (sp_ HO2034.out) gb2044 (Nat.le_of_eq hg.symm)) hb); replace HO2038 := Aside0.mk (Kd.R_below (rp_ HO2038.out) hb); have BK2044 := Aside0.mk (hbox); have GW2044 := Aside0.mk ((gw_ hg (hs_ HB.out))); have GE2044 := Ge_.mk ((gw_ hg (hs_ HB.out))); replace HB := st_ HB hb; have NB2007_2044 := Ne_.mk (nl_ BK2007.out hg); replace BK2007 := bk2_ BK2007 hb; have NB2044_2007 := Ne_.mk (NB2007_2044.out.symm); have NB2008_2044 := Ne_.mk (nl_ BK2008.out hg); replace BK2008 := bk2_ BK2008 hb; have NB2044_2008 := Ne_.mk (NB2008_2044.out.symm); have NB2013_2044 := Ne_.mk (nl_ BK2013.out hg); replace BK2013 := bk2_ BK2013 hb; have NB2044_2013 := Ne_.mk (NB2013_2044.out.symm); have NB2030_2044 := Ne_.mk (nl_ BK2030.out hg); replace BK2030 := bk2_ BK2030 hb; have NB2044_2030 := Ne_.mk (NB2030_2044.out.symm); have NB2031_2044 := Ne_.mk (nl_ BK2031.out hg); replace BK2031 := bk2_ BK2031 hb; have NB2044_2031 := Ne_.mk (NB2031_2044.out.symm); have NB2043_2044 := Ne_.mk (nl_ BK2043.out hg); replace BK2043 := bk2_ BK2043 hb; have NB2044_2043 := Ne_.mk (NB2043_2044.out.symm); clear hb hbox hg; obtain ⟨Ao71, co71, eo71⟩ := Kd.S_slice HO2034.out; subst eo71; have hnb72 := NB2043_2007.out; have hnc72 := NB2007_2043.out; have hnb73 := NB2043_2008.out; have hnc73 := NB2008_2043.out; have hnb74 := NB2043_2013.out; have hnc74 := NB2013_2043.out; have hnb75 := NB2043_2030.out; have hnc75 := NB2030_2043.out; have hnb76 := NB2043_2031.out; have hnc76 := NB2031_2043.out; have hnb77 := NB2043_2044.out; have hnc77 := NB2044_2043.out; obtain ⟨z78_0, z78_1, y78_0, y78_1⟩ := bc2_ BK2043.out; obtain ⟨Ao79, co79, eo79⟩ := Kd.R_slice HO2038.out; subst eo79; have hnb80 := NB2044_2007.out; have hnc80 := NB2007_2044.out; have hnb81 := NB2044_2008.out; have hnc81 := NB2008_2044.out; have hnb82 := NB2044_2013.out; have hnc82 := NB2013_2044.out; have hnb83 := NB2044_2030.out; have hnc83 := NB2030_2044.out; have hnb84 := NB2044_2031.out; have hnc84 := NB2031_2044.out; obtain ⟨z85_0, z85_1, z85_2, z85_3, y85_0, y85_1, y85_2, y85_3⟩ := bc4_ BK2044.out) | ((with_reducible refine gate_callee (f := 81) rfl ?_); refine gl_ (some 43) Try.func81 #[.slice A0 l0.length c0] ?_; (with_reducible refine (spec_DrawSubOk.calls k _ _ l0 t2045 t2048 _ ?side1 ?side2 A9.out).mono ?_); (case side1 => exact Kd.C_below HR0.out (hs_ HB.out)); (case side2 => exact HC0.out); rintro e w86 ⟨v2046, rfl, ho0, hb⟩; refine ⟨_, rfl, ?_⟩; obtain ⟨gbz2046, hz2046⟩ := Kd.S_name ho0; replace HO1999 := Aside0.mk (Kd.S_below (Kd.S_ltz hz2046 (by (with_reducible repeat (first | apply Kd.S_alloc | apply Kd.S_drewN | apply Kd.S_drew)); exact (Kd.S_mono (Kd.S_mono (sf_ gb2044 (Kd.S_far (p := ⟨gb2043, 1, none⟩) (Kd.S_far (p := ⟨gb2043, 0, none⟩) (Kd.S_mono (Kd.S_types HO1999.out BK2043.out (by decide)) (fun k_ hk => (⟨hk, hk.1.2⟩ : _ ∧ k_ ≠ gb2044))) (fun _ hk => hk.1.2) (.slice Ao71 t2032.length co71)) (fun _ hk => hk.1.2) (.bool t2035)) (fun _ hk => hk.2)) (fun _ h_ => h_.1)) (fun _ h_ => h_.1)))) hb); replace HO2003 := Aside0.mk (Kd.R_below (Kd.R_ltz hz2046 (by (with_reducible repeat (first | apply Kd.R_alloc | apply Kd.R_drewN | apply Kd.R_drew)); exact (Kd.R_mono (Kd.R_mono (rf_ gb2044 (Kd.R_far (p := ⟨gb2043, 1, none⟩) (Kd.R_far (p := ⟨gb2043, 0, none⟩) (Kd.R_types (Kd.R_types HO2003.out BK2043.out (by decide)) BK2044.out (by decide)) (fun _ hk => hk.1.2) (.slice Ao71 t2032.length co71)) (fun _ hk => hk.1.2) (.bool t2035)) (fun _ hk => hk.2)) (fun _ h_ => h_.1)) (fun _ h_ => h_.1)))) hb); replace HO2011 := Aside0.mk (Kd.S_below (Kd.S_ltz hz2046 (by (with_reducible repeat (first | apply Kd.S_alloc | apply Kd.S_drewN | apply Kd.S_drew)); exact (Kd.S_mono (Kd.S_mono (sf_ gb2044 (Kd.S_far (p := ⟨gb2043, 1, none⟩) (Kd.S_far (p := ⟨gb2043, 0, none⟩) (Kd.S_mono (Kd.S_types HO2011.out BK2043.out (by decide)) (fun k_ hk => (⟨hk, hk.1.2⟩ : _ ∧ k_ ≠ gb2044))) (fun _ hk => hk.1.2) (.slice Ao71 t2032.length co71)) (fun _ hk => hk.1.2) (.bool t2035)) (fun _ hk => hk.2)) (fun _ h_ => h_.1)) (fun _ h_ => h_.1)))) hb); replace HO2021 := Aside0.mk (Kd.S_below (Kd.S_ltz hz2046 (by (with_reducible repeat (first | apply Kd.S_alloc | apply Kd.S_drewN | apply Kd.S_drew)); exact (Kd.S_mono (Kd.S_mono (sf_ gb2044 (Kd.S_far (p := ⟨gb2043, 1, none⟩) (Kd.S_far (p := ⟨gb2043, 0, none⟩) (Kd.S_mono (Kd.S_types HO2021.out BK2043.out (by decide)) (fun k_ hk => (⟨hk, hk.1.2⟩ : _ ∧ k_ ≠ gb2044))) (fun _ hk => hk.1.2) (.slice Ao71 t2032.length co71)) (fun _ hk => hk.1.2) (.bool t2035)) (fun _ hk => hk.2)) (fun _ h_ => h_.1)) (fun _ h_ => h_.1)))) hb); replace HO2025 := Aside0.mk (Kd.R_below (Kd.R_ltz hz2046 (by (with_reducible repeat (first | apply Kd.R_alloc | apply Kd.R_drewN | apply Kd.R_drew)); exact (Kd.R_mono (Kd.R_mono (rf_ gb2044 (Kd.R_far (p := ⟨gb2043, 1, none⟩) (Kd.R_far (p := ⟨gb2043, 0, none⟩) (Kd.R_types (Kd.R_types HO2025.out BK2043.out (by decide)) BK2044.out (by decide)) (fun _ hk => hk.1.2) (.slice Ao71 t2032.length co71)) (fun _ hk => hk.1.2) (.bool t2035)) (fun _ hk => hk.2)) (fun _ h_ => h_.1)) (fun _ h_ => h_.1)))) hb); replace HO2034 := Aside0.mk (Kd.S_below (Kd.S_ltz hz2046 (by (with_reducible repeat (first | apply Kd.S_alloc | apply Kd.S_drewN | apply Kd.S_drew)); exact (Kd.S_mono (Kd.S_mono (sf_ gb2044 (Kd.S_far (p := ⟨gb2043, 1, none⟩) (Kd.S_far (p := ⟨gb2043, 0, none⟩) (Kd.S_mono (Kd.S_types HO2034.out BK2043.out (by decide)) (fun k_ hk => (⟨hk, hk.1.2⟩ : _ ∧ k_ ≠ gb2044))) (fun _ hk => hk.1.2) (.slice Ao71 t2032.length co71)) (fun _ hk => hk.1.2) (.bool t2035)) (fun _ hk => hk.2)) (fun _ h_ => h_.1)) (fun _ h_ => h_.1)))) hb); replace HO2038 := Aside0.mk (Kd.R_below (Kd.R_ltz hz2046 (by (with_reducible repeat (first | apply Kd.R_alloc | apply Kd.R_drewN | apply Kd.R_drew)); exact (Kd.R_mono (Kd.R_mono (rf_ gb2044 (Kd.R_far (p := ⟨gb2043, 1, none⟩) (Kd.R_far (p := ⟨gb2043, 0, none⟩) (Kd.R_types (Kd.R_types HO2038.out BK2043.out (by decide)) BK2044.out (by decide)) (fun _ hk => hk.1.2) (.slice Ao71 t2032.length co71)) (fun _ hk => hk.1.2) (.bool t2035)) (fun _ hk => hk.2)) (fun _ h_ => h_.1)) (fun _ h_ => h_.1)))) hb); have HO2047 := Aside0.mk (Kd.S_lower (Kd.S_newB (Kd.S_newB (Kd.S_newB (Kd.S_gez hz2046 ho0) (g := gb2008) (o := .cells #[.slice Ao36 t2001.length co36, .int .i64 t2004, .int .i64 t2005, .string t2006] 44 (0, 0)) (bq_ BK2008.out)) (g := gb2031) (o := .cells #[.slice Ao61 t2023.length co61, .int .i64 t2026, .int .i64 t2027, .string t2028] 44 (0, 0)) (bq_ BK2031.out)) (g := gb2044) (o := .cells #[.slice Ao79 t2036.length co79, .int .i64 t2039, .int .i64 t2040, .string t2041] 44 (0, 0)) (bp_ BK2044.out)) (below_size (hs_ HB.out))); replace BK2007 := bk2_ BK2007 hb; replace BK2008 := bk2_ BK2008 hb; replace BK2013 := bk2_ BK2013 hb; replace BK2030 := bk2_ BK2030 hb; replace BK2031 := bk2_ BK2031 hb; replace BK2043 := Aside0.mk (blk_below (g := gb2043) (o := .cells #[.slice Ao71 t2032.length co71, .bool t2035] 39 (0, 0)) (bp_ BK2043.out) hb); replace BK2044 := Aside0.mk (blk_below (g := gb2044) (o := .cells #[.slice Ao79 t2036.length co79, .int .i64 t2039, .int .i64 t2040, .string t2041] 44 (0, 0)) (bp_ BK2044.out) hb); replace HB := st_ HB hb; (try clear hb); (try clear hk); (try clear ho0)) | ((with_reducible refine gd_ 13 rfl ?_); refine bv_ 13 #[.slice none 0 0, .bool false] 39 ?_; intro gb2049 hg w87 hbox hb; replace HO1999 := Aside0.mk (Kd.S_below (sp_ HO1999.out) hb); replace HO2003 := Aside0.mk (Kd.R_below (rp_ HO2003.out) hb); replace HO2011 := Aside0.mk (Kd.S_below (sp_ HO2011.out) hb); replace HO2021 := Aside0.mk (Kd.S_below (sp_ HO2021.out) hb); replace HO2025 := Aside0.mk (Kd.R_below (rp_ HO2025.out) hb); replace HO2034 := Aside0.mk (Kd.S_below (sp_ HO2034.out) hb); replace HO2038 := Aside0.mk (Kd.R_below (rp_ HO2038.out) hb); replace HO2047 := Aside0.mk (Kd.S_below (sp_ HO2047.out) hb); have BK2049 := Aside0.mk (hbox); have GW2049 := Aside0.mk ((gw_ hg (hs_ HB.out))); have GE2049 := Ge_.mk ((gw_ hg (hs_ HB.out))); replace HB := st_ HB hb; have NB2007_2049 := Ne_.mk (nl_ BK2007.out hg); replace BK2007 := bk2_ BK2007 hb; have NB2049_2007 := Ne_.mk (NB2007_2049.out.symm); have NB2008_2049 := Ne_.mk (nl_ BK2008.out hg); replace BK2008 := bk2_ BK2008 hb; have NB2049_2008 := Ne_.mk (NB2008_2049.out.symm); have NB2013_2049 := Ne_.mk (nl_ BK2013.out hg); replace BK2013 := bk2_ BK2013 hb; have NB2049_2013 := Ne_.mk (NB2013_2049.out.symm); have NB2030_2049 := Ne_.mk (nl_ BK2030.out hg); replace BK2030 := bk2_ BK2030 hb; have NB2049_2030 := Ne_.mk (NB2030_2049.out.symm); have NB2031_2049 := Ne_.mk (nl_ BK2031.out hg); replace BK2031 := bk2_ BK2031 hb; have NB2049_2031 := Ne_.mk (NB2031_2049.out.symm); have NB2043_2049 := Ne_.mk (nl_ BK2043.out hg); replace BK2043 := bk2_ BK2043 hb; have NB2049_2043 := Ne_.mk (NB2043_2049.out.symm); have NB2044_2049 := Ne_.mk (nl_ BK2044.out hg); replace BK2044 := bk2_ BK2044 hb; have NB2049_2044 := Ne_.mk (NB2044_2049.out.symm); clear hb hbox hg; obtain ⟨Ao88, co88, eo88⟩ := Kd.S_slice HO2047.out; subst eo88; have hnb89 := NB2049_2007.out; have hnc89 := NB2007_2049.out; have hnb90 := NB2049_2008.out; have hnc90 := NB2008_2049.out; have hnb91 := NB2049_2013.out; have hnc91 := NB2013_2049.out; have hnb92 := NB2049_2030.out; have hnc92 := NB2030_2049.out; have hnb93 := NB2049_2031.out; have hnc93 := NB2031_2049.out; have hnb94 := NB2049_2043.out; have hnc94 := NB2043_2049.out; have hnb95 := NB2049_2044.out; have hnc95 := NB2044_2049.out; obtain ⟨z96_0, z96_1, y96_0, y96_1⟩ := bc2_ BK2049.out) | ((with_reducible refine gate_callee (f := 82) rfl ?_); refine gl_ (some 46) Try.func82 #[.slice A0 l0.length c0] ?_; (with_reducible refine (spec_DrawSameSub.calls k _ _ l0 t2050 t2053 t2054 t2057 _ ?side1 ?side2 A10.out).mono ?_); (case side1 => exact Kd.C_below HR0.out (hs_ HB.out)); (case side2 => exact HC0.out); rintro e w97 ⟨v2051, v2055, rfl, ho0, ho1, hb⟩; refine ⟨_, rfl, ?_⟩; obtain ⟨gbz2051, hz2051⟩ := Kd.S_name ho0; replace HO1999 := Aside0.mk (Kd.S_below (Kd.S_ltz hz2051 (by (with_reducible repeat (first | apply Kd.S_alloc | apply Kd.S_drewN | apply Kd.S_drew)); exact (Kd.S_mono (sf_ gb2049 (Kd.S_types HO1999.out BK2049.out (by decide)) (fun _ hk => hk.2)) (fun _ h_ => h_.1)))) hb); replace HO2003 := Aside0.mk (Kd.R_below (Kd.R_ltz hz2051 (by (with_reducible repeat (first | apply Kd.R_alloc | apply Kd.R_drewN | apply Kd.R_drew)); exact (Kd.R_mono (rf_ gb2049 (Kd.R_types HO2003.out BK2049.out (by decide)) (fun _ hk => hk.2)) (fun _ h_ => h_.1)))) hb); replace HO2011 := Aside0.mk (Kd.S_below (Kd.S_ltz hz2051 (by (with_reducible repeat (first | apply Kd.S_alloc | apply Kd.S_drewN | apply Kd.S_drew)); exact (Kd.S_mono (sf_ gb2049 (Kd.S_types HO2011.out BK2049.out (by decide)) (fun _ hk => hk.2)) (fun _ h_ => h_.1)))) hb); replace HO2021 := Aside0.mk (Kd.S_below (Kd.S_ltz hz2051 (by (with_reducible repeat (first | apply Kd.S_alloc | apply Kd.S_drewN | apply Kd.S_drew)); exact (Kd.S_mono (sf_ gb2049 (Kd.S_types HO2021.out BK2049.out (by decide)) (fun _ hk => hk.2)) (fun _ h_ => h_.1)))) hb); replace HO2025 := Aside0.mk (Kd.R_below (Kd.R_ltz hz2051 (by (with_reducible repeat (first | apply Kd.R_alloc | apply Kd.R_drewN | apply Kd.R_drew)); exact (Kd.R_mono (rf_ gb2049 (Kd.R_types HO2025.out BK2049.out (by decide)) (fun _ hk => hk.2)) (fun _ h_ => h_.1)))) hb); replace HO2034 := Aside0.mk (Kd.S_below (Kd.S_ltz hz2051 (by (with_reducible repeat (first | apply Kd.S_alloc | apply Kd.S_drewN | apply Kd.S_drew)); exact (Kd.S_mono (sf_ gb2049 (Kd.S_types HO2034.out BK2049.out (by decide)) (fun _ hk => hk.2)) (fun _ h_ => h_.1)))) hb); replace HO2038 := Aside0.mk (Kd.R_below (Kd.R_ltz hz2051 (by (with_reducible repeat (first | apply Kd.R_alloc | apply Kd.R_drewN | apply Kd.R_drew)); exact (Kd.R_mono (rf_ gb2049 (Kd.R_types HO2038.out BK2049.out (by decide)) (fun _ hk => hk.2)) (fun _ h_ => h_.1)))) hb); replace HO2047 := Aside0.mk (Kd.S_below (Kd.S_ltz hz2051 (by (with_reducible repeat (first | apply Kd.S_alloc | apply Kd.S_drewN | apply Kd.S_drew)); exact (Kd.S_mono (sf_ gb2049 (Kd.S_types HO2047.out BK2049.out (by decide)) (fun _ hk => hk.2)) (fun _ h_ => h_.1)))) hb); have HO2052 := Aside0.mk (Kd.S_lower (Kd.S_newB (Kd.S_newB (Kd.S_newB (Kd.S_gez hz2051 ho0) (g := gb2008) (o := .cells #[.slice Ao36 t2001.length co36, .int .i64 t2004, .int .i64 t2005, .string t2006] 44 (0, 0)) (bq_ BK2008.out)) (g := gb2031) (o := .cells #[.slice Ao61 t2023.length co61, .int .i64 t2026, .int .i64 t2027, .string t2028] 44 (0, 0)) (bq_ BK2031.out)) (g := gb2044) (o := .cells #[.slice Ao79 t2036.length co79, .int .i64 t2039, .int .i64 t2040, .string t2041] 44 (0, 0)) (bq_ BK2044.out)) (below_size (hs_ HB.out))); have HO2056 := Aside0.mk (Kd.S_lower (Kd.S_newB (Kd.S_newB (Kd.S_newB (Kd.S_gez hz2051 ho1) (g := gb2008) (o := .cells #[.slice Ao36 t2001.length co36, .int .i64 t2004, .int .i64 t2005, .string t2006] 44 (0, 0)) (bq_ BK2008.out)) (g := gb2031) (o := .cells #[.slice Ao61 t2023.length co61, .int .i64 t2026, .int .i64 t2027, .string t2028] 44 (0, 0)) (bq_ BK2031.out)) (g := gb2044) (o := .cells #[.slice Ao79 t2036.length co79, .int .i64 t2039, .int .i64 t2040, .string t2041] 44 (0, 0)) (bq_ BK2044.out)) (below_size (hs_ HB.out))); replace BK2007 := bk2_ BK2007 hb; replace BK2008 := bk2_ BK2008 hb; replace BK2013 := bk2_ BK2013 hb; replace BK2030 := bk2_ BK2030 hb; replace BK2031 := bk2_ BK2031 hb; replace BK2043 := bk2_ BK2043 hb; replace BK2044 := bk2_ BK2044 hb; replace BK2049 := Aside0.mk (blk_below (g := gb2049) (o := .cells #[.slice Ao88 t2045.length co88, .bool t2048] 39 (0, 0)) (bp_ BK2049.out) hb); replace HB := st_ HB hb; (try clear hb); (try clear hk); (try clear ho0); (try clear ho1)) | ((with_reducible refine gd_ 14 rfl ?_); refine bv_ 14 #[.slice none 0 0, .bool false] 39 ?_; intro gb2058 hg w98 hbox hb; replace HO1999 := Aside0.mk (Kd.S_below (sp_ HO1999.out) hb); replace HO2003 := Aside0.mk (Kd.R_below (rp_ HO2003.out) hb); replace HO2011 := Aside0.mk (Kd.S_below (sp_ HO2011.out) hb); replace HO2021 := Aside0.mk (Kd.S_below (sp_ HO2021.out) hb); replace HO2025 := Aside0.mk (Kd.R_below (rp_ HO2025.out) hb); replace HO2034 := Aside0.mk (Kd.S_below (sp_ HO2034.out) hb); replace HO2038 := Aside0.mk (Kd.R_below (rp_ HO2038.out) hb); replace HO2047 := Aside0.mk (Kd.S_below (sp_ HO2047.out) hb); replace HO2052 := Aside0.mk (Kd.S_below (sp_ HO2052.out) hb); replace HO2056 := Aside0.mk (Kd.S_below (sp_ HO2056.out) hb); have BK2058 := Aside0.mk (hbox); have GW2058 := Aside0.mk ((gw_ hg (hs_ HB.out))); have GE2058 := Ge_.mk ((gw_ hg (hs_ HB.out))); replace HB := st_ HB hb; have NB2007_2058 := Ne_.mk (nl_ BK2007.out hg); replace BK2007 := bk2_ BK2007 hb; have NB2058_2007 := Ne_.mk (NB2007_2058.out.symm); have NB2008_2058 := Ne_.mk (nl_ BK2008.out hg); replace BK2008 := bk2_ BK2008 hb; have NB2058_2008 := Ne_.mk (NB2008_2058.out.symm); have NB2013_2058 := Ne_.mk (nl_ BK2013.out hg); replace BK2013 := bk2_ BK2013 hb; have NB2058_2013 := Ne_.mk (NB2013_2058.out.symm); have NB2030_2058 := Ne_.mk (nl_ BK2030.out hg); replace BK2030 := bk2_ BK2030 hb; have NB2058_2030 := Ne_.mk (NB2030_2058.out.symm); have NB2031_2058 := Ne_.mk (nl_ BK2031.out hg); replace BK2031 := bk2_ BK2031 hb; have NB2058_2031 := Ne_.mk (NB2031_2058.out.symm); have NB2043_2058 := Ne_.mk (nl_ BK2043.out hg); replace BK2043 := bk2_ BK2043 hb; have NB2058_2043 := Ne_.mk (NB2043_2058.out.symm); have NB2044_2058 := Ne_.mk (nl_ BK2044.out hg); replace BK2044 := bk2_ BK2044 hb; have NB2058_2044 := Ne_.mk (NB2044_2058.out.symm); have NB2049_2058 := Ne_.mk (nl_ BK2049.out hg); replace BK2049 := bk2_ BK2049 hb; have NB2058_2049 := Ne_.mk (NB2049_2058.out.symm); clear hb hbox hg) | ((with_reducible refine gd_ 15 rfl ?_); refine bv_ 15 #[.slice none 0 0, .bool false] 39 ?_; intro gb2059 hg w99 hbox hb; replace HO1999 := Aside0.mk (Kd.S_below (sp_ HO1999.out) hb); replace HO2003 := Aside0.mk (Kd.R_below (rp_ HO2003.out) hb); replace HO2011 := Aside0.mk (Kd.S_below (sp_ HO2011.out) hb); replace HO2021 := Aside0.mk (Kd.S_below (sp_ HO2021.out) hb); replace HO2025 := Aside0.mk (Kd.R_below (rp_ HO2025.out) hb); replace HO2034 := Aside0.mk (Kd.S_below (sp_ HO2034.out) hb); replace HO2038 := Aside0.mk (Kd.R_below (rp_ HO2038.out) hb); replace HO2047 := Aside0.mk (Kd.S_below (sp_ HO2047.out) hb); replace HO2052 := Aside0.mk (Kd.S_below (sp_ HO2052.out) hb); replace HO2056 := Aside0.mk (Kd.S_below (sp_ HO2056.out) hb); have BK2059 := Aside0.mk (hbox); have GW2059 := Aside0.mk ((gw_ hg (hs_ HB.out))); have GE2059 := Ge_.mk ((gw_ hg (hs_ HB.out))); replace HB := st_ HB hb; have NB2007_2059 := Ne_.mk (nl_ BK2007.out hg); replace BK2007 := bk2_ BK2007 hb; have NB2059_2007 := Ne_.mk (NB2007_2059.out.symm); have NB2008_2059 := Ne_.mk (nl_ BK2008.out hg); replace BK2008 := bk2_ BK2008 hb; have NB2059_2008 := Ne_.mk (NB2008_2059.out.symm); have NB2013_2059 := Ne_.mk (nl_ BK2013.out hg); replace BK2013 := bk2_ BK2013 hb; have NB2059_2013 := Ne_.mk (NB2013_2059.out.symm); have NB2030_2059 := Ne_.mk (nl_ BK2030.out hg); replace BK2030 := bk2_ BK2030 hb; have NB2059_2030 := Ne_.mk (NB2030_2059.out.symm); have NB2031_2059 := Ne_.mk (nl_ BK2031.out hg); replace BK2031 := bk2_ BK2031 hb; have NB2059_2031 := Ne_.mk (NB2031_2059.out.symm); have NB2043_2059 := Ne_.mk (nl_ BK2043.out hg); replace BK2043 := bk2_ BK2043 hb; have NB2059_2043 := Ne_.mk (NB2043_2059.out.symm); have NB2044_2059 := Ne_.mk (nl_ BK2044.out hg); replace BK2044 := bk2_ BK2044 hb; have NB2059_2044 := Ne_.mk (NB2044_2059.out.symm); have NB2049_2059 := Ne_.mk (nl_ BK2049.out hg); replace BK2049 := bk2_ BK2049 hb; have NB2059_2049 := Ne_.mk (NB2049_2059.out.symm); have NB2058_2059 := Ne_.mk (nl_ BK2058.out hg); replace BK2058 := bk2_ BK2058 hb; have NB2059_2058 := Ne_.mk (NB2058_2059.out.symm); clear hb hbox hg; obtain ⟨Ao100, co100, eo100⟩ := Kd.S_slice HO2052.out; subst eo100; have hnb101 := NB2058_2007.out; have hnc101 := NB2007_2058.out; have hnb102 := NB2058_2008.out; have hnc102 := NB2008_2058.out; have hnb103 := NB2058_2013.out; have hnc103 := NB2013_2058.out; have hnb104 := NB2058_2030.out; have hnc104 := NB2030_2058.out; have hnb105 := NB2058_2031.out; have hnc105 := NB2031_2058.out; have hnb106 := NB2058_2043.out; have hnc106 := NB2043_2058.out; have hnb107 := NB2058_2044.out; have hnc107 := NB2044_2058.out; have hnb108 := NB2058_2049.out; have hnc108 := NB2049_2058.out; have hnb109 := NB2058_2059.out; have hnc109 := NB2059_2058.out; obtain ⟨z110_0, z110_1, y110_0, y110_1⟩ := bc2_ BK2058.out; obtain ⟨Ao111, co111, eo111⟩ := Kd.S_slice HO2056.out; subst eo111; have hnb112 := NB2059_2007.out; have hnc112 := NB2007_2059.out; have hnb113 := NB2059_2008.out; have hnc113 := NB2008_2059.out; have hnb114 := NB2059_2013.out; have hnc114 := NB2013_2059.out; have hnb115 := NB2059_2030.out; have hnc115 := NB2030_2059.out; have hnb116 := NB2059_2031.out; have hnc116 := NB2031_2059.out; have hnb117 := NB2059_2043.out; have hnc117 := NB2043_2059.out; have hnb118 := NB2059_2044.out; have hnc118 := NB2044_2059.out; have hnb119 := NB2059_2049.out; have hnc119 := NB2049_2059.out; obtain ⟨z120_0, z120_1, y120_0, y120_1⟩ := bc2_ BK2059.out) | ((with_reducible refine gate_callee (f := 83) rfl ?_); refine gl_ (some 51) Try.func83 #[.slice A0 l0.length c0] ?_; (with_reducible refine (spec_DrawTellAll.calls k _ _ l0 t2060 t2063 t2066 t2067 t2068 _ ?side1 ?side2 A11.out).mono ?_); (case side1 => exact Kd.C_below HR0.out (hs_ HB.out)); (case side2 => exact HC0.out); rintro e w121 ⟨v2061, v2064, rfl, ho0, ho1, hb⟩; refine ⟨_, rfl, ?_⟩; obtain ⟨gbz2061, hz2061⟩ := Kd.R_name ho0; replace HO1999 := Aside0.mk (Kd.S_below (Kd.S_ltz hz2061 (by (with_reducible repeat (first | apply Kd.S_alloc | apply Kd.S_drewN | apply Kd.S_drew)); exact (Kd.S_mono (Kd.S_mono (sf_ gb2059 (Kd.S_far (p := ⟨gb2058, 1, none⟩) (Kd.S_far (p := ⟨gb2058, 0, none⟩) (Kd.S_types (Kd.S_types HO1999.out BK2058.out (by decide)) BK2059.out (by decide)) (fun _ hk => hk.1.2) (.slice Ao100 t2050.length co100)) (fun _ hk => hk.1.2) (.bool t2053)) (fun _ hk => hk.2)) (fun _ h_ => h_.1)) (fun _ h_ => h_.1)))) hb); replace HO2003 := Aside0.mk (Kd.R_below (Kd.R_ltz hz2061 (by (with_reducible repeat (first | apply Kd.R_alloc | apply Kd.R_drewN | apply Kd.R_drew)); exact (Kd.R_mono (Kd.R_mono (rf_ gb2059 (Kd.R_far (p := ⟨gb2058, 1, none⟩) (Kd.R_far (p := ⟨gb2058, 0, none⟩) (Kd.R_types (Kd.R_types HO2003.out BK2058.out (by decide)) BK2059.out (by decide)) (fun _ hk => hk.1.2) (.slice Ao100 t2050.length co100)) (fun _ hk => hk.1.2) (.bool t2053)) (fun _ hk => hk.2)) (fun _ h_ => h_.1)) (fun _ h_ => h_.1)))) hb); replace HO2011 := Aside0.mk (Kd.S_below (Kd.S_ltz hz2061 (by (with_reducible repeat (first | apply Kd.S_alloc | apply Kd.S_drewN | apply Kd.S_drew)); exact (Kd.S_mono (Kd.S_mono (sf_ gb2059 (Kd.S_far (p := ⟨gb2058, 1, none⟩) (Kd.S_far (p := ⟨gb2058, 0, none⟩) (Kd.S_types (Kd.S_types HO2011.out BK2058.out (by decide)) BK2059.out (by decide)) (fun _ hk => hk.1.2) (.slice Ao100 t2050.length co100)) (fun _ hk => hk.1.2) (.bool t2053)) (fun _ hk => hk.2)) (fun _ h_ => h_.1)) (fun _ h_ => h_.1)))) hb); replace HO2021 := Aside0.mk (Kd.S_below (Kd.S_ltz hz2061 (by (with_reducible repeat (first | apply Kd.S_alloc | apply Kd.S_drewN | apply Kd.S_drew)); exact (Kd.S_mono (Kd.S_mono (sf_ gb2059 (Kd.S_far (p := ⟨gb2058, 1, none⟩) (Kd.S_far (p := ⟨gb2058, 0, none⟩) (Kd.S_types (Kd.S_types HO2021.out BK2058.out (by decide)) BK2059.out (by decide)) (fun _ hk => hk.1.2) (.slice Ao100 t2050.length co100)) (fun _ hk => hk.1.2) (.bool t2053)) (fun _ hk => hk.2)) (fun _ h_ => h_.1)) (fun _ h_ => h_.1)))) hb); replace HO2025 := Aside0.mk (Kd.R_below (Kd.R_ltz hz2061 (by (with_reducible repeat (first | apply Kd.R_alloc | apply Kd.R_drewN | apply Kd.R_drew)); exact (Kd.R_mono (Kd.R_mono (rf_ gb2059 (Kd.R_far (p := ⟨gb2058, 1, none⟩) (Kd.R_far (p := ⟨gb2058, 0, none⟩) (Kd.R_types (Kd.R_types HO2025.out BK2058.out (by decide)) BK2059.out (by decide)) (fun _ hk => hk.1.2) (.slice Ao100 t2050.length co100)) (fun _ hk => hk.1.2) (.bool t2053)) (fun _ hk => hk.2)) (fun _ h_ => h_.1)) (fun _ h_ => h_.1)))) hb); replace HO2034 := Aside0.mk (Kd.S_below (Kd.S_ltz hz2061 (by (with_reducible repeat (first | apply Kd.S_alloc | apply Kd.S_drewN | apply Kd.S_drew)); exact (Kd.S_mono (Kd.S_mono (sf_ gb2059 (Kd.S_far (p := ⟨gb2058, 1, none⟩) (Kd.S_far (p := ⟨gb2058, 0, none⟩) (Kd.S_types (Kd.S_types HO2034.out BK2058.out (by decide)) BK2059.out (by decide)) (fun _ hk => hk.1.2) (.slice Ao100 t2050.length co100)) (fun _ hk => hk.1.2) (.bool t2053)) (fun _ hk => hk.2)) (fun _ h_ => h_.1)) (fun _ h_ => h_.1)))) hb); replace HO2038 := Aside0.mk (Kd.R_below (Kd.R_ltz hz2061 (by (with_reducible repeat (first | apply Kd.R_alloc | apply Kd.R_drewN | apply Kd.R_drew)); exact (Kd.R_mono (Kd.R_mono (rf_ gb2059 (Kd.R_far (p := ⟨gb2058, 1, none⟩) (Kd.R_far (p := ⟨gb2058, 0, none⟩) (Kd.R_types (Kd.R_types HO2038.out BK2058.out (by decide)) BK2059.out (by decide)) (fun _ hk => hk.1.2) (.slice Ao100 t2050.length co100)) (fun _ hk => hk.1.2) (.bool t2053)) (fun _ hk => hk.2)) (fun _ h_ => h_.1)) (fun _ h_ => h_.1)))) hb); replace HO2047 := Aside0.mk (Kd.S_below (Kd.S_ltz hz2061 (by (with_reducible repeat (first | apply Kd.S_alloc | apply Kd.S_drewN | apply Kd.S_drew)); exact (Kd.S_mono (Kd.S_mono (sf_ gb2059 (Kd.S_far (p := ⟨gb2058, 1, none⟩) (Kd.S_far (p := ⟨gb2058, 0, none⟩) (Kd.S_types (Kd.S_types HO2047.out BK2058.out (by decide)) BK2059.out (by decide)) (fun _ hk => hk.1.2) (.slice Ao100 t2050.length co100)) (fun _ hk => hk.1.2) (.bool t2053)) (fun _ hk => hk.2)) (fun _ h_ => h_.1)) (fun _ h_ => h_.1)))) hb); replace HO2052 := Aside0.mk (Kd.S_below (Kd.S_ltz hz2061 (by (with_reducible repeat (first | apply Kd.S_alloc | apply Kd.S_drewN | apply Kd.S_drew)); exact (Kd.S_mono (Kd.S_mono (sf_ gb2059 (Kd.S_far (p := ⟨gb2058, 1, none⟩) (Kd.S_far (p := ⟨gb2058, 0, none⟩) (Kd.S_types (Kd.S_types HO2052.out BK2058.out (by decide)) BK2059.out (by decide)) (fun _ hk => hk.1.2) (.slice Ao100 t2050.length co100)) (fun _ hk => hk.1.2) (.bool t2053)) (fun _ hk => hk.2)) (fun _ h_ => h_.1)) (fun _ h_ => h_.1)))) hb); replace HO2056 := Aside0.mk (Kd.S_below (Kd.S_ltz hz2061 (by (with_reducible repeat (first | apply Kd.S_alloc | apply Kd.S_drewN | apply Kd.S_drew)); exact (Kd.S_mono (Kd.S_mono (sf_ gb2059 (Kd.S_far (p := ⟨gb2058, 1, none⟩) (Kd.S_far (p := ⟨gb2058, 0, none⟩) (Kd.S_types (Kd.S_types HO2056.out BK2058.out (by decide)) BK2059.out (by decide)) (fun _ hk => hk.1.2) (.slice Ao100 t2050.length co100)) (fun _ hk => hk.1.2) (.bool t2053)) (fun _ hk => hk.2)) (fun _ h_ => h_.1)) (fun _ h_ => h_.1)))) hb); have HO2062 := Aside0.mk (Kd.R_lower (Kd.R_newB (Kd.R_newB (Kd.R_newB (Kd.R_newB (Kd.R_newB (Kd.R_newB (Kd.R_newB (Kd.R_newB (Kd.R_newB (Kd.R_newB (Kd.R_gez hz2061 ho0) (g := gb2007) (o := .cells #[.slice Ao33 t1997.length co33, .bool t2000] 39 (0, 0)) (bq_ BK2007.out)) (g := gb2008) (o := .cells #[.slice Ao36 t2001.length co36, .int .i64 t2004, .int .i64 t2005, .string t2006] 44 (0, 0)) (bq_ BK2008.out)) (g := gb2013) (o := .cells #[.slice Ao40 t2009.length co40, .bool t2012] 39 (0, 0)) (bq_ BK2013.out)) (g := gb2030) (o := .cells #[.slice Ao54 t2019.length co54, .bool t2022] 39 (0, 0)) (bq_ BK2030.out)) (g := gb2031) (o := .cells #[.slice Ao61 t2023.length co61, .int .i64 t2026, .int .i64 t2027, .string t2028] 44 (0, 0)) (bq_ BK2031.out)) (g := gb2043) (o := .cells #[.slice Ao71 t2032.length co71, .bool t2035] 39 (0, 0)) (bq_ BK2043.out)) (g := gb2044) (o := .cells #[.slice Ao79 t2036.length co79, .int .i64 t2039, .int .i64 t2040, .string t2041] 44 (0, 0)) (bq_ BK2044.out)) (g := gb2049) (o := .cells #[.slice Ao88 t2045.length co88, .bool t2048] 39 (0, 0)) (bq_ BK2049.out)) (g := gb2058) (o := .cells #[.slice Ao100 t2050.length co100, .bool t2053] 39 (0, 0)) (bp_ BK2058.out)) (g := gb2059) (o := .cells #[.slice Ao111 t2054.length co111, .bool t2057] 39 (0, 0)) (bp_ BK2059.out)) (below_size (hs_ HB.out))); have HO2065 := Aside0.mk (Kd.R_lower (Kd.R_gez hz2061 ho1) (below_size (hs_ HB.out))); replace BK2007 := bk2_ BK2007 hb; replace BK2008 := bk2_ BK2008 hb; replace BK2013 := bk2_ BK2013 hb; replace BK2030 := bk2_ BK2030 hb; replace BK2031 := bk2_ BK2031 hb; replace BK2043 := bk2_ BK2043 hb; replace BK2044 := bk2_ BK2044 hb; replace BK2049 := bk2_ BK2049 hb; replace BK2058 := Aside0.mk (blk_below (g := gb2058) (o := .cells #[.slice Ao100 t2050.length co100, .bool t2053] 39 (0, 0)) (bp_ BK2058.out) hb); replace BK2059 := Aside0.mk (blk_below (g := gb2059) (o := .cells #[.slice Ao111 t2054.length co111, .bool t2057] 39 (0, 0)) (bp_ BK2059.out) hb); replace HB := st_ HB hb; (try clear hb); (try clear hk); (try clear ho0); (try clear ho1)) | ((with_reducible refine gd_ 17 rfl ?_); refine bv_ 17 #[.slice none 0 0, .int .i64 0, .int .i64 0, .string (⟨#[]⟩ : ByteArray)] 44 ?_; intro gb2069 hg w122 hbox hb; replace HO1999 := Aside0.mk (Kd.S_below (Kd.S_elderB (sp_ HO1999.out) gb2069 (Nat.le_of_eq hg.symm)) hb); replace HO2003 := Aside0.mk (Kd.R_below (rp_ HO2003.out) hb); replace HO2011 := Aside0.mk (Kd.S_below (Kd.S_elderB (sp_ HO2011.out) gb2069 (Nat.le_of_eq hg.symm)) hb); replace HO2021 := Aside0.mk (Kd.S_below (Kd.S_elderB (sp_ HO2021.out) gb2069 (Nat.le_of_eq hg.symm)) hb); replace HO2025 := Aside0.mk (Kd.R_below (rp_ HO2025.out) hb); replace HO2034 := Aside0.mk (Kd.S_below (Kd.S_elderB (sp_ HO2034.out) gb2069 (Nat.le_of_eq hg.symm)) hb); replace HO2038 := Aside0.mk (Kd.R_below (rp_ HO2038.out) hb); replace HO2047 := Aside0.mk (Kd.S_below (Kd.S_elderB (sp_ HO2047.out) gb2069 (Nat.le_of_eq hg.symm)) hb); replace HO2052 := Aside0.mk (Kd.S_below (Kd.S_elderB (sp_ HO2052.out) gb2069 (Nat.le_of_eq hg.symm)) hb); replace HO2056 := Aside0.mk (Kd.S_below (Kd.S_elderB (sp_ HO2056.out) gb2069 (Nat.le_of_eq hg.symm)) hb); replace HO2062 := Aside0.mk (Kd.R_below (Kd.R_elderB (rp_ HO2062.out) gb2069 (Nat.le_of_eq hg.symm)) hb); replace HO2065 := Aside0.mk (Kd.R_below (rp_ HO2065.out) hb); have BK2069 := Aside0.mk (hbox); have GW2069 := Aside0.mk ((gw_ hg (hs_ HB.out))); have GE2069 := Ge_.mk ((gw_ hg (hs_ HB.out))); replace HB := st_ HB hb; have NB2007_2069 := Ne_.mk (nl_ BK2007.out hg); replace BK2007 := bk2_ BK2007 hb; have NB2069_2007 := Ne_.mk (NB2007_2069.out.symm); have NB2008_2069 := Ne_.mk (nl_ BK2008.out hg); replace BK2008 := bk2_ BK2008 hb; have NB2069_2008 := Ne_.mk (NB2008_2069.out.symm); have NB2013_2069 := Ne_.mk (nl_ BK2013.out hg); replace BK2013 := bk2_ BK2013 hb; have NB2069_2013 := Ne_.mk (NB2013_2069.out.symm); have NB2030_2069 := Ne_.mk (nl_ BK2030.out hg); replace BK2030 := bk2_ BK2030 hb; have NB2069_2030 := Ne_.mk (NB2030_2069.out.symm); have NB2031_2069 := Ne_.mk (nl_ BK2031.out hg); replace BK2031 := bk2_ BK2031 hb; have NB2069_2031 := Ne_.mk (NB2031_2069.out.symm); have NB2043_2069 := Ne_.mk (nl_ BK2043.out hg); replace BK2043 := bk2_ BK2043 hb; have NB2069_2043 := Ne_.mk (NB2043_2069.out.symm); have NB2044_2069 := Ne_.mk (nl_ BK2044.out hg); replace BK2044 := bk2_ BK2044 hb; have NB2069_2044 := Ne_.mk (NB2044_2069.out.symm); have NB2049_2069 := Ne_.mk (nl_ BK2049.out hg); replace BK2049 := bk2_ BK2049 hb; have NB2069_2049 := Ne_.mk (NB2049_2069.out.symm); have NB2058_2069 := Ne_.mk (nl_ BK2058.out hg); replace BK2058 := bk2_ BK2058 hb; have NB2069_2058 := Ne_.mk (NB2058_2069.out.symm); have NB2059_2069 := Ne_.mk (nl_ BK2059.out hg); replace BK2059 := bk2_ BK2059 hb; have NB2069_2059 := Ne_.mk (NB2059_2069.out.symm); clear hb hbox hg; obtain ⟨Ao123, co123, eo123⟩ := Kd.R_slice HO2065.out; subst eo123; have hnb124 := NB2069_2007.out; have hnc124 := NB2007_2069.out; have hnb125 := NB2069_2008.out; have hnc125 := NB2008_2069.out; have hnb126 := NB2069_2013.out; have hnc126 := NB2013_2069.out; have hnb127 := NB2069_2030.out; have hnc127 := NB2030_2069.out; have hnb128 := NB2069_2031.out; have hnc128 := NB2031_2069.out; have hnb129 := NB2069_2043.out; have hnc129 := NB2043_2069.out; have hnb130 := NB2069_2044.out; have hnc130 := NB2044_2069.out; have hnb131 := NB2069_2049.out; have hnc131 := NB2049_2069.out; have hnb132 := NB2069_2058.out; have hnc132 := NB2058_2069.out; have hnb133 := NB2069_2059.out; have hnc133 := NB2059_2069.out; obtain ⟨z134_0, z134_1, z134_2, z134_3, y134_0, y134_1, y134_2, y134_3⟩ := bc4_ BK2069.out))
     generalize hw_ : ((((w122.setCell ⟨gb2069, 0, none⟩ (.slice Ao123 t2063.length co123)).setCell ⟨gb2069, 1, none⟩ (.int .i64 t2066)).setCell ⟨gb2069, 2, none⟩ (.int .i64 t2067)).setCell ⟨gb2069, 3, none⟩ (.string t2068)) = w135
     have n0_ : Aside0 (Kd.S k44 44 w135 w.heap.size (fun k_ => some k_ ≠ (.slice Ao36 t2001.length co36 : Value).ownBlock ∧ gbz1998 ≤ k_ ∧ k_ ≠ gb2008 ∧ k_ < gbz2010 ∧ k_ < gbz2015 ∧ k_ < gbz2020 ∧ k_ ≠ gb2031 ∧ k_ < gbz2033 ∧ k_ ≠ gb2044 ∧ k_ < gbz2046 ∧ k_ < gbz2051 ∧ k_ < gbz2061 ∧ k_ ≠ gb2069) (.slice Ao33 t1997.length co33) t1997) := ⟨by rw [← hw_]; exact (Kd.S_mono (sf_ gb2069 (Kd.S_mono HO1999.out (fun k_ hk => (⟨hk, hk.2⟩ : _ ∧ k_ ≠ gb2069))) (fun _ hk => hk.2)) (fun _ hk => ⟨hk.1.1.1.1.1.1.1.1.1.1.1.1.1, ⟨hk.1.1.1.1.1.1.1.1.1.1.1.1.2, ⟨hk.1.1.1.1.1.1.1.1.1.1.1.2, ⟨hk.1.1.1.1.1.1.1.1.1.1.2, ⟨hk.1.1.1.1.1.1.1.1.1.2, ⟨hk.1.1.1.1.1.1.1.1.2, ⟨hk.1.1.1.1.1.1.1.2, ⟨hk.1.1.1.1.1.1.2, ⟨hk.1.1.1.1.1.2, ⟨hk.1.1.1.1.2, ⟨hk.1.1.1.2, ⟨hk.1.1.2, hk.1.2⟩⟩⟩⟩⟩⟩⟩⟩⟩⟩⟩⟩))⟩
     have n1_ : Aside0 (Kd.R k164 164 w135 w.heap.size (fun k_ => gbz1998 ≤ k_ ∧ k_ < gbz2010 ∧ k_ < gbz2015 ∧ k_ < gbz2020 ∧ k_ < gbz2033 ∧ k_ < gbz2046 ∧ k_ < gbz2051 ∧ k_ < gbz2061) (.slice Ao36 t2001.length co36) t2001) := ⟨by rw [← hw_]; exact (Kd.R_mono (rf_ gb2069 (Kd.R_types HO2003.out BK2069.out (by decide)) (fun _ hk => hk.2)) (fun _ hk => ⟨hk.1.1.1.1.1.1.1.1.2, ⟨hk.1.1.1.1.1.1.1.2, ⟨hk.1.1.1.1.1.1.2, ⟨hk.1.1.1.1.1.2, ⟨hk.1.1.1.1.2, ⟨hk.1.1.1.2, ⟨hk.1.1.2, hk.1.2⟩⟩⟩⟩⟩⟩⟩))⟩
     have n2_ : Aside0 (Kd.S k44 44 w135 w.heap.size (fun k_ => k_ ≠ gb2008 ∧ gbz2010 ≤ k_ ∧ k_ < gbz2015 ∧ k_ < gbz2020 ∧ k_ ≠ gb2031 ∧ k_ < gbz2033 ∧ k_ ≠ gb2044 ∧ k_ < gbz2046 ∧ k_ < gbz2051 ∧ k_ < gbz2061 ∧ k_ ≠ gb2069) (.slice Ao40 t2009.length co40) t2009) := ⟨by rw [← hw_]; exact (Kd.S_mono (sf_ gb2069 (Kd.S_mono HO2011.out (fun k_ hk => (⟨hk, hk.2⟩ : _ ∧ k_ ≠ gb2069))) (fun _ hk => hk.2)) (fun _ hk => ⟨hk.1.1.1.1.1.1.1.1.1.1.2, ⟨hk.1.1.1.1.1.1.1.1.1.1.1.2, ⟨hk.1.1.1.1.1.1.1.1.1.2, ⟨hk.1.1.1.1.1.1.1.1.2, ⟨hk.1.1.1.1.1.1.1.2, ⟨hk.1.1.1.1.1.1.2, ⟨hk.1.1.1.1.1.2, ⟨hk.1.1.1.1.2, ⟨hk.1.1.1.2, ⟨hk.1.1.2, hk.1.2⟩⟩⟩⟩⟩⟩⟩⟩⟩⟩))⟩
     have n3_ : Aside0 (Kd.S k44 44 w135 w.heap.size (fun k_ => some k_ ≠ (.slice Ao61 t2023.length co61 : Value).ownBlock ∧ k_ ≠ gb2008 ∧ gbz2020 ≤ k_ ∧ k_ ≠ gb2031 ∧ k_ < gbz2033 ∧ k_ ≠ gb2044 ∧ k_ < gbz2046 ∧ k_ < gbz2051 ∧ k_ < gbz2061 ∧ k_ ≠ gb2069) (.slice Ao54 t2019.length co54) t2019) := ⟨by rw [← hw_]; exact (Kd.S_mono (sf_ gb2069 (Kd.S_mono HO2021.out (fun k_ hk => (⟨hk, hk.2⟩ : _ ∧ k_ ≠ gb2069))) (fun _ hk => hk.2)) (fun _ hk => ⟨hk.1.1.1.1.1.1.1.1.1.1, ⟨hk.1.1.1.1.1.1.1.1.2, ⟨hk.1.1.1.1.1.1.1.1.1.2, ⟨hk.1.1.1.1.1.1.1.2, ⟨hk.1.1.1.1.1.1.2, ⟨hk.1.1.1.1.1.2, ⟨hk.1.1.1.1.2, ⟨hk.1.1.1.2, ⟨hk.1.1.2, hk.1.2⟩⟩⟩⟩⟩⟩⟩⟩⟩))⟩
     have n4_ : Aside0 (Kd.R k164 164 w135 w.heap.size (fun k_ => gbz2020 ≤ k_ ∧ k_ < gbz2033 ∧ k_ < gbz2046 ∧ k_ < gbz2051 ∧ k_ < gbz2061) (.slice Ao61 t2023.length co61) t2023) := ⟨by rw [← hw_]; exact (Kd.R_mono (rf_ gb2069 (Kd.R_types HO2025.out BK2069.out (by decide)) (fun _ hk => hk.2)) (fun _ hk => ⟨hk.1.1.1.1.1.2, ⟨hk.1.1.1.1.2, ⟨hk.1.1.1.2, ⟨hk.1.1.2, hk.1.2⟩⟩⟩⟩))⟩
     have n5_ : Aside0 (Kd.S k44 44 w135 w.heap.size (fun k_ => some k_ ≠ (.slice Ao79 t2036.length co79 : Value).ownBlock ∧ k_ ≠ gb2008 ∧ k_ ≠ gb2031 ∧ gbz2033 ≤ k_ ∧ k_ ≠ gb2044 ∧ k_ < gbz2046 ∧ k_ < gbz2051 ∧ k_ < gbz2061 ∧ k_ ≠ gb2069) (.slice Ao71 t2032.length co71) t2032) := ⟨by rw [← hw_]; exact (Kd.S_mono (sf_ gb2069 (Kd.S_mono HO2034.out (fun k_ hk => (⟨hk, hk.2⟩ : _ ∧ k_ ≠ gb2069))) (fun _ hk => hk.2)) (fun _ hk => ⟨hk.1.1.1.1.1.1.1.1.1, ⟨hk.1.1.1.1.1.1.1.2, ⟨hk.1.1.1.1.1.1.2, ⟨hk.1.1.1.1.1.1.1.1.2, ⟨hk.1.1.1.1.1.2, ⟨hk.1.1.1.1.2, ⟨hk.1.1.1.2, ⟨hk.1.1.2, hk.1.2⟩⟩⟩⟩⟩⟩⟩⟩))⟩
     have n6_ : Aside0 (Kd.R k164 164 w135 w.heap.size (fun k_ => gbz2033 ≤ k_ ∧ k_ < gbz2046 ∧ k_ < gbz2051 ∧ k_ < gbz2061) (.slice Ao79 t2036.length co79) t2036) := ⟨by rw [← hw_]; exact (Kd.R_mono (rf_ gb2069 (Kd.R_types HO2038.out BK2069.out (by decide)) (fun _ hk => hk.2)) (fun _ hk => ⟨hk.1.1.1.1.2, ⟨hk.1.1.1.2, ⟨hk.1.1.2, hk.1.2⟩⟩⟩))⟩
     have n7_ : Aside0 (Kd.S k44 44 w135 w.heap.size (fun k_ => k_ ≠ gb2008 ∧ k_ ≠ gb2031 ∧ k_ ≠ gb2044 ∧ gbz2046 ≤ k_ ∧ k_ < gbz2051 ∧ k_ < gbz2061 ∧ k_ ≠ gb2069) (.slice Ao88 t2045.length co88) t2045) := ⟨by rw [← hw_]; exact (Kd.S_mono (sf_ gb2069 (Kd.S_mono HO2047.out (fun k_ hk => (⟨hk, hk.2⟩ : _ ∧ k_ ≠ gb2069))) (fun _ hk => hk.2)) (fun _ hk => ⟨hk.1.1.1.1.1.1.2, ⟨hk.1.1.1.1.1.2, ⟨hk.1.1.1.1.2, ⟨hk.1.1.1.1.1.1.1.2, ⟨hk.1.1.1.2, ⟨hk.1.1.2, hk.1.2⟩⟩⟩⟩⟩⟩))⟩
     have n8_ : Aside0 (Kd.S k44 44 w135 w.heap.size (fun k_ => some k_ ≠ (.slice Ao111 t2054.length co111 : Value).ownBlock ∧ k_ ≠ gb2008 ∧ k_ ≠ gb2031 ∧ k_ ≠ gb2044 ∧ gbz2051 ≤ k_ ∧ k_ < gbz2061 ∧ k_ ≠ gb2069) (.slice Ao100 t2050.length co100) t2050) := ⟨by rw [← hw_]; exact (Kd.S_mono (sf_ gb2069 (Kd.S_mono HO2052.out (fun k_ hk => (⟨hk, hk.2⟩ : _ ∧ k_ ≠ gb2069))) (fun _ hk => hk.2)) (fun _ hk => ⟨hk.1.1.1.1.1.1.1, ⟨hk.1.1.1.1.1.2, ⟨hk.1.1.1.1.2, ⟨hk.1.1.1.2, ⟨hk.1.1.1.1.1.1.2, ⟨hk.1.1.2, hk.1.2⟩⟩⟩⟩⟩⟩))⟩
     have n9_ : Aside0 (Kd.S k44 44 w135 w.heap.size (fun k_ => some k_ ≠ (.slice Ao100 t2050.length co100 : Value).ownBlock ∧ k_ ≠ gb2008 ∧ k_ ≠ gb2031 ∧ k_ ≠ gb2044 ∧ gbz2051 ≤ k_ ∧ k_ < gbz2061 ∧ k_ ≠ gb2069) (.slice Ao111 t2054.length co111) t2054) := ⟨by rw [← hw_]; exact (Kd.S_mono (sf_ gb2069 (Kd.S_mono HO2056.out (fun k_ hk => (⟨hk, hk.2⟩ : _ ∧ k_ ≠ gb2069))) (fun _ hk => hk.2)) (fun _ hk => ⟨hk.1.1.1.1.1.1.1, ⟨hk.1.1.1.1.1.2, ⟨hk.1.1.1.1.2, ⟨hk.1.1.1.2, ⟨hk.1.1.1.1.1.1.2, ⟨hk.1.1.2, hk.1.2⟩⟩⟩⟩⟩⟩))⟩
     have n10_ : Aside0 (Kd.R k39 39 w135 w.heap.size (fun k_ => some k_ ≠ (.slice Ao123 t2063.length co123 : Value).ownBlock ∧ k_ ≠ gb2007 ∧ k_ ≠ gb2008 ∧ k_ ≠ gb2013 ∧ k_ ≠ gb2030 ∧ k_ ≠ gb2031 ∧ k_ ≠ gb2043 ∧ k_ ≠ gb2044 ∧ k_ ≠ gb2049 ∧ k_ ≠ gb2058 ∧ k_ ≠ gb2059 ∧ gbz2061 ≤ k_ ∧ k_ ≠ gb2069) v2061 t2060) := ⟨by rw [← hw_]; exact (Kd.R_mono (rf_ gb2069 (Kd.R_mono HO2062.out (fun k_ hk => (⟨hk, hk.2⟩ : _ ∧ k_ ≠ gb2069))) (fun _ hk => hk.2)) (fun _ hk => ⟨hk.1.1.1.1.1.1.1.1.1.1.1.1.1, ⟨hk.1.1.1.1.1.1.1.1.1.1.1.2, ⟨hk.1.1.1.1.1.1.1.1.1.1.2, ⟨hk.1.1.1.1.1.1.1.1.1.2, ⟨hk.1.1.1.1.1.1.1.1.2, ⟨hk.1.1.1.1.1.1.1.2, ⟨hk.1.1.1.1.1.1.2, ⟨hk.1.1.1.1.1.2, ⟨hk.1.1.1.1.2, ⟨hk.1.1.1.2, ⟨hk.1.1.2, ⟨hk.1.1.1.1.1.1.1.1.1.1.1.1.2, hk.1.2⟩⟩⟩⟩⟩⟩⟩⟩⟩⟩⟩⟩))⟩
     have n11_ : Aside0 (Kd.R k164 164 w135 w.heap.size (fun k_ => gbz2061 ≤ k_) (.slice Ao123 t2063.length co123) t2063) := ⟨by rw [← hw_]; exact (Kd.R_mono (rf_ gb2069 (Kd.R_types HO2065.out BK2069.out (by decide)) (fun _ hk => hk.2)) (fun _ hk => hk.1.2))⟩
     have n12_ : Aside0 (w135.heap[gb2007]? = some (.cells #[.slice Ao33 t1997.length co33, .bool t2000] 39 (0, 0))) := ⟨by rw [← hw_]; exact (bq_ BK2007.out)⟩
     have n13_ : Aside0 (w135.heap[gb2008]? = some (.cells #[.slice Ao36 t2001.length co36, .int .i64 t2004, .int .i64 t2005, .string t2006] 44 (0, 0))) := ⟨by rw [← hw_]; exact (bq_ BK2008.out)⟩
     have n14_ : Aside0 (w135.heap[gb2013]? = some (.cells #[.slice Ao40 t2009.length co40, .bool t2012] 39 (0, 0))) := ⟨by rw [← hw_]; exact (bq_ BK2013.out)⟩
     have n15_ : Aside0 (w135.heap[gb2030]? = some (.cells #[.slice Ao54 t2019.length co54, .bool t2022] 39 (0, 0))) := ⟨by rw [← hw_]; exact (bq_ BK2030.out)⟩
     have n16_ : Aside0 (w135.heap[gb2031]? = some (.cells #[.slice Ao61 t2023.length co61, .int .i64 t2026, .int .i64 t2027, .string t2028] 44 (0, 0))) := ⟨by rw [← hw_]; exact (bq_ BK2031.out)⟩
     have n17_ : Aside0 (w135.heap[gb2043]? = some (.cells #[.slice Ao71 t2032.length co71, .bool t2035] 39 (0, 0))) := ⟨by rw [← hw_]; exact (bq_ BK2043.out)⟩
     have n18_ : Aside0 (w135.heap[gb2044]? = some (.cells #[.slice Ao79 t2036.length co79, .int .i64 t2039, .int .i64 t2040, .string t2041] 44 (0, 0))) := ⟨by rw [← hw_]; exact (bq_ BK2044.out)⟩
     have n19_ : Aside0 (w135.heap[gb2049]? = some (.cells #[.slice Ao88 t2045.length co88, .bool t2048] 39 (0, 0))) := ⟨by rw [← hw_]; exact (bq_ BK2049.out)⟩
     have n20_ : Aside0 (w135.heap[gb2058]? = some (.cells #[.slice Ao100 t2050.length co100, .bool t2053] 39 (0, 0))) := ⟨by rw [← hw_]; exact (bq_ BK2058.out)⟩
     have n21_ : Aside0 (w135.heap[gb2059]? = some (.cells #[.slice Ao111 t2054.length co111, .bool t2057] 39 (0, 0))) := ⟨by rw [← hw_]; exact (bq_ BK2059.out)⟩
     have n22_ : Aside0 (w135.heap[gb2069]? = some (.cells #[.slice Ao123 t2063.length co123, .int .i64 t2066, .int .i64 t2067, .string t2068] 44 (0, 0))) := ⟨by rw [← hw_]; exact (bp_ BK2069.out)⟩
     have n23_ : Aside0 (Below w.heap.size w w135) := ⟨by rw [← hw_]; exact (hs_ HB.out)⟩
     clear hw_
     (try clear HO1999)
     (try clear HO2003)
     (try clear HO2011)
     (try clear HO2021)
     (try clear HO2025)
     (try clear HO2034)
     (try clear HO2038)
     (try clear HO2047)
     (try clear HO2052)
     (try clear HO2056)
     (try clear HO2062)
     (try clear HO2065)
     (try clear BK2007)
     (try clear BK2008)
     (try clear BK2013)
     (try clear BK2030)
     (try clear BK2031)
     (try clear BK2043)
     (try clear BK2044)
     (try clear BK2049)
     (try clear BK2058)
     (try clear BK2059)
     (try clear BK2069)
     (try clear HB)
     have HO1999 := n0_
     have HO2003 := n1_
     have HO2011 := n2_
     have HO2021 := n3_
     have HO2025 := n4_
     have HO2034 := n5_
     have HO2038 := n6_
     have HO2047 := n7_
     have HO2052 := n8_
     have HO2056 := n9_
     have HO2062 := n10_
     have HO2065 := n11_
     have BK2007 := n12_
     have BK2008 := n13_
     have BK2013 := n14_
     have BK2030 := n15_
     have BK2031 := n16_
     have BK2043 := n17_
     have BK2044 := n18_
     have BK2049 := n19_
     have BK2058 := n20_
     have BK2059 := n21_
     have BK2069 := n22_
     have HB := n23_
     clear n0_ n1_ n2_ n3_ n4_ n5_ n6_ n7_ n8_ n9_ n10_ n11_ n12_ n13_ n14_ n15_ n16_ n17_ n18_ n19_ n20_ n21_ n22_ n23_
     replace HO1999 := Aside0.mk (Kd.S_drew HO1999.out)
     replace HO2003 := Aside0.mk (Kd.R_drew HO2003.out)
     replace HO2011 := Aside0.mk (Kd.S_drew HO2011.out)
     replace HO2021 := Aside0.mk (Kd.S_drew HO2021.out)
     replace HO2025 := Aside0.mk (Kd.R_drew HO2025.out)
     replace HO2034 := Aside0.mk (Kd.S_drew HO2034.out)
     replace HO2038 := Aside0.mk (Kd.R_drew HO2038.out)
     replace HO2047 := Aside0.mk (Kd.S_drew HO2047.out)
     replace HO2052 := Aside0.mk (Kd.S_drew HO2052.out)
     replace HO2056 := Aside0.mk (Kd.S_drew HO2056.out)
     replace HO2062 := Aside0.mk (Kd.R_drew HO2062.out)
     replace HO2065 := Aside0.mk (Kd.R_drew HO2065.out)
     replace BK2007 := Aside0.mk (blk_drew BK2007.out)
     replace BK2008 := Aside0.mk (blk_drew BK2008.out)
     replace BK2013 := Aside0.mk (blk_drew BK2013.out)
     replace BK2030 := Aside0.mk (blk_drew BK2030.out)
     replace BK2031 := Aside0.mk (blk_drew BK2031.out)
     replace BK2043 := Aside0.mk (blk_drew BK2043.out)
     replace BK2044 := Aside0.mk (blk_drew BK2044.out)
     replace BK2049 := Aside0.mk (blk_drew BK2049.out)
     replace BK2058 := Aside0.mk (blk_drew BK2058.out)
     replace BK2059 := Aside0.mk (blk_drew BK2059.out)
     replace BK2069 := Aside0.mk (blk_drew BK2069.out)
     replace HB := Aside0.mk (bd_ HB.out)
     refine start_ (n := 49) (S := fun w' => w'.cell? ⟨gb2013, 0, none⟩ = some (.slice Ao40 t2009.length co40) ∧ w'.cell? ⟨gb2013, 1, none⟩ = some (.bool t2012) ∧ w'.cell? ⟨gb2007, 0, none⟩ = some (.slice Ao33 t1997.length co33) ∧ w'.cell? ⟨gb2007, 1, none⟩ = some (.bool t2000) ∧ w'.cell? ⟨gb2008, 0, none⟩ = some (.slice Ao36 t2001.length co36) ∧ w'.cell? ⟨gb2008, 1, none⟩ = some (.int .i64 t2004) ∧ w'.cell? ⟨gb2008, 2, none⟩ = some (.int .i64 t2005) ∧ w'.cell? ⟨gb2008, 3, none⟩ = some (.string t2006) ∧ w'.cell? ⟨gb2030, 0, none⟩ = some (.slice Ao54 t2019.length co54) ∧ w'.cell? ⟨gb2030, 1, none⟩ = some (.bool t2022) ∧ w'.cell? ⟨gb2043, 0, none⟩ = some (.slice Ao71 t2032.length co71) ∧ w'.cell? ⟨gb2043, 1, none⟩ = some (.bool t2035) ∧ w'.cell? ⟨gb2031, 0, none⟩ = some (.slice Ao61 t2023.length co61) ∧ w'.cell? ⟨gb2031, 1, none⟩ = some (.int .i64 t2026) ∧ w'.cell? ⟨gb2031, 2, none⟩ = some (.int .i64 t2027) ∧ w'.cell? ⟨gb2031, 3, none⟩ = some (.string t2028) ∧ w'.cell? ⟨gb2044, 0, none⟩ = some (.slice Ao79 t2036.length co79) ∧ w'.cell? ⟨gb2044, 1, none⟩ = some (.int .i64 t2039) ∧ w'.cell? ⟨gb2044, 2, none⟩ = some (.int .i64 t2040) ∧ w'.cell? ⟨gb2044, 3, none⟩ = some (.string t2041) ∧ w'.cell? ⟨gb2049, 0, none⟩ = some (.slice Ao88 t2045.length co88) ∧ w'.cell? ⟨gb2049, 1, none⟩ = some (.bool t2048) ∧ w'.cell? ⟨gb2058, 0, none⟩ = some (.slice Ao100 t2050.length co100) ∧ w'.cell? ⟨gb2058, 1, none⟩ = some (.bool t2053) ∧ w'.cell? ⟨gb2059, 0, none⟩ = some (.slice Ao111 t2054.length co111) ∧ w'.cell? ⟨gb2059, 1, none⟩ = some (.bool t2057) ∧ w'.cell? ⟨gb2069, 0, none⟩ = some (.slice Ao123 t2063.length co123) ∧ w'.cell? ⟨gb2069, 1, none⟩ = some (.int .i64 t2066) ∧ w'.cell? ⟨gb2069, 2, none⟩ = some (.int .i64 t2067) ∧ w'.cell? ⟨gb2069, 3, none⟩ = some (.string t2068)) (ds := []) #[f_,f_,f_,f_,f_,f_,f_,f_,f_,f_,f_,f_,f_,f_,f_,f_,f_,f_,f_,f_,f_,f_,f_,f_,f_,f_,f_,f_,f_,f_,f_,f_,f_,f_,f_,f_,f_,f_,f_,f_,f_,f_,f_,f_,f_,f_,f_,f_,f_] (by kernel_rfl) rfl rfl ⟨bx_ BK2013.out 0, bx_ BK2013.out 1, bx_ BK2007.out 0, bx_ BK2007.out 1, bx_ BK2008.out 0, bx_ BK2008.out 1, bx_ BK2008.out 2, bx_ BK2008.out 3, bx_ BK2030.out 0, bx_ BK2030.out 1, bx_ BK2043.out 0, bx_ BK2043.out 1, bx_ BK2031.out 0, bx_ BK2031.out 1, bx_ BK2031.out 2, bx_ BK2031.out 3, bx_ BK2044.out 0, bx_ BK2044.out 1, bx_ BK2044.out 2, bx_ BK2044.out 3, bx_ BK2049.out 0, bx_ BK2049.out 1, bx_ BK2058.out 0, bx_ BK2058.out 1, bx_ BK2059.out 0, bx_ BK2059.out 1, bx_ BK2069.out 0, bx_ BK2069.out 1, bx_ BK2069.out 2, bx_ BK2069.out 3⟩ (fun hHeld => ?_); refine with_tabW laws_FnSubs.tab11 laws_FnSubs.bits11 (fun HT_ HW_ => ?_)
     generalize w135.drew = w136 at HO1999 HO2003 HO2011 HO2021 HO2025 HO2034 HO2038 HO2047 HO2052 HO2056 HO2062 HO2065 BK2007 BK2008 BK2013 BK2030 BK2031 BK2043 BK2044 BK2049 BK2058 BK2059 BK2069 HB hHeld ⊢
     refine take_ (i := 0) (N := some 54) (v := ?_) (a' := ?_) #[t_,f_,f_,f_,f_,f_,f_,f_,f_,f_,f_,f_,f_,f_,f_,f_,f_,f_,f_,f_,f_,f_,f_,f_,f_,f_,f_,f_,f_,f_,f_,f_,f_,f_,f_,f_,f_,f_,f_,f_,f_,f_,f_,f_,f_,f_,f_,f_,f_] rfl rfl (take_ofW HT_.out HW_.out (by kernel_rfl)) (fun _ _ _ h => h) (Or.inl ⟨by rfl, ?_⟩) hHeld ?_ ?_
     rotate_left
     ·
      rintro w' ⟨s0, s1, s2, s3, s4, s5, s6, s7, s8, s9, s10, s11, s12, s13, s14, s15, s16, s17, s18, s19, s20, s21, s22, s23, s24, s25, s26, s27, s28, s29⟩
      (try simp only [Int.toNat_natCast] at s0 s1 s2 s3 s4 s5 s6 s7 s8 s9 s10 s11 s12 s13 s14 s15 s16 s17 s18 s19 s20 s21 s22 s23 s24 s25 s26 s27 s28 s29)
      go_simp
      with_reducible rfl
     rotate_left
     ·
      simp only [fr_]
      rfl
     refine take_ (i := 1) (N := some 55) (v := ?_) (a' := ?_) #[t_,t_,f_,f_,f_,f_,f_,f_,f_,f_,f_,f_,f_,f_,f_,f_,f_,f_,f_,f_,f_,f_,f_,f_,f_,f_,f_,f_,f_,f_,f_,f_,f_,f_,f_,f_,f_,f_,f_,f_,f_,f_,f_,f_,f_,f_,f_,f_,f_] rfl rfl (take_ofW HT_.out HW_.out (by kernel_rfl)) (fun _ _ _ h => h) (Or.inl ⟨by rfl, ?_⟩) hHeld ?_ ?_
     rotate_left
     ·
      rintro w' ⟨s0, s1, s2, s3, s4, s5, s6, s7, s8, s9, s10, s11, s12, s13, s14, s15, s16, s17, s18, s19, s20, s21, s22, s23, s24, s25, s26, s27, s28, s29⟩
      (try simp only [Int.toNat_natCast] at s0 s1 s2 s3 s4 s5 s6 s7 s8 s9 s10 s11 s12 s13 s14 s15 s16 s17 s18 s19 s20 s21 s22 s23 s24 s25 s26 s27 s28 s29)
      go_simp
      with_reducible rfl
     rotate_left
     ·
      simp only [fr_]
      rfl
     refine take_ (i := 2) (N := some 56) (v := ?_) (a' := ?_) #[t_,t_,t_,f_,f_,f_,f_,f_,f_,f_,f_,f_,f_,f_,f_,f_,f_,f_,f_,f_,f_,f_,f_,f_,f_,f_,f_,f_,f_,f_,f_,f_,f_,f_,f_,f_,f_,f_,f_,f_,f_,f_,f_,f_,f_,f_,f_,f_,f_] rfl rfl (take_ofW HT_.out HW_.out (by kernel_rfl)) (fun _ _ _ h => h) (Or.inl ⟨by rfl, ?_⟩) hHeld ?_ ?_
     rotate_left
     ·
      rintro w' ⟨s0, s1, s2, s3, s4, s5, s6, s7, s8, s9, s10, s11, s12, s13, s14, s15, s16, s17, s18, s19, s20, s21, s22, s23, s24, s25, s26, s27, s28, s29⟩
      (try simp only [Int.toNat_natCast] at s0 s1 s2 s3 s4 s5 s6 s7 s8 s9 s10 s11 s12 s13 s14 s15 s16 s17 s18 s19 s20 s21 s22 s23 s24 s25 s26 s27 s28 s29)
      go_simp
      with_reducible rfl
     rotate_left
     ·
      simp only [fr_]
      rfl
     refine one_ (i := 3) (N := some 57) #[t_,t_,t_,t_,f_,f_,f_,f_,f_,f_,f_,f_,f_,f_,f_,f_,f_,f_,f_,f_,f_,f_,f_,f_,f_,f_,f_,f_,f_,f_,f_,f_,f_,f_,f_,f_,f_,f_,f_,f_,f_,f_,f_,f_,f_,f_,f_,f_,f_] rfl rfl (one_of HT_.out (by kernel_rfl)) (by decide) (fun K hK => ?_)
     refine gs_ Try.func22 #[.agg #[.slice Ao33 t1997.length co33, .bool t2000], .agg #[.slice Ao36 t2001.length co36, .int .i64 t2004, .int .i64 t2005, .string t2006]] ?_
     with_reducible refine (spec_Tell.calls k _ _ t1997 t2000 _ _ t2001 t2004 t2005 t2006 t2070 t2073 _ ?side1 ?side2 ?side3 ?side4 A12.out).mono ?_
     (case side1 => exact cp_ ((Kd.S_reads' HO1999.out).2.2))
     (case side2 => exact (Kd.S_reads' HO1999.out).2.1)
     (case side3 => exact cp_ ((Kd.R_reads' HO2003.out).2.2))
     (case side4 => exact (Kd.R_reads' HO2003.out).2.1)
     rintro e w137 ⟨v2071, rfl, ho0, hb⟩
     refine ⟨_, rfl, ?_⟩
     obtain ⟨gbz2071, hz2071⟩ := Kd.S_name ho0
     replace HO1999 := Aside0.mk (Kd.S_below (Kd.S_ltz hz2071 (sp_ HO1999.out)) hb)
     replace HO2003 := Aside0.mk (Kd.R_below (Kd.R_ltz hz2071 (rp_ HO2003.out)) hb)
     replace HO2011 := Aside0.mk (Kd.S_below (Kd.S_ltz hz2071 (sp_ HO2011.out)) hb)
     replace HO2021 := Aside0.mk (Kd.S_below (Kd.S_ltz hz2071 (sp_ HO2021.out)) hb)
     replace HO2025 := Aside0.mk (Kd.R_below (Kd.R_ltz hz2071 (rp_ HO2025.out)) hb)
     replace HO2034 := Aside0.mk (Kd.S_below (Kd.S_ltz hz2071 (sp_ HO2034.out)) hb)
     replace HO2038 := Aside0.mk (Kd.R_below (Kd.R_ltz hz2071 (rp_ HO2038.out)) hb)
     replace HO2047 := Aside0.mk (Kd.S_below (Kd.S_ltz hz2071 (sp_ HO2047.out)) hb)
     replace HO2052 := Aside0.mk (Kd.S_below (Kd.S_ltz hz2071 (sp_ HO2052.out)) hb)
     replace HO2056 := Aside0.mk (Kd.S_below (Kd.S_ltz hz2071 (sp_ HO2056.out)) hb)
     replace HO2062 := Aside0.mk (Kd.R_below (Kd.R_ltz hz2071 (rp_ HO2062.out)) hb)
     replace HO2065 := Aside0.mk (Kd.R_below (Kd.R_ltz hz2071 (rp_ HO2065.out)) hb)
     have HO2072 := Aside0.mk (Kd.S_lower (Kd.S_newB (Kd.S_newB (Kd.S_newB (Kd.S_newB (Kd.S_gez hz2071 ho0) (g := gb2008) (o := .cells #[.slice Ao36 t2001.length co36, .int .i64 t2004, .int .i64 t2005, .string t2006] 44 (0, 0)) (pb_ BK2008.out)) (g := gb2031) (o := .cells #[.slice Ao61 t2023.length co61, .int .i64 t2026, .int .i64 t2027, .string t2028] 44 (0, 0)) (pb_ BK2031.out)) (g := gb2044) (o := .cells #[.slice Ao79 t2036.length co79, .int .i64 t2039, .int .i64 t2040, .string t2041] 44 (0, 0)) (pb_ BK2044.out)) (g := gb2069) (o := .cells #[.slice Ao123 t2063.length co123, .int .i64 t2066, .int .i64 t2067, .string t2068] 44 (0, 0)) (pb_ BK2069.out)) (below_size (hs_ HB.out)))
     replace BK2007 := bk2_ BK2007 hb
     replace BK2008 := bk2_ BK2008 hb
     replace BK2013 := bk2_ BK2013 hb
     replace BK2030 := bk2_ BK2030 hb
     replace BK2031 := bk2_ BK2031 hb
     replace BK2043 := bk2_ BK2043 hb
     replace BK2044 := bk2_ BK2044 hb
     replace BK2049 := bk2_ BK2049 hb
     replace BK2058 := bk2_ BK2058 hb
     replace BK2059 := bk2_ BK2059 hb
     replace BK2069 := bk2_ BK2069 hb
     replace HB := st_ HB hb
     (try clear hb)
     (try clear hk)
     (try clear ho0)
     obtain ⟨Ao138, co138, eo138⟩ := Kd.S_slice HO2072.out
     (first | subst eo138 | (obtain ⟨rfl, rfl⟩ := si_ eo138))
     refine hK.out _ _ ⟨bx_ BK2013.out 0, bx_ BK2013.out 1, bx_ BK2007.out 0, bx_ BK2007.out 1, bx_ BK2008.out 0, bx_ BK2008.out 1, bx_ BK2008.out 2, bx_ BK2008.out 3, bx_ BK2030.out 0, bx_ BK2030.out 1, bx_ BK2043.out 0, bx_ BK2043.out 1, bx_ BK2031.out 0, bx_ BK2031.out 1, bx_ BK2031.out 2, bx_ BK2031.out 3, bx_ BK2044.out 0, bx_ BK2044.out 1, bx_ BK2044.out 2, bx_ BK2044.out 3, bx_ BK2049.out 0, bx_ BK2049.out 1, bx_ BK2058.out 0, bx_ BK2058.out 1, bx_ BK2059.out 0, bx_ BK2059.out 1, bx_ BK2069.out 0, bx_ BK2069.out 1, bx_ BK2069.out 2, bx_ BK2069.out 3⟩ (fun hHeld => ?_)
     clear hK K
     refine norm_ (a' := ?_) ?_ ?_
     rotate_left
     ·
      show Act.put _ (some 57) _ = _
      simp only [fr_]
      rfl
     refine one_ (i := 4) (N := some 58) #[t_,t_,t_,t_,t_,f_,f_,f_,f_,f_,f_,f_,f_,f_,f_,f_,f_,f_,f_,f_,f_,f_,f_,f_,f_,f_,f_,f_,f_,f_,f_,f_,f_,f_,f_,f_,f_,f_,f_,f_,f_,f_,f_,f_,f_,f_,f_,f_,f_] rfl rfl (one_of HT_.out (by kernel_rfl)) (by decide) (fun K hK => ?_)
     refine gs_ Try.func84 #[.agg #[.slice Ao40 t2009.length co40, .bool t2012], .agg #[.slice Ao138 t2070.length co138, .bool t2073]] ?_
     with_reducible refine (impl_SameSub.calls k _ _ t2009 t2012 _ _ t2070 t2073 true _ ?side1 ?side2 ?side3 ?side4 A13.out).mono ?_
     (case side1 => exact cp_ ((Kd.S_reads' HO2011.out).2.2))
     (case side2 => exact (Kd.S_reads' HO2011.out).2.1)
     (case side3 => exact cp_ ((Kd.S_reads' HO2072.out).2.2))
     (case side4 => exact (Kd.S_reads' HO2072.out).2.1)
     rintro e w139 ⟨rfl, hb⟩
     refine ⟨_, rfl, ?_⟩
     replace HO1999 := Aside0.mk (Kd.S_below (sp_ HO1999.out) hb)
     replace HO2003 := Aside0.mk (Kd.R_below (rp_ HO2003.out) hb)
     replace HO2011 := Aside0.mk (Kd.S_below (sp_ HO2011.out) hb)
     replace HO2021 := Aside0.mk (Kd.S_below (sp_ HO2021.out) hb)
     replace HO2025 := Aside0.mk (Kd.R_below (rp_ HO2025.out) hb)
     replace HO2034 := Aside0.mk (Kd.S_below (sp_ HO2034.out) hb)
     replace HO2038 := Aside0.mk (Kd.R_below (rp_ HO2038.out) hb)
     replace HO2047 := Aside0.mk (Kd.S_below (sp_ HO2047.out) hb)
     replace HO2052 := Aside0.mk (Kd.S_below (sp_ HO2052.out) hb)
     replace HO2056 := Aside0.mk (Kd.S_below (sp_ HO2056.out) hb)
     replace HO2062 := Aside0.mk (Kd.R_below (rp_ HO2062.out) hb)
     replace HO2065 := Aside0.mk (Kd.R_below (rp_ HO2065.out) hb)
     replace HO2072 := Aside0.mk (Kd.S_below (sp_ HO2072.out) hb)
     replace BK2007 := bk2_ BK2007 hb
     replace BK2008 := bk2_ BK2008 hb
     replace BK2013 := bk2_ BK2013 hb
     replace BK2030 := bk2_ BK2030 hb
     replace BK2031 := bk2_ BK2031 hb
     replace BK2043 := bk2_ BK2043 hb
     replace BK2044 := bk2_ BK2044 hb
     replace BK2049 := bk2_ BK2049 hb
     replace BK2058 := bk2_ BK2058 hb
     replace BK2059 := bk2_ BK2059 hb
     replace BK2069 := bk2_ BK2069 hb
     replace HB := st_ HB hb
     (try clear hb)
     (try clear hk)
     refine hK.out _ _ ⟨bx_ BK2013.out 0, bx_ BK2013.out 1, bx_ BK2007.out 0, bx_ BK2007.out 1, bx_ BK2008.out 0, bx_ BK2008.out 1, bx_ BK2008.out 2, bx_ BK2008.out 3, bx_ BK2030.out 0, bx_ BK2030.out 1, bx_ BK2043.out 0, bx_ BK2043.out 1, bx_ BK2031.out 0, bx_ BK2031.out 1, bx_ BK2031.out 2, bx_ BK2031.out 3, bx_ BK2044.out 0, bx_ BK2044.out 1, bx_ BK2044.out 2, bx_ BK2044.out 3, bx_ BK2049.out 0, bx_ BK2049.out 1, bx_ BK2058.out 0, bx_ BK2058.out 1, bx_ BK2059.out 0, bx_ BK2059.out 1, bx_ BK2069.out 0, bx_ BK2069.out 1, bx_ BK2069.out 2, bx_ BK2069.out 3⟩ (fun hHeld => ?_)
     clear hK K
     refine norm_ (a' := ?_) ?_ ?_
     rotate_left
     ·
      show Act.put _ (some 58) _ = _
      simp only [fr_]
      rfl
     refine pw_ 5 59 (b_ 6 43) rfl rfl HT_.out ?_
     refine pw_ 6 60 (b_ 7 42) rfl rfl HT_.out ?_
     refine take_ (i := 7) (N := some 61) (v := ?_) (a' := ?_) #[t_,t_,t_,t_,t_,t_,t_,t_,f_,f_,f_,f_,f_,f_,f_,f_,f_,f_,f_,f_,f_,f_,f_,f_,f_,f_,f_,f_,f_,f_,f_,f_,f_,f_,f_,f_,f_,f_,f_,f_,f_,f_,f_,f_,f_,f_,f_,f_,f_] rfl rfl (take_ofW HT_.out HW_.out (by kernel_rfl)) (fun _ _ _ h => h) (Or.inl ⟨by rfl, ?_⟩) hHeld ?_ ?_
     rotate_left
     ·
      rintro w' ⟨s0, s1, s2, s3, s4, s5, s6, s7, s8, s9, s10, s11, s12, s13, s14, s15, s16, s17, s18, s19, s20, s21, s22, s23, s24, s25, s26, s27, s28, s29⟩
      (try simp only [Int.toNat_natCast] at s0 s1 s2 s3 s4 s5 s6 s7 s8 s9 s10 s11 s12 s13 s14 s15 s16 s17 s18 s19 s20 s21 s22 s23 s24 s25 s26 s27 s28 s29)
      go_simp
      with_reducible rfl
     rotate_left
     ·
      simp only [fr_]
      rfl
     refine take_ (i := 8) (N := some 62) (v := ?_) (a' := ?_) #[t_,t_,t_,t_,t_,t_,t_,t_,t_,f_,f_,f_,f_,f_,f_,f_,f_,f_,f_,f_,f_,f_,f_,f_,f_,f_,f_,f_,f_,f_,f_,f_,f_,f_,f_,f_,f_,f_,f_,f_,f_,f_,f_,f_,f_,f_,f_,f_,f_] rfl rfl (take_ofW HT_.out HW_.out (by kernel_rfl)) (fun _ _ _ h => h) (Or.inl ⟨by rfl, ?_⟩) hHeld ?_ ?_
     rotate_left
     ·
      rintro w' ⟨s0, s1, s2, s3, s4, s5, s6, s7, s8, s9, s10, s11, s12, s13, s14, s15, s16, s17, s18, s19, s20, s21, s22, s23, s24, s25, s26, s27, s28, s29⟩
      (try simp only [Int.toNat_natCast] at s0 s1 s2 s3 s4 s5 s6 s7 s8 s9 s10 s11 s12 s13 s14 s15 s16 s17 s18 s19 s20 s21 s22 s23 s24 s25 s26 s27 s28 s29)
      go_simp
      with_reducible rfl
     rotate_left
     ·
      simp only [fr_]
      rfl
     refine one_ (i := 9) (N := some 63) #[t_,t_,t_,t_,t_,t_,t_,t_,t_,t_,f_,f_,f_,f_,f_,f_,f_,f_,f_,f_,f_,f_,f_,f_,f_,f_,f_,f_,f_,f_,f_,f_,f_,f_,f_,f_,f_,f_,f_,f_,f_,f_,f_,f_,f_,f_,f_,f_,f_] rfl rfl (one_of HT_.out (by kernel_rfl)) (by decide) (fun K hK => ?_)
     refine gs_ Try.func84 #[.agg #[.slice Ao54 t2019.length co54, .bool t2022], .agg #[.slice Ao71 t2032.length co71, .bool t2035]] ?_
     with_reducible refine (impl_SameSub.calls k _ _ t2019 t2022 _ _ t2032 t2035 true _ ?side1 ?side2 ?side3 ?side4 A15.out).mono ?_
     (case side1 => exact cp_ ((Kd.S_reads' HO2021.out).2.2))
     (case side2 => exact (Kd.S_reads' HO2021.out).2.1)
     (case side3 => exact cp_ ((Kd.S_reads' HO2034.out).2.2))
     (case side4 => exact (Kd.S_reads' HO2034.out).2.1)
     rintro e w140 ⟨rfl, hb⟩
     refine ⟨_, rfl, ?_⟩
     replace HO1999 := Aside0.mk (Kd.S_below (sp_ HO1999.out) hb)
     replace HO2003 := Aside0.mk (Kd.R_below (rp_ HO2003.out) hb)
     replace HO2011 := Aside0.mk (Kd.S_below (sp_ HO2011.out) hb)
     replace HO2021 := Aside0.mk (Kd.S_below (sp_ HO2021.out) hb)
     replace HO2025 := Aside0.mk (Kd.R_below (rp_ HO2025.out) hb)
     replace HO2034 := Aside0.mk (Kd.S_below (sp_ HO2034.out) hb)
     replace HO2038 := Aside0.mk (Kd.R_below (rp_ HO2038.out) hb)
     replace HO2047 := Aside0.mk (Kd.S_below (sp_ HO2047.out) hb)
     replace HO2052 := Aside0.mk (Kd.S_below (sp_ HO2052.out) hb)
     replace HO2056 := Aside0.mk (Kd.S_below (sp_ HO2056.out) hb)
     replace HO2062 := Aside0.mk (Kd.R_below (rp_ HO2062.out) hb)
     replace HO2065 := Aside0.mk (Kd.R_below (rp_ HO2065.out) hb)
     replace HO2072 := Aside0.mk (Kd.S_below (sp_ HO2072.out) hb)
     replace BK2007 := bk2_ BK2007 hb
     replace BK2008 := bk2_ BK2008 hb
     replace BK2013 := bk2_ BK2013 hb
     replace BK2030 := bk2_ BK2030 hb
     replace BK2031 := bk2_ BK2031 hb
     replace BK2043 := bk2_ BK2043 hb
     replace BK2044 := bk2_ BK2044 hb
     replace BK2049 := bk2_ BK2049 hb
     replace BK2058 := bk2_ BK2058 hb
     replace BK2059 := bk2_ BK2059 hb
     replace BK2069 := bk2_ BK2069 hb
     replace HB := st_ HB hb
     (try clear hb)
     (try clear hk)
     refine hK.out _ _ ⟨bx_ BK2013.out 0, bx_ BK2013.out 1, bx_ BK2007.out 0, bx_ BK2007.out 1, bx_ BK2008.out 0, bx_ BK2008.out 1, bx_ BK2008.out 2, bx_ BK2008.out 3, bx_ BK2030.out 0, bx_ BK2030.out 1, bx_ BK2043.out 0, bx_ BK2043.out 1, bx_ BK2031.out 0, bx_ BK2031.out 1, bx_ BK2031.out 2, bx_ BK2031.out 3, bx_ BK2044.out 0, bx_ BK2044.out 1, bx_ BK2044.out 2, bx_ BK2044.out 3, bx_ BK2049.out 0, bx_ BK2049.out 1, bx_ BK2058.out 0, bx_ BK2058.out 1, bx_ BK2059.out 0, bx_ BK2059.out 1, bx_ BK2069.out 0, bx_ BK2069.out 1, bx_ BK2069.out 2, bx_ BK2069.out 3⟩ (fun hHeld => ?_)
     clear hK K
     refine norm_ (a' := ?_) ?_ ?_
     rotate_left
     ·
      show Act.put _ (some 63) _ = _
      simp only [fr_]
      rfl
     refine pw_ 10 64 (b_ 11 38) rfl rfl HT_.out ?_
     refine pw_ 11 65 (b_ 12 37) rfl rfl HT_.out ?_
     refine pw_ 12 66 (b_ 13 36) rfl rfl HT_.out ?_
     refine take_ (i := 13) (N := some 67) (v := ?_) (a' := ?_) #[t_,t_,t_,t_,t_,t_,t_,t_,t_,t_,t_,t_,t_,t_,f_,f_,f_,f_,f_,f_,f_,f_,f_,f_,f_,f_,f_,f_,f_,f_,f_,f_,f_,f_,f_,f_,f_,f_,f_,f_,f_,f_,f_,f_,f_,f_,f_,f_,f_] rfl rfl (take_ofW HT_.out HW_.out (by kernel_rfl)) (fun _ _ _ h => h) (Or.inl ⟨by rfl, ?_⟩) hHeld ?_ ?_
     rotate_left
     ·
      rintro w' ⟨s0, s1, s2, s3, s4, s5, s6, s7, s8, s9, s10, s11, s12, s13, s14, s15, s16, s17, s18, s19, s20, s21, s22, s23, s24, s25, s26, s27, s28, s29⟩
      (try simp only [Int.toNat_natCast] at s0 s1 s2 s3 s4 s5 s6 s7 s8 s9 s10 s11 s12 s13 s14 s15 s16 s17 s18 s19 s20 s21 s22 s23 s24 s25 s26 s27 s28 s29)
      go_simp
      with_reducible rfl
     rotate_left
     ·
      simp only [fr_]
      rfl
     refine take_ (i := 14) (N := some 68) (v := ?_) (a' := ?_) #[t_,t_,t_,t_,t_,t_,t_,t_,t_,t_,t_,t_,t_,t_,t_,f_,f_,f_,f_,f_,f_,f_,f_,f_,f_,f_,f_,f_,f_,f_,f_,f_,f_,f_,f_,f_,f_,f_,f_,f_,f_,f_,f_,f_,f_,f_,f_,f_,f_] rfl rfl (take_ofW HT_.out HW_.out (by kernel_rfl)) (fun _ _ _ h => h) (Or.inl ⟨by rfl, ?_⟩) hHeld ?_ ?_
     rotate_left
     ·
      rintro w' ⟨s0, s1, s2, s3, s4, s5, s6, s7, s8, s9, s10, s11, s12, s13, s14, s15, s16, s17, s18, s19, s20, s21, s22, s23, s24, s25, s26, s27, s28, s29⟩
      (try simp only [Int.toNat_natCast] at s0 s1 s2 s3 s4 s5 s6 s7 s8 s9 s10 s11 s12 s13 s14 s15 s16 s17 s18 s19 s20 s21 s22 s23 s24 s25 s26 s27 s28 s29)
      go_simp
      with_reducible rfl
     rotate_left
     ·
      simp only [fr_]
      rfl
     refine one_ (i := 15) (N := some 69) #[t_,t_,t_,t_,t_,t_,t_,t_,t_,t_,t_,t_,t_,t_,t_,t_,f_,f_,f_,f_,f_,f_,f_,f_,f_,f_,f_,f_,f_,f_,f_,f_,f_,f_,f_,f_,f_,f_,f_,f_,f_,f_,f_,f_,f_,f_,f_,f_,f_] rfl rfl (one_of HT_.out (by kernel_rfl)) (by decide) (fun K hK => ?_)
     refine gs_ Try.func85 #[.agg #[.slice Ao61 t2023.length co61, .int .i64 t2026, .int .i64 t2027, .string t2028], .agg #[.slice Ao79 t2036.length co79, .int .i64 t2039, .int .i64 t2040, .string t2041]] ?_
     with_reducible refine (impl_SameAlarm.calls k _ _ t2023 t2026 t2027 t2028 _ _ t2036 t2039 t2040 t2041 true _ ?side1 ?side2 ?side3 ?side4 A17.out).mono ?_
     (case side1 => exact cp_ ((Kd.R_reads' HO2025.out).2.2))
     (case side2 => exact (Kd.R_reads' HO2025.out).2.1)
     (case side3 => exact cp_ ((Kd.R_reads' HO2038.out).2.2))
     (case side4 => exact (Kd.R_reads' HO2038.out).2.1)
     rintro e w141 ⟨rfl, hb⟩
     refine ⟨_, rfl, ?_⟩
     replace HO1999 := Aside0.mk (Kd.S_below (sp_ HO1999.out) hb)
     replace HO2003 := Aside0.mk (Kd.R_below (rp_ HO2003.out) hb)
     replace HO2011 := Aside0.mk (Kd.S_below (sp_ HO2011.out) hb)
     replace HO2021 := Aside0.mk (Kd.S_below (sp_ HO2021.out) hb)
     replace HO2025 := Aside0.mk (Kd.R_below (rp_ HO2025.out) hb)
     replace HO2034 := Aside0.mk (Kd.S_below (sp_ HO2034.out) hb)
     replace HO2038 := Aside0.mk (Kd.R_below (rp_ HO2038.out) hb)
     replace HO2047 := Aside0.mk (Kd.S_below (sp_ HO2047.out) hb)
     replace HO2052 := Aside0.mk (Kd.S_below (sp_ HO2052.out) hb)
     replace HO2056 := Aside0.mk (Kd.S_below (sp_ HO2056.out) hb)
     replace HO2062 := Aside0.mk (Kd.R_below (rp_ HO2062.out) hb)
     replace HO2065 := Aside0.mk (Kd.R_below (rp_ HO2065.out) hb)
     replace HO2072 := Aside0.mk (Kd.S_below (sp_ HO2072.out) hb)
     replace BK2007 := bk2_ BK2007 hb
     replace BK2008 := bk2_ BK2008 hb
     replace BK2013 := bk2_ BK2013 hb
     replace BK2030 := bk2_ BK2030 hb
     replace BK2031 := bk2_ BK2031 hb
     replace BK2043 := bk2_ BK2043 hb
     replace BK2044 := bk2_ BK2044 hb
     replace BK2049 := bk2_ BK2049 hb
     replace BK2058 := bk2_ BK2058 hb
     replace BK2059 := bk2_ BK2059 hb
     replace BK2069 := bk2_ BK2069 hb
     replace HB := st_ HB hb
     (try clear hb)
     (try clear hk)
     refine hK.out _ _ ⟨bx_ BK2013.out 0, bx_ BK2013.out 1, bx_ BK2007.out 0, bx_ BK2007.out 1, bx_ BK2008.out 0, bx_ BK2008.out 1, bx_ BK2008.out 2, bx_ BK2008.out 3, bx_ BK2030.out 0, bx_ BK2030.out 1, bx_ BK2043.out 0, bx_ BK2043.out 1, bx_ BK2031.out 0, bx_ BK2031.out 1, bx_ BK2031.out 2, bx_ BK2031.out 3, bx_ BK2044.out 0, bx_ BK2044.out 1, bx_ BK2044.out 2, bx_ BK2044.out 3, bx_ BK2049.out 0, bx_ BK2049.out 1, bx_ BK2058.out 0, bx_ BK2058.out 1, bx_ BK2059.out 0, bx_ BK2059.out 1, bx_ BK2069.out 0, bx_ BK2069.out 1, bx_ BK2069.out 2, bx_ BK2069.out 3⟩ (fun hHeld => ?_)
     clear hK K
     refine norm_ (a' := ?_) ?_ ?_
     rotate_left
     ·
      show Act.put _ (some 69) _ = _
      simp only [fr_]
      rfl
     refine pw_ 16 70 (b_ 17 32) rfl rfl HT_.out ?_
     refine pw_ 17 71 (b_ 18 31) rfl rfl HT_.out ?_
     refine pw_ 18 72 (b_ 19 30) rfl rfl HT_.out ?_
     refine pw_ 19 73 (b_ 20 29) rfl rfl HT_.out ?_
     refine pw_ 20 74 (b_ 21 28) rfl rfl HT_.out ?_
     refine pw_ 21 75 (b_ 22 27) rfl rfl HT_.out ?_
     refine pw_ 22 76 (b_ 23 26) rfl rfl HT_.out ?_
     refine pw_ 23 77 (b_ 24 25) rfl rfl HT_.out ?_
     refine take_ (i := 24) (N := some 78) (v := ?_) (a' := ?_) #[t_,t_,t_,t_,t_,t_,t_,t_,t_,t_,t_,t_,t_,t_,t_,t_,t_,t_,t_,t_,t_,t_,t_,t_,t_,f_,f_,f_,f_,f_,f_,f_,f_,f_,f_,f_,f_,f_,f_,f_,f_,f_,f_,f_,f_,f_,f_,f_,f_] rfl rfl (take_ofW HT_.out HW_.out (by kernel_rfl)) (fun _ _ _ h => h) (Or.inl ⟨by rfl, ?_⟩) hHeld ?_ ?_
     rotate_left
     ·
      rintro w' ⟨s0, s1, s2, s3, s4, s5, s6, s7, s8, s9, s10, s11, s12, s13, s14, s15, s16, s17, s18, s19, s20, s21, s22, s23, s24, s25, s26, s27, s28, s29⟩
      (try simp only [Int.toNat_natCast] at s0 s1 s2 s3 s4 s5 s6 s7 s8 s9 s10 s11 s12 s13 s14 s15 s16 s17 s18 s19 s20 s21 s22 s23 s24 s25 s26 s27 s28 s29)
      go_simp
      with_reducible rfl
     rotate_left
     ·
      simp only [fr_]
      rfl
     refine take_ (i := 26) (N := some 80) (v := ?_) (a' := ?_) #[t_,t_,t_,t_,t_,t_,t_,t_,t_,t_,t_,t_,t_,t_,t_,t_,t_,t_,t_,t_,t_,t_,t_,t_,t_,f_,t_,f_,f_,f_,f_,f_,f_,f_,f_,f_,f_,f_,f_,f_,f_,f_,f_,f_,f_,f_,f_,f_,f_] rfl rfl (take_ofW HT_.out HW_.out (by kernel_rfl)) (fun _ _ _ h => h) (Or.inl ⟨by rfl, ?_⟩) hHeld ?_ ?_
     rotate_left
     ·
      rintro w' ⟨s0, s1, s2, s3, s4, s5, s6, s7, s8, s9, s10, s11, s12, s13, s14, s15, s16, s17, s18, s19, s20, s21, s22, s23, s24, s25, s26, s27, s28, s29⟩
      (try simp only [Int.toNat_natCast] at s0 s1 s2 s3 s4 s5 s6 s7 s8 s9 s10 s11 s12 s13 s14 s15 s16 s17 s18 s19 s20 s21 s22 s23 s24 s25 s26 s27 s28 s29)
      go_simp
      with_reducible rfl
     rotate_left
     ·
      simp only [fr_]
      rfl
     refine one_ (i := 25) (N := some 79) #[t_,t_,t_,t_,t_,t_,t_,t_,t_,t_,t_,t_,t_,t_,t_,t_,t_,t_,t_,t_,t_,t_,t_,t_,t_,t_,t_,f_,f_,f_,f_,f_,f_,f_,f_,f_,f_,f_,f_,f_,f_,f_,f_,f_,f_,f_,f_,f_,f_] rfl rfl (one_of HT_.out (by kernel_rfl)) (by decide) (fun K hK => ?_)
     refine gs_ Try.func78 #[.agg #[.slice Ao88 t2045.length co88, .bool t2048]] ?_
     with_reducible refine (impl_SubOk.calls k _ _ t2045 t2048 t2077 _ ?side1 ?side2 A20.out).mono ?_
     (case side1 => exact cp_ ((Kd.S_reads' HO2047.out).2.2))
     (case side2 => exact (Kd.S_reads' HO2047.out).2.1)
     rintro e w142 ⟨rfl, hb⟩
     refine ⟨_, rfl, ?_⟩
     replace HO1999 := Aside0.mk (Kd.S_below (sp_ HO1999.out) hb)
     replace HO2003 := Aside0.mk (Kd.R_below (rp_ HO2003.out) hb)
     replace HO2011 := Aside0.mk (Kd.S_below (sp_ HO2011.out) hb)
     replace HO2021 := Aside0.mk (Kd.S_below (sp_ HO2021.out) hb)
     replace HO2025 := Aside0.mk (Kd.R_below (rp_ HO2025.out) hb)
     replace HO2034 := Aside0.mk (Kd.S_below (sp_ HO2034.out) hb)
     replace HO2038 := Aside0.mk (Kd.R_below (rp_ HO2038.out) hb)
     replace HO2047 := Aside0.mk (Kd.S_below (sp_ HO2047.out) hb)
     replace HO2052 := Aside0.mk (Kd.S_below (sp_ HO2052.out) hb)
     replace HO2056 := Aside0.mk (Kd.S_below (sp_ HO2056.out) hb)
     replace HO2062 := Aside0.mk (Kd.R_below (rp_ HO2062.out) hb)
     replace HO2065 := Aside0.mk (Kd.R_below (rp_ HO2065.out) hb)
     replace HO2072 := Aside0.mk (Kd.S_below (sp_ HO2072.out) hb)
     replace BK2007 := bk2_ BK2007 hb
     replace BK2008 := bk2_ BK2008 hb
     replace BK2013 := bk2_ BK2013 hb
     replace BK2030 := bk2_ BK2030 hb
     replace BK2031 := bk2_ BK2031 hb
     replace BK2043 := bk2_ BK2043 hb
     replace BK2044 := bk2_ BK2044 hb
     replace BK2049 := bk2_ BK2049 hb
     replace BK2058 := bk2_ BK2058 hb
     replace BK2059 := bk2_ BK2059 hb
     replace BK2069 := bk2_ BK2069 hb
     replace HB := st_ HB hb
     (try clear hb)
     (try clear hk)
     refine hK.out _ _ ⟨bx_ BK2013.out 0, bx_ BK2013.out 1, bx_ BK2007.out 0, bx_ BK2007.out 1, bx_ BK2008.out 0, bx_ BK2008.out 1, bx_ BK2008.out 2, bx_ BK2008.out 3, bx_ BK2030.out 0, bx_ BK2030.out 1, bx_ BK2043.out 0, bx_ BK2043.out 1, bx_ BK2031.out 0, bx_ BK2031.out 1, bx_ BK2031.out 2, bx_ BK2031.out 3, bx_ BK2044.out 0, bx_ BK2044.out 1, bx_ BK2044.out 2, bx_ BK2044.out 3, bx_ BK2049.out 0, bx_ BK2049.out 1, bx_ BK2058.out 0, bx_ BK2058.out 1, bx_ BK2059.out 0, bx_ BK2059.out 1, bx_ BK2069.out 0, bx_ BK2069.out 1, bx_ BK2069.out 2, bx_ BK2069.out 3⟩ (fun hHeld => ?_)
     clear hK K
     refine norm_ (a' := ?_) ?_ ?_
     rotate_left
     ·
      show Act.put _ (some 79) _ = _
      simp only [fr_]
      rfl
     refine one_ (i := 27) (N := some 81) #[t_,t_,t_,t_,t_,t_,t_,t_,t_,t_,t_,t_,t_,t_,t_,t_,t_,t_,t_,t_,t_,t_,t_,t_,t_,t_,t_,t_,f_,f_,f_,f_,f_,f_,f_,f_,f_,f_,f_,f_,f_,f_,f_,f_,f_,f_,f_,f_,f_] rfl rfl (one_of HT_.out (by kernel_rfl)) (by decide) (fun K hK => ?_)
     refine gs_ Try.func86 #[.agg #[.slice Ao88 t2045.length co88, .bool t2048]] ?_
     with_reducible refine (spec_SubOk.calls k _ _ t2045 t2048 t2078 _ ?side1 ?side2 A21.out).mono ?_
     (case side1 => exact cp_ ((Kd.S_reads' HO2047.out).2.2))
     (case side2 => exact (Kd.S_reads' HO2047.out).2.1)
     rintro e w143 ⟨rfl, hb⟩
     refine ⟨_, rfl, ?_⟩
     replace HO1999 := Aside0.mk (Kd.S_below (sp_ HO1999.out) hb)
     replace HO2003 := Aside0.mk (Kd.R_below (rp_ HO2003.out) hb)
     replace HO2011 := Aside0.mk (Kd.S_below (sp_ HO2011.out) hb)
     replace HO2021 := Aside0.mk (Kd.S_below (sp_ HO2021.out) hb)
     replace HO2025 := Aside0.mk (Kd.R_below (rp_ HO2025.out) hb)
     replace HO2034 := Aside0.mk (Kd.S_below (sp_ HO2034.out) hb)
     replace HO2038 := Aside0.mk (Kd.R_below (rp_ HO2038.out) hb)
     replace HO2047 := Aside0.mk (Kd.S_below (sp_ HO2047.out) hb)
     replace HO2052 := Aside0.mk (Kd.S_below (sp_ HO2052.out) hb)
     replace HO2056 := Aside0.mk (Kd.S_below (sp_ HO2056.out) hb)
     replace HO2062 := Aside0.mk (Kd.R_below (rp_ HO2062.out) hb)
     replace HO2065 := Aside0.mk (Kd.R_below (rp_ HO2065.out) hb)
     replace HO2072 := Aside0.mk (Kd.S_below (sp_ HO2072.out) hb)
     replace BK2007 := bk2_ BK2007 hb
     replace BK2008 := bk2_ BK2008 hb
     replace BK2013 := bk2_ BK2013 hb
     replace BK2030 := bk2_ BK2030 hb
     replace BK2031 := bk2_ BK2031 hb
     replace BK2043 := bk2_ BK2043 hb
     replace BK2044 := bk2_ BK2044 hb
     replace BK2049 := bk2_ BK2049 hb
     replace BK2058 := bk2_ BK2058 hb
     replace BK2059 := bk2_ BK2059 hb
     replace BK2069 := bk2_ BK2069 hb
     replace HB := st_ HB hb
     (try clear hb)
     (try clear hk)
     refine hK.out _ _ ⟨bx_ BK2013.out 0, bx_ BK2013.out 1, bx_ BK2007.out 0, bx_ BK2007.out 1, bx_ BK2008.out 0, bx_ BK2008.out 1, bx_ BK2008.out 2, bx_ BK2008.out 3, bx_ BK2030.out 0, bx_ BK2030.out 1, bx_ BK2043.out 0, bx_ BK2043.out 1, bx_ BK2031.out 0, bx_ BK2031.out 1, bx_ BK2031.out 2, bx_ BK2031.out 3, bx_ BK2044.out 0, bx_ BK2044.out 1, bx_ BK2044.out 2, bx_ BK2044.out 3, bx_ BK2049.out 0, bx_ BK2049.out 1, bx_ BK2058.out 0, bx_ BK2058.out 1, bx_ BK2059.out 0, bx_ BK2059.out 1, bx_ BK2069.out 0, bx_ BK2069.out 1, bx_ BK2069.out 2, bx_ BK2069.out 3⟩ (fun hHeld => ?_)
     clear hK K
     refine norm_ (a' := ?_) ?_ ?_
     rotate_left
     ·
      show Act.put _ (some 81) _ = _
      simp only [fr_]
      rfl
     refine pw_ 28 82 (b_ 29 20) rfl rfl HT_.out ?_
     refine pw_ 29 83 (b_ 30 19) rfl rfl HT_.out ?_
     refine pw_ 30 84 (b_ 31 18) rfl rfl HT_.out ?_
     refine take_ (i := 31) (N := some 85) (v := ?_) (a' := ?_) #[t_,t_,t_,t_,t_,t_,t_,t_,t_,t_,t_,t_,t_,t_,t_,t_,t_,t_,t_,t_,t_,t_,t_,t_,t_,t_,t_,t_,t_,t_,t_,t_,f_,f_,f_,f_,f_,f_,f_,f_,f_,f_,f_,f_,f_,f_,f_,f_,f_] rfl rfl (take_ofW HT_.out HW_.out (by kernel_rfl)) (fun _ _ _ h => h) (Or.inl ⟨by rfl, ?_⟩) hHeld ?_ ?_
     rotate_left
     ·
      rintro w' ⟨s0, s1, s2, s3, s4, s5, s6, s7, s8, s9, s10, s11, s12, s13, s14, s15, s16, s17, s18, s19, s20, s21, s22, s23, s24, s25, s26, s27, s28, s29⟩
      (try simp only [Int.toNat_natCast] at s0 s1 s2 s3 s4 s5 s6 s7 s8 s9 s10 s11 s12 s13 s14 s15 s16 s17 s18 s19 s20 s21 s22 s23 s24 s25 s26 s27 s28 s29)
      go_simp
      with_reducible rfl
     rotate_left
     ·
      simp only [fr_]
      rfl
     refine take_ (i := 32) (N := some 86) (v := ?_) (a' := ?_) #[t_,t_,t_,t_,t_,t_,t_,t_,t_,t_,t_,t_,t_,t_,t_,t_,t_,t_,t_,t_,t_,t_,t_,t_,t_,t_,t_,t_,t_,t_,t_,t_,t_,f_,f_,f_,f_,f_,f_,f_,f_,f_,f_,f_,f_,f_,f_,f_,f_] rfl rfl (take_ofW HT_.out HW_.out (by kernel_rfl)) (fun _ _ _ h => h) (Or.inl ⟨by rfl, ?_⟩) hHeld ?_ ?_
     rotate_left
     ·
      rintro w' ⟨s0, s1, s2, s3, s4, s5, s6, s7, s8, s9, s10, s11, s12, s13, s14, s15, s16, s17, s18, s19, s20, s21, s22, s23, s24, s25, s26, s27, s28, s29⟩
      (try simp only [Int.toNat_natCast] at s0 s1 s2 s3 s4 s5 s6 s7 s8 s9 s10 s11 s12 s13 s14 s15 s16 s17 s18 s19 s20 s21 s22 s23 s24 s25 s26 s27 s28 s29)
      go_simp
      with_reducible rfl
     rotate_left
     ·
      simp only [fr_]
      rfl
     refine take_ (i := 34) (N := some 88) (v := ?_) (a' := ?_) #[t_,t_,t_,t_,t_,t_,t_,t_,t_,t_,t_,t_,t_,t_,t_,t_,t_,t_,t_,t_,t_,t_,t_,t_,t_,t_,t_,t_,t_,t_,t_,t_,t_,f_,t_,f_,f_,f_,f_,f_,f_,f_,f_,f_,f_,f_,f_,f_,f_] rfl rfl (take_ofW HT_.out HW_.out (by kernel_rfl)) (fun _ _ _ h => h) (Or.inl ⟨by rfl, ?_⟩) hHeld ?_ ?_
     rotate_left
     ·
      rintro w' ⟨s0, s1, s2, s3, s4, s5, s6, s7, s8, s9, s10, s11, s12, s13, s14, s15, s16, s17, s18, s19, s20, s21, s22, s23, s24, s25, s26, s27, s28, s29⟩
      (try simp only [Int.toNat_natCast] at s0 s1 s2 s3 s4 s5 s6 s7 s8 s9 s10 s11 s12 s13 s14 s15 s16 s17 s18 s19 s20 s21 s22 s23 s24 s25 s26 s27 s28 s29)
      go_simp
      with_reducible rfl
     rotate_left
     ·
      simp only [fr_]
      rfl
     refine take_ (i := 35) (N := some 89) (v := ?_) (a' := ?_) #[t_,t_,t_,t_,t_,t_,t_,t_,t_,t_,t_,t_,t_,t_,t_,t_,t_,t_,t_,t_,t_,t_,t_,t_,t_,t_,t_,t_,t_,t_,t_,t_,t_,f_,t_,t_,f_,f_,f_,f_,f_,f_,f_,f_,f_,f_,f_,f_,f_] rfl rfl (take_ofW HT_.out HW_.out (by kernel_rfl)) (fun _ _ _ h => h) (Or.inl ⟨by rfl, ?_⟩) hHeld ?_ ?_
     rotate_left
     ·
      rintro w' ⟨s0, s1, s2, s3, s4, s5, s6, s7, s8, s9, s10, s11, s12, s13, s14, s15, s16, s17, s18, s19, s20, s21, s22, s23, s24, s25, s26, s27, s28, s29⟩
      (try simp only [Int.toNat_natCast] at s0 s1 s2 s3 s4 s5 s6 s7 s8 s9 s10 s11 s12 s13 s14 s15 s16 s17 s18 s19 s20 s21 s22 s23 s24 s25 s26 s27 s28 s29)
      go_simp
      with_reducible rfl
     rotate_left
     ·
      simp only [fr_]
      rfl
     refine one_ (i := 33) (N := some 87) #[t_,t_,t_,t_,t_,t_,t_,t_,t_,t_,t_,t_,t_,t_,t_,t_,t_,t_,t_,t_,t_,t_,t_,t_,t_,t_,t_,t_,t_,t_,t_,t_,t_,t_,t_,t_,f_,f_,f_,f_,f_,f_,f_,f_,f_,f_,f_,f_,f_] rfl rfl (one_of HT_.out (by kernel_rfl)) (by decide) (fun K hK => ?_)
     refine gs_ Try.func84 #[.agg #[.slice Ao100 t2050.length co100, .bool t2053], .agg #[.slice Ao111 t2054.length co111, .bool t2057]] ?_
     with_reducible refine (impl_SameSub.calls k _ _ t2050 t2053 _ _ t2054 t2057 t2079 _ ?side1 ?side2 ?side3 ?side4 A23.out).mono ?_
     (case side1 => exact cp_ ((Kd.S_reads' HO2052.out).2.2))
     (case side2 => exact (Kd.S_reads' HO2052.out).2.1)
     (case side3 => exact cp_ ((Kd.S_reads' HO2056.out).2.2))
     (case side4 => exact (Kd.S_reads' HO2056.out).2.1)
     rintro e w144 ⟨rfl, hb⟩
     refine ⟨_, rfl, ?_⟩
     replace HO1999 := Aside0.mk (Kd.S_below (sp_ HO1999.out) hb)
     replace HO2003 := Aside0.mk (Kd.R_below (rp_ HO2003.out) hb)
     replace HO2011 := Aside0.mk (Kd.S_below (sp_ HO2011.out) hb)
     replace HO2021 := Aside0.mk (Kd.S_below (sp_ HO2021.out) hb)
     replace HO2025 := Aside0.mk (Kd.R_below (rp_ HO2025.out) hb)
     replace HO2034 := Aside0.mk (Kd.S_below (sp_ HO2034.out) hb)
     replace HO2038 := Aside0.mk (Kd.R_below (rp_ HO2038.out) hb)
     replace HO2047 := Aside0.mk (Kd.S_below (sp_ HO2047.out) hb)
     replace HO2052 := Aside0.mk (Kd.S_below (sp_ HO2052.out) hb)
     replace HO2056 := Aside0.mk (Kd.S_below (sp_ HO2056.out) hb)
     replace HO2062 := Aside0.mk (Kd.R_below (rp_ HO2062.out) hb)
     replace HO2065 := Aside0.mk (Kd.R_below (rp_ HO2065.out) hb)
     replace HO2072 := Aside0.mk (Kd.S_below (sp_ HO2072.out) hb)
     replace BK2007 := bk2_ BK2007 hb
     replace BK2008 := bk2_ BK2008 hb
     replace BK2013 := bk2_ BK2013 hb
     replace BK2030 := bk2_ BK2030 hb
     replace BK2031 := bk2_ BK2031 hb
     replace BK2043 := bk2_ BK2043 hb
     replace BK2044 := bk2_ BK2044 hb
     replace BK2049 := bk2_ BK2049 hb
     replace BK2058 := bk2_ BK2058 hb
     replace BK2059 := bk2_ BK2059 hb
     replace BK2069 := bk2_ BK2069 hb
     replace HB := st_ HB hb
     (try clear hb)
     (try clear hk)
     refine hK.out _ _ ⟨bx_ BK2013.out 0, bx_ BK2013.out 1, bx_ BK2007.out 0, bx_ BK2007.out 1, bx_ BK2008.out 0, bx_ BK2008.out 1, bx_ BK2008.out 2, bx_ BK2008.out 3, bx_ BK2030.out 0, bx_ BK2030.out 1, bx_ BK2043.out 0, bx_ BK2043.out 1, bx_ BK2031.out 0, bx_ BK2031.out 1, bx_ BK2031.out 2, bx_ BK2031.out 3, bx_ BK2044.out 0, bx_ BK2044.out 1, bx_ BK2044.out 2, bx_ BK2044.out 3, bx_ BK2049.out 0, bx_ BK2049.out 1, bx_ BK2058.out 0, bx_ BK2058.out 1, bx_ BK2059.out 0, bx_ BK2059.out 1, bx_ BK2069.out 0, bx_ BK2069.out 1, bx_ BK2069.out 2, bx_ BK2069.out 3⟩ (fun hHeld => ?_)
     clear hK K
     refine norm_ (a' := ?_) ?_ ?_
     rotate_left
     ·
      show Act.put _ (some 87) _ = _
      simp only [fr_]
      rfl
     refine one_ (i := 36) (N := some 90) #[t_,t_,t_,t_,t_,t_,t_,t_,t_,t_,t_,t_,t_,t_,t_,t_,t_,t_,t_,t_,t_,t_,t_,t_,t_,t_,t_,t_,t_,t_,t_,t_,t_,t_,t_,t_,t_,f_,f_,f_,f_,f_,f_,f_,f_,f_,f_,f_,f_] rfl rfl (one_of HT_.out (by kernel_rfl)) (by decide) (fun K hK => ?_)
     refine gs_ Try.func87 #[.agg #[.slice Ao100 t2050.length co100, .bool t2053], .agg #[.slice Ao111 t2054.length co111, .bool t2057]] ?_
     with_reducible refine (spec_SameSub.calls k _ _ t2050 t2053 _ _ t2054 t2057 t2080 _ ?side1 ?side2 ?side3 ?side4 A24.out).mono ?_
     (case side1 => exact cp_ ((Kd.S_reads' HO2052.out).2.2))
     (case side2 => exact (Kd.S_reads' HO2052.out).2.1)
     (case side3 => exact cp_ ((Kd.S_reads' HO2056.out).2.2))
     (case side4 => exact (Kd.S_reads' HO2056.out).2.1)
     rintro e w145 ⟨rfl, hb⟩
     refine ⟨_, rfl, ?_⟩
     replace HO1999 := Aside0.mk (Kd.S_below (sp_ HO1999.out) hb)
     replace HO2003 := Aside0.mk (Kd.R_below (rp_ HO2003.out) hb)
     replace HO2011 := Aside0.mk (Kd.S_below (sp_ HO2011.out) hb)
     replace HO2021 := Aside0.mk (Kd.S_below (sp_ HO2021.out) hb)
     replace HO2025 := Aside0.mk (Kd.R_below (rp_ HO2025.out) hb)
     replace HO2034 := Aside0.mk (Kd.S_below (sp_ HO2034.out) hb)
     replace HO2038 := Aside0.mk (Kd.R_below (rp_ HO2038.out) hb)
     replace HO2047 := Aside0.mk (Kd.S_below (sp_ HO2047.out) hb)
     replace HO2052 := Aside0.mk (Kd.S_below (sp_ HO2052.out) hb)
     replace HO2056 := Aside0.mk (Kd.S_below (sp_ HO2056.out) hb)
     replace HO2062 := Aside0.mk (Kd.R_below (rp_ HO2062.out) hb)
     replace HO2065 := Aside0.mk (Kd.R_below (rp_ HO2065.out) hb)
     replace HO2072 := Aside0.mk (Kd.S_below (sp_ HO2072.out) hb)
     replace BK2007 := bk2_ BK2007 hb
     replace BK2008 := bk2_ BK2008 hb
     replace BK2013 := bk2_ BK2013 hb
     replace BK2030 := bk2_ BK2030 hb
     replace BK2031 := bk2_ BK2031 hb
     replace BK2043 := bk2_ BK2043 hb
     replace BK2044 := bk2_ BK2044 hb
     replace BK2049 := bk2_ BK2049 hb
     replace BK2058 := bk2_ BK2058 hb
     replace BK2059 := bk2_ BK2059 hb
     replace BK2069 := bk2_ BK2069 hb
     replace HB := st_ HB hb
     (try clear hb)
     (try clear hk)
     obtain ⟨Ao146, co146, eo146⟩ := Kd.R_slice HO2062.out
     (first | subst eo146 | (obtain ⟨rfl, rfl⟩ := si_ eo146))
     refine hK.out _ _ ⟨bx_ BK2013.out 0, bx_ BK2013.out 1, bx_ BK2007.out 0, bx_ BK2007.out 1, bx_ BK2008.out 0, bx_ BK2008.out 1, bx_ BK2008.out 2, bx_ BK2008.out 3, bx_ BK2030.out 0, bx_ BK2030.out 1, bx_ BK2043.out 0, bx_ BK2043.out 1, bx_ BK2031.out 0, bx_ BK2031.out 1, bx_ BK2031.out 2, bx_ BK2031.out 3, bx_ BK2044.out 0, bx_ BK2044.out 1, bx_ BK2044.out 2, bx_ BK2044.out 3, bx_ BK2049.out 0, bx_ BK2049.out 1, bx_ BK2058.out 0, bx_ BK2058.out 1, bx_ BK2059.out 0, bx_ BK2059.out 1, bx_ BK2069.out 0, bx_ BK2069.out 1, bx_ BK2069.out 2, bx_ BK2069.out 3⟩ (fun hHeld => ?_)
     clear hK K
     refine norm_ (a' := ?_) ?_ ?_
     rotate_left
     ·
      show Act.put _ (some 90) _ = _
      simp only [fr_]
      rfl
     refine pw_ 37 91 (b_ 38 11) rfl rfl HT_.out ?_
     refine pw_ 38 92 (b_ 39 10) rfl rfl HT_.out ?_
     refine pw_ 39 93 (b_ 40 9) rfl rfl HT_.out ?_
     refine pw_ 40 94 (b_ 41 8) rfl rfl HT_.out ?_
     refine pw_ 43 97 #[t_,t_,t_,t_,t_,t_,t_,t_,t_,t_,t_,t_,t_,t_,t_,t_,t_,t_,t_,t_,t_,t_,t_,t_,t_,t_,t_,t_,t_,t_,t_,t_,t_,t_,t_,t_,t_,t_,t_,t_,t_,f_,f_,t_,f_,f_,f_,f_,f_] rfl rfl HT_.out ?_
     refine take_ (i := 41) (N := some 95) (v := ?_) (a' := ?_) #[t_,t_,t_,t_,t_,t_,t_,t_,t_,t_,t_,t_,t_,t_,t_,t_,t_,t_,t_,t_,t_,t_,t_,t_,t_,t_,t_,t_,t_,t_,t_,t_,t_,t_,t_,t_,t_,t_,t_,t_,t_,t_,f_,t_,f_,f_,f_,f_,f_] rfl rfl (take_ofW HT_.out HW_.out (by kernel_rfl)) (fun _ _ _ h => h) (Or.inl ⟨by rfl, ?_⟩) hHeld ?_ ?_
     rotate_left
     ·
      rintro w' ⟨s0, s1, s2, s3, s4, s5, s6, s7, s8, s9, s10, s11, s12, s13, s14, s15, s16, s17, s18, s19, s20, s21, s22, s23, s24, s25, s26, s27, s28, s29⟩
      (try simp only [Int.toNat_natCast] at s0 s1 s2 s3 s4 s5 s6 s7 s8 s9 s10 s11 s12 s13 s14 s15 s16 s17 s18 s19 s20 s21 s22 s23 s24 s25 s26 s27 s28 s29)
      go_simp
      with_reducible rfl
     rotate_left
     ·
      simp only [fr_]
      rfl
     refine take_ (i := 44) (N := some 98) (v := ?_) (a' := ?_) #[t_,t_,t_,t_,t_,t_,t_,t_,t_,t_,t_,t_,t_,t_,t_,t_,t_,t_,t_,t_,t_,t_,t_,t_,t_,t_,t_,t_,t_,t_,t_,t_,t_,t_,t_,t_,t_,t_,t_,t_,t_,t_,f_,t_,t_,f_,f_,f_,f_] rfl rfl (take_ofW HT_.out HW_.out (by kernel_rfl)) (fun _ _ _ h => h) (Or.inl ⟨by rfl, ?_⟩) hHeld ?_ ?_
     rotate_left
     ·
      rintro w' ⟨s0, s1, s2, s3, s4, s5, s6, s7, s8, s9, s10, s11, s12, s13, s14, s15, s16, s17, s18, s19, s20, s21, s22, s23, s24, s25, s26, s27, s28, s29⟩
      (try simp only [Int.toNat_natCast] at s0 s1 s2 s3 s4 s5 s6 s7 s8 s9 s10 s11 s12 s13 s14 s15 s16 s17 s18 s19 s20 s21 s22 s23 s24 s25 s26 s27 s28 s29)
      go_simp
      with_reducible rfl
     rotate_left
     ·
      simp only [fr_]
      rfl
     refine one_ (i := 42) (N := some 96) #[t_,t_,t_,t_,t_,t_,t_,t_,t_,t_,t_,t_,t_,t_,t_,t_,t_,t_,t_,t_,t_,t_,t_,t_,t_,t_,t_,t_,t_,t_,t_,t_,t_,t_,t_,t_,t_,t_,t_,t_,t_,t_,t_,t_,t_,f_,f_,f_,f_] rfl rfl (one_of HT_.out (by kernel_rfl)) (by decide) (fun K hK => ?_)
     refine gs_ Try.func44 #[.slice Ao146 t2060.length co146, .agg #[.slice Ao123 t2063.length co123, .int .i64 t2066, .int .i64 t2067, .string t2068]] ?_
     with_reducible refine (impl_TellAll.calls k _ _ t2060 _ _ t2063 t2066 t2067 t2068 t2081 _ ?side1 ?side2 ?side3 ?side4 A26.out).mono ?_
     (case side1 => exact cp_ ((Kd.R_reads' HO2062.out).2.2))
     (case side2 => exact (Kd.R_reads' HO2062.out).2.1)
     (case side3 => exact cp_ ((Kd.R_reads' HO2065.out).2.2))
     (case side4 => exact (Kd.R_reads' HO2065.out).2.1)
     rintro e w147 ⟨v2082, rfl, ho0, hb⟩
     refine ⟨_, rfl, ?_⟩
     obtain ⟨gbz2082, hz2082⟩ := Kd.R_name ho0
     replace HO1999 := Aside0.mk (Kd.S_below (Kd.S_ltz hz2082 (sp_ HO1999.out)) hb)
     replace HO2003 := Aside0.mk (Kd.R_below (Kd.R_ltz hz2082 (rp_ HO2003.out)) hb)
     replace HO2011 := Aside0.mk (Kd.S_below (Kd.S_ltz hz2082 (sp_ HO2011.out)) hb)
     replace HO2021 := Aside0.mk (Kd.S_below (Kd.S_ltz hz2082 (sp_ HO2021.out)) hb)
     replace HO2025 := Aside0.mk (Kd.R_below (Kd.R_ltz hz2082 (rp_ HO2025.out)) hb)
     replace HO2034 := Aside0.mk (Kd.S_below (Kd.S_ltz hz2082 (sp_ HO2034.out)) hb)
     replace HO2038 := Aside0.mk (Kd.R_below (Kd.R_ltz hz2082 (rp_ HO2038.out)) hb)
     replace HO2047 := Aside0.mk (Kd.S_below (Kd.S_ltz hz2082 (sp_ HO2047.out)) hb)
     replace HO2052 := Aside0.mk (Kd.S_below (Kd.S_ltz hz2082 (sp_ HO2052.out)) hb)
     replace HO2056 := Aside0.mk (Kd.S_below (Kd.S_ltz hz2082 (sp_ HO2056.out)) hb)
     replace HO2062 := Aside0.mk (Kd.R_below (Kd.R_ltz hz2082 (rp_ HO2062.out)) hb)
     replace HO2065 := Aside0.mk (Kd.R_below (Kd.R_ltz hz2082 (rp_ HO2065.out)) hb)
     replace HO2072 := Aside0.mk (Kd.S_below (Kd.S_ltz hz2082 (sp_ HO2072.out)) hb)
     have HO2083 := Aside0.mk (Kd.R_lower (Kd.R_newB (Kd.R_newB (Kd.R_newB (Kd.R_newB (Kd.R_newB (Kd.R_newB (Kd.R_newB (Kd.R_newB (Kd.R_newB (Kd.R_newB (Kd.R_newB (Kd.R_gez hz2082 ho0) (g := gb2007) (o := .cells #[.slice Ao33 t1997.length co33, .bool t2000] 39 (0, 0)) (pb_ BK2007.out)) (g := gb2008) (o := .cells #[.slice Ao36 t2001.length co36, .int .i64 t2004, .int .i64 t2005, .string t2006] 44 (0, 0)) (pb_ BK2008.out)) (g := gb2013) (o := .cells #[.slice Ao40 t2009.length co40, .bool t2012] 39 (0, 0)) (pb_ BK2013.out)) (g := gb2030) (o := .cells #[.slice Ao54 t2019.length co54, .bool t2022] 39 (0, 0)) (pb_ BK2030.out)) (g := gb2031) (o := .cells #[.slice Ao61 t2023.length co61, .int .i64 t2026, .int .i64 t2027, .string t2028] 44 (0, 0)) (pb_ BK2031.out)) (g := gb2043) (o := .cells #[.slice Ao71 t2032.length co71, .bool t2035] 39 (0, 0)) (pb_ BK2043.out)) (g := gb2044) (o := .cells #[.slice Ao79 t2036.length co79, .int .i64 t2039, .int .i64 t2040, .string t2041] 44 (0, 0)) (pb_ BK2044.out)) (g := gb2049) (o := .cells #[.slice Ao88 t2045.length co88, .bool t2048] 39 (0, 0)) (pb_ BK2049.out)) (g := gb2058) (o := .cells #[.slice Ao100 t2050.length co100, .bool t2053] 39 (0, 0)) (pb_ BK2058.out)) (g := gb2059) (o := .cells #[.slice Ao111 t2054.length co111, .bool t2057] 39 (0, 0)) (pb_ BK2059.out)) (g := gb2069) (o := .cells #[.slice Ao123 t2063.length co123, .int .i64 t2066, .int .i64 t2067, .string t2068] 44 (0, 0)) (pb_ BK2069.out)) (below_size (hs_ HB.out)))
     replace BK2007 := bk2_ BK2007 hb
     replace BK2008 := bk2_ BK2008 hb
     replace BK2013 := bk2_ BK2013 hb
     replace BK2030 := bk2_ BK2030 hb
     replace BK2031 := bk2_ BK2031 hb
     replace BK2043 := bk2_ BK2043 hb
     replace BK2044 := bk2_ BK2044 hb
     replace BK2049 := bk2_ BK2049 hb
     replace BK2058 := bk2_ BK2058 hb
     replace BK2059 := bk2_ BK2059 hb
     replace BK2069 := bk2_ BK2069 hb
     replace HB := st_ HB hb
     (try clear hb)
     (try clear hk)
     (try clear ho0)
     refine hK.out _ _ ⟨bx_ BK2013.out 0, bx_ BK2013.out 1, bx_ BK2007.out 0, bx_ BK2007.out 1, bx_ BK2008.out 0, bx_ BK2008.out 1, bx_ BK2008.out 2, bx_ BK2008.out 3, bx_ BK2030.out 0, bx_ BK2030.out 1, bx_ BK2043.out 0, bx_ BK2043.out 1, bx_ BK2031.out 0, bx_ BK2031.out 1, bx_ BK2031.out 2, bx_ BK2031.out 3, bx_ BK2044.out 0, bx_ BK2044.out 1, bx_ BK2044.out 2, bx_ BK2044.out 3, bx_ BK2049.out 0, bx_ BK2049.out 1, bx_ BK2058.out 0, bx_ BK2058.out 1, bx_ BK2059.out 0, bx_ BK2059.out 1, bx_ BK2069.out 0, bx_ BK2069.out 1, bx_ BK2069.out 2, bx_ BK2069.out 3⟩ (fun hHeld => ?_)
     clear hK K
     refine norm_ (a' := ?_) ?_ ?_
     rotate_left
     ·
      show Act.put _ (some 96) _ = _
      simp only [fr_]
      rfl
     refine one_ (i := 45) (N := some 99) #[t_,t_,t_,t_,t_,t_,t_,t_,t_,t_,t_,t_,t_,t_,t_,t_,t_,t_,t_,t_,t_,t_,t_,t_,t_,t_,t_,t_,t_,t_,t_,t_,t_,t_,t_,t_,t_,t_,t_,t_,t_,t_,t_,t_,t_,t_,f_,f_,f_] rfl rfl (one_of HT_.out (by kernel_rfl)) (by decide) (fun K hK => ?_)
     refine gs_ Try.func42 #[.slice Ao146 t2060.length co146, .agg #[.slice Ao123 t2063.length co123, .int .i64 t2066, .int .i64 t2067, .string t2068]] ?_
     with_reducible refine (spec_TellAll.calls k _ _ t2060 _ _ t2063 t2066 t2067 t2068 t2084 _ ?side1 ?side2 ?side3 ?side4 A27.out).mono ?_
     (case side1 => exact cp_ ((Kd.R_reads' HO2062.out).2.2))
     (case side2 => exact (Kd.R_reads' HO2062.out).2.1)
     (case side3 => exact cp_ ((Kd.R_reads' HO2065.out).2.2))
     (case side4 => exact (Kd.R_reads' HO2065.out).2.1)
     rintro e w148 ⟨v2085, rfl, ho0, hb⟩
     refine ⟨_, rfl, ?_⟩
     obtain ⟨gbz2085, hz2085⟩ := Kd.R_name ho0
     replace HO1999 := Aside0.mk (Kd.S_below (Kd.S_ltz hz2085 (sp_ HO1999.out)) hb)
     replace HO2003 := Aside0.mk (Kd.R_below (Kd.R_ltz hz2085 (rp_ HO2003.out)) hb)
     replace HO2011 := Aside0.mk (Kd.S_below (Kd.S_ltz hz2085 (sp_ HO2011.out)) hb)
     replace HO2021 := Aside0.mk (Kd.S_below (Kd.S_ltz hz2085 (sp_ HO2021.out)) hb)
     replace HO2025 := Aside0.mk (Kd.R_below (Kd.R_ltz hz2085 (rp_ HO2025.out)) hb)
     replace HO2034 := Aside0.mk (Kd.S_below (Kd.S_ltz hz2085 (sp_ HO2034.out)) hb)
     replace HO2038 := Aside0.mk (Kd.R_below (Kd.R_ltz hz2085 (rp_ HO2038.out)) hb)
     replace HO2047 := Aside0.mk (Kd.S_below (Kd.S_ltz hz2085 (sp_ HO2047.out)) hb)
     replace HO2052 := Aside0.mk (Kd.S_below (Kd.S_ltz hz2085 (sp_ HO2052.out)) hb)
     replace HO2056 := Aside0.mk (Kd.S_below (Kd.S_ltz hz2085 (sp_ HO2056.out)) hb)
     replace HO2062 := Aside0.mk (Kd.R_below (Kd.R_ltz hz2085 (rp_ HO2062.out)) hb)
     replace HO2065 := Aside0.mk (Kd.R_below (Kd.R_ltz hz2085 (rp_ HO2065.out)) hb)
     replace HO2072 := Aside0.mk (Kd.S_below (Kd.S_ltz hz2085 (sp_ HO2072.out)) hb)
     replace HO2083 := Aside0.mk (Kd.R_below (Kd.R_ltz hz2085 (rp_ HO2083.out)) hb)
     have HO2086 := Aside0.mk (Kd.R_lower (Kd.R_newB (Kd.R_newB (Kd.R_newB (Kd.R_newB (Kd.R_newB (Kd.R_newB (Kd.R_newB (Kd.R_newB (Kd.R_newB (Kd.R_newB (Kd.R_newB (Kd.R_gez hz2085 ho0) (g := gb2007) (o := .cells #[.slice Ao33 t1997.length co33, .bool t2000] 39 (0, 0)) (pb_ BK2007.out)) (g := gb2008) (o := .cells #[.slice Ao36 t2001.length co36, .int .i64 t2004, .int .i64 t2005, .string t2006] 44 (0, 0)) (pb_ BK2008.out)) (g := gb2013) (o := .cells #[.slice Ao40 t2009.length co40, .bool t2012] 39 (0, 0)) (pb_ BK2013.out)) (g := gb2030) (o := .cells #[.slice Ao54 t2019.length co54, .bool t2022] 39 (0, 0)) (pb_ BK2030.out)) (g := gb2031) (o := .cells #[.slice Ao61 t2023.length co61, .int .i64 t2026, .int .i64 t2027, .string t2028] 44 (0, 0)) (pb_ BK2031.out)) (g := gb2043) (o := .cells #[.slice Ao71 t2032.length co71, .bool t2035] 39 (0, 0)) (pb_ BK2043.out)) (g := gb2044) (o := .cells #[.slice Ao79 t2036.length co79, .int .i64 t2039, .int .i64 t2040, .string t2041] 44 (0, 0)) (pb_ BK2044.out)) (g := gb2049) (o := .cells #[.slice Ao88 t2045.length co88, .bool t2048] 39 (0, 0)) (pb_ BK2049.out)) (g := gb2058) (o := .cells #[.slice Ao100 t2050.length co100, .bool t2053] 39 (0, 0)) (pb_ BK2058.out)) (g := gb2059) (o := .cells #[.slice Ao111 t2054.length co111, .bool t2057] 39 (0, 0)) (pb_ BK2059.out)) (g := gb2069) (o := .cells #[.slice Ao123 t2063.length co123, .int .i64 t2066, .int .i64 t2067, .string t2068] 44 (0, 0)) (pb_ BK2069.out)) (below_size (hs_ HB.out)))
     replace BK2007 := bk2_ BK2007 hb
     replace BK2008 := bk2_ BK2008 hb
     replace BK2013 := bk2_ BK2013 hb
     replace BK2030 := bk2_ BK2030 hb
     replace BK2031 := bk2_ BK2031 hb
     replace BK2043 := bk2_ BK2043 hb
     replace BK2044 := bk2_ BK2044 hb
     replace BK2049 := bk2_ BK2049 hb
     replace BK2058 := bk2_ BK2058 hb
     replace BK2059 := bk2_ BK2059 hb
     replace BK2069 := bk2_ BK2069 hb
     replace HB := st_ HB hb
     (try clear hb)
     (try clear hk)
     (try clear ho0)
     obtain ⟨Ao149, co149, eo149⟩ := Kd.R_slice HO2083.out
     (first | subst eo149 | (obtain ⟨rfl, rfl⟩ := si_ eo149))
     obtain ⟨Ao150, co150, eo150⟩ := Kd.R_slice HO2086.out
     (first | subst eo150 | (obtain ⟨rfl, rfl⟩ := si_ eo150))
     refine hK.out _ _ ⟨bx_ BK2013.out 0, bx_ BK2013.out 1, bx_ BK2007.out 0, bx_ BK2007.out 1, bx_ BK2008.out 0, bx_ BK2008.out 1, bx_ BK2008.out 2, bx_ BK2008.out 3, bx_ BK2030.out 0, bx_ BK2030.out 1, bx_ BK2043.out 0, bx_ BK2043.out 1, bx_ BK2031.out 0, bx_ BK2031.out 1, bx_ BK2031.out 2, bx_ BK2031.out 3, bx_ BK2044.out 0, bx_ BK2044.out 1, bx_ BK2044.out 2, bx_ BK2044.out 3, bx_ BK2049.out 0, bx_ BK2049.out 1, bx_ BK2058.out 0, bx_ BK2058.out 1, bx_ BK2059.out 0, bx_ BK2059.out 1, bx_ BK2069.out 0, bx_ BK2069.out 1, bx_ BK2069.out 2, bx_ BK2069.out 3⟩ (fun hHeld => ?_)
     clear hK K
     refine norm_ (a' := ?_) ?_ ?_
     rotate_left
     ·
      show Act.put _ (some 99) _ = _
      simp only [fr_]
      rfl
     refine one_ (i := 46) (N := some 100) #[t_,t_,t_,t_,t_,t_,t_,t_,t_,t_,t_,t_,t_,t_,t_,t_,t_,t_,t_,t_,t_,t_,t_,t_,t_,t_,t_,t_,t_,t_,t_,t_,t_,t_,t_,t_,t_,t_,t_,t_,t_,t_,t_,t_,t_,t_,t_,f_,f_] rfl rfl (one_of HT_.out (by kernel_rfl)) (by decide) (fun K hK => ?_)
     refine gs_ Try.func88 #[.slice Ao149 t2081.length co149, .slice Ao150 t2084.length co150] ?_
     with_reducible refine (laws_sameSubs.calls k _ _ t2081 _ _ t2084 t2087 _ ?side1 ?side2 ?side3 ?side4 A28.out).mono ?_
     (case side1 => exact cp_ ((Kd.R_reads' HO2083.out).2.2))
     (case side2 => exact (Kd.R_reads' HO2083.out).2.1)
     (case side3 => exact cp_ ((Kd.R_reads' HO2086.out).2.2))
     (case side4 => exact (Kd.R_reads' HO2086.out).2.1)
     rintro e w151 ⟨rfl, hb⟩
     refine ⟨_, rfl, ?_⟩
     replace HO1999 := Aside0.mk (Kd.S_below (sp_ HO1999.out) hb)
     replace HO2003 := Aside0.mk (Kd.R_below (rp_ HO2003.out) hb)
     replace HO2011 := Aside0.mk (Kd.S_below (sp_ HO2011.out) hb)
     replace HO2021 := Aside0.mk (Kd.S_below (sp_ HO2021.out) hb)
     replace HO2025 := Aside0.mk (Kd.R_below (rp_ HO2025.out) hb)
     replace HO2034 := Aside0.mk (Kd.S_below (sp_ HO2034.out) hb)
     replace HO2038 := Aside0.mk (Kd.R_below (rp_ HO2038.out) hb)
     replace HO2047 := Aside0.mk (Kd.S_below (sp_ HO2047.out) hb)
     replace HO2052 := Aside0.mk (Kd.S_below (sp_ HO2052.out) hb)
     replace HO2056 := Aside0.mk (Kd.S_below (sp_ HO2056.out) hb)
     replace HO2062 := Aside0.mk (Kd.R_below (rp_ HO2062.out) hb)
     replace HO2065 := Aside0.mk (Kd.R_below (rp_ HO2065.out) hb)
     replace HO2072 := Aside0.mk (Kd.S_below (sp_ HO2072.out) hb)
     replace HO2083 := Aside0.mk (Kd.R_below (rp_ HO2083.out) hb)
     replace HO2086 := Aside0.mk (Kd.R_below (rp_ HO2086.out) hb)
     replace BK2007 := bk2_ BK2007 hb
     replace BK2008 := bk2_ BK2008 hb
     replace BK2013 := bk2_ BK2013 hb
     replace BK2030 := bk2_ BK2030 hb
     replace BK2031 := bk2_ BK2031 hb
     replace BK2043 := bk2_ BK2043 hb
     replace BK2044 := bk2_ BK2044 hb
     replace BK2049 := bk2_ BK2049 hb
     replace BK2058 := bk2_ BK2058 hb
     replace BK2059 := bk2_ BK2059 hb
     replace BK2069 := bk2_ BK2069 hb
     replace HB := st_ HB hb
     (try clear hb)
     (try clear hk)
     refine hK.out _ _ ⟨bx_ BK2013.out 0, bx_ BK2013.out 1, bx_ BK2007.out 0, bx_ BK2007.out 1, bx_ BK2008.out 0, bx_ BK2008.out 1, bx_ BK2008.out 2, bx_ BK2008.out 3, bx_ BK2030.out 0, bx_ BK2030.out 1, bx_ BK2043.out 0, bx_ BK2043.out 1, bx_ BK2031.out 0, bx_ BK2031.out 1, bx_ BK2031.out 2, bx_ BK2031.out 3, bx_ BK2044.out 0, bx_ BK2044.out 1, bx_ BK2044.out 2, bx_ BK2044.out 3, bx_ BK2049.out 0, bx_ BK2049.out 1, bx_ BK2058.out 0, bx_ BK2058.out 1, bx_ BK2059.out 0, bx_ BK2059.out 1, bx_ BK2069.out 0, bx_ BK2069.out 1, bx_ BK2069.out 2, bx_ BK2069.out 3⟩ (fun hHeld => ?_)
     clear hK K
     refine norm_ (a' := ?_) ?_ ?_
     rotate_left
     ·
      show Act.put _ (some 100) _ = _
      simp only [fr_]
      rfl
     refine pw_ 47 101 (b_ 48 1) rfl rfl HT_.out ?_
     refine pw_ 48 102 (b_ 49 0) rfl rfl HT_.out ?_
     refine done_ (done_of HT_.out (by kernel_rfl)) ?_
     go_upto_if 102 with (fail)
     go_cut [] (fun wc => ∃ (kq : Nat), Aside0 (laws_FnSubs.j0 kq t1997 t2000 t2001 t2004 t2005 t2006 t2009 t2012 = some r) ∧ Aside0 (kq ≤ k) ∧ Aside0 (Kd.S k44 44 wc w.heap.size (fun k_ => k_ ≠ gb2008 ∧ k_ ≠ gb2031 ∧ k_ ≠ gb2044 ∧ k_ ≠ gb2069 ∧ gbz1998 ≤ k_ ∧ k_ < gbz2010 ∧ k_ < gbz2015 ∧ k_ < gbz2020 ∧ k_ < gbz2033 ∧ k_ < gbz2046 ∧ k_ < gbz2051 ∧ k_ < gbz2061 ∧ k_ < gbz2071 ∧ k_ < gbz2082 ∧ k_ < gbz2085) (.slice Ao33 t1997.length co33) t1997) ∧ Aside0 (Kd.R k164 164 wc w.heap.size (fun k_ => gbz1998 ≤ k_ ∧ k_ < gbz2010 ∧ k_ < gbz2015 ∧ k_ < gbz2020 ∧ k_ < gbz2033 ∧ k_ < gbz2046 ∧ k_ < gbz2051 ∧ k_ < gbz2061 ∧ k_ < gbz2071 ∧ k_ < gbz2082 ∧ k_ < gbz2085) (.slice Ao36 t2001.length co36) t2001) ∧ Aside0 (Kd.S k44 44 wc w.heap.size (fun k_ => k_ ≠ gb2008 ∧ k_ ≠ gb2031 ∧ k_ ≠ gb2044 ∧ k_ ≠ gb2069 ∧ gbz2010 ≤ k_ ∧ k_ < gbz2015 ∧ k_ < gbz2020 ∧ k_ < gbz2033 ∧ k_ < gbz2046 ∧ k_ < gbz2051 ∧ k_ < gbz2061 ∧ k_ < gbz2071 ∧ k_ < gbz2082 ∧ k_ < gbz2085) (.slice Ao40 t2009.length co40) t2009) ∧ Aside0 (Kd.S k44 44 wc w.heap.size (fun k_ => k_ ≠ gb2008 ∧ k_ ≠ gb2031 ∧ k_ ≠ gb2044 ∧ k_ ≠ gb2069 ∧ gbz2020 ≤ k_ ∧ k_ < gbz2033 ∧ k_ < gbz2046 ∧ k_ < gbz2051 ∧ k_ < gbz2061 ∧ k_ < gbz2071 ∧ k_ < gbz2082 ∧ k_ < gbz2085) (.slice Ao54 t2019.length co54) t2019) ∧ Aside0 (Kd.R k164 164 wc w.heap.size (fun k_ => gbz2020 ≤ k_ ∧ k_ < gbz2033 ∧ k_ < gbz2046 ∧ k_ < gbz2051 ∧ k_ < gbz2061 ∧ k_ < gbz2071 ∧ k_ < gbz2082 ∧ k_ < gbz2085) (.slice Ao61 t2023.length co61) t2023) ∧ Aside0 (Kd.S k44 44 wc w.heap.size (fun k_ => k_ ≠ gb2008 ∧ k_ ≠ gb2031 ∧ k_ ≠ gb2044 ∧ k_ ≠ gb2069 ∧ gbz2033 ≤ k_ ∧ k_ < gbz2046 ∧ k_ < gbz2051 ∧ k_ < gbz2061 ∧ k_ < gbz2071 ∧ k_ < gbz2082 ∧ k_ < gbz2085) (.slice Ao71 t2032.length co71) t2032) ∧ Aside0 (Kd.R k164 164 wc w.heap.size (fun k_ => gbz2033 ≤ k_ ∧ k_ < gbz2046 ∧ k_ < gbz2051 ∧ k_ < gbz2061 ∧ k_ < gbz2071 ∧ k_ < gbz2082 ∧ k_ < gbz2085) (.slice Ao79 t2036.length co79) t2036) ∧ Aside0 (Kd.S k44 44 wc w.heap.size (fun k_ => k_ ≠ gb2008 ∧ k_ ≠ gb2031 ∧ k_ ≠ gb2044 ∧ k_ ≠ gb2069 ∧ gbz2046 ≤ k_ ∧ k_ < gbz2051 ∧ k_ < gbz2061 ∧ k_ < gbz2071 ∧ k_ < gbz2082 ∧ k_ < gbz2085) (.slice Ao88 t2045.length co88) t2045) ∧ Aside0 (Kd.S k44 44 wc w.heap.size (fun k_ => k_ ≠ gb2008 ∧ k_ ≠ gb2031 ∧ k_ ≠ gb2044 ∧ k_ ≠ gb2069 ∧ gbz2051 ≤ k_ ∧ k_ < gbz2061 ∧ k_ < gbz2071 ∧ k_ < gbz2082 ∧ k_ < gbz2085) (.slice Ao100 t2050.length co100) t2050) ∧ Aside0 (Kd.S k44 44 wc w.heap.size (fun k_ => k_ ≠ gb2008 ∧ k_ ≠ gb2031 ∧ k_ ≠ gb2044 ∧ k_ ≠ gb2069 ∧ gbz2051 ≤ k_ ∧ k_ < gbz2061 ∧ k_ < gbz2071 ∧ k_ < gbz2082 ∧ k_ < gbz2085) (.slice Ao111 t2054.length co111) t2054) ∧ Aside0 (Kd.R k164 164 wc w.heap.size (fun k_ => gbz2061 ≤ k_ ∧ k_ < gbz2071 ∧ k_ < gbz2082 ∧ k_ < gbz2085) (.slice Ao123 t2063.length co123) t2063) ∧ Aside0 (wc.heap[gb2007]? = some (.cells #[(.slice Ao33 t1997.length co33), .bool t2000] 39 (0, 0))) ∧ Aside0 (wc.heap[gb2008]? = some (.cells #[(.slice Ao36 t2001.length co36), .int .i64 t2004, .int .i64 t2005, .string t2006] 44 (0, 0))) ∧ Aside0 (wc.heap[gb2013]? = some (.cells #[(.slice Ao40 t2009.length co40), .bool t2012] 39 (0, 0))) ∧ Aside0 (wc.heap[gb2030]? = some (.cells #[(.slice Ao54 t2019.length co54), .bool t2022] 39 (0, 0))) ∧ Aside0 (wc.heap[gb2031]? = some (.cells #[(.slice Ao61 t2023.length co61), .int .i64 t2026, .int .i64 t2027, .string t2028] 44 (0, 0))) ∧ Aside0 (wc.heap[gb2043]? = some (.cells #[(.slice Ao71 t2032.length co71), .bool t2035] 39 (0, 0))) ∧ Aside0 (wc.heap[gb2044]? = some (.cells #[(.slice Ao79 t2036.length co79), .int .i64 t2039, .int .i64 t2040, .string t2041] 44 (0, 0))) ∧ Aside0 (wc.heap[gb2049]? = some (.cells #[(.slice Ao88 t2045.length co88), .bool t2048] 39 (0, 0))) ∧ Aside0 (wc.heap[gb2058]? = some (.cells #[(.slice Ao100 t2050.length co100), .bool t2053] 39 (0, 0))) ∧ Aside0 (wc.heap[gb2059]? = some (.cells #[(.slice Ao111 t2054.length co111), .bool t2057] 39 (0, 0))) ∧ Aside0 (wc.heap[gb2069]? = some (.cells #[(.slice Ao123 t2063.length co123), .int .i64 t2066, .int .i64 t2067, .string t2068] 44 (0, 0))) ∧ Aside0 (Below w.heap.size w wc))
     case first =>
      have H := HC29.out
      clear HC29
      by_cases c152 : t2087 = true
      ·
       subst c152
       rw [if_pos rfl] at H
       have H' := Aside0.mk H
       clear H
       go_wp2
       go_meet
       case rel => exact ⟨_, H', ⟨by first | omega | exact Nat.le_refl _⟩, ⟨by (with_reducible repeat (first | apply Kd.S_alloc | apply Kd.S_drewN | apply Kd.S_drew)); exact Kd.S_mono HO1999.out (fun _ hk => ⟨hk.1.1.1.2.2.1, ⟨hk.1.1.1.2.2.2.2.2.2.1, ⟨hk.1.1.1.2.2.2.2.2.2.2.2.1, ⟨hk.1.1.1.2.2.2.2.2.2.2.2.2.2.2.2, ⟨hk.1.1.1.2.1, ⟨hk.1.1.1.2.2.2.1, ⟨hk.1.1.1.2.2.2.2.1, ⟨hk.1.1.1.2.2.2.2.2.1, ⟨hk.1.1.1.2.2.2.2.2.2.2.1, ⟨hk.1.1.1.2.2.2.2.2.2.2.2.2.1, ⟨hk.1.1.1.2.2.2.2.2.2.2.2.2.2.1, ⟨hk.1.1.1.2.2.2.2.2.2.2.2.2.2.2.1, ⟨hk.1.1.2, ⟨hk.1.2, hk.2⟩⟩⟩⟩⟩⟩⟩⟩⟩⟩⟩⟩⟩⟩)⟩, ⟨by (with_reducible repeat (first | apply Kd.R_alloc | apply Kd.R_drewN | apply Kd.R_drew)); exact Kd.R_mono HO2003.out (fun _ hk => ⟨hk.1.1.1.1, ⟨hk.1.1.1.2.1, ⟨hk.1.1.1.2.2.1, ⟨hk.1.1.1.2.2.2.1, ⟨hk.1.1.1.2.2.2.2.1, ⟨hk.1.1.1.2.2.2.2.2.1, ⟨hk.1.1.1.2.2.2.2.2.2.1, ⟨hk.1.1.1.2.2.2.2.2.2.2, ⟨hk.1.1.2, ⟨hk.1.2, hk.2⟩⟩⟩⟩⟩⟩⟩⟩⟩⟩)⟩, ⟨by (with_reducible repeat (first | apply Kd.S_alloc | apply Kd.S_drewN | apply Kd.S_drew)); exact Kd.S_mono HO2011.out (fun _ hk => ⟨hk.1.1.1.1, ⟨hk.1.1.1.2.2.2.2.1, ⟨hk.1.1.1.2.2.2.2.2.2.1, ⟨hk.1.1.1.2.2.2.2.2.2.2.2.2.2, ⟨hk.1.1.1.2.1, ⟨hk.1.1.1.2.2.1, ⟨hk.1.1.1.2.2.2.1, ⟨hk.1.1.1.2.2.2.2.2.1, ⟨hk.1.1.1.2.2.2.2.2.2.2.1, ⟨hk.1.1.1.2.2.2.2.2.2.2.2.1, ⟨hk.1.1.1.2.2.2.2.2.2.2.2.2.1, ⟨hk.1.1.2, ⟨hk.1.2, hk.2⟩⟩⟩⟩⟩⟩⟩⟩⟩⟩⟩⟩⟩)⟩, ⟨by (with_reducible repeat (first | apply Kd.S_alloc | apply Kd.S_drewN | apply Kd.S_drew)); exact Kd.S_mono HO2021.out (fun _ hk => ⟨hk.1.1.1.2.1, ⟨hk.1.1.1.2.2.2.1, ⟨hk.1.1.1.2.2.2.2.2.1, ⟨hk.1.1.1.2.2.2.2.2.2.2.2.2, ⟨hk.1.1.1.2.2.1, ⟨hk.1.1.1.2.2.2.2.1, ⟨hk.1.1.1.2.2.2.2.2.2.1, ⟨hk.1.1.1.2.2.2.2.2.2.2.1, ⟨hk.1.1.1.2.2.2.2.2.2.2.2.1, ⟨hk.1.1.2, ⟨hk.1.2, hk.2⟩⟩⟩⟩⟩⟩⟩⟩⟩⟩⟩)⟩, ⟨by (with_reducible repeat (first | apply Kd.R_alloc | apply Kd.R_drewN | apply Kd.R_drew)); exact Kd.R_mono HO2025.out (fun _ hk => ⟨hk.1.1.1.1, ⟨hk.1.1.1.2.1, ⟨hk.1.1.1.2.2.1, ⟨hk.1.1.1.2.2.2.1, ⟨hk.1.1.1.2.2.2.2, ⟨hk.1.1.2, ⟨hk.1.2, hk.2⟩⟩⟩⟩⟩⟩⟩)⟩, ⟨by (with_reducible repeat (first | apply Kd.S_alloc | apply Kd.S_drewN | apply Kd.S_drew)); exact Kd.S_mono HO2034.out (fun _ hk => ⟨hk.1.1.1.2.1, ⟨hk.1.1.1.2.2.1, ⟨hk.1.1.1.2.2.2.2.1, ⟨hk.1.1.1.2.2.2.2.2.2.2.2, ⟨hk.1.1.1.2.2.2.1, ⟨hk.1.1.1.2.2.2.2.2.1, ⟨hk.1.1.1.2.2.2.2.2.2.1, ⟨hk.1.1.1.2.2.2.2.2.2.2.1, ⟨hk.1.1.2, ⟨hk.1.2, hk.2⟩⟩⟩⟩⟩⟩⟩⟩⟩⟩)⟩, ⟨by (with_reducible repeat (first | apply Kd.R_alloc | apply Kd.R_drewN | apply Kd.R_drew)); exact Kd.R_mono HO2038.out (fun _ hk => ⟨hk.1.1.1.1, ⟨hk.1.1.1.2.1, ⟨hk.1.1.1.2.2.1, ⟨hk.1.1.1.2.2.2, ⟨hk.1.1.2, ⟨hk.1.2, hk.2⟩⟩⟩⟩⟩⟩)⟩, ⟨by (with_reducible repeat (first | apply Kd.S_alloc | apply Kd.S_drewN | apply Kd.S_drew)); exact Kd.S_mono HO2047.out (fun _ hk => ⟨hk.1.1.1.1, ⟨hk.1.1.1.2.1, ⟨hk.1.1.1.2.2.1, ⟨hk.1.1.1.2.2.2.2.2.2, ⟨hk.1.1.1.2.2.2.1, ⟨hk.1.1.1.2.2.2.2.1, ⟨hk.1.1.1.2.2.2.2.2.1, ⟨hk.1.1.2, ⟨hk.1.2, hk.2⟩⟩⟩⟩⟩⟩⟩⟩⟩)⟩, ⟨by (with_reducible repeat (first | apply Kd.S_alloc | apply Kd.S_drewN | apply Kd.S_drew)); exact Kd.S_mono HO2052.out (fun _ hk => ⟨hk.1.1.1.2.1, ⟨hk.1.1.1.2.2.1, ⟨hk.1.1.1.2.2.2.1, ⟨hk.1.1.1.2.2.2.2.2.2, ⟨hk.1.1.1.2.2.2.2.1, ⟨hk.1.1.1.2.2.2.2.2.1, ⟨hk.1.1.2, ⟨hk.1.2, hk.2⟩⟩⟩⟩⟩⟩⟩⟩)⟩, ⟨by (with_reducible repeat (first | apply Kd.S_alloc | apply Kd.S_drewN | apply Kd.S_drew)); exact Kd.S_mono HO2056.out (fun _ hk => ⟨hk.1.1.1.2.1, ⟨hk.1.1.1.2.2.1, ⟨hk.1.1.1.2.2.2.1, ⟨hk.1.1.1.2.2.2.2.2.2, ⟨hk.1.1.1.2.2.2.2.1, ⟨hk.1.1.1.2.2.2.2.2.1, ⟨hk.1.1.2, ⟨hk.1.2, hk.2⟩⟩⟩⟩⟩⟩⟩⟩)⟩, ⟨by (with_reducible repeat (first | apply Kd.R_alloc | apply Kd.R_drewN | apply Kd.R_drew)); exact Kd.R_mono HO2065.out (fun _ hk => ⟨hk.1.1.1, ⟨hk.1.1.2, ⟨hk.1.2, hk.2⟩⟩⟩)⟩, ⟨bq_ BK2007.out⟩, ⟨bq_ BK2008.out⟩, ⟨bq_ BK2013.out⟩, ⟨bq_ BK2030.out⟩, ⟨bq_ BK2031.out⟩, ⟨bq_ BK2043.out⟩, ⟨bq_ BK2044.out⟩, ⟨bq_ BK2049.out⟩, ⟨bq_ BK2058.out⟩, ⟨bq_ BK2059.out⟩, ⟨bq_ BK2069.out⟩, ⟨by exact hs_ HB.out⟩⟩
      replace c152 := Bool.eq_false_iff.mpr c152
      subst c152
      rw [if_neg (show ¬ (false = true) by decide)] at H
      exact absurd H (by simp)
     case rest =>
      clear HC29
      try clear c1
      try clear p2
      try clear c4
      try clear c8
      try clear c15
      try clear c42
      try clear c44
      try clear c84
      try clear c87
      try clear c88
      try clear c152
      obtain ⟨kq, HA, HJ28, HO_2008000, HO_2009000, HO_2014000, HO_2031000, HO_2032000, HO_2044000, HO_2045000, HO_2050000, HO_2059000, HO_2060000, HO_2070000, BK2007, BK2008, BK2013, BK2030, BK2031, BK2043, BK2044, BK2049, BK2058, BK2059, BK2069, HB⟩ := hcut
      cases kq with
      | zero => exact absurd HA.out (by simp [laws_FnSubs.j0])
      | succ kj28 =>
       have H := HA.out
       clear HA
       simp only [laws_FnSubs.j0] at H
       by_cases c153 : t2000 = true
       ·
        subst c153
        rw [if_pos rfl] at H
        replace H := Option.bind_eq_some_iff.mp H
        obtain ⟨t2088, A1540, H⟩ := H
        have A154 := Aside0.mk A1540
        clear A1540
        obtain rfl := Option.some.inj H
        have hnb155 := NB2007_2008.out
        have hnc155 := NB2008_2007.out
        have hnb156 := NB2007_2013.out
        have hnc156 := NB2013_2007.out
        have hnb157 := NB2007_2030.out
        have hnc157 := NB2030_2007.out
        have hnb158 := NB2007_2031.out
        have hnc158 := NB2031_2007.out
        have hnb159 := NB2007_2043.out
        have hnc159 := NB2043_2007.out
        have hnb160 := NB2007_2044.out
        have hnc160 := NB2044_2007.out
        have hnb161 := NB2007_2049.out
        have hnc161 := NB2049_2007.out
        have hnb162 := NB2007_2058.out
        have hnc162 := NB2058_2007.out
        have hnb163 := NB2007_2059.out
        have hnc163 := NB2059_2007.out
        have hnb164 := NB2007_2069.out
        have hnc164 := NB2069_2007.out
        obtain ⟨z165_0, z165_1, y165_0, y165_1⟩ := bc2_ BK2007.out
        have hnb166 := NB2013_2008.out
        have hnc166 := NB2008_2013.out
        have hnb167 := NB2013_2030.out
        have hnc167 := NB2030_2013.out
        have hnb168 := NB2013_2031.out
        have hnc168 := NB2031_2013.out
        have hnb169 := NB2013_2043.out
        have hnc169 := NB2043_2013.out
        have hnb170 := NB2013_2044.out
        have hnc170 := NB2044_2013.out
        have hnb171 := NB2013_2049.out
        have hnc171 := NB2049_2013.out
        have hnb172 := NB2013_2058.out
        have hnc172 := NB2058_2013.out
        have hnb173 := NB2013_2059.out
        have hnc173 := NB2059_2013.out
        have hnb174 := NB2013_2069.out
        have hnc174 := NB2069_2013.out
        obtain ⟨z175_0, z175_1, y175_0, y175_1⟩ := bc2_ BK2013.out
        go_wp2_with (first | ((with_reducible refine gate_callee (f := 84) rfl ?_); refine gl_ (some 107) Try.func84 #[.agg #[.slice Ao40 t2009.length co40, .bool t2012], .agg #[.slice Ao33 t1997.length co33, .bool true]] ?_; (with_reducible refine (impl_SameSub.calls kj28 _ _ t2009 t2012 _ _ t1997 true t2088 _ ?side1 ?side2 ?side3 ?side4 A154.out).mono ?_); (case side1 => exact cp_ ((Kd.S_reads' HO_2014000.out).2.2)); (case side2 => exact (Kd.S_reads' HO_2014000.out).2.1); (case side3 => exact cp_ ((Kd.S_reads' HO_2008000.out).2.2)); (case side4 => exact (Kd.S_reads' HO_2008000.out).2.1); rintro e w176 ⟨rfl, hb⟩; refine ⟨_, rfl, ?_⟩; replace HO_2008000 := Aside0.mk (Kd.S_below (sp_ HO_2008000.out) hb); replace HO_2014000 := Aside0.mk (Kd.S_below (sp_ HO_2014000.out) hb); replace BK2008 := bk2_ BK2008 hb; replace BK2031 := bk2_ BK2031 hb; replace BK2044 := bk2_ BK2044 hb; replace BK2069 := bk2_ BK2069 hb; replace HB := st_ HB hb; (try clear hb); (try clear hk)))
        go_ret
        exact an_ (by exact hs_ HB.out)
       replace c153 := Bool.eq_false_iff.mpr c153
       subst c153
       rw [if_neg (show ¬ (false = true) by decide)] at H
       by_cases c177 : (t1997.length : Int) ≥ 3
       ·
        rw [if_pos c177] at H
        have c177b0 : decide (3 ≤ (t1997.length : Int)) = true := decide_eq_true c177
        have c177b1 : decide (3 ≤ t1997.length) = true := decide_eq_true (by omega)
        clear c177
        by_cases c178 : t2012 = true
        ·
         subst c178
         rw [if_pos rfl] at H
         obtain rfl := Option.some.inj H
         have hnb179 := NB2007_2008.out
         have hnc179 := NB2008_2007.out
         have hnb180 := NB2007_2013.out
         have hnc180 := NB2013_2007.out
         have hnb181 := NB2007_2030.out
         have hnc181 := NB2030_2007.out
         have hnb182 := NB2007_2031.out
         have hnc182 := NB2031_2007.out
         have hnb183 := NB2007_2043.out
         have hnc183 := NB2043_2007.out
         have hnb184 := NB2007_2044.out
         have hnc184 := NB2044_2007.out
         have hnb185 := NB2007_2049.out
         have hnc185 := NB2049_2007.out
         have hnb186 := NB2007_2058.out
         have hnc186 := NB2058_2007.out
         have hnb187 := NB2007_2059.out
         have hnc187 := NB2059_2007.out
         have hnb188 := NB2007_2069.out
         have hnc188 := NB2069_2007.out
         obtain ⟨z189_0, z189_1, y189_0, y189_1⟩ := bc2_ BK2007.out
         have hnb190 := NB2013_2008.out
         have hnc190 := NB2008_2013.out
         have hnb191 := NB2013_2030.out
         have hnc191 := NB2030_2013.out
         have hnb192 := NB2013_2031.out
         have hnc192 := NB2031_2013.out
         have hnb193 := NB2013_2043.out
         have hnc193 := NB2043_2013.out
         have hnb194 := NB2013_2044.out
         have hnc194 := NB2044_2013.out
         have hnb195 := NB2013_2049.out
         have hnc195 := NB2049_2013.out
         have hnb196 := NB2013_2058.out
         have hnc196 := NB2058_2013.out
         have hnb197 := NB2013_2059.out
         have hnc197 := NB2059_2013.out
         have hnb198 := NB2013_2069.out
         have hnc198 := NB2069_2013.out
         obtain ⟨z199_0, z199_1, y199_0, y199_1⟩ := bc2_ BK2013.out
         go_wp2
         go_ret
         exact an_ (by exact hs_ HB.out)
        replace c178 := Bool.eq_false_iff.mpr c178
        subst c178
        rw [if_neg (show ¬ (false = true) by decide)] at H
        exact absurd H (by simp)
       rw [if_neg c177] at H
       have c177b0 : decide (3 ≤ (t1997.length : Int)) = false := decide_eq_false c177
       have c177b1 : decide (3 ≤ t1997.length) = false := decide_eq_false (by omega)
       clear c177
       by_cases c200 : (t2009.length : Int) = (wrap64 ((t1997.length : Int) + 1))
       ·
        rw [if_pos c200] at H
        have c200b0 : ((t2009.length : Int) == (wrap64 ((t1997.length : Int) + 1))) = true := beq_iff_eq.mpr c200
        have c200b1 : ((t2009.length : Int) != (wrap64 ((t1997.length : Int) + 1))) = false := bne_eq_false_iff_eq.mpr c200
        clear c200
        by_cases c201 : 0 ≤ (t1997.length : Int)
        ·
         rw [if_pos c201] at H
         have c201b0 := decide_eq_true c201
         have c201b1 : decide (0 ≤ t1997.length) = true := decide_eq_true (by omega)
         clear c201
         by_cases c202 : (t1997.length : Int) < (t2009.length : Int)
         ·
          rw [if_pos c202] at H
          have c202b0 := decide_eq_true c202
          have c202b1 : decide (t1997.length < t2009.length) = true := decide_eq_true (Int.ofNat_lt.mp c202)
          clear c202
          replace H := Option.bind_eq_some_iff.mp H
          obtain ⟨t2090, A2030, H⟩ := H
          have A203 := Aside0.mk A2030
          clear A2030
          by_cases c204 : t2090 = true
          ·
           subst c204
           rw [if_pos rfl] at H
           have c205b0 := eq_true (of_decide_eq_true (by with_reducible assumption) : 0 ≤ (t1997.length : Int))
           by_cases c206 : (t1997.length : Int) ≤ (t2009.length : Int)
           ·
            rw [if_pos c206] at H
            have c206b0 := eq_true c206
            have c206b1 := decide_eq_true c206
            clear c206
            obtain ⟨y2091, hy2091⟩ : ∃ y_ : List (S44), y_ = (t2009.take ((t1997.length : Int) : Int).toNat) := ⟨_, rfl⟩
            replace H : ((laws_sameList.f kj28 y2091 t1997).bind fun t2095 => (some t2095)) = some r := by first | (rw [hy2091]; with_reducible exact H) | (have H2_ := (Option.bind_some _ _).symm.trans H; rw [hy2091]; with_reducible exact H2_) | (have H2_ := (Option.bind_some _ _).symm.trans H; with_reducible exact H2_) | with_reducible exact H | (rw [hy2091]; exact H) | exact H
            have Ny2091 := Aside0.mk hy2091
            clear hy2091
            replace H := Option.bind_eq_some_iff.mp H
            obtain ⟨t2095, A2070, H⟩ := H
            have A207 := Aside0.mk A2070
            clear A2070
            obtain rfl := Option.some.inj H
            have hnb208 := NB2007_2008.out
            have hnc208 := NB2008_2007.out
            have hnb209 := NB2007_2013.out
            have hnc209 := NB2013_2007.out
            have hnb210 := NB2007_2030.out
            have hnc210 := NB2030_2007.out
            have hnb211 := NB2007_2031.out
            have hnc211 := NB2031_2007.out
            have hnb212 := NB2007_2043.out
            have hnc212 := NB2043_2007.out
            have hnb213 := NB2007_2044.out
            have hnc213 := NB2044_2007.out
            have hnb214 := NB2007_2049.out
            have hnc214 := NB2049_2007.out
            have hnb215 := NB2007_2058.out
            have hnc215 := NB2058_2007.out
            have hnb216 := NB2007_2059.out
            have hnc216 := NB2059_2007.out
            have hnb217 := NB2007_2069.out
            have hnc217 := NB2069_2007.out
            obtain ⟨z218_0, z218_1, y218_0, y218_1⟩ := bc2_ BK2007.out
            try go_wp2
            replace HO_2008000 := Aside0.mk (Kd.S_drew HO_2008000.out)
            replace HO_2009000 := Aside0.mk (Kd.R_drew HO_2009000.out)
            replace HO_2014000 := Aside0.mk (Kd.S_drew HO_2014000.out)
            replace BK2007 := Aside0.mk (blk_drew BK2007.out)
            replace BK2008 := Aside0.mk (blk_drew BK2008.out)
            replace BK2013 := Aside0.mk (blk_drew BK2013.out)
            replace BK2031 := Aside0.mk (blk_drew BK2031.out)
            replace BK2044 := Aside0.mk (blk_drew BK2044.out)
            replace BK2069 := Aside0.mk (blk_drew BK2069.out)
            replace HB := Aside0.mk (bd_ HB.out)
            have p2089 : 0 ≤ ((t1997.length : Int) : Int) := of_decide_eq_true (by with_reducible assumption)
            have q2089 : (t1997.length : Int) < (t2009.length : Int) := of_decide_eq_true (by with_reducible assumption)
            obtain ⟨ad2089, A2089_0, c2089_0, e2089, hx2089_0, hx2089_1, hx2089_2, hx2089_3, hl2089_0, hi2089_0⟩ := at_T44 (Kd.S_reads' HO_2014000.out).2.2 (t1997.length : Int) p2089 q2089
            cases e2089
            obtain ⟨ce2089, hce2089, hMe2089, hcc2089⟩ := Kd.S_get HO_2014000.out z44 (t1997.length : Int) p2089 (by first | exact q2089 | exact of_decide_eq_true (by with_reducible assumption) | (have e_ := (Kd.S_reads' HO_2014000.out).1; omega))
            obtain ⟨ve2089_0, rfl, ge2089_0⟩ := k44_openM hMe2089
            have hv2089_0 := hcc2089 0 _ rfl
            rw [Nat.add_zero] at hv2089_0
            replace hv2089_0 := Option.some.inj (hv2089_0.symm.trans hx2089_0)
            rw [hv2089_0] at ge2089_0
            have HL2089_0 := Aside0.mk (show Kd.R k164 164 _ _ _ _ ((rd_T44 t2009 (t1997.length : Int)).f0) from ge2089_0)
            clear hv2089_0 ge2089_0 hcc2089 hce2089
            have HR2089_0 := Aside0.mk hi2089_0
            have HC2089_0 := Aside0.mk hl2089_0
            clear hi2089_0 hl2089_0
            (try simp only [Go.IntWalk.toNatUp] at hx2089_0)
            (try simp only [Go.IntWalk.toNatUp] at hx2089_1)
            (try simp only [Go.IntWalk.toNatUp] at hx2089_2)
            (try simp only [Go.IntWalk.toNatUp] at hx2089_3)
            replace p2089 := eq_true p2089
            replace q2089 := eq_true q2089
            refine start_ (n := 31) (S := fun w' => w'.cell? ⟨gb2013, 0, none⟩ = some (.slice (some ad2089) t2009.length co40) ∧ w'.cell? ⟨gb2013, 1, none⟩ = some (.bool t2012) ∧ w'.cell? ⟨gb2007, 0, none⟩ = some (.slice Ao33 t1997.length co33) ∧ w'.cell? ⟨gb2007, 1, none⟩ = some (.bool false) ∧ w'.cell? ⟨gb2008, 0, none⟩ = some (.slice Ao36 t2001.length co36) ∧ w'.cell? ⟨gb2008, 1, none⟩ = some (.int .i64 t2004) ∧ w'.cell? ⟨gb2008, 2, none⟩ = some (.int .i64 t2005) ∧ w'.cell? ⟨gb2008, 3, none⟩ = some (.string t2006) ∧ w'.cell? (ad2089.add (((t1997.length : Int)).toNat * 4)) = some (.slice A2089_0 ((rd_T44 t2009 (t1997.length : Int)).f0).length c2089_0) ∧ w'.cell? ⟨(ad2089.add (((t1997.length : Int)).toNat * 4)).block, (ad2089.add (((t1997.length : Int)).toNat * 4)).off + 1, none⟩ = some (.int .i64 ((rd_T44 t2009 (t1997.length : Int)).f1)) ∧ w'.cell? ⟨(ad2089.add (((t1997.length : Int)).toNat * 4)).block, (ad2089.add (((t1997.length : Int)).toNat * 4)).off + 2, none⟩ = some (.int .i64 ((rd_T44 t2009 (t1997.length : Int)).f2)) ∧ w'.cell? ⟨(ad2089.add (((t1997.length : Int)).toNat * 4)).block, (ad2089.add (((t1997.length : Int)).toNat * 4)).off + 3, none⟩ = some (.string ((rd_T44 t2009 (t1997.length : Int)).f3))) (ds := []) #[f_,f_,f_,f_,f_,f_,f_,f_,f_,f_,f_,f_,f_,f_,f_,f_,f_,f_,f_,f_,f_,f_,f_,f_,f_,f_,f_,f_,f_,f_,f_] (by kernel_rfl) rfl rfl ⟨bx_ BK2013.out 0, bx_ BK2013.out 1, bx_ BK2007.out 0, bx_ BK2007.out 1, bx_ BK2008.out 0, bx_ BK2008.out 1, bx_ BK2008.out 2, bx_ BK2008.out 3, hx2089_0, hx2089_1, hx2089_2, hx2089_3⟩ (fun hHeld => ?_); refine with_tabW laws_FnSubs.tab17 laws_FnSubs.bits17 (fun HT_ HW_ => ?_)
            generalize wc.drew = w219 at HO_2008000 HO_2009000 HO_2014000 BK2007 BK2008 BK2013 BK2031 BK2044 BK2069 HB HL2089_0 HR2089_0 hx2089_0 hx2089_1 hx2089_2 hx2089_3 hHeld ⊢
            refine pw_ 0 120 (b_ 1 30) rfl rfl HT_.out ?_
            refine pw_ 3 123 #[t_,f_,f_,t_,f_,f_,f_,f_,f_,f_,f_,f_,f_,f_,f_,f_,f_,f_,f_,f_,f_,f_,f_,f_,f_,f_,f_,f_,f_,f_,f_] rfl rfl HT_.out ?_
            refine take_ (i := 1) (N := some 121) (v := ?_) (a' := ?_) #[t_,t_,f_,t_,f_,f_,f_,f_,f_,f_,f_,f_,f_,f_,f_,f_,f_,f_,f_,f_,f_,f_,f_,f_,f_,f_,f_,f_,f_,f_,f_] rfl rfl (take_ofW HT_.out HW_.out (by kernel_rfl)) (fun _ _ _ h => h) (Or.inl ⟨by rfl, ?_⟩) hHeld ?_ ?_
            rotate_left
            ·
             rintro w' ⟨s0, s1, s2, s3, s4, s5, s6, s7, s8, s9, s10, s11⟩
             (try simp only [Int.toNat_natCast] at s0 s1 s2 s3 s4 s5 s6 s7 s8 s9 s10 s11)
             go_simp
             with_reducible rfl
            rotate_left
            ·
             simp only [fr_]
             rfl
            refine pw_ 2 122 (b_ 4 27) rfl rfl HT_.out ?_
            refine take_ (i := 4) (N := some 124) (v := ?_) (a' := ?_) #[t_,t_,t_,t_,t_,f_,f_,f_,f_,f_,f_,f_,f_,f_,f_,f_,f_,f_,f_,f_,f_,f_,f_,f_,f_,f_,f_,f_,f_,f_,f_] rfl rfl (take_ofW HT_.out HW_.out (by kernel_rfl)) (fun _ _ _ h => h) (Or.inl ⟨by rfl, ?_⟩) hHeld ?_ ?_
            rotate_left
            ·
             rintro w' ⟨s0, s1, s2, s3, s4, s5, s6, s7, s8, s9, s10, s11⟩
             (try simp only [Int.toNat_natCast] at s0 s1 s2 s3 s4 s5 s6 s7 s8 s9 s10 s11)
             go_simp
             with_reducible rfl
            rotate_left
            ·
             simp only [fr_]
             rfl
            refine pw_ 5 125 (b_ 6 25) rfl rfl HT_.out ?_
            refine pw_ 6 126 (b_ 7 24) rfl rfl HT_.out ?_
            refine pw_ 7 127 (b_ 8 23) rfl rfl HT_.out ?_
            refine pw_ 8 128 (b_ 9 22) rfl rfl HT_.out ?_
            refine pw_ 9 129 (b_ 10 21) rfl rfl HT_.out ?_
            refine pw_ 11 131 #[t_,t_,t_,t_,t_,t_,t_,t_,t_,t_,f_,t_,f_,f_,f_,f_,f_,f_,f_,f_,f_,f_,f_,f_,f_,f_,f_,f_,f_,f_,f_] rfl rfl HT_.out ?_
            refine take_ (i := 10) (N := some 130) (v := ?_) (a' := ?_) #[t_,t_,t_,t_,t_,t_,t_,t_,t_,t_,t_,t_,f_,f_,f_,f_,f_,f_,f_,f_,f_,f_,f_,f_,f_,f_,f_,f_,f_,f_,f_] rfl rfl (take_ofW HT_.out HW_.out (by kernel_rfl)) (fun _ _ _ h => h) (Or.inl ⟨by rfl, ?_⟩) hHeld ?_ ?_
            rotate_left
            ·
             rintro w' ⟨s0, s1, s2, s3, s4, s5, s6, s7, s8, s9, s10, s11⟩
             (try simp only [Int.toNat_natCast] at s0 s1 s2 s3 s4 s5 s6 s7 s8 s9 s10 s11)
             go_simp
             with_reducible rfl
            rotate_left
            ·
             simp only [fr_]
             rfl
            refine take_ (i := 12) (N := some 132) (v := ?_) (a' := ?_) #[t_,t_,t_,t_,t_,t_,t_,t_,t_,t_,t_,t_,t_,f_,f_,f_,f_,f_,f_,f_,f_,f_,f_,f_,f_,f_,f_,f_,f_,f_,f_] rfl rfl (take_ofW HT_.out HW_.out (by kernel_rfl)) (fun _ _ _ h => h) (Or.inl ⟨by rfl, ?_⟩) hHeld ?_ ?_
            rotate_left
            ·
             rintro w' ⟨s0, s1, s2, s3, s4, s5, s6, s7, s8, s9, s10, s11⟩
             (try simp only [Int.toNat_natCast] at s0 s1 s2 s3 s4 s5 s6 s7 s8 s9 s10 s11)
             go_simp
             with_reducible rfl
            rotate_left
            ·
             simp only [fr_]
             rfl
            refine pw_ 13 133 (b_ 14 17) rfl rfl HT_.out ?_
            refine pw_ 14 134 (b_ 15 16) rfl rfl HT_.out ?_
            refine take_ (i := 15) (N := some 135) (v := ?_) (a' := ?_) #[t_,t_,t_,t_,t_,t_,t_,t_,t_,t_,t_,t_,t_,t_,t_,t_,f_,f_,f_,f_,f_,f_,f_,f_,f_,f_,f_,f_,f_,f_,f_] rfl rfl (take_ofW HT_.out HW_.out (by kernel_rfl)) (fun _ _ _ h => h) (Or.inl ⟨by rfl, ?_⟩) hHeld ?_ ?_
            rotate_left
            ·
             rintro w' ⟨s0, s1, s2, s3, s4, s5, s6, s7, s8, s9, s10, s11⟩
             (try simp only [Int.toNat_natCast] at s0 s1 s2 s3 s4 s5 s6 s7 s8 s9 s10 s11)
             go_simp
             with_reducible rfl
            rotate_left
            ·
             simp only [fr_]
             rfl
            refine take_ (i := 16) (N := some 136) (v := ?_) (a' := ?_) #[t_,t_,t_,t_,t_,t_,t_,t_,t_,t_,t_,t_,t_,t_,t_,t_,t_,f_,f_,f_,f_,f_,f_,f_,f_,f_,f_,f_,f_,f_,f_] rfl rfl (take_ofW HT_.out HW_.out (by kernel_rfl)) (fun _ _ _ h => h) (Or.inl ⟨by rfl, ?_⟩) hHeld ?_ ?_
            rotate_left
            ·
             rintro w' ⟨s0, s1, s2, s3, s4, s5, s6, s7, s8, s9, s10, s11⟩
             (try simp only [Int.toNat_natCast] at s0 s1 s2 s3 s4 s5 s6 s7 s8 s9 s10 s11)
             go_simp
             with_reducible rfl
            rotate_left
            ·
             simp only [fr_]
             rfl
            refine one_ (i := 17) (N := some 137) #[t_,t_,t_,t_,t_,t_,t_,t_,t_,t_,t_,t_,t_,t_,t_,t_,t_,t_,f_,f_,f_,f_,f_,f_,f_,f_,f_,f_,f_,f_,f_] rfl rfl (one_of HT_.out (by kernel_rfl)) (by decide) (fun K hK => ?_)
            refine gs_ Try.func85 #[.agg #[.slice A2089_0 ((rd_T44 t2009 (t1997.length : Int)).f0).length c2089_0, .int .i64 ((rd_T44 t2009 (t1997.length : Int)).f1), .int .i64 ((rd_T44 t2009 (t1997.length : Int)).f2), .string ((rd_T44 t2009 (t1997.length : Int)).f3)], .agg #[.slice Ao36 t2001.length co36, .int .i64 t2004, .int .i64 t2005, .string t2006]] ?_
            with_reducible refine (impl_SameAlarm.calls kj28 _ _ ((rd_T44 t2009 (t1997.length : Int)).f0) ((rd_T44 t2009 (t1997.length : Int)).f1) ((rd_T44 t2009 (t1997.length : Int)).f2) ((rd_T44 t2009 (t1997.length : Int)).f3) _ _ t2001 t2004 t2005 t2006 true _ ?side1 ?side2 ?side3 ?side4 A203.out).mono ?_
            (case side1 => repeat (first | exact (by repeat (first | (with_reducible exact HR2089_0.out) | (with_reducible first | refine ca_ ?_ _ | refine cn_ ?_ _ | refine cd_ ?_) | exact HR2089_0.out)) | (with_reducible first | refine ca_ ?_ _ | refine cn_ ?_ _ | refine cd_ ?_)))
            (case side2 => exact HC2089_0.out)
            (case side3 => exact cp_ ((Kd.R_reads' HO_2009000.out).2.2))
            (case side4 => exact (Kd.R_reads' HO_2009000.out).2.1)
            rintro e w220 ⟨rfl, hb⟩
            have HS8_ := (hb.cell (World.block_lt_of_cell? _ _ (hHeld.2.2.2.2.2.2.2.2.1))).trans (hHeld.2.2.2.2.2.2.2.2.1)
            have HS9_ := (hb.cell (World.block_lt_of_cell? _ _ (hHeld.2.2.2.2.2.2.2.2.2.1))).trans (hHeld.2.2.2.2.2.2.2.2.2.1)
            have HS10_ := (hb.cell (World.block_lt_of_cell? _ _ (hHeld.2.2.2.2.2.2.2.2.2.2.1))).trans (hHeld.2.2.2.2.2.2.2.2.2.2.1)
            have HS11_ := (hb.cell (World.block_lt_of_cell? _ _ (hHeld.2.2.2.2.2.2.2.2.2.2.2))).trans (hHeld.2.2.2.2.2.2.2.2.2.2.2)
            refine ⟨_, rfl, ?_⟩
            replace HO_2008000 := Aside0.mk (Kd.S_below (sp_ HO_2008000.out) hb)
            replace HO_2009000 := Aside0.mk (Kd.R_below (rp_ HO_2009000.out) hb)
            replace HO_2014000 := Aside0.mk (Kd.S_below (sp_ HO_2014000.out) hb)
            replace HL2089_0 := Aside0.mk (Kd.R_below (rp_ HL2089_0.out) hb)
            replace BK2007 := bk2_ BK2007 hb
            replace BK2008 := bk2_ BK2008 hb
            replace BK2013 := bk2_ BK2013 hb
            replace BK2031 := bk2_ BK2031 hb
            replace BK2044 := bk2_ BK2044 hb
            replace BK2069 := bk2_ BK2069 hb
            replace HR2089_0 := Aside0.mk (Kd.C_below (by repeat (first | (with_reducible exact HR2089_0.out) | (with_reducible first | refine ca_ ?_ _ | refine cn_ ?_ _ | refine cd_ ?_) | exact HR2089_0.out)) hb)
            replace HB := st_ HB hb
            (try clear hb)
            (try clear hk)
            have q221 : ((t1997.length : Int) : Int) ≤ ((t2009.length : Int) : Int) := of_decide_eq_true (by with_reducible assumption)
            obtain ⟨i0221, hi0221, _, hsz221, _⟩ := info_parts info44
            have hroom221 : t2009.length ≤ co40 := (Kd.S_reads' HO_2014000.out).2.1
            have hC221 : Kd.C k44 _ (some ad2089) t2009.length t2009 := (Kd.S_reads' HO_2014000.out).2.2
            have hcut221 := cut_to (P := Try.prog) 37 44 .i64 Try.underlying37 hi0221 (some ad2089) t2009.length co40 (t1997.length : Int) (of_decide_eq_true (by with_reducible assumption)) q221 hroom221
            have hr221 := Kd.C_take (m := ((t1997.length : Int) : Int).toNat) hC221 (by omega)
            have hy221 : y2091.length = ((t1997.length : Int) : Int).toNat := (by rw [Ny2091.out, List.length_take]; omega)
            rw [← Ny2091.out] at hr221
            rw [← hy221] at hcut221
            have HR2094 := Aside0.mk hr221
            have HC2094 := Aside0.mk (show y2091.length ≤ co40 from by omega)
            clear hr221 hC221 hroom221 hi0221 hsz221
            have KY221 := Aside0.mk hy221
            clear hy221
            have KL221 := Aside0.mk (show ((t1997.length : Int) : Int).toNat ≤ t2009.length from by omega)
            replace q221 := eq_true q221
            refine hK.out _ _ ⟨bx_ BK2013.out 0, bx_ BK2013.out 1, bx_ BK2007.out 0, bx_ BK2007.out 1, bx_ BK2008.out 0, bx_ BK2008.out 1, bx_ BK2008.out 2, bx_ BK2008.out 3, HS8_, HS9_, HS10_, HS11_⟩ (fun hHeld => ?_)
            clear hK K
            refine norm_ (a' := ?_) ?_ ?_
            rotate_left
            ·
             show Act.put _ (some 137) _ = _
             simp only [fr_]
             rfl
            refine pw_ 18 138 (b_ 19 12) rfl rfl HT_.out ?_
            refine pw_ 19 139 (b_ 20 11) rfl rfl HT_.out ?_
            refine pw_ 20 140 (b_ 21 10) rfl rfl HT_.out ?_
            refine pw_ 22 142 #[t_,t_,t_,t_,t_,t_,t_,t_,t_,t_,t_,t_,t_,t_,t_,t_,t_,t_,t_,t_,t_,f_,t_,f_,f_,f_,f_,f_,f_,f_,f_] rfl rfl HT_.out ?_
            refine pw_ 26 146 #[t_,t_,t_,t_,t_,t_,t_,t_,t_,t_,t_,t_,t_,t_,t_,t_,t_,t_,t_,t_,t_,f_,t_,f_,f_,f_,t_,f_,f_,f_,f_] rfl rfl HT_.out ?_
            refine take_ (i := 21) (N := some 141) (v := ?_) (a' := ?_) #[t_,t_,t_,t_,t_,t_,t_,t_,t_,t_,t_,t_,t_,t_,t_,t_,t_,t_,t_,t_,t_,t_,t_,f_,f_,f_,t_,f_,f_,f_,f_] rfl rfl (take_ofW HT_.out HW_.out (by kernel_rfl)) (fun _ _ _ h => h) (Or.inl ⟨by rfl, ?_⟩) hHeld ?_ ?_
            rotate_left
            ·
             rintro w' ⟨s0, s1, s2, s3, s4, s5, s6, s7, s8, s9, s10, s11⟩
             (try simp only [Int.toNat_natCast] at s0 s1 s2 s3 s4 s5 s6 s7 s8 s9 s10 s11)
             go_simp
             with_reducible rfl
            rotate_left
            ·
             simp only [fr_]
             rfl
            refine take_ (i := 23) (N := some 143) (v := ?_) (a' := ?_) #[t_,t_,t_,t_,t_,t_,t_,t_,t_,t_,t_,t_,t_,t_,t_,t_,t_,t_,t_,t_,t_,t_,t_,t_,f_,f_,t_,f_,f_,f_,f_] rfl rfl (take_ofW HT_.out HW_.out (by kernel_rfl)) (fun _ _ _ h => h) (Or.inl ⟨by rfl, ?_⟩) hHeld ?_ ?_
            rotate_left
            ·
             rintro w' ⟨s0, s1, s2, s3, s4, s5, s6, s7, s8, s9, s10, s11⟩
             (try simp only [Int.toNat_natCast] at s0 s1 s2 s3 s4 s5 s6 s7 s8 s9 s10 s11)
             go_simp
             with_reducible rfl
            rotate_left
            ·
             simp only [fr_]
             rfl
            refine pw_ 24 144 #[t_,t_,t_,t_,t_,t_,t_,t_,t_,t_,t_,t_,t_,t_,t_,t_,t_,t_,t_,t_,t_,t_,t_,t_,t_,f_,t_,f_,f_,f_,f_] rfl rfl HT_.out ?_
            refine pw_ 25 145 (b_ 27 4) rfl rfl HT_.out ?_
            refine take_ (i := 27) (N := some 147) (v := ?_) (a' := ?_) #[t_,t_,t_,t_,t_,t_,t_,t_,t_,t_,t_,t_,t_,t_,t_,t_,t_,t_,t_,t_,t_,t_,t_,t_,t_,t_,t_,t_,f_,f_,f_] rfl rfl (take_ofW HT_.out HW_.out (by kernel_rfl)) (fun _ _ _ h => h) (Or.inl ⟨by rfl, ?_⟩) hHeld ?_ ?_
            rotate_left
            ·
             rintro w' ⟨s0, s1, s2, s3, s4, s5, s6, s7, s8, s9, s10, s11⟩
             (try simp only [Int.toNat_natCast] at s0 s1 s2 s3 s4 s5 s6 s7 s8 s9 s10 s11)
             go_simp
             with_reducible rfl
            rotate_left
            ·
             simp only [fr_]
             rfl
            refine one_ (i := 28) (N := some 148) #[t_,t_,t_,t_,t_,t_,t_,t_,t_,t_,t_,t_,t_,t_,t_,t_,t_,t_,t_,t_,t_,t_,t_,t_,t_,t_,t_,t_,t_,f_,f_] rfl rfl (one_of HT_.out (by kernel_rfl)) (by decide) (fun K hK => ?_)
            refine gs_ Try.func77 #[.slice (some ad2089) y2091.length co40, .slice Ao33 t1997.length co33] ?_
            with_reducible refine (laws_sameList.calls kj28 _ _ y2091 _ _ t1997 t2095 _ ?side1 ?side2 ?side3 ?side4 A207.out).mono ?_
            (case side1 => repeat (first | exact (by repeat (first | (with_reducible exact HR2094.out) | (with_reducible first | refine ca_ ?_ _ | refine cn_ ?_ _ | refine cd_ ?_) | exact HR2094.out)) | (with_reducible first | refine ca_ ?_ _ | refine cn_ ?_ _ | refine cd_ ?_)))
            (case side2 => exact HC2094.out)
            (case side3 => exact cp_ ((Kd.S_reads' HO_2008000.out).2.2))
            (case side4 => exact (Kd.S_reads' HO_2008000.out).2.1)
            rintro e w222 ⟨rfl, hb⟩
            have HS8_ := (hb.cell (World.block_lt_of_cell? _ _ (hHeld.2.2.2.2.2.2.2.2.1))).trans (hHeld.2.2.2.2.2.2.2.2.1)
            have HS9_ := (hb.cell (World.block_lt_of_cell? _ _ (hHeld.2.2.2.2.2.2.2.2.2.1))).trans (hHeld.2.2.2.2.2.2.2.2.2.1)
            have HS10_ := (hb.cell (World.block_lt_of_cell? _ _ (hHeld.2.2.2.2.2.2.2.2.2.2.1))).trans (hHeld.2.2.2.2.2.2.2.2.2.2.1)
            have HS11_ := (hb.cell (World.block_lt_of_cell? _ _ (hHeld.2.2.2.2.2.2.2.2.2.2.2))).trans (hHeld.2.2.2.2.2.2.2.2.2.2.2)
            refine ⟨_, rfl, ?_⟩
            replace HO_2008000 := Aside0.mk (Kd.S_below (sp_ HO_2008000.out) hb)
            replace HO_2009000 := Aside0.mk (Kd.R_below (rp_ HO_2009000.out) hb)
            replace HO_2014000 := Aside0.mk (Kd.S_below (sp_ HO_2014000.out) hb)
            replace HL2089_0 := Aside0.mk (Kd.R_below (rp_ HL2089_0.out) hb)
            replace BK2007 := bk2_ BK2007 hb
            replace BK2008 := bk2_ BK2008 hb
            replace BK2013 := bk2_ BK2013 hb
            replace BK2031 := bk2_ BK2031 hb
            replace BK2044 := bk2_ BK2044 hb
            replace BK2069 := bk2_ BK2069 hb
            replace HR2089_0 := Aside0.mk (Kd.C_below (by repeat (first | (with_reducible exact HR2089_0.out) | (with_reducible first | refine ca_ ?_ _ | refine cn_ ?_ _ | refine cd_ ?_) | exact HR2089_0.out)) hb)
            replace HR2094 := Aside0.mk (Kd.C_below (by repeat (first | (with_reducible exact HR2094.out) | (with_reducible first | refine ca_ ?_ _ | refine cn_ ?_ _ | refine cd_ ?_) | exact HR2094.out)) hb)
            replace HB := st_ HB hb
            (try clear hb)
            (try clear hk)
            refine hK.out _ _ ⟨bx_ BK2013.out 0, bx_ BK2013.out 1, bx_ BK2007.out 0, bx_ BK2007.out 1, bx_ BK2008.out 0, bx_ BK2008.out 1, bx_ BK2008.out 2, bx_ BK2008.out 3, HS8_, HS9_, HS10_, HS11_⟩ (fun hHeld => ?_)
            clear hK K
            refine norm_ (a' := ?_) ?_ ?_
            rotate_left
            ·
             show Act.put _ (some 148) _ = _
             simp only [fr_]
             rfl
            refine pw_ 29 149 (b_ 30 1) rfl rfl HT_.out ?_
            refine pw_ 30 2 (b_ 31 0) rfl rfl HT_.out ?_
            refine done_ (done_of HT_.out (by kernel_rfl)) ?_
            try go_wp2
            go_ret
            exact an_ (by exact hs_ HB.out)
           rw [if_neg c206] at H
           exact absurd H (by simp)
          replace c204 := Bool.eq_false_iff.mpr c204
          subst c204
          rw [if_neg (show ¬ (false = true) by decide)] at H
          exact absurd H (by simp)
         rw [if_neg c202] at H
         exact absurd H (by simp)
        rw [if_neg c201] at H
        exact absurd H (by simp)
       rw [if_neg c200] at H
       have c200b0 : ((t2009.length : Int) == (wrap64 ((t1997.length : Int) + 1))) = false := beq_eq_false_iff_ne.mpr c200
       have c200b1 : ((t2009.length : Int) != (wrap64 ((t1997.length : Int) + 1))) = true := bne_iff_ne.mpr c200
       exact absurd H (by simp)
    rw [if_neg c19] at H
    have c19b0 : (t2029 == t2042) = false := beq_eq_false_iff_ne.mpr c19
    have c19b1 : (t2029 != t2042) = true := bne_iff_ne.mpr c19
    exact absurd H (by simp)
   replace c18 := Bool.eq_false_iff.mpr c18
   subst c18
   rw [if_neg (show ¬ (false = true) by decide)] at H
   exact absurd H (by simp)
  replace c16 := Bool.eq_false_iff.mpr c16
  subst c16
  rw [if_neg (show ¬ (false = true) by decide)] at H
  exact absurd H (by simp)
 replace c14 := Bool.eq_false_iff.mpr c14
 subst c14
 rw [if_neg (show ¬ (false = true) by decide)] at H
 exact absurd H (by simp)

/-- THE ONE PURE STATEMENT of laws_FnSubs: yours. -/
def laws_FnSubs.Pure : Prop := ∀ (l0 : List Int), l0.length ≤ maxLen → l0.length * 1 ≤ 140737488351232 → (∀ x ∈ l0, (Lit.int .u8 x).wf = true) → ∃ k, laws_FnSubs.f k l0 = some true
theorem laws_FnSubs.walk (P : laws_FnSubs.Pure) (a0 : Option Addr) (len0 cap0 : Nat) (z0 : List Int) (w : World) (w0 : (a0 = none ∧ len0 = 0 ∧ cap0 = 0 ∧ z0 = []) ∨ ∃ x, a0 = some x ∧ len0 ≤ cap0 ∧ cap0 ≤ maxLen ∧ z0.length = cap0 ∧ (∀ i, i < z0.length → w.cell? (x.add i) = some (.int .u8 (z0.getD i 0))) ∧ ∀ n ∈ z0, (Lit.int .u8 n).wf = true) (y0 : len0 * 1 ≤ 140737488351232) :
  Calls Try.prog 14 #[.slice a0 len0 cap0] w fun e w' => e = .returned (.bool true) ∧ Below w.heap.size w w' := by
 obtain ⟨l0, rfl, hr0, hm0, hw0, hc0⟩ := ReadsInt.ofRowC w0
 obtain ⟨k, h⟩ := P l0 hm0 y0 hw0
 refine (laws_FnSubs.calls k _ _ l0 true w (Kd.C_of_reads (d := (0 : Int)) (h1 := fun _ => rfl) hr0) hc0 h).mono ?_
 rintro e w' ⟨rfl, hd⟩
 exact ⟨rfl, hd⟩
end Go.Proofs.Ytfholjcelnkleaa.Print
end
section
namespace Go.Proofs.Ytfholjcelnkleaa.Print
open Go.RowKit Go.Proofs.YtfholjcelnkleaaV.PrintWords Go.Proofs.YtfholjcelnkleaaV.PrintLast Go.Proofs.YtfholjcelnkleaaV.PrintMore
set_option linter.unusedVariables false
set_option linter.unusedSimpArgs false
theorem wrap_id {x : Int} (h1 : -9223372036854775808 ≤ x) (h2 : x ≤ 9223372036854775807) : wrap64 x = x := by unfold wrap64; omega
theorem wrap_up (n : Nat) (h : n < 9223372036854775807) : wrap64 ((n : Int) + 1) = ((n + 1 : Nat) : Int) := by unfold wrap64; omega
theorem lt_mid {α : Type} (pre suf : List α) (y : α) : (pre.length : Int) < ((pre ++ y :: suf).length : Int) := by simp only [List.length_append, List.length_cons]; omega
theorem not_lt_end {α : Type} (pre : List α) : ¬ ((pre.length : Int) < ((pre ++ []).length : Int)) := by simp
theorem nn (n : Nat) : (0 : Int) ≤ (n : Int) := by omega
theorem mid_assoc {α : Type} (pre suf : List α) (y : α) : pre ++ y :: suf = (pre ++ [y]) ++ suf := by simp
/-- A loop that goes on or stops with an answer. -/
def scan {ρ : Type} (step : Nat → Option ρ) (fin : ρ) : Nat → Nat → ρ
  | 0, _ => fin
  | d + 1, i => match step i with
    | some r => r
    | none => scan step fin d (i + 1)
/-- What one round does. -/
def goOn {ρ : Type} (o : Option ρ) (next : Option ρ) : Option ρ := match o with
  | some r => some r
  | none => next
theorem scan_ev2 {ρ : Type} {F : Nat → Int → Option ρ} {n : Nat} {step : Nat → Option ρ} {fin : ρ} (hend : ∃ K, ∀ k, K ≤ k → F (k + 1) (n : Int) = some fin)
    (hstep : ∀ i, i < n → ∃ K, ∀ k, K ≤ k → F (k + 1) (i : Int) = goOn (step i) (F k ((i + 1 : Nat) : Int))) : ∀ d i, d + i = n → Ev (fun k => F k (i : Int)) (scan step fin d i)
  | 0, i, h => by
    obtain rfl : i = n := by omega
    obtain ⟨K, hK⟩ := hend
    refine ⟨K + 1, fun k hk => ?_⟩
    obtain ⟨m, rfl⟩ : ∃ m, k = m + 1 := ⟨k - 1, by omega⟩
    exact hK m (by omega)
  | d + 1, i, h => by
    obtain ⟨K, hK⟩ := hstep i (by omega)
    unfold scan
    cases hs : step i with
    | some r =>
      refine ⟨K + 1, fun k hk => ?_⟩
      obtain ⟨m, rfl⟩ : ∃ m, k = m + 1 := ⟨k - 1, by omega⟩
      have := hK m (by omega)
      rw [hs] at this
      exact this
    | none =>
      obtain ⟨K', hK'⟩ := scan_ev2 hend hstep d (i + 1) (by omega)
      refine ⟨max K K' + 1, fun k hk => ?_⟩
      obtain ⟨m, rfl⟩ : ∃ m, k = m + 1 := ⟨k - 1, by omega⟩
      have := hK m (by omega)
      rw [hs] at this
      exact this.trans (hK' m (by omega))
theorem scan_ev {ρ : Type} {F : Nat → Int → Option ρ} {n : Nat} {step : Nat → Option ρ} {fin : ρ} (hend : ∀ k, F (k + 1) (n : Int) = some fin)
    (hstep : ∀ i, i < n → ∃ K, ∀ k, K ≤ k → F (k + 1) (i : Int) = goOn (step i) (F k ((i + 1 : Nat) : Int))) : ∀ d i, d + i = n → Ev (fun k => F k (i : Int)) (scan step fin d i) := scan_ev2 ⟨0, fun k _ => hend k⟩ hstep
theorem scan_congr {ρ : Type} {s s' : Nat → Option ρ} {f : ρ} : ∀ d i, (∀ j, i ≤ j → j < i + d → s j = s' j) → scan s f d i = scan s' f d i
  | 0, _, _ => rfl
  | d + 1, i, h => by
    unfold scan
    rw [h i (Nat.le_refl _) (by omega)]
    cases s' i with
    | some r => rfl
    | none => exact scan_congr d (i + 1) (fun j h1 h2 => h j (by omega) (by omega))
/-- All of a list, and e. -/
theorem scan_all {α : Type} (p : α → Bool) (z : α) (e : Bool) : ∀ (suf pre : List α), scan (fun i => if p ((pre ++ suf).getD i z) = true then none else some false) e suf.length pre.length = (suf.all p && e)
  | [], pre => by simp [scan]
  | y :: suf, pre => by
    have ih := scan_all p z e suf (pre ++ [y])
    simp only [List.append_assoc, List.singleton_append, List.length_append, List.length_singleton] at ih
    simp only [List.length_cons, scan]
    rw [show (pre ++ y :: suf).getD pre.length z = y by simp]
    cases hp : p y with
    | true => simp only [if_true]; rw [ih]; simp [hp]
    | false => simp [hp]
theorem scan_all0 {α : Type} (p : α → Bool) (z : α) (e : Bool) (l : List α) : scan (fun i => if p (l.getD i z) = true then none else some false) e l.length 0 = (l.all p && e) := scan_all p z e l []
/-- Two lists of one length, element by element. -/
theorem scan_same {α β : Type} [DecidableEq β] (f : α → β) (z : α) : ∀ (a b pa pb : List α), a.length = b.length → pa.length = pb.length →
    scan (fun i => if f ((pa ++ a).getD i z) = f ((pb ++ b).getD i z) then none else some false) true a.length pa.length = decide (a.map f = b.map f)
  | [], [], pa, pb, _, _ => by simp [scan]
  | [], _ :: _, _, _, h, _ => by simp at h
  | _ :: _, [], _, _, h, _ => by simp at h
  | x :: a, y :: b, pa, pb, h, h2 => by
    have ih := scan_same f z a b (pa ++ [x]) (pb ++ [y]) (by simpa using h) (by simp [h2])
    simp only [List.append_assoc, List.singleton_append, List.length_append, List.length_singleton] at ih
    simp only [List.length_cons, scan]
    rw [show (pa ++ x :: a).getD pa.length z = x by simp, show (pb ++ y :: b).getD pa.length z = y by rw [h2]; simp]
    by_cases he : f x = f y
    · simp only [if_pos he]; rw [ih]; simp [he]
    · simp [he]
theorem scan_same0 {α β : Type} [DecidableEq β] (f : α → β) (z : α) (a b : List α) (h : a.length = b.length) : scan (fun i => if f (a.getD i z) = f (b.getD i z) then none else some false) true a.length 0 = decide (a.map f = b.map f) := scan_same f z a b [] [] h rfl
theorem getD_eq {α : Type} (l : List α) (i : Nat) (z : α) (h : i < l.length) : l.getD i z = l[i] := by simp [List.getD_eq_getElem?_getD, List.getElem?_eq_getElem h]
theorem getD_mem {α : Type} (l : List α) (i : Nat) (z : α) (h : i < l.length) : l.getD i z ∈ l := by rw [getD_eq l i z h]; exact List.getElem_mem h
def WiLabel (x : S164) : Prop := x.f0.size ≤ 4000000 ∧ x.f1.size ≤ 4000000
def WiAlarm (x : S44) : Prop := (x.f0.length ≤ 4000000 ∧ ∀ y ∈ x.f0, WiLabel y) ∧ True ∧ True ∧ x.f3.size ≤ 4000000
def WiSub (x : S39) : Prop := (x.f0.length ≤ 4000000 ∧ ∀ y ∈ x.f0, WiAlarm y) ∧ True
theorem and_top (x : Int) (m : Nat) (hm : m < 9223372036854775808) : 0 ≤ Go.bits .and .i64 x (m : Int) ∧ Go.bits .and .i64 x (m : Int) ≤ m := by
  have h1 : (BitVec.ofInt 64 x &&& BitVec.ofInt 64 (m : Int)).toNat ≤ m := by
    rw [BitVec.toNat_and]
    refine Nat.le_trans Nat.and_le_right ?_
    rw [BitVec.ofInt_natCast, BitVec.toNat_ofNat]
    exact Nat.mod_le _ _
  have h2 : Go.bits .and .i64 x (m : Int) = ((BitVec.ofInt 64 x &&& BitVec.ofInt 64 (m : Int)).toNat : Int) := by
    show IntKind.i64.wrap ((BitVec.ofInt 64 x &&& BitVec.ofInt 64 (m : Int)).toNat : Int) = _
    rw [IntKind.wrap_i64]
    omega
  rw [h2]; omega
theorem dNew_l0 (l : List Int) (hl : l.length ≤ 1048576) : ∀ (n i : Nat) (h : Int), l.length ≤ i + n → ∃ s, Ev (fun k => spec_l1New.l0 k l h (i : Int)) (l, 0, s)
  | 0, i, h, hn => ⟨h, 1, fun k hk => by
    obtain ⟨k, rfl⟩ : ∃ m, k = m + 1 := ⟨k - 1, by omega⟩
    simp only [spec_l1New.l0]; rw [if_neg (by omega)]⟩
  | n + 1, i, h, hn => by
    by_cases c : (i : Int) < (l.length : Int)
    · by_cases c2 : (i : Int) < 4000
      · obtain ⟨s, K, g⟩ := dNew_l0 l hl n (i + 1) (Go.bits .and .i64 (wrap64 ((wrap64 ((wrap64 (h * 137)) + (wrap64 (rd l (i : Int))))) + 11)) 1073741823) (by omega)
        refine ⟨s, K + 1, fun k hk => ?_⟩
        obtain ⟨k, rfl⟩ : ∃ m, k = m + 1 := ⟨k - 1, by omega⟩
        have e := g k (by omega)
        simp only at e
        simp only [spec_l1New.l0]
        rw [if_pos c, if_pos c2, if_pos (by omega), wrap_up i (by omega), e]
      · refine ⟨h, 1, fun k hk => ?_⟩
        obtain ⟨k, rfl⟩ : ∃ m, k = m + 1 := ⟨k - 1, by omega⟩
        simp only [spec_l1New.l0]; rw [if_pos c, if_neg c2]
    · refine ⟨h, 1, fun k hk => ?_⟩
      obtain ⟨k, rfl⟩ : ∃ m, k = m + 1 := ⟨k - 1, by omega⟩
      simp only [spec_l1New.l0]; rw [if_neg c]
theorem dNew (l : List Int) (hl : l.length ≤ 1048576) : ∃ s, Ev (fun k => spec_l1New.f k l) (l, 0, s) := by
  obtain ⟨s, g⟩ := dNew_l0 l hl l.length 0 (wrap64 (140873 + (l.length : Int))) (by omega)
  exact ⟨s, g⟩
section
variable (l : List Int) (hl : l.length ≤ 1048576)
include hl
theorem dByte (p s : Int) (hp : 0 ≤ p) : ∃ v p' s', spec_l1Byte.f l p s = some (v, p', s') ∧ 0 ≤ p' ∧ 0 ≤ v ∧ v < 256 := by
  unfold spec_l1Byte.f
  have a1 := fun x => and_top x 255 (by decide)
  by_cases c : p < (l.length : Int)
  · rw [if_pos c, if_pos hp]
    refine ⟨_, _, _, rfl, by rw [wrap_id (by omega) (by omega)]; omega, (a1 _).1, by have := (a1 (wrap64 ((Go.bits .and .i64 (Go.bits .xor .i64 ((wrap64 ((wrap64 (s * 6364136223846793005)) + 1442695040888963407)) / 8589934592) ((wrap64 ((wrap64 (s * 6364136223846793005)) + 1442695040888963407)) / 140737488355328)) 255) + (wrap64 (rd l p))))).2; exact Int.lt_of_le_of_lt this (by decide)⟩
  · rw [if_neg c]
    exact ⟨_, _, _, rfl, hp, (a1 _).1, Int.lt_of_le_of_lt (a1 _).2 (by decide)⟩
theorem dBelow (p s a : Int) (hp : 0 ≤ p) (h0 : 0 < a) (h1 : a ≤ 256) : ∃ v p' s', spec_l1Below.f l p s a = some (v, p', s') ∧ 0 ≤ p' ∧ 0 ≤ v ∧ v < a := by
  obtain ⟨v, p', s', e, q, v0, _⟩ := dByte l hl p s hp
  refine ⟨Int.tmod v a, p', s', ?_, q, Int.tmod_nonneg _ v0, Int.tmod_lt_of_pos _ h0⟩
  simp only [spec_l1Below.f]
  rw [if_neg (by omega), if_pos h1, e, Option.bind_some, if_neg (by omega)]
theorem dOnce (p s a : Int) (hp : 0 ≤ p) (h0 : 0 < a) (h1 : a ≤ 256) : ∃ v p' s', spec_l1Once.f l p s a = some (v, p', s') ∧ 0 ≤ p' := by
  obtain ⟨v, p', s', e, q, _, _⟩ := dBelow l hl p s a hp h0 h1
  exact ⟨v == 0, p', s', by simp only [spec_l1Once.f, e, Option.bind_some], q⟩
end
section
variable (l : List Int) (hl : l.length ≤ 1048576)
include hl
theorem dStr (p s : Int) (m : List ByteArray) (hp : 0 ≤ p) (h0 : 0 < m.length) (h1 : m.length ≤ 256) : ∃ v p' s', spec_l1Str.f l p s m = some (v, p', s') ∧ 0 ≤ p' ∧ v ∈ m := by
  obtain ⟨v, p', s', e, q, v0, v1⟩ := dBelow l hl p s (m.length : Int) hp (by omega) (by omega)
  refine ⟨rdOf ByteArray.empty m v, p', s', ?_, q, ?_⟩
  · simp only [spec_l1Str.f, e, Option.bind_some]
    rw [if_pos v0, if_pos v1]
  · show m.getD v.toNat _ ∈ m
    exact getD_mem m v.toNat _ (by omega)
theorem dInt (p s : Int) (m : List Int) (hp : 0 ≤ p) (h0 : 0 < m.length) (h1 : m.length ≤ 256) : ∃ v p' s', spec_l1Int.f l p s m = some (v, p', s') ∧ 0 ≤ p' ∧ v ∈ m := by
  obtain ⟨v, p', s', e, q, v0, v1⟩ := dBelow l hl p s (m.length : Int) hp (by omega) (by omega)
  refine ⟨rd m v, p', s', ?_, q, ?_⟩
  · simp only [spec_l1Int.f, e, Option.bind_some]
    rw [if_pos v0, if_pos v1]
  · show m.getD v.toNat _ ∈ m
    exact getD_mem m v.toNat _ (by omega)
/-- A short list of labels. -/
def ShortL (n : Nat) (x : List S164) : Prop := x.length ≤ n ∧ ∀ y ∈ x, WiLabel y
theorem dLabels_l0 (m : List ByteArray) (hm : ∀ v ∈ m, v.size ≤ 4000000) (hm2 : m.length ≤ 100) : ∀ (n i : Nat) (x : List S164) (p s : Int), 0 ≤ p → m.length ≤ i + n → x.length + n ≤ 100 → (∀ y ∈ x, WiLabel y) →
    ∃ r p' s', Ev (fun k => spec_l2Draw.l0 k x m (m.length : Int) (i : Int) l p s) (r, p', s') ∧ 0 ≤ p' ∧ ShortL (x.length + n) r ∧ x.length ≤ r.length
  | 0, i, x, p, s, hp, hi, hx, hw => ⟨x, p, s, ⟨1, fun k hk => by
    obtain ⟨k, rfl⟩ : ∃ j, k = j + 1 := ⟨k - 1, by omega⟩
    simp only [spec_l2Draw.l0]; rw [if_neg (by omega)]⟩, hp, ⟨by omega, hw⟩, Nat.le_refl _⟩
  | n + 1, i, x, p, s, hp, hi, hx, hw => by
    by_cases c : (i : Int) < (m.length : Int)
    · obtain ⟨v, p1, s1, e1, q1⟩ := dOnce l hl p s 4 hp (by decide) (by decide)
      cases v with
      | true =>
        obtain ⟨u, p2, s2, e2, q2, u2⟩ := dStr l hl p1 s1 [(⟨#[49]⟩ : ByteArray), (⟨#[50]⟩ : ByteArray)] q1 (by decide) (by decide)
        obtain ⟨r, p', s', ⟨K, g⟩, q, w, w2⟩ := dLabels_l0 m hm hm2 n (i + 1) (x ++ [(⟨rdOf ByteArray.empty m (i : Int), u⟩ : S164)]) p2 s2 q2 (by omega) (by simp only [List.length_append, List.length_singleton]; omega) (fun y hy => by
          rcases List.mem_append.1 hy with h | h
          · exact hw y h
          · rw [List.mem_singleton.1 h]
            refine ⟨hm _ ?_, ?_⟩
            · show m.getD (i : Int).toNat _ ∈ m
              exact getD_mem m _ _ (by omega)
            · exact (show ∀ v ∈ [(⟨#[49]⟩ : ByteArray), (⟨#[50]⟩ : ByteArray)], v.size ≤ 4000000 by decide) u u2)
        refine ⟨r, p', s', ⟨K + 1, fun k hk => ?_⟩, q, ⟨by have := w.1; simp only [List.length_append, List.length_singleton] at this; omega, w.2⟩, by simp only [List.length_append, List.length_singleton] at w2; omega⟩
        obtain ⟨k, rfl⟩ : ∃ j, k = j + 1 := ⟨k - 1, by omega⟩
        have e := g k (by omega)
        simp only at e
        simp only [spec_l2Draw.l0]
        rw [if_pos c, if_pos (by omega), if_pos c, e1]
        simp only [Option.bind_some, if_true]
        rw [e2]
        simp only [Option.bind_some]
        rw [if_pos (by omega), wrap_up i (by omega), e]
      | false =>
        obtain ⟨r, p', s', ⟨K, g⟩, q, w, w2⟩ := dLabels_l0 m hm hm2 n (i + 1) x p1 s1 q1 (by omega) (by omega) hw
        refine ⟨r, p', s', ⟨K + 1, fun k hk => ?_⟩, q, ⟨by have := w.1; omega, w.2⟩, w2⟩
        obtain ⟨k, rfl⟩ : ∃ j, k = j + 1 := ⟨k - 1, by omega⟩
        have e := g k (by omega)
        simp only at e
        simp only [spec_l2Draw.l0]
        rw [if_pos c, if_pos (by omega), if_pos c, e1]
        simp only [Option.bind_some, Bool.false_eq_true, if_false]
        rw [wrap_up i (by omega), e]
    · refine ⟨x, p, s, ⟨1, fun k hk => ?_⟩, hp, ⟨by omega, hw⟩, Nat.le_refl _⟩
      obtain ⟨k, rfl⟩ : ∃ j, k = j + 1 := ⟨k - 1, by omega⟩
      simp only [spec_l2Draw.l0]; rw [if_neg c]
theorem dLabels (p s : Int) (hp : 0 ≤ p) : ∃ r p' s', Ev (fun k => spec_l2Draw.f k l p s) (r, p', s') ∧ 0 ≤ p' ∧ ShortL 4 r ∧ 1 ≤ r.length := by
  obtain ⟨u, p1, s1, e1, q1, u1⟩ := dStr l hl p s [(⟨#[97]⟩ : ByteArray), (⟨#[98]⟩ : ByteArray), (⟨#[99]⟩ : ByteArray)] hp (by decide) (by decide)
  have hu := (show ∀ v ∈ [(⟨#[97]⟩ : ByteArray), (⟨#[98]⟩ : ByteArray), (⟨#[99]⟩ : ByteArray)], v.size ≤ 4000000 by decide) u u1
  obtain ⟨r, p', s', ⟨K, g⟩, q, w, w2⟩ := dLabels_l0 l hl [(⟨#[104, 111, 115, 116]⟩ : ByteArray), (⟨#[115, 101, 118]⟩ : ByteArray), (⟨#[122, 111, 110, 101]⟩ : ByteArray)] (by decide) (by decide) 3 0 [(⟨(⟨#[97, 112, 112]⟩ : ByteArray), u⟩ : S164)] p1 s1 q1 (by decide) (by simp only [List.length_singleton]; omega) (fun y hy => by
    rw [List.mem_singleton.1 hy]; exact ⟨(show (⟨#[97, 112, 112]⟩ : ByteArray).size ≤ 4000000 by decide), hu⟩)
  refine ⟨r, p', s', ⟨K, fun k hk => ?_⟩, q, w, w2⟩
  have e := g k hk
  simp only at e
  simp only [spec_l2Draw.f, e1, Option.bind_some]
  exact e
theorem dPlain (p s : Int) (hp : 0 ≤ p) : ∃ v p' s', spec_l1Plain.f l p s = some (v, p', s') ∧ 0 ≤ p' ∧ v.size ≤ 4000000 := by
  obtain ⟨u, p1, s1, e1, q1, u1⟩ := dStr l hl p s [(⟨#[97]⟩ : ByteArray), (⟨#[98]⟩ : ByteArray), (⟨#[120, 32, 121]⟩ : ByteArray), (⟨#[]⟩ : ByteArray), (⟨#[99, 114, 105, 116]⟩ : ByteArray), (⟨#[125, 45]⟩ : ByteArray)] hp (by decide) (by decide)
  refine ⟨u, p1, s1, by simp only [spec_l1Plain.f, e1, Option.bind_some], q1, ?_⟩
  exact (show ∀ v ∈ [(⟨#[97]⟩ : ByteArray), (⟨#[98]⟩ : ByteArray), (⟨#[120, 32, 121]⟩ : ByteArray), (⟨#[]⟩ : ByteArray), (⟨#[99, 114, 105, 116]⟩ : ByteArray), (⟨#[125, 45]⟩ : ByteArray)], v.size ≤ 4000000 by decide) u u1
/-- A drawn alarm. -/
def ShortA (a : S44) : Prop := a.f0.length ≤ 100 ∧ WiAlarm a
omit hl in
theorem shortA_mk {n : Nat} {r : List S164} (b c : Int) {t : ByteArray} (h : ShortL n r) (hn : n ≤ 100) (ht : t.size ≤ 4000000) : ShortA ⟨r, b, c, t⟩ :=
  ⟨Nat.le_trans h.1 hn, ⟨⟨Nat.le_trans h.1 (Nat.le_trans hn (by decide)), h.2⟩, trivial, trivial, ht⟩⟩
theorem dAlarm (p s : Int) (hp : 0 ≤ p) : ∃ (a : S44) (p' s' : Int), Ev (fun k => spec_l4Draw.f k l p s) (a.f0, a.f1, a.f2, a.f3, p', s') ∧ 0 ≤ p' ∧ ShortL 4 a.f0 ∧ 1 ≤ a.f0.length ∧ a.f3.size ≤ 4000000 := by
  obtain ⟨r, p1, s1, ⟨K, g⟩, q1, w, w2⟩ := dLabels l hl p s hp
  obtain ⟨b, p2, s2, e2, q2, _, _⟩ := dBelow l hl p1 s1 8 q1 (by decide) (by decide)
  obtain ⟨t, p3, s3, e3, q3, ht⟩ := dPlain l hl p2 s2 q2
  obtain ⟨c, p4, s4, e4, q4, _⟩ := dInt l hl p3 s3 [0, 2, 5, 20, 60] q3 (by decide) (by decide)
  refine ⟨⟨r, b, wrap64 (b + c), t⟩, p4, s4, ⟨K, fun k hk => ?_⟩, q4, w, w2, ht⟩
  have e := g k hk
  simp only at e
  simp only [spec_l4Draw.f, e, Option.bind_some, e2, e3, e4]
theorem dAnyPlain (p s : Int) (hp : 0 ≤ p) : ∃ v p' s', spec_l1AnyPlain.f l p s = some (v, p', s') ∧ 0 ≤ p' ∧ v.size ≤ 4000000 := by
  obtain ⟨v, p1, s1, e1, q1⟩ := dOnce l hl p s 2 hp (by decide) (by decide)
  cases v with
  | true =>
    obtain ⟨u, p2, s2, e2, q2, u2⟩ := dPlain l hl p1 s1 q1
    exact ⟨u, p2, s2, by simp only [spec_l1AnyPlain.f, e1, Option.bind_some, if_true, e2], q2, u2⟩
  | false =>
    obtain ⟨u, p2, s2, e2, q2, u2⟩ := dStr l hl p1 s1 [(⟨#[34]⟩ : ByteArray), (⟨#[92]⟩ : ByteArray), (⟨#[127]⟩ : ByteArray), (⟨#[31]⟩ : ByteArray), (⟨#[116, 119, 101, 108, 118, 101, 32, 98, 121, 116, 101, 115]⟩ : ByteArray), (⟨#[116, 104, 105, 114, 116, 101, 101, 110, 98, 121, 116, 101, 115]⟩ : ByteArray), (⟨#[126]⟩ : ByteArray), (⟨#[125]⟩ : ByteArray), (⟨#[44, 32, 98, 61]⟩ : ByteArray), (⟨#[125, 32, 49, 45, 50]⟩ : ByteArray)] q1 (by decide) (by decide)
    refine ⟨u, p2, s2, by simp only [spec_l1AnyPlain.f, e1, Option.bind_some, Bool.false_eq_true, if_false, e2], q2, ?_⟩
    exact (show ∀ v ∈ [(⟨#[34]⟩ : ByteArray), (⟨#[92]⟩ : ByteArray), (⟨#[127]⟩ : ByteArray), (⟨#[31]⟩ : ByteArray), (⟨#[116, 119, 101, 108, 118, 101, 32, 98, 121, 116, 101, 115]⟩ : ByteArray), (⟨#[116, 104, 105, 114, 116, 101, 101, 110, 98, 121, 116, 101, 115]⟩ : ByteArray), (⟨#[126]⟩ : ByteArray), (⟨#[125]⟩ : ByteArray), (⟨#[44, 32, 98, 61]⟩ : ByteArray), (⟨#[125, 32, 49, 45, 50]⟩ : ByteArray)], v.size ≤ 4000000 by decide) u u2
theorem dNames (p s : Int) (hp : 0 ≤ p) : ∃ v p' s', spec_l1Names.f l p s = some (v, p', s') ∧ 0 ≤ p' ∧ v.size ≤ 4000000 := by
  obtain ⟨u, p1, s1, e1, q1, u1⟩ := dStr l hl p s [(⟨#[97, 112, 112]⟩ : ByteArray), (⟨#[104, 111, 115, 116]⟩ : ByteArray), (⟨#[115, 101, 118]⟩ : ByteArray), (⟨#[122, 111, 110, 101]⟩ : ByteArray)] hp (by decide) (by decide)
  refine ⟨u, p1, s1, by simp only [spec_l1Names.f, e1, Option.bind_some], q1, ?_⟩
  exact (show ∀ v ∈ [(⟨#[97, 112, 112]⟩ : ByteArray), (⟨#[104, 111, 115, 116]⟩ : ByteArray), (⟨#[115, 101, 118]⟩ : ByteArray), (⟨#[122, 111, 110, 101]⟩ : ByteArray)], v.size ≤ 4000000 by decide) u u1
theorem dAnyName (p s : Int) (hp : 0 ≤ p) : ∃ v p' s', spec_l1AnyName.f l p s = some (v, p', s') ∧ 0 ≤ p' ∧ v.size ≤ 4000000 := by
  obtain ⟨v, p1, s1, e1, q1⟩ := dOnce l hl p s 2 hp (by decide) (by decide)
  cases v with
  | true =>
    obtain ⟨u, p2, s2, e2, q2, u2⟩ := dNames l hl p1 s1 q1
    exact ⟨u, p2, s2, by simp only [spec_l1AnyName.f, e1, Option.bind_some, if_true, e2], q2, u2⟩
  | false =>
    obtain ⟨u, p2, s2, e2, q2, u2⟩ := dStr l hl p1 s1 [(⟨#[]⟩ : ByteArray), (⟨#[65]⟩ : ByteArray), (⟨#[110, 105, 110, 101, 99, 104, 97, 114, 115]⟩ : ByteArray), (⟨#[101, 105, 103, 104, 116, 97, 98, 99]⟩ : ByteArray), (⟨#[97, 32, 98]⟩ : ByteArray), (⟨#[97, 49]⟩ : ByteArray)] q1 (by decide) (by decide)
    refine ⟨u, p2, s2, by simp only [spec_l1AnyName.f, e1, Option.bind_some, Bool.false_eq_true, if_false, e2], q2, ?_⟩
    exact (show ∀ v ∈ [(⟨#[]⟩ : ByteArray), (⟨#[65]⟩ : ByteArray), (⟨#[110, 105, 110, 101, 99, 104, 97, 114, 115]⟩ : ByteArray), (⟨#[101, 105, 103, 104, 116, 97, 98, 99]⟩ : ByteArray), (⟨#[97, 32, 98]⟩ : ByteArray), (⟨#[97, 49]⟩ : ByteArray)], v.size ≤ 4000000 by decide) u u2
omit hl in
theorem shortL_add {n m : Nat} {a b : List S164} (ha : ShortL n a) (hb : ShortL m b) : ShortL (n + m) (a ++ b) :=
  ⟨by have := ha.1; have := hb.1; simp only [List.length_append]; omega, fun y hy => (List.mem_append.1 hy).elim (ha.2 y) (hb.2 y)⟩
omit hl in
theorem shortL_one (y : S164) (h : WiLabel y) : ShortL 1 [y] := ⟨Nat.le_refl _, fun z hz => by rw [List.mem_singleton.1 hz]; exact h⟩
omit hl in
theorem shortL_up {n m : Nat} {a : List S164} (h : ShortL n a) (hm : n ≤ m) : ShortL m a := ⟨Nat.le_trans h.1 hm, h.2⟩
theorem dAnyLabels (p s : Int) (hp : 0 ≤ p) : ∃ r p' s', Ev (fun k => spec_l2Any.f k l p s) (r, p', s') ∧ 0 ≤ p' ∧ ShortL 8 r := by
  obtain ⟨r, p1, s1, ⟨K, g⟩, q1, w, w2⟩ := dLabels l hl p s hp
  obtain ⟨b, p2, s2, e2, q2, _, _⟩ := dBelow l hl p1 s1 10 q1 (by decide) (by decide)
  have lr := w.1
  have l0 : (0 : Int) < (r.length : Int) := by omega
  have m0 : WiLabel (rd_T164 r 0) := w.2 _ (getD_mem r 0 _ (by omega))
  by_cases c0 : b = 0
  · obtain ⟨t, p3, s3, e3, q3, ht⟩ := dAnyName l hl p2 s2 q2
    obtain ⟨u, p4, s4, e4, q4, hu⟩ := dAnyPlain l hl p3 s3 q3
    refine ⟨r ++ [(⟨t, u⟩ : S164)], p4, s4, ⟨K, fun k hk => ?_⟩, q4, shortL_up (shortL_add w (shortL_one _ ⟨ht, hu⟩)) (by decide)⟩
    have e := g k hk
    simp only at e
    simp only [spec_l2Any.f, e, Option.bind_some, e2, if_pos c0, e3, e4]
    rw [if_pos (by omega)]
  by_cases c1 : b = 1
  · refine ⟨[(⟨(⟨#[122, 122]⟩ : ByteArray), (⟨#[49]⟩ : ByteArray)⟩ : S164)] ++ r, p2, s2, ⟨K, fun k hk => ?_⟩, q2, shortL_up (shortL_add (shortL_one _ (by constructor <;> decide)) w) (by decide)⟩
    have e := g k hk
    simp only at e
    simp only [spec_l2Any.f, e, Option.bind_some, e2, if_neg c0, if_pos c1]
    rw [if_pos (by simp only [List.length_singleton]; omega)]
  by_cases c2 : b = 2
  · refine ⟨r ++ [(⟨(rd_T164 r 0).f0, (rd_T164 r 0).f1⟩ : S164)], p2, s2, ⟨K, fun k hk => ?_⟩, q2, shortL_up (shortL_add w (shortL_one _ m0)) (by decide)⟩
    have e := g k hk
    simp only at e
    simp only [spec_l2Any.f, e, Option.bind_some, e2, if_neg c0, if_neg c1, if_pos c2]
    rw [if_pos l0, if_pos (by omega)]
  by_cases c3 : b = 3
  · refine ⟨r ++ [(⟨(⟨#[122, 117]⟩ : ByteArray), (⟨#[]⟩ : ByteArray)⟩ : S164), (⟨(⟨#[122, 118]⟩ : ByteArray), (⟨#[]⟩ : ByteArray)⟩ : S164), (⟨(⟨#[122, 119]⟩ : ByteArray), (⟨#[]⟩ : ByteArray)⟩ : S164), (⟨(⟨#[122, 120]⟩ : ByteArray), (⟨#[]⟩ : ByteArray)⟩ : S164)], p2, s2, ⟨K, fun k hk => ?_⟩, q2, shortL_add (m := 4) w ⟨Nat.le_refl 4, fun y hy => ?_⟩⟩
    · have e := g k hk
      simp only at e
      simp only [spec_l2Any.f, e, Option.bind_some, e2, if_neg c0, if_neg c1, if_neg c2, if_pos c3]
      rw [if_pos (by simp only [List.length_cons, List.length_nil]; omega)]
    · simp only [List.mem_cons, List.not_mem_nil, or_false] at hy
      rcases hy with rfl | rfl | rfl | rfl <;> (constructor <;> decide)
  by_cases c4 : b = 4
  · obtain ⟨u, p4, s4, e4, q4, hu⟩ := dAnyPlain l hl p2 s2 q2
    refine ⟨r.set (0 : Int).toNat (⟨(rd_T164 r 0).f0, u⟩ : S164), p4, s4, ⟨K, fun k hk => ?_⟩, q4, ⟨by rw [List.length_set]; omega, fun y hy => ?_⟩⟩
    · have e := g k hk
      simp only at e
      simp only [spec_l2Any.f, e, Option.bind_some, e2, if_neg c0, if_neg c1, if_neg c2, if_neg c3, if_pos c4, e4]
      rw [if_pos l0]
    · rcases List.mem_or_eq_of_mem_set hy with h | h
      · exact w.2 y h
      · rw [h]; exact ⟨m0.1, hu⟩
  by_cases c5 : b = 5
  · refine ⟨[], p2, s2, ⟨K, fun k hk => ?_⟩, q2, ⟨Nat.zero_le _, fun y hy => by simp at hy⟩⟩
    have e := g k hk
    simp only at e
    simp only [spec_l2Any.f, e, Option.bind_some, e2, if_neg c0, if_neg c1, if_neg c2, if_neg c3, if_neg c4, if_pos c5]
  · refine ⟨r, p2, s2, ⟨K, fun k hk => ?_⟩, q2, shortL_up w (by decide)⟩
    have e := g k hk
    simp only at e
    simp only [spec_l2Any.f, e, Option.bind_some, e2, if_neg c0, if_neg c1, if_neg c2, if_neg c3, if_neg c4, if_neg c5]
theorem dRaw (p s : Int) (hp : 0 ≤ p) : ∃ v p' s', spec_l1Raw.f l p s = some (v, p', s') ∧ 0 ≤ p' := by
  obtain ⟨v, p1, s1, e1, q1⟩ := dOnce l hl p s 2 hp (by decide) (by decide)
  cases v with
  | true =>
    obtain ⟨u, p2, s2, e2, q2, _⟩ := dInt l hl p1 s1 [(-1), 0, 1, 2, 255, 256, 65535, 2147483647, 2147483648, 4294967295, 4294967296, (-2147483648), 9223372036854775807, (-9223372036854775808)] q1 (by decide) (by decide)
    exact ⟨u, p2, s2, by simp only [spec_l1Raw.f, e1, Option.bind_some, if_true, spec_l1Odd.f, e2], q2⟩
  | false =>
    obtain ⟨u, p2, s2, e2, q2, _⟩ := dInt l hl p1 s1 [(-1), 0, 1, 3, 99999, 100000] q1 (by decide) (by decide)
    exact ⟨u, p2, s2, by simp only [spec_l1Raw.f, e1, Option.bind_some, Bool.false_eq_true, if_false, e2], q2⟩
theorem dAnyAlarm (p s : Int) (hp : 0 ≤ p) : ∃ (a : S44) (p' s' : Int), Ev (fun k => spec_l4Any.f k l p s) (a.f0, a.f1, a.f2, a.f3, p', s') ∧ 0 ≤ p' ∧ ShortA a := by
  obtain ⟨a, p1, s1, ⟨K, g⟩, q1, w, w2, ht⟩ := dAlarm l hl p s hp
  obtain ⟨b, p2, s2, e2, q2, _, _⟩ := dBelow l hl p1 s1 12 q1 (by decide) (by decide)
  by_cases c0 : b = 0
  · obtain ⟨r, p3, s3, ⟨K3, g3⟩, q3, w3⟩ := dAnyLabels l hl p2 s2 q2
    refine ⟨⟨r, a.f1, a.f2, a.f3⟩, p3, s3, ⟨K + K3, fun k hk => ?_⟩, q3, shortA_mk _ _ w3 (by decide) ht⟩
    have e := g k (by omega)
    have e3 := g3 k (by omega)
    simp only at e e3
    simp only [spec_l4Any.f, e, Option.bind_some, e2, if_pos c0, e3]
  by_cases c1 : b = 1
  · obtain ⟨u, p3, s3, e3, q3, _⟩ := dInt l hl p2 s2 [(-1), 99999, 100000] q2 (by decide) (by decide)
    refine ⟨⟨a.f0, u, a.f2, a.f3⟩, p3, s3, ⟨K, fun k hk => ?_⟩, q3, shortA_mk _ _ w (by decide) ht⟩
    have e := g k (by omega)
    simp only at e
    simp only [spec_l4Any.f, e, Option.bind_some, e2, if_neg c0, if_pos c1, e3]
  by_cases c2 : b = 2
  · obtain ⟨u, p3, s3, e3, q3⟩ := dRaw l hl p2 s2 q2
    refine ⟨⟨a.f0, a.f1, u, a.f3⟩, p3, s3, ⟨K, fun k hk => ?_⟩, q3, shortA_mk _ _ w (by decide) ht⟩
    have e := g k (by omega)
    simp only at e
    simp only [spec_l4Any.f, e, Option.bind_some, e2, if_neg c0, if_neg c1, if_pos c2, e3]
  by_cases c3 : b = 3
  · obtain ⟨u, p3, s3, e3, q3, hu⟩ := dAnyPlain l hl p2 s2 q2
    refine ⟨⟨a.f0, a.f1, a.f2, u⟩, p3, s3, ⟨K, fun k hk => ?_⟩, q3, shortA_mk _ _ w (by decide) hu⟩
    have e := g k (by omega)
    simp only at e
    simp only [spec_l4Any.f, e, Option.bind_some, e2, if_neg c0, if_neg c1, if_neg c2, if_pos c3, e3]
  · refine ⟨a, p2, s2, ⟨K, fun k hk => ?_⟩, q2, shortA_mk _ _ w (by decide) ht⟩
    have e := g k (by omega)
    simp only at e
    simp only [spec_l4Any.f, e, Option.bind_some, e2, if_neg c0, if_neg c1, if_neg c2, if_neg c3]
end
section
variable (l : List Int) (hl : l.length ≤ 1048576)
include hl
/-- A drawn list of alarms. -/
def ShortAs (n : Nat) (x : List S44) : Prop := x.length ≤ n ∧ ∀ y ∈ x, ShortA y
end
theorem specL4Copy_ev (x : S44) (h : x.f0.length ≤ 5000000) : spec_l4Copy.f x.f0 x.f1 x.f2 x.f3 = some (x.f0, x.f1, x.f2, x.f3) := by
  simp only [spec_l4Copy.f, Option.bind_some, List.nil_append, List.length_nil]
  exact if_pos (by omega)
theorem implCopySet_ev (l : List S164) (h : l.length ≤ 5000000) : impl_copySet.f l = some l := by
  simp only [impl_copySet.f, List.nil_append, List.length_nil]
  exact if_pos (by omega)
theorem implCopyAlarm_ev (x : S44) (h : x.f0.length ≤ 5000000) : impl_copyAlarm.f x.f0 x.f1 x.f2 x.f3 = some (x.f0, x.f1, x.f2, x.f3) := by
  simp only [impl_copyAlarm.f, implCopySet_ev x.f0 h, Option.bind_some]
theorem rdmmAlarm (pre suf : List S44) (y : S44) : rd_T44 (pre ++ y :: suf) (pre.length : Int) = y := by unfold rd_T44; simp
theorem specL4All_l0 : ∀ (suf pre : List S44), (pre ++ suf).length ≤ 5000000 → (∀ y ∈ suf, y.f0.length ≤ 5000000) → Ev (fun k => spec_l4All.l0 k (pre ++ suf) pre (pre.length : Int)) (pre ++ suf)
  | [], pre, h, hW => by
    refine Ev.step (f := fun _ => some (pre ++ [])) (fun k => ?_) (Ev.now _)
    simp only [spec_l4All.l0]
    rw [if_neg (not_lt_end pre), List.append_nil]
  | y :: suf, pre, h, hW => by
    have ih := specL4All_l0 suf (pre ++ [y]) (by simpa using h) (fun z hz => hW z (List.mem_cons_of_mem _ hz))
    have hp : pre.length < 5000000 := by simp at h; omega
    refine Ev.step (f := fun k => spec_l4All.l0 k ((pre ++ [y]) ++ suf) (pre ++ [y]) ((pre ++ [y]).length : Int)) (fun k => ?_) (by rw [mid_assoc pre suf y]; exact ih)
    simp only [spec_l4All.l0]
    rw [if_pos (lt_mid pre suf y)]
    simp only [nn, if_true, rdmmAlarm, specL4Copy_ev y (hW y List.mem_cons_self), Option.bind_some, wrap_up pre.length (by omega)]
    rw [if_pos (by omega)]
    congr 1
    · simp
    · simp
theorem specL4All_ev (l : List S44) (h : l.length ≤ 5000000) (hW : ∀ y ∈ l, y.f0.length ≤ 5000000) : Ev (fun k => spec_l4All.f k l) l :=
  Ev.congr (fun k => by unfold spec_l4All.f; rfl) (specL4All_l0 l [] (by simpa using h) hW)
theorem implCopyAlarms_l0 : ∀ (suf pre : List S44), (pre ++ suf).length ≤ 5000000 → (∀ y ∈ suf, y.f0.length ≤ 5000000) → Ev (fun k => impl_copyAlarms.l0 k pre (pre ++ suf) ((pre ++ suf).length : Int) (pre.length : Int)) (pre ++ suf)
  | [], pre, h, hW => by
    refine Ev.step (f := fun _ => some (pre ++ [])) (fun k => ?_) (Ev.now _)
    simp only [impl_copyAlarms.l0]
    rw [if_neg (by simp), List.append_nil]
  | y :: suf, pre, h, hW => by
    have ih := implCopyAlarms_l0 suf (pre ++ [y]) (by simpa using h) (fun z hz => hW z (List.mem_cons_of_mem _ hz))
    have hp : pre.length < 5000000 := by simp at h; omega
    refine Ev.step (f := fun k => impl_copyAlarms.l0 k (pre ++ [y]) ((pre ++ [y]) ++ suf) (((pre ++ [y]) ++ suf).length : Int) ((pre ++ [y]).length : Int)) (fun k => ?_) (by rw [mid_assoc pre suf y]; exact ih)
    simp only [impl_copyAlarms.l0]
    rw [if_pos (lt_mid pre suf y)]
    simp only [nn, if_true, rdmmAlarm, implCopyAlarm_ev y (hW y List.mem_cons_self), Option.bind_some, wrap_up pre.length (by omega)]
    rw [if_pos (lt_mid pre suf y), if_pos (by omega)]
    congr 1
    · simp
    · simp
    · simp
theorem implCopyAlarms_ev (l : List S44) (h : l.length ≤ 5000000) (hW : ∀ y ∈ l, y.f0.length ≤ 5000000) : Ev (fun k => impl_copyAlarms.f k l) l :=
  Ev.congr (fun k => by unfold impl_copyAlarms.f; rfl) (implCopyAlarms_l0 l [] (by simpa using h) hW)
/-- What every row below is at most. -/
def OkAlarms (l : List S44) : Prop := l.length ≤ 5000000 ∧ ∀ y ∈ l, y.f0.length ≤ 5000000
def tell (s : S39) (a : S44) : S39 := if s.f1 = true then s else if (s.f0.length : Int) ≥ 3 then ⟨[], true⟩ else ⟨s.f0 ++ [a], s.f1⟩
theorem implCopySub_ev (s : S39) (h : OkAlarms s.f0) : Ev (fun k => impl_copySub.f k s.f0 s.f1) (s.f0, s.f1) := by
  obtain ⟨K, g⟩ := implCopyAlarms_ev s.f0 h.1 h.2
  exact ⟨K, fun k hk => by simp only [impl_copySub.f, g k hk, Option.bind_some]⟩
theorem specL9Copy_ev (s : S39) (h : OkAlarms s.f0) : Ev (fun k => spec_l9Copy.f k s.f0 s.f1) (s.f0, s.f1) := by
  obtain ⟨K, g⟩ := specL4All_ev s.f0 h.1 h.2
  exact ⟨K, fun k hk => by simp only [spec_l9Copy.f, g k hk, Option.bind_some]⟩
theorem implTell_ev (s : S39) (a : S44) (h : OkAlarms s.f0) (ha : a.f0.length ≤ 5000000) : Ev (fun k => impl_Tell.f k s.f0 s.f1 a.f0 a.f1 a.f2 a.f3) ((tell s a).f0, (tell s a).f1) := by
  obtain ⟨K, g⟩ := implCopySub_ev s h
  have h1 := h.1
  refine ⟨K, fun k hk => ?_⟩
  have e := g k hk
  simp only at e
  simp only [impl_Tell.f, e, Option.bind_some, implCopyAlarm_ev a ha, tell]
  by_cases c : s.f1 = true
  · simp only [if_pos c]
  · simp only [if_neg c]
    by_cases c2 : (s.f0.length : Int) ≥ 3
    · simp only [if_pos c2]
    · simp only [if_neg c2]
      rw [if_pos (by omega)]
theorem specTell_ev (s : S39) (a : S44) (h : OkAlarms s.f0) (ha : a.f0.length ≤ 5000000) : Ev (fun k => spec_Tell.f k s.f0 s.f1 a.f0 a.f1 a.f2 a.f3) ((tell s a).f0, (tell s a).f1) := by
  obtain ⟨K, g⟩ := specL9Copy_ev s h
  have h1 := h.1
  refine ⟨K, fun k hk => ?_⟩
  have e := g k hk
  simp only at e
  simp only [spec_Tell.f, e, Option.bind_some, specL4Copy_ev a ha, tell]
  by_cases c : s.f1 = true
  · simp only [if_pos c]
  · simp only [if_neg c]
    by_cases c2 : (s.f0.length : Int) ≥ 3
    · simp only [if_pos c2]
    · simp only [if_neg c2]
      rw [if_pos (by omega)]
theorem tell_or (s : S39) (a : S44) : (∀ y ∈ (tell s a).f0, y ∈ s.f0 ∨ y = a) ∧ ((tell s a).f0.length ≤ s.f0.length ∨ (tell s a).f0.length ≤ 3) := by
  unfold tell
  split
  · exact ⟨fun y hy => .inl hy, .inl (Nat.le_refl _)⟩
  · split
    · exact ⟨fun y hy => by simp at hy, .inl (by simp)⟩
    · refine ⟨fun y hy => ?_, .inr ?_⟩
      · rcases List.mem_append.1 hy with h | h
        · exact .inl h
        · exact .inr (List.mem_singleton.1 h)
      · simp only [List.length_append, List.length_singleton]; omega
def hear (s : S39) : S39 × S44 × Int := if s.f1 = true then (z39, z44, 2) else match s.f0 with
  | [] => (⟨[], s.f1⟩, z44, 0)
  | a :: q => (⟨q, false⟩, a, 1)
theorem implHear_ev (s : S39) (h : OkAlarms s.f0) : Ev (fun k => impl_Hear.f k s.f0 s.f1) ((hear s).1.f0, (hear s).1.f1, (hear s).2.1.f0, (hear s).2.1.f1, (hear s).2.1.f2, (hear s).2.1.f3, (hear s).2.2) := by
  obtain ⟨q, lag⟩ := s
  cases lag with
  | true => exact ⟨0, fun k _ => by simp [impl_Hear.f, hear, z39, z44]⟩
  | false =>
    cases q with
    | nil =>
      obtain ⟨K, g⟩ := implCopySub_ev (⟨[], false⟩ : S39) h
      refine ⟨K, fun k hk => ?_⟩
      have e := g k hk
      simp only at e
      simp [impl_Hear.f, hear, e, z44]
    | cons a q =>
      obtain ⟨K, g⟩ := implCopyAlarms_ev q (by have := h.1; simp only [List.length_cons] at this; omega) (fun y hy => h.2 y (List.mem_cons_of_mem _ hy))
      refine ⟨K, fun k hk => ?_⟩
      have e := g k hk
      simp only at e
      have hr : rd_T44 (a :: q) 0 = a := rfl
      have hl : ¬ (((a :: q).length : Int) = 0) := by simp only [List.length_cons]; omega
      have hl1 : 1 ≤ ((a :: q).length : Int) := by simp only [List.length_cons]; omega
      have hl2 : 0 < ((a :: q).length : Int) := by omega
      simp only [impl_Hear.f, Bool.false_eq_true, if_false, if_neg hl, if_pos hl1, List.drop_succ_cons, List.drop_zero, e, Option.bind_some, if_pos hl2, hr, implCopyAlarm_ev a (h.2 a List.mem_cons_self), hear]
theorem specHear_ev (s : S39) (h : OkAlarms s.f0) : Ev (fun k => spec_Hear.f k s.f0 s.f1) ((hear s).1.f0, (hear s).1.f1, (hear s).2.1.f0, (hear s).2.1.f1, (hear s).2.1.f2, (hear s).2.1.f3, (hear s).2.2) := by
  obtain ⟨q, lag⟩ := s
  cases lag with
  | true => exact ⟨0, fun k _ => by simp [spec_Hear.f, hear, z39, z44]⟩
  | false =>
    cases q with
    | nil => exact ⟨0, fun k hk => by simp [spec_Hear.f, hear, z44]⟩
    | cons a q =>
      obtain ⟨K, g⟩ := specL4All_ev q (by have := h.1; simp only [List.length_cons] at this; omega) (fun y hy => h.2 y (List.mem_cons_of_mem _ hy))
      refine ⟨K, fun k hk => ?_⟩
      have e := g k hk
      simp only at e
      have hr : rd_T44 (a :: q) 0 = a := rfl
      have hl : ¬ (((a :: q).length : Int) = 0) := by simp only [List.length_cons]; omega
      have hl1 : 1 ≤ ((a :: q).length : Int) := by simp only [List.length_cons]; omega
      have hl2 : 0 < ((a :: q).length : Int) := by omega
      simp only [spec_Hear.f, Bool.false_eq_true, if_false, if_neg hl, if_pos hl1, List.drop_succ_cons, List.drop_zero, e, Option.bind_some, if_pos hl2, hr, specL4Copy_ev a (h.2 a List.mem_cons_self), hear]
theorem hear_or (s : S39) : (∀ y ∈ (hear s).1.f0, y ∈ s.f0) ∧ (hear s).1.f0.length ≤ s.f0.length ∧ ((hear s).2.1 ∈ s.f0 ∨ (hear s).2.1 = z44) := by
  obtain ⟨q, lag⟩ := s
  cases lag with
  | true => simp [hear, z39]
  | false =>
    cases q with
    | nil => simp [hear]
    | cons a q => exact ⟨fun y hy => List.mem_cons_of_mem _ hy, by simp [hear], .inl List.mem_cons_self⟩
theorem okl_wi {l : List S44} (h : l.length ≤ 4000000 ∧ ∀ y ∈ l, WiAlarm y) : OkAlarms l := ⟨Nat.le_trans h.1 (by decide), fun y hy => Nat.le_trans (h.2 y hy).1.1 (by decide)⟩
theorem ok_wi {s : S39} (h : WiSub s) : OkAlarms s.f0 := okl_wi h.1
theorem a_wi {a : S44} (h : WiAlarm a) : a.f0.length ≤ 5000000 := Nat.le_trans h.1.1 (by decide)
theorem tell_wi {s : S39} {a : S44} (h : WiSub s) (ha : WiAlarm a) : WiSub (tell s a) := by
  obtain ⟨h1, h2⟩ := tell_or s a
  refine ⟨⟨by have := h.1.1; rcases h2 with h2 | h2 <;> omega, fun y hy => ?_⟩, trivial⟩
  rcases h1 y hy with h3 | rfl
  · exact h.1.2 y h3
  · exact ha
theorem Wi_zAlarm : WiAlarm z44 := ⟨⟨by simp [z44], fun y hy => by simp [z44] at hy⟩, trivial, trivial, by show (⟨#[]⟩ : ByteArray).size ≤ 4000000; decide⟩
theorem hear_wi {s : S39} (h : WiSub s) : WiSub (hear s).1 ∧ WiAlarm (hear s).2.1 := by
  obtain ⟨h1, h2, h3⟩ := hear_or s
  refine ⟨⟨⟨Nat.le_trans h2 h.1.1, fun y hy => h.1.2 y (h1 y hy)⟩, trivial⟩, ?_⟩
  rcases h3 with h3 | h3
  · exact h.1.2 _ h3
  · rw [h3]; exact Wi_zAlarm
section
variable (l : List Int) (hl : l.length ≤ 1048576)
include hl
omit hl in
theorem ok_short {n : Nat} {x : List S44} (h : ShortAs n x) (hn : n ≤ 1000) : OkAlarms x :=
  ⟨Nat.le_trans h.1 (Nat.le_trans hn (by decide)), fun y hy => Nat.le_trans (h.2 y hy).1 (by decide)⟩
theorem dSub_l0 : ∀ (n : Nat) (x : S39) (p s : Int), 0 ≤ p → n ≤ 100 → ShortAs 3 x.f0 →
    ∃ (r : S39) (p' s' : Int), Ev (fun k => spec_l9Draw.l0 k (n : Int) l p s x.f0 x.f1) (r.f0, r.f1, p', s') ∧ 0 ≤ p' ∧ ShortAs 3 r.f0
  | 0, x, p, s, hp, hn, hw => ⟨x, p, s, ⟨1, fun k hk => by
    obtain ⟨k, rfl⟩ : ∃ j, k = j + 1 := ⟨k - 1, by omega⟩
    simp only [spec_l9Draw.l0]; rw [if_neg (by omega)]⟩, hp, hw⟩
  | n + 1, x, p, s, hp, hn, hw => by
    obtain ⟨a, p1, s1, ⟨K1, g1⟩, q1, w, w2, ht⟩ := dAlarm l hl p s hp
    have ha : ShortA a := shortA_mk _ _ w (by decide) ht
    obtain ⟨K2, g2⟩ := specTell_ev x a (ok_short hw (by decide)) (Nat.le_trans ha.1 (by decide))
    obtain ⟨t1, t2⟩ := tell_or x a
    obtain ⟨r, p', s', ⟨K, g⟩, q, wr⟩ := dSub_l0 n (tell x a) p1 s1 q1 (by omega) ⟨by have := hw.1; omega, fun y hy => by
      rcases t1 y hy with h | h
      · exact hw.2 y h
      · rw [h]; exact ha⟩
    refine ⟨r, p', s', ⟨K + K1 + K2 + 1, fun k hk => ?_⟩, q, wr⟩
    obtain ⟨k, rfl⟩ : ∃ j, k = j + 1 := ⟨k - 1, by omega⟩
    have e := g k (by omega)
    have e1 := g1 k (by omega)
    have e2 := g2 k (by omega)
    simp only at e e1 e2
    simp only [spec_l9Draw.l0]
    rw [if_pos (by omega), e1]
    simp only [Option.bind_some]
    rw [e2]
    simp only [Option.bind_some]
    rw [show wrap64 (((n + 1 : Nat) : Int) - 1) = (n : Int) by rw [wrap_id (by omega) (by omega)]; omega, e]
theorem dSub (p s : Int) (hp : 0 ≤ p) : ∃ (r : S39) (p' s' : Int), Ev (fun k => spec_l9Draw.f k l p s) (r.f0, r.f1, p', s') ∧ 0 ≤ p' ∧ ShortAs 3 r.f0 := by
  obtain ⟨b, p2, s2, e2, q2, b0, b1⟩ := dBelow l hl p s 6 hp (by decide) (by decide)
  obtain ⟨n, rfl⟩ : ∃ n : Nat, b = (n : Int) := ⟨b.toNat, by omega⟩
  obtain ⟨r, p', s', ⟨K, g⟩, q, w⟩ := dSub_l0 l hl n ⟨[], false⟩ p2 s2 q2 (by omega) ⟨by simp, fun y hy => by simp at hy⟩
  refine ⟨r, p', s', ⟨K, fun k hk => ?_⟩, q, w⟩
  have e := g k hk
  simp only at e
  simp only [spec_l9Draw.f, e2, Option.bind_some, e]
theorem dAnySub (p s : Int) (hp : 0 ≤ p) : ∃ (r : S39) (p' s' : Int), Ev (fun k => spec_l9Any.f k l p s) (r.f0, r.f1, p', s') ∧ 0 ≤ p' ∧ ShortAs 4 r.f0 := by
  obtain ⟨r, p1, s1, ⟨K, g⟩, q1, w⟩ := dSub l hl p s hp
  obtain ⟨b, p2, s2, e2, q2, _, _⟩ := dBelow l hl p1 s1 10 q1 (by decide) (by decide)
  have lr := w.1
  by_cases c0 : b = 0
  · refine ⟨⟨r.f0, !r.f1⟩, p2, s2, ⟨K, fun k hk => ?_⟩, q2, ⟨Nat.le_trans lr (by decide), w.2⟩⟩
    have e := g k hk
    simp only at e
    simp only [spec_l9Any.f, e, Option.bind_some, e2, if_pos c0]
  by_cases c1 : b = 1
  · obtain ⟨a, p3, s3, ⟨K3, g3⟩, q3, ha⟩ := dAnyAlarm l hl p2 s2 q2
    refine ⟨⟨r.f0 ++ [a], r.f1⟩, p3, s3, ⟨K + K3, fun k hk => ?_⟩, q3, ⟨by simp only [List.length_append, List.length_singleton]; omega, fun y hy => ?_⟩⟩
    · have e := g k (by omega)
      have e3 := g3 k (by omega)
      simp only at e e3
      simp only [spec_l9Any.f, e, Option.bind_some, e2, if_neg c0, if_pos c1, e3]
      rw [if_pos (by omega)]
    · rcases List.mem_append.1 hy with h | h
      · exact w.2 y h
      · rw [List.mem_singleton.1 h]; exact ha
  · refine ⟨r, p2, s2, ⟨K, fun k hk => ?_⟩, q2, ⟨Nat.le_trans lr (by decide), w.2⟩⟩
    have e := g k hk
    simp only at e
    simp only [spec_l9Any.f, e, Option.bind_some, e2, if_neg c0, if_neg c1]
end
theorem rdnLabel (l : List S164) (i : Nat) : rd_T164 l (i : Int) = l.getD i z164 := by unfold rd_T164; simp
theorem rdnAlarm (l : List S44) (i : Nat) : rd_T44 l (i : Int) = l.getD i z44 := by unfold rd_T44; simp
/-- A label as two lists of bytes; an alarm as what it holds. -/
def lab (x : S164) : List UInt8 × List UInt8 := (x.f0.toList, x.f1.toList)
def sameSet (a b : List S164) : Bool := decide (a.map lab = b.map lab)
theorem map_ne_of_length {α β : Type} {f : α → β} {a b : List α} (h : ¬ a.length = b.length) : ¬ (a.map f = b.map f) := fun e => h (by simpa using congrArg List.length e)
theorem labNe (x y : S164) : ((!(x.f0.toList == y.f0.toList) || (!(x.f1.toList == y.f1.toList))) = true) ↔ ¬ lab x = lab y := by
  unfold lab
  simp only [Prod.mk.injEq, Bool.or_eq_true, Bool.not_eq_true', beq_eq_false_iff_ne]
  constructor
  · rintro (h | h) ⟨h1, h2⟩
    · exact h h1
    · exact h h2
  · intro h
    by_cases h1 : x.f0.toList = y.f0.toList
    · exact .inr fun h2 => h ⟨h1, h2⟩
    · exact .inl h1
theorem implSameSet_ev (a b : List S164) (h : a.length < 4611686018427387904) : Ev (fun k => impl_SameSet.f k a b) (sameSet a b) := by
  unfold impl_SameSet.f sameSet
  by_cases hl : a.length = b.length
  · simp only [if_pos (show (a.length : Int) = (b.length : Int) by omega)]
    rw [← scan_same0 lab z164 a b hl]
    refine scan_ev (F := fun k i => impl_SameSet.l0 k a b (a.length : Int) i) (n := a.length) (fun k => ?_) (fun i hi => ⟨0, fun k _ => ?_⟩) a.length 0 (by omega)
    · simp only [impl_SameSet.l0]; rw [if_neg (by omega)]
    · simp only [impl_SameSet.l0]
      rw [if_pos (by omega), if_pos (by omega), if_pos (by omega), if_pos (by omega), rdnLabel, rdnLabel, wrap_up i (by omega)]
      by_cases hc : lab (a.getD i z164) = lab (b.getD i z164)
      · rw [if_neg (fun e => (labNe _ _).1 e hc), if_pos hc]; rfl
      · rw [if_pos ((labNe _ _).2 hc), if_neg hc]; rfl
  · simp only [if_neg (show ¬ (a.length : Int) = (b.length : Int) by omega), decide_eq_false (map_ne_of_length hl)]
    exact Ev.now _
theorem specSameSet_ev (a b : List S164) (h : a.length < 4611686018427387904) : Ev (fun k => spec_SameSet.f k a b) (sameSet a b) := by
  unfold spec_SameSet.f sameSet
  by_cases hl : a.length = b.length
  · simp only [if_pos (show (a.length : Int) = (b.length : Int) by omega)]
    rw [← scan_same0 lab z164 a b hl]
    refine scan_ev (F := fun k i => spec_SameSet.l0 k a b i) (n := a.length) (fun k => ?_) (fun i hi => ⟨0, fun k _ => ?_⟩) a.length 0 (by omega)
    · simp only [spec_SameSet.l0]; rw [if_neg (by omega)]
    · simp only [spec_SameSet.l0]
      rw [if_pos (by omega), if_pos (by omega), if_pos (by omega), rdnLabel, rdnLabel, wrap_up i (by omega)]
      by_cases hc : lab (a.getD i z164) = lab (b.getD i z164)
      · rw [if_neg (fun e => (labNe _ _).1 e hc), if_pos hc]; rfl
      · rw [if_pos ((labNe _ _).2 hc), if_neg hc]; rfl
  · simp only [if_neg (show ¬ (a.length : Int) = (b.length : Int) by omega), decide_eq_false (map_ne_of_length hl)]
    exact Ev.now _
def alm (x : S44) : List (List UInt8 × List UInt8) × Int × Int × List UInt8 := (x.f0.map lab, x.f1, x.f2, x.f3.toList)
def sameAlarm (a b : S44) : Bool := decide (alm a = alm b)
def sameAlarms (a b : List S44) : Bool := decide (a.map alm = b.map alm)
theorem sameAlarm_eq (x y : S44) : sameAlarm x y = (sameSet x.f0 y.f0 && (decide (x.f1 = y.f1) && (decide (x.f2 = y.f2) && (x.f3.toList == y.f3.toList)))) := by
  unfold sameAlarm sameSet alm
  simp only [Prod.mk.injEq]
  rw [Bool.eq_iff_iff]
  simp
theorem implSameAlarm_ev (x y : S44) (h : x.f0.length < 4611686018427387904) : Ev (fun k => impl_SameAlarm.f k x.f0 x.f1 x.f2 x.f3 y.f0 y.f1 y.f2 y.f3) (sameAlarm x y) := by
  obtain ⟨K, hK⟩ := implSameSet_ev x.f0 y.f0 h
  refine ⟨K, fun k hk => ?_⟩
  have h2 := hK k hk
  simp only at h2
  rw [sameAlarm_eq]
  simp only [impl_SameAlarm.f, h2, Option.bind_some]
  cases sameSet x.f0 y.f0 <;> by_cases h3 : x.f1 = y.f1 <;> by_cases h4 : x.f2 = y.f2 <;> simp [h3, h4]
theorem specSameAlarm_ev (x y : S44) (h : x.f0.length < 4611686018427387904) : Ev (fun k => spec_SameAlarm.f k x.f0 x.f1 x.f2 x.f3 y.f0 y.f1 y.f2 y.f3) (sameAlarm x y) := by
  obtain ⟨K, hK⟩ := specSameSet_ev x.f0 y.f0 h
  refine ⟨K, fun k hk => ?_⟩
  have h2 := hK k hk
  simp only at h2
  rw [sameAlarm_eq]
  simp only [spec_SameAlarm.f, h2, Option.bind_some]
  cases sameSet x.f0 y.f0 <;> by_cases h3 : x.f1 = y.f1 <;> by_cases h4 : x.f2 = y.f2 <;> simp [h3, h4]
theorem implSameAlarms_ev (a b : List S44) (h : a.length ≤ 4000000 ∧ ∀ y ∈ a, WiAlarm y) : Ev (fun k => impl_sameAlarms.f k a b) (sameAlarms a b) := by
  have h1 := h.1
  unfold impl_sameAlarms.f sameAlarms
  by_cases hl : a.length = b.length
  · simp only [if_pos (show (a.length : Int) = (b.length : Int) by omega)]
    rw [← scan_same0 alm z44 a b hl]
    refine scan_ev (F := fun k i => impl_sameAlarms.l0 k a b (a.length : Int) i) (n := a.length) (fun k => ?_) (fun i hi => ?_) a.length 0 (by omega)
    · simp only [impl_sameAlarms.l0]; rw [if_neg (by omega)]
    · have hw := (h.2 _ (getD_mem a i z44 hi)).1.1
      obtain ⟨K, hK⟩ := implSameAlarm_ev (a.getD i z44) (b.getD i z44) (by omega)
      refine ⟨K, fun k hk => ?_⟩
      have h2 := hK k hk
      simp only at h2
      simp only [impl_sameAlarms.l0]
      rw [if_pos (by omega), if_pos (by omega), if_pos (by omega), if_pos (by omega), rdnAlarm, rdnAlarm, wrap_up i (by omega), h2, Option.bind_some]
      unfold sameAlarm
      by_cases hc : alm (a.getD i z44) = alm (b.getD i z44)
      · rw [decide_eq_true hc, if_pos hc]; rfl
      · rw [decide_eq_false hc, if_neg hc]; rfl
  · simp only [if_neg (show ¬ (a.length : Int) = (b.length : Int) by omega), decide_eq_false (map_ne_of_length hl)]
    exact Ev.now _
theorem specSameAlarms_ev (a b : List S44) (h : a.length ≤ 4000000 ∧ ∀ y ∈ a, WiAlarm y) : Ev (fun k => spec_l4Same.f k a b) (sameAlarms a b) := by
  have h1 := h.1
  unfold spec_l4Same.f sameAlarms
  by_cases hl : a.length = b.length
  · simp only [if_pos (show (a.length : Int) = (b.length : Int) by omega)]
    rw [← scan_same0 alm z44 a b hl]
    refine scan_ev (F := fun k i => spec_l4Same.l0 k a b i) (n := a.length) (fun k => ?_) (fun i hi => ?_) a.length 0 (by omega)
    · simp only [spec_l4Same.l0]; rw [if_neg (by omega)]
    · have hw := (h.2 _ (getD_mem a i z44 hi)).1.1
      obtain ⟨K, hK⟩ := specSameAlarm_ev (a.getD i z44) (b.getD i z44) (by omega)
      refine ⟨K, fun k hk => ?_⟩
      have h2 := hK k hk
      simp only at h2
      simp only [spec_l4Same.l0]
      rw [if_pos (by omega), if_pos (by omega), if_pos (by omega), rdnAlarm, rdnAlarm, wrap_up i (by omega), h2, Option.bind_some]
      unfold sameAlarm
      by_cases hc : alm (a.getD i z44) = alm (b.getD i z44)
      · rw [decide_eq_true hc, if_pos hc]; rfl
      · rw [decide_eq_false hc, if_neg hc]; rfl
  · simp only [if_neg (show ¬ (a.length : Int) = (b.length : Int) by omega), decide_eq_false (map_ne_of_length hl)]
    exact Ev.now _
theorem lawsSameList_ev (a b : List S44) (h : a.length ≤ 5000000 ∧ ∀ y ∈ a, y.f0.length ≤ 5000000) : Ev (fun k => laws_sameList.f k a b) (sameAlarms a b) := by
  have h1 := h.1
  unfold laws_sameList.f sameAlarms
  by_cases hl : a.length = b.length
  · simp only [if_pos (show (a.length : Int) = (b.length : Int) by omega)]
    rw [← scan_same0 alm z44 a b hl]
    refine scan_ev (F := fun k i => laws_sameList.l0 k a b i) (n := a.length) (fun k => ?_) (fun i hi => ?_) a.length 0 (by omega)
    · simp only [laws_sameList.l0]; rw [if_neg (by omega)]
    · have hw := h.2 _ (getD_mem a i z44 hi)
      obtain ⟨K, hK⟩ := implSameAlarm_ev (a.getD i z44) (b.getD i z44) (by omega)
      refine ⟨K, fun k hk => ?_⟩
      have h2 := hK k hk
      simp only at h2
      simp only [laws_sameList.l0]
      rw [if_pos (by omega), if_pos (by omega), if_pos (by omega), rdnAlarm, rdnAlarm, wrap_up i (by omega), h2, Option.bind_some]
      unfold sameAlarm
      by_cases hc : alm (a.getD i z44) = alm (b.getD i z44)
      · rw [decide_eq_true hc, if_pos hc]; rfl
      · rw [decide_eq_false hc, if_neg hc]; rfl
  · simp only [if_neg (show ¬ (a.length : Int) = (b.length : Int) by omega), decide_eq_false (map_ne_of_length hl)]
    exact Ev.now _
theorem lawsSameList_refl (a : List S44) (h : a.length ≤ 5000000 ∧ ∀ y ∈ a, y.f0.length ≤ 5000000) : Ev (fun k => laws_sameList.f k a a) true := by
  have e := lawsSameList_ev a a h
  rwa [show sameAlarms a a = true from decide_eq_true rfl] at e
theorem inEq (a b c : Int) : impl_in.f a b c = some (decide (b ≤ a) && decide (a ≤ c)) := by
  unfold impl_in.f
  by_cases h : a ≥ b
  · rw [if_pos h]; simp [show b ≤ a from h]
  · rw [if_neg h]; simp [show ¬ b ≤ a from h]
theorem l1InEq (a b c : Int) : spec_l1In.f a b c = some (decide (b ≤ a) && decide (a ≤ c)) := by
  unfold spec_l1In.f
  by_cases h : a ≥ b
  · rw [if_pos h]; simp [show b ≤ a from h]
  · rw [if_neg h]; simp [show ¬ b ≤ a from h]
/-- Each byte of a name. -/
def nameStep {ρ : Type} (no : ρ) (s : ByteArray) (i : Nat) : Option ρ := if (bt s (i : Int)) < 97 then some no else if (bt s (i : Int)) > 122 then some no else none
def nameOk (s : ByteArray) : Bool := (decide (1 ≤ (s.size : Int)) && decide ((s.size : Int) ≤ 8)) && scan (nameStep false s) true s.size 0
/-- Where nothing stops a loop but with 'false', its end may wait. -/
theorem scan_end {step : Nat → Option Bool} (h : ∀ i r, step i = some r → r = false) (e : Bool) : ∀ d i, scan step e d i = (e && scan step true d i)
  | 0, i => by simp [scan]
  | d + 1, i => by
    unfold scan
    cases hs : step i with
    | some r => rw [h i r hs]; simp
    | none => exact scan_end h e d (i + 1)
theorem nameStep_false (s : ByteArray) (i : Nat) (r : Bool) (h : nameStep false s i = some r) : r = false := by
  unfold nameStep at h
  split at h
  · injection h with h; exact h.symm
  · split at h
    · injection h with h; exact h.symm
    · cases h
theorem implNameOk_ev (s : ByteArray) (h : s.size < 4611686018427387904) : Ev (fun k => impl_NameOk.f k s) (nameOk s) := by
  unfold impl_NameOk.f nameOk
  simp only [inEq, Option.bind_some]
  cases hc : (decide (1 ≤ (s.size : Int)) && decide ((s.size : Int) ≤ 8)) with
  | false => simp only [Bool.false_eq_true, if_false, Bool.false_and]; exact Ev.now _
  | true =>
    simp only [if_true, Bool.true_and]
    refine scan_ev (F := fun k i => impl_NameOk.l0 k s i) (n := s.size) (fun k => ?_) (fun i hi => ⟨0, fun k _ => ?_⟩) s.size 0 (by omega)
    · simp only [impl_NameOk.l0]; rw [if_neg (by omega)]
    · simp only [impl_NameOk.l0, nameStep]
      rw [if_pos (by omega), if_pos (by omega), wrap_up i (by omega)]
      split
      · rfl
      · split <;> rfl
theorem specNameOk_ev (s : ByteArray) (h : s.size < 4611686018427387904) : Ev (fun k => spec_NameOk.f k s) (nameOk s) := by
  unfold spec_NameOk.f nameOk
  rw [← scan_end (nameStep_false s)]
  refine scan_ev (F := fun k i => spec_NameOk.l0 k s i) (n := s.size) (fun k => ?_) (fun i hi => ⟨0, fun k _ => ?_⟩) s.size 0 (by omega)
  · simp only [spec_NameOk.l0]; rw [if_neg (by omega), l1InEq]; rfl
  · simp only [spec_NameOk.l0, nameStep]
    rw [if_pos (by omega), if_pos (by omega), wrap_up i (by omega)]
    split
    · rfl
    · split <;> rfl
/-- Each byte of a plain text. -/
def plainStep {ρ : Type} (no : ρ) (s : ByteArray) (i : Nat) : Option ρ := if (bt s (i : Int)) < 32 then some no else if (bt s (i : Int)) > 126 then some no else if (bt s (i : Int)) = 34 then some no else if (bt s (i : Int)) = 92 then some no else none
def plainOk (s : ByteArray) : Bool := decide ((s.size : Int) ≤ 12) && scan (plainStep false s) true s.size 0
theorem plainStep_false (s : ByteArray) (i : Nat) (r : Bool) (h : plainStep false s i = some r) : r = false := by
  unfold plainStep at h
  repeat (split at h; (injection h with h; exact h.symm))
  cases h
theorem implPlainOk_ev (s : ByteArray) (h : s.size < 4611686018427387904) : Ev (fun k => impl_PlainOk.f k s) (plainOk s) := by
  unfold impl_PlainOk.f plainOk
  by_cases hc : (s.size : Int) > 12
  · simp only [if_pos hc, decide_eq_false (show ¬ (s.size : Int) ≤ 12 by omega), Bool.false_and]; exact Ev.now _
  · simp only [if_neg hc, decide_eq_true (show (s.size : Int) ≤ 12 by omega), Bool.true_and]
    refine scan_ev (F := fun k i => impl_PlainOk.l0 k s i) (n := s.size) (fun k => ?_) (fun i hi => ⟨0, fun k _ => ?_⟩) s.size 0 (by omega)
    · simp only [impl_PlainOk.l0]; rw [if_neg (by omega)]
    · simp only [impl_PlainOk.l0, plainStep]
      rw [if_pos (by omega), if_pos (by omega), wrap_up i (by omega)]
      repeat (split; rfl)
      rfl
theorem specPlainOk_ev (s : ByteArray) (h : s.size < 4611686018427387904) : Ev (fun k => spec_PlainOk.f k s) (plainOk s) := by
  unfold spec_PlainOk.f plainOk
  rw [← scan_end (plainStep_false s)]
  refine scan_ev (F := fun k i => spec_PlainOk.l0 k s i) (n := s.size) (fun k => ?_) (fun i hi => ⟨0, fun k _ => ?_⟩) s.size 0 (by omega)
  · simp only [spec_PlainOk.l0]; rw [if_neg (by omega)]
  · simp only [spec_PlainOk.l0, plainStep]
    rw [if_pos (by omega), if_pos (by omega), wrap_up i (by omega)]
    repeat (split; rfl)
    rfl
def labelOk (x : S164) : Bool := nameOk x.f0 && plainOk x.f1
theorem implLabelOk_ev (x : S164) (h : WiLabel x) : Ev (fun k => impl_LabelOk.f k x.f0 x.f1) (labelOk x) := by
  have h1 := h.1
  have h2 := h.2
  obtain ⟨K1, g1⟩ := implNameOk_ev x.f0 (by omega)
  obtain ⟨K2, g2⟩ := implPlainOk_ev x.f1 (by omega)
  refine ⟨K1 + K2, fun k hk => ?_⟩
  have e1 := g1 k (by omega)
  have e2 := g2 k (by omega)
  simp only at e1 e2
  simp only [impl_LabelOk.f, e1, e2, Option.bind_some, labelOk]
  cases nameOk x.f0 <;> simp
theorem specLabelOk_ev (x : S164) (h : WiLabel x) : Ev (fun k => spec_LabelOk.f k x.f0 x.f1) (labelOk x) := by
  have h1 := h.1
  have h2 := h.2
  obtain ⟨K1, g1⟩ := specNameOk_ev x.f0 (by omega)
  obtain ⟨K2, g2⟩ := specPlainOk_ev x.f1 (by omega)
  refine ⟨K1 + K2, fun k hk => ?_⟩
  have e1 := g1 k (by omega)
  have e2 := g2 k (by omega)
  simp only at e1 e2
  simp only [spec_LabelOk.f, e1, e2, Option.bind_some, labelOk]
  cases nameOk x.f0 <;> simp
/-- Is label i right, behind the one before it? -/
def setBit (l : List S164) (i : Nat) : Bool := labelOk (l.getD i z164) && (decide (i = 0) || Op.bytesLess (l.getD (i - 1) z164).f0.toList (l.getD i z164).f0.toList)
def setStep (l : List S164) (i : Nat) : Option Bool := if setBit l i = true then none else some false
def setOk (l : List S164) : Bool := decide ((l.length : Int) ≤ 4) && scan (setStep l) true l.length 0
theorem setStep_false (l : List S164) (i : Nat) (r : Bool) (h : setStep l i = some r) : r = false := by
  unfold setStep at h
  split at h
  · cases h
  · injection h with h; exact h.symm
theorem scan_stop {step : Nat → Option Bool} (hf : ∀ i r, step i = some r → r = false) : ∀ d i j, i ≤ j → j < i + d → step j = some false → scan step true d i = false
  | 0, i, j, h1, h2, _ => by omega
  | d + 1, i, j, h1, h2, h3 => by
    unfold scan
    cases hs : step i with
    | some r => exact hf i r hs
    | none =>
      by_cases e : i = j
      · subst e; rw [hs] at h3; cases h3
      · exact scan_stop hf d (i + 1) j (by omega) (by omega) h3
theorem sub1 (i : Nat) (h : 0 < i) (hi : i < 4611686018427387904) : wrap64 ((i : Int) - 1) = ((i - 1 : Nat) : Int) := by rw [wrap_id (by omega) (by omega)]; omega
theorem implSetOk_ev (l : List S164) (h : l.length ≤ 4000000 ∧ ∀ y ∈ l, WiLabel y) : Ev (fun k => impl_SetOk.f k l) (setOk l) := by
  have h1 := h.1
  have hx : setOk l = scan (fun i => if 4 ≤ i then some false else setStep l i) true l.length 0 := by
    unfold setOk
    by_cases h4 : l.length ≤ 4
    · rw [decide_eq_true (show (l.length : Int) ≤ 4 by omega), Bool.true_and]
      exact scan_congr _ _ (fun j _ hj => by rw [if_neg (by omega)])
    · rw [decide_eq_false (show ¬ (l.length : Int) ≤ 4 by omega), Bool.false_and]
      exact (scan_stop (step := fun i => if 4 ≤ i then some false else setStep l i) (fun i r hr => by
        by_cases hi : 4 ≤ i
        · simp only [if_pos hi] at hr; injection hr with hr; exact hr.symm
        · simp only [if_neg hi] at hr; exact setStep_false l i r hr) l.length 0 4 (by omega) (by omega) (by simp)).symm
  rw [hx]
  unfold impl_SetOk.f
  refine scan_ev (F := fun k i => impl_SetOk.l0 k l l (l.length : Int) i) (n := l.length) (fun k => ?_) (fun i hi => ?_) l.length 0 (by omega)
  · simp only [impl_SetOk.l0]; rw [if_neg (by omega)]
  · obtain ⟨K, g⟩ := implLabelOk_ev (l.getD i z164) (h.2 _ (getD_mem l i _ hi))
    refine ⟨K, fun k hk => ?_⟩
    have e := g k hk
    simp only at e
    simp only [impl_SetOk.l0]
    rw [if_pos (by omega), if_pos (by omega), if_pos (by omega)]
    by_cases h4 : 4 ≤ i
    · rw [if_pos (by omega), if_pos h4]; rfl
    · rw [if_neg (by omega), if_neg h4, rdnLabel, e, Option.bind_some, wrap_up i (by omega)]
      unfold setStep setBit
      cases hl : labelOk (l.getD i z164) with
      | false => simp [goOn]
      | true =>
        by_cases h0 : i = 0
        · subst h0; simp [goOn]
        · rw [if_pos rfl, if_pos (by omega), sub1 i (by omega) (by omega), if_pos (by omega), if_pos (by omega), rdnLabel, decide_eq_false h0]
          cases Op.bytesLess (l.getD (i - 1) z164).f0.toList (l.getD i z164).f0.toList <;> simp [goOn]
theorem specSetOk_ev (l : List S164) (h : l.length ≤ 4000000 ∧ ∀ y ∈ l, WiLabel y) : Ev (fun k => spec_SetOk.f k l) (setOk l) := by
  have h1 := h.1
  unfold spec_SetOk.f setOk
  rw [← scan_end (setStep_false l)]
  refine scan_ev (F := fun k i => spec_SetOk.l0 k l i) (n := l.length) (fun k => ?_) (fun i hi => ?_) l.length 0 (by omega)
  · simp only [spec_SetOk.l0]; rw [if_neg (by omega)]
  · obtain ⟨K, g⟩ := specLabelOk_ev (l.getD i z164) (h.2 _ (getD_mem l i _ hi))
    refine ⟨K, fun k hk => ?_⟩
    have e := g k hk
    simp only at e
    simp only [spec_SetOk.l0, spec_Less.f]
    rw [if_pos (by omega), if_pos (by omega), rdnLabel, e, Option.bind_some, wrap_up i (by omega)]
    unfold setStep setBit
    cases hl : labelOk (l.getD i z164) with
    | false => simp [goOn]
    | true =>
      by_cases h0 : i = 0
      · subst h0; simp [goOn]
      · rw [if_pos rfl, if_pos (by omega), sub1 i (by omega) (by omega), if_pos (by omega), if_pos (by omega), rdnLabel, decide_eq_false h0]
        cases Op.bytesLess (l.getD (i - 1) z164).f0.toList (l.getD i z164).f0.toList <;> simp [goOn]
def alarmOk (x : S44) : Bool := setOk x.f0 && (decide ((x.f0.length : Int) > 0) && ((decide (0 ≤ x.f1) && decide (x.f1 ≤ 99999)) && ((decide (x.f1 ≤ x.f2) && decide (x.f2 ≤ 99999)) && plainOk x.f3)))
theorem implAlarmOk_ev (x : S44) (h : WiAlarm x) : Ev (fun k => impl_AlarmOk.f k x.f0 x.f1 x.f2 x.f3) (alarmOk x) := by
  have h3 := h.2.2.2
  obtain ⟨K1, g1⟩ := implSetOk_ev x.f0 h.1
  obtain ⟨K2, g2⟩ := implPlainOk_ev x.f3 (by omega)
  refine ⟨K1 + K2, fun k hk => ?_⟩
  have e1 := g1 k (by omega)
  have e2 := g2 k (by omega)
  simp only at e1 e2
  simp only [impl_AlarmOk.f, e1, e2, Option.bind_some, alarmOk, inEq]
  by_cases hl : (x.f0.length : Int) > 0
  · rw [if_pos hl, decide_eq_true hl]
    cases setOk x.f0 <;> cases (decide (0 ≤ x.f1) && decide (x.f1 ≤ 99999)) <;> cases (decide (x.f1 ≤ x.f2) && decide (x.f2 ≤ 99999)) <;> simp
  · rw [if_neg hl, decide_eq_false hl]
    cases setOk x.f0 <;> simp
theorem specAlarmOk_ev (x : S44) (h : WiAlarm x) : Ev (fun k => spec_AlarmOk.f k x.f0 x.f1 x.f2 x.f3) (alarmOk x) := by
  have h3 := h.2.2.2
  obtain ⟨K1, g1⟩ := specSetOk_ev x.f0 h.1
  obtain ⟨K2, g2⟩ := specPlainOk_ev x.f3 (by omega)
  refine ⟨K1 + K2, fun k hk => ?_⟩
  have e1 := g1 k (by omega)
  have e2 := g2 k (by omega)
  simp only at e1 e2
  simp only [spec_AlarmOk.f, e1, e2, Option.bind_some, alarmOk, l1InEq]
  by_cases hl : (x.f0.length : Int) > 0
  · rw [if_pos hl, decide_eq_true hl]
    cases setOk x.f0 <;> cases (decide (0 ≤ x.f1) && decide (x.f1 ≤ 99999)) <;> cases (decide (x.f1 ≤ x.f2) && decide (x.f2 ≤ 99999)) <;> simp
  · rw [if_neg hl, decide_eq_false hl]
    cases setOk x.f0 <;> simp
def alarmsOk (l : List S44) : Bool := l.all alarmOk
theorem implAlarmsOk_ev (l : List S44) (h : l.length ≤ 4000000 ∧ ∀ y ∈ l, WiAlarm y) : Ev (fun k => impl_alarmsOk.f k l) (alarmsOk l) := by
  have h1 := h.1
  unfold impl_alarmsOk.f alarmsOk
  rw [show l.all alarmOk = (l.all alarmOk && true) by simp, ← scan_all0 alarmOk z44 true l]
  refine scan_ev (F := fun k i => impl_alarmsOk.l0 k l (l.length : Int) i) (n := l.length) (fun k => ?_) (fun i hi => ?_) l.length 0 (by omega)
  · simp only [impl_alarmsOk.l0]; rw [if_neg (by omega)]
  · obtain ⟨K, g⟩ := implAlarmOk_ev (l.getD i z44) (h.2 _ (getD_mem l i _ hi))
    refine ⟨K, fun k hk => ?_⟩
    have e := g k hk
    simp only at e
    simp only [impl_alarmsOk.l0]
    rw [if_pos (by omega), if_pos (by omega), if_pos (by omega), rdnAlarm, e, Option.bind_some, wrap_up i (by omega)]
    cases alarmOk (l.getD i z44) <;> simp [goOn]
def subOk (x : S39) : Bool := alarmsOk x.f0 && (decide ((x.f0.length : Int) ≤ 3) && (!x.f1 || ((x.f0.length : Int) == 0)))
theorem implSubOk_ev (x : S39) (h : WiSub x) : Ev (fun k => impl_SubOk.f k x.f0 x.f1) (subOk x) := by
  obtain ⟨K, g⟩ := implAlarmsOk_ev x.f0 h.1
  refine ⟨K, fun k hk => ?_⟩
  have e := g k hk
  simp only at e
  simp only [impl_SubOk.f, e, Option.bind_some, subOk]
  by_cases h1 : x.f1 = true
  · rw [if_pos h1]
    by_cases h0 : x.f0 = []
    · simp [h0, alarmsOk]
    · have hz : ((x.f0.length : Int) == 0) = false := beq_eq_false_iff_ne.2 (fun e => h0 (List.length_eq_zero_iff.1 (by omega)))
      simp only [hz, h1, Bool.not_true, Bool.false_or, Bool.and_false]
  · rw [if_neg h1]
    by_cases h3 : (x.f0.length : Int) ≤ 3
    · rw [if_pos h3]; simp [h1, h3]
    · rw [if_neg h3]; simp [h3]
theorem specSubOk_ev (x : S39) (h : WiSub x) : Ev (fun k => spec_SubOk.f k x.f0 x.f1) (subOk x) := by
  have h1 := h.1.1
  unfold spec_SubOk.f subOk
  have hE : ∀ k, spec_SubOk.l0 (k + 1) (x.f0.length : Int) x.f0 x.f1 = some (decide ((x.f0.length : Int) ≤ 3) && (!x.f1 || ((x.f0.length : Int) == 0))) := by
    intro k
    simp only [spec_SubOk.l0]
    rw [if_neg (by omega)]
    by_cases h3 : (x.f0.length : Int) ≤ 3
    · rw [if_pos h3]; cases x.f1 <;> simp [h3]
    · rw [if_neg h3]; simp [h3]
  unfold alarmsOk
  rw [← scan_all0 alarmOk z44 _ x.f0]
  refine scan_ev (F := fun k i => spec_SubOk.l0 k i x.f0 x.f1) (n := x.f0.length) hE (fun i hi => ?_) x.f0.length 0 (by omega)
  obtain ⟨K, g⟩ := specAlarmOk_ev (x.f0.getD i z44) (h.1.2 _ (getD_mem x.f0 i _ hi))
  refine ⟨K, fun k hk => ?_⟩
  have e := g k hk
  simp only at e
  simp only [spec_SubOk.l0]
  rw [if_pos (by omega), if_pos (by omega), rdnAlarm, e, Option.bind_some, wrap_up i (by omega)]
  cases alarmOk (x.f0.getD i z44) <;> simp [goOn]
theorem rdmSub (pre suf : List S39) (y : S39) : rd_T39 (pre ++ y :: suf) (pre.length : Int) = y := by unfold rd_T39; simp
theorem implTellAll_l0 (a : S44) (ha : a.f0.length ≤ 5000000) : ∀ (suf pre acc : List S39), (pre ++ suf).length ≤ 5000000 → acc.length = pre.length → (∀ y ∈ suf, OkAlarms y.f0) →
    Ev (fun k => impl_TellAll.l0 k acc (pre ++ suf) ((pre ++ suf).length : Int) (pre.length : Int) a.f0 a.f1 a.f2 a.f3) (acc ++ suf.map (fun s => tell s a))
  | [], pre, acc, h, hl, hW => by
    refine Ev.step (f := fun _ => some (acc ++ ([] : List S39).map (fun s => tell s a))) (fun k => ?_) (Ev.now _)
    simp only [impl_TellAll.l0]
    rw [if_neg (by simp)]
    simp
  | y :: suf, pre, acc, h, hl, hW => by
    have hy := hW y List.mem_cons_self
    obtain ⟨K, g⟩ := implTellAll_l0 a ha suf (pre ++ [y]) (acc ++ [tell y a]) (by simpa using h) (by simp [hl]) (fun z hz => hW z (List.mem_cons_of_mem _ hz))
    obtain ⟨K2, g2⟩ := implTell_ev y a hy ha
    have hp : pre.length < 5000000 := by simp at h; omega
    refine ⟨K + K2 + 1, fun k hk => ?_⟩
    obtain ⟨k, rfl⟩ : ∃ m, k = m + 1 := ⟨k - 1, by omega⟩
    have e := g k (by omega)
    have e2 := g2 k (by omega)
    simp only at e e2
    rw [← mid_assoc pre suf y] at e
    simp only [impl_TellAll.l0]
    rw [if_pos (lt_mid pre suf y)]
    simp only [nn, if_true, rdmSub, wrap_up pre.length (by omega)]
    rw [if_pos (lt_mid pre suf y), e2]
    simp only [Option.bind_some]
    rw [if_pos (by omega), show ((pre.length + 1 : Nat) : Int) = ((pre ++ [y]).length : Int) by simp, e]
    simp
theorem implTellAll_ev (l : List S39) (a : S44) (h : l.length ≤ 4000000 ∧ ∀ y ∈ l, WiSub y) (ha : WiAlarm a) : Ev (fun k => impl_TellAll.f k l a.f0 a.f1 a.f2 a.f3) (l.map (fun s => tell s a)) :=
  Ev.congr (fun k => by unfold impl_TellAll.f; rfl) (by simpa using implTellAll_l0 a (a_wi ha) l [] [] (by have := h.1; simp; omega) rfl (fun y hy => ok_wi (h.2 y hy)))
theorem specTellAll_l0 (a : S44) (ha : a.f0.length ≤ 5000000) : ∀ (suf pre acc : List S39), (pre ++ suf).length ≤ 5000000 → acc.length = pre.length → (∀ y ∈ suf, OkAlarms y.f0) →
    Ev (fun k => spec_TellAll.l0 k (pre ++ suf) acc (pre.length : Int) a.f0 a.f1 a.f2 a.f3) (acc ++ suf.map (fun s => tell s a))
  | [], pre, acc, h, hl, hW => by
    refine Ev.step (f := fun _ => some (acc ++ ([] : List S39).map (fun s => tell s a))) (fun k => ?_) (Ev.now _)
    simp only [spec_TellAll.l0]
    rw [if_neg (not_lt_end pre)]
    simp
  | y :: suf, pre, acc, h, hl, hW => by
    have hy := hW y List.mem_cons_self
    obtain ⟨K, g⟩ := specTellAll_l0 a ha suf (pre ++ [y]) (acc ++ [tell y a]) (by simpa using h) (by simp [hl]) (fun z hz => hW z (List.mem_cons_of_mem _ hz))
    obtain ⟨K2, g2⟩ := specTell_ev y a hy ha
    have hp : pre.length < 5000000 := by simp at h; omega
    refine ⟨K + K2 + 1, fun k hk => ?_⟩
    obtain ⟨k, rfl⟩ : ∃ m, k = m + 1 := ⟨k - 1, by omega⟩
    have e := g k (by omega)
    have e2 := g2 k (by omega)
    simp only at e e2
    rw [← mid_assoc pre suf y] at e
    simp only [spec_TellAll.l0]
    rw [if_pos (lt_mid pre suf y)]
    simp only [nn, if_true, rdmSub, wrap_up pre.length (by omega)]
    rw [e2]
    simp only [Option.bind_some]
    rw [if_pos (by omega), show ((pre.length + 1 : Nat) : Int) = ((pre ++ [y]).length : Int) by simp, e]
    simp
theorem specTellAll_ev (l : List S39) (a : S44) (h : l.length ≤ 4000000 ∧ ∀ y ∈ l, WiSub y) (ha : WiAlarm a) : Ev (fun k => spec_TellAll.f k l a.f0 a.f1 a.f2 a.f3) (l.map (fun s => tell s a)) :=
  Ev.congr (fun k => by unfold spec_TellAll.f; rfl) (by simpa using specTellAll_l0 a (a_wi ha) l [] [] (by have := h.1; simp; omega) rfl (fun y hy => ok_wi (h.2 y hy)))
theorem tellAll_wi {l : List S39} {a : S44} (h : l.length ≤ 4000000 ∧ ∀ y ∈ l, WiSub y) (ha : WiAlarm a) : (l.map (fun s => tell s a)).length ≤ 4000000 ∧ ∀ y ∈ l.map (fun s => tell s a), WiSub y :=
  ⟨by rw [List.length_map]; exact h.1, fun y hy => by obtain ⟨z, hz, rfl⟩ := List.mem_map.1 hy; exact tell_wi (h.2 z hz) ha⟩
end Go.Proofs.Ytfholjcelnkleaa.Print
end
section
/- The law FnSubs answers true for all arguments that can be read: the pure statement, without Go and memory. No condition. -/
namespace Go.Proofs.Ytfholjcelnkleaa.Print
open Go.RowKit Go.Proofs.YtfholjcelnkleaaV.PrintWords Go.Proofs.YtfholjcelnkleaaV.PrintLast Go.Proofs.YtfholjcelnkleaaV.PrintMore
set_option linter.unusedVariables false
set_option linter.unusedSimpArgs false
theorem subWi {n : Nat} {s : S39} (h : ShortAs n s.f0) (hn : n ≤ 1000) : WiSub s :=
  ⟨⟨Nat.le_trans h.1 (Nat.le_trans hn (by decide)), fun y hy => (h.2 y hy).2⟩, trivial⟩
theorem sameAlarms_self (l : List S44) : sameAlarms l l = true := decide_eq_true rfl
theorem sameSub_self (x : S39) (h : WiSub x) : Ev (fun k => impl_SameSub.f k x.f0 x.f1 x.f0 x.f1) true := by
  obtain ⟨K, g⟩ := implSameAlarms_ev x.f0 x.f0 h.1
  refine ⟨K, fun k hk => ?_⟩
  have e := g k hk
  simp only at e
  simp only [impl_SameSub.f, e, Option.bind_some, beq_self_eq_true, if_true, sameAlarms_self]
theorem sameAlarm_self (a : S44) (h : ShortA a) : Ev (fun k => impl_SameAlarm.f k a.f0 a.f1 a.f2 a.f3 a.f0 a.f1 a.f2 a.f3) true := by
  have e := implSameAlarm_ev a a (by have := h.1; omega)
  rwa [show sameAlarm a a = true from decide_eq_true rfl] at e
theorem sameSub_pair (x y : S39) (h : WiSub x) : ∃ v, Ev (fun k => impl_SameSub.f k x.f0 x.f1 y.f0 y.f1) v ∧ Ev (fun k => spec_SameSub.f k x.f0 x.f1 y.f0 y.f1) v := by
  obtain ⟨K, g⟩ := implSameAlarms_ev x.f0 y.f0 h.1
  obtain ⟨L, f⟩ := specSameAlarms_ev x.f0 y.f0 h.1
  refine ⟨(x.f1 == y.f1) && sameAlarms x.f0 y.f0, ⟨K, fun k hk => ?_⟩, ⟨L, fun k hk => ?_⟩⟩
  · have e := g k hk
    simp only at e
    simp only [impl_SameSub.f, e, Option.bind_some]
    cases (x.f1 == y.f1) <;> simp
  · have e := f k hk
    simp only at e
    simp only [spec_SameSub.f, e, Option.bind_some]
    cases (x.f1 == y.f1) <;> simp
theorem rdnSubS (l : List S39) (i : Nat) : rd_T39 l (i : Int) = l.getD i z39 := by unfold rd_T39; simp
theorem sameSubs_l0 (a : List S39) (h : a.length ≤ 4000000 ∧ ∀ y ∈ a, WiSub y) : ∀ d i : Nat, i + d = a.length → Ev (fun k => laws_sameSubs.l0 k a a (i : Int)) true
  | 0, i, hi => ⟨1, fun k hk => by
    obtain ⟨k, rfl⟩ : ∃ j, k = j + 1 := ⟨k - 1, by omega⟩
    simp only [laws_sameSubs.l0]; rw [if_neg (by omega)]⟩
  | d + 1, i, hi => by
    obtain ⟨K, g⟩ := sameSubs_l0 a h d (i + 1) (by omega)
    obtain ⟨K2, g2⟩ := sameSub_self (a.getD i z39) (h.2 _ (getD_mem a i _ (by omega)))
    refine ⟨K + K2 + 1, fun k hk => ?_⟩
    obtain ⟨k, rfl⟩ : ∃ j, k = j + 1 := ⟨k - 1, by omega⟩
    have e := g k (by omega)
    have e2 := g2 k (by omega)
    simp only at e e2
    simp only [laws_sameSubs.l0]
    have h1 := h.1
    rw [if_pos (by omega), if_pos (by omega), if_pos (by omega), rdnSubS, e2, Option.bind_some, if_pos rfl, wrap_up i (by omega)]
    exact e
theorem sameSubs_self (a : List S39) (h : a.length ≤ 4000000 ∧ ∀ y ∈ a, WiSub y) : Ev (fun k => laws_sameSubs.f k a a) true := by
  obtain ⟨K, g⟩ := sameSubs_l0 a h a.length 0 (by omega)
  refine ⟨K, fun k hk => ?_⟩
  have e := g k hk
  simp only at e
  simp only [laws_sameSubs.f, if_true]
  exact e
section
variable (l : List Int) (hl : l.length ≤ 1048576)
include hl
theorem drawTell_ev : ∃ (s : S39) (a : S44), Ev (fun k => spec_DrawTell.f k l) (s.f0, s.f1, a.f0, a.f1, a.f2, a.f3) ∧ ShortAs 4 s.f0 ∧ ShortA a := by
  obtain ⟨s0, K0, g0⟩ := dNew l hl
  obtain ⟨s, p1, s1, ⟨K1, g1⟩, q1, w1⟩ := dAnySub l hl 0 s0 (by decide)
  obtain ⟨a, p2, s2, ⟨K2, g2⟩, q2, w, w2, ht⟩ := dAlarm l hl p1 s1 q1
  have ha : ShortA a := shortA_mk _ _ w (by decide) ht
  refine ⟨s, a, ⟨K0 + K1 + K2, fun k hk => ?_⟩, w1, ha⟩
  have e0 := g0 k (by omega)
  have e1 := g1 k (by omega)
  have e2 := g2 k (by omega)
  simp only at e0 e1 e2
  simp only [spec_DrawTell.f, e0, Option.bind_some, e1, e2]
theorem drawHear_ev : ∃ (s : S39), Ev (fun k => spec_DrawHear.f k l) (s.f0, s.f1) ∧ ShortAs 4 s.f0 := by
  obtain ⟨s0, K0, g0⟩ := dNew l hl
  obtain ⟨s, p1, s1, ⟨K1, g1⟩, q1, w1⟩ := dAnySub l hl 0 s0 (by decide)
  refine ⟨s, ⟨K0 + K1, fun k hk => ?_⟩, w1⟩
  have e0 := g0 k (by omega)
  have e1 := g1 k (by omega)
  simp only at e0 e1
  simp only [spec_DrawHear.f, e0, Option.bind_some, e1]
theorem drawSubOk_ev : ∃ (s : S39), Ev (fun k => spec_DrawSubOk.f k l) (s.f0, s.f1) ∧ ShortAs 4 s.f0 := by
  obtain ⟨s0, K0, g0⟩ := dNew l hl
  obtain ⟨s, p1, s1, ⟨K1, g1⟩, q1, w1⟩ := dAnySub l hl 0 s0 (by decide)
  refine ⟨s, ⟨K0 + K1, fun k hk => ?_⟩, w1⟩
  have e0 := g0 k (by omega)
  have e1 := g1 k (by omega)
  simp only at e0 e1
  simp only [spec_DrawSubOk.f, e0, Option.bind_some, e1]
theorem drawSameSub_ev : ∃ (s t : S39), Ev (fun k => spec_DrawSameSub.f k l) (s.f0, s.f1, t.f0, t.f1) ∧ ShortAs 4 s.f0 ∧ ShortAs 4 t.f0 := by
  obtain ⟨s0, K0, g0⟩ := dNew l hl
  obtain ⟨s, p1, s1, ⟨K1, g1⟩, q1, w1⟩ := dAnySub l hl 0 s0 (by decide)
  obtain ⟨v, p2, s2, e2, q2⟩ := dOnce l hl p1 s1 2 q1 (by decide) (by decide)
  cases v with
  | true =>
    obtain ⟨K3, g3⟩ := specL9Copy_ev s (ok_short w1 (by decide))
    refine ⟨s, s, ⟨K0 + K1 + K3, fun k hk => ?_⟩, w1, w1⟩
    have e0 := g0 k (by omega)
    have e1 := g1 k (by omega)
    have e3 := g3 k (by omega)
    simp only at e0 e1 e3
    simp only [spec_DrawSameSub.f, e0, Option.bind_some, e1, e2, if_true, e3]
  | false =>
    obtain ⟨t, p3, s3, ⟨K3, g3⟩, q3, w3⟩ := dAnySub l hl p2 s2 q2
    refine ⟨s, t, ⟨K0 + K1 + K3, fun k hk => ?_⟩, w1, w3⟩
    have e0 := g0 k (by omega)
    have e1 := g1 k (by omega)
    have e3 := g3 k (by omega)
    simp only at e0 e1 e3
    simp only [spec_DrawSameSub.f, e0, Option.bind_some, e1, e2, Bool.false_eq_true, if_false, e3]
theorem drawTellAll_l0 : ∀ (n : Nat) (x : List S39) (p s : Int), 0 ≤ p → x.length + n ≤ 1000 → (∀ y ∈ x, ShortAs 4 y.f0) →
    ∃ (r : List S39) (a : S44), Ev (fun k => spec_DrawTellAll.l0 k x (n : Int) l p s) (r, a.f0, a.f1, a.f2, a.f3) ∧ r.length ≤ 1000 ∧ (∀ y ∈ r, ShortAs 4 y.f0) ∧ ShortA a
  | 0, x, p, s, hp, hn, hw => by
    obtain ⟨a, p2, s2, ⟨K2, g2⟩, q2, w, w2, ht⟩ := dAlarm l hl p s hp
    have ha : ShortA a := shortA_mk _ _ w (by decide) ht
    refine ⟨x, a, ⟨K2 + 1, fun k hk => ?_⟩, by omega, hw, ha⟩
    obtain ⟨k, rfl⟩ : ∃ j, k = j + 1 := ⟨k - 1, by omega⟩
    have e2 := g2 k (by omega)
    simp only at e2
    simp only [spec_DrawTellAll.l0]
    rw [if_neg (by omega), e2]
    rfl
  | n + 1, x, p, s, hp, hn, hw => by
    obtain ⟨y, p1, s1, ⟨K1, g1⟩, q1, w1⟩ := dAnySub l hl p s hp
    obtain ⟨r, a, ⟨K, g⟩, h1, h2, h3⟩ := drawTellAll_l0 n (x ++ [y]) p1 s1 q1 (by simp only [List.length_append, List.length_singleton]; omega) (fun z hz => by
      rcases List.mem_append.1 hz with h | h
      · exact hw z h
      · rw [List.mem_singleton.1 h]; exact w1)
    refine ⟨r, a, ⟨K + K1 + 1, fun k hk => ?_⟩, h1, h2, h3⟩
    obtain ⟨k, rfl⟩ : ∃ j, k = j + 1 := ⟨k - 1, by omega⟩
    have e := g k (by omega)
    have e1 := g1 k (by omega)
    simp only at e e1
    simp only [spec_DrawTellAll.l0]
    rw [if_pos (by omega), e1]
    simp only [Option.bind_some]
    rw [if_pos (by omega), show wrap64 (((n + 1 : Nat) : Int) - 1) = (n : Int) by rw [wrap_id (by omega) (by omega)]; omega, e]
theorem drawTellAll_ev : ∃ (r : List S39) (a : S44), Ev (fun k => spec_DrawTellAll.f k l) (r, a.f0, a.f1, a.f2, a.f3) ∧ (r.length ≤ 4000000 ∧ ∀ y ∈ r, WiSub y) ∧ WiAlarm a := by
  obtain ⟨s0, K0, g0⟩ := dNew l hl
  obtain ⟨b, p2, s2, e2, q2, b0, b1⟩ := dBelow l hl 0 s0 4 (by decide) (by decide) (by decide)
  obtain ⟨n, rfl⟩ : ∃ n : Nat, b = (n : Int) := ⟨b.toNat, by omega⟩
  obtain ⟨r, a, ⟨K, g⟩, h1, h2, h3⟩ := drawTellAll_l0 l hl n [] p2 s2 q2 (by simp only [List.length_nil]; omega) (fun y hy => by simp at hy)
  refine ⟨r, a, ⟨K0 + K, fun k hk => ?_⟩, ⟨by omega, fun y hy => subWi (h2 y hy) (by decide)⟩, h3.2⟩
  have e0 := g0 k (by omega)
  have e := g k (by omega)
  simp only at e0 e
  simp only [spec_DrawTellAll.f, e0, Option.bind_some, e2, e]
end
theorem fnSubs_j0 (s : S39) (a : S44) (hs : ShortAs 4 s.f0) (ha : ShortA a) : Ev (fun k => laws_FnSubs.j0 k s.f0 s.f1 a.f0 a.f1 a.f2 a.f3 (tell s a).f0 (tell s a).f1) true := by
  obtain ⟨K1, g1⟩ := sameSub_self s (subWi hs (by decide))
  obtain ⟨K2, g2⟩ := sameAlarm_self a ha
  obtain ⟨K3, g3⟩ := lawsSameList_refl s.f0 (ok_short hs (by decide))
  refine ⟨K1 + K2 + K3 + 1, fun k hk => ?_⟩
  obtain ⟨k, rfl⟩ : ∃ j, k = j + 1 := ⟨k - 1, by omega⟩
  have e1 := g1 k (by omega)
  have e2 := g2 k (by omega)
  have e3 := g3 k (by omega)
  simp only at e1 e2 e3
  have hs4 := hs.1
  simp only [laws_FnSubs.j0]
  by_cases c : s.f1 = true
  · have et : tell s a = s := by unfold tell; rw [if_pos c]
    rw [if_pos c, et, e1]; rfl
  · rw [if_neg c]
    by_cases c3 : (s.f0.length : Int) ≥ 3
    · have et : tell s a = ⟨[], true⟩ := by unfold tell; rw [if_neg c, if_pos c3]
      rw [if_pos c3, et]; rfl
    · have et : tell s a = ⟨s.f0 ++ [a], s.f1⟩ := by unfold tell; rw [if_neg c, if_neg c3]
      have er : rd_T44 (s.f0 ++ [a]) (s.f0.length : Int) = a := by unfold rd_T44; simp
      have ew : wrap64 ((s.f0.length : Int) + 1) = (s.f0.length : Int) + 1 := wrap_id (by omega) (by omega)
      have etk : (s.f0 ++ [a]).take ((s.f0.length : Int)).toNat = s.f0 := by rw [Int.toNat_natCast]; simp
      rw [if_neg c3, et]
      simp only [ew, er]
      have el : ((s.f0 ++ [a]).length : Int) = (s.f0.length : Int) + 1 := by simp
      rw [if_pos el, if_pos (by omega), if_pos (by omega), e2]
      simp only [Option.bind_some, if_true]
      rw [if_pos (by omega), etk, e3]; rfl
theorem pure_FnSubs : laws_FnSubs.Pure := by
  intro l0 h0 h1 h2
  by_cases c : (l0.length : Int) > 1048576
  · exact ⟨0, by simp [laws_FnSubs.f, laws_big.f, c]⟩
  have hl : l0.length ≤ 1048576 := by omega
  obtain ⟨s, a, ⟨K1, g1⟩, ws, wa⟩ := drawTell_ev l0 hl
  obtain ⟨u, ⟨K2, g2⟩, wu⟩ := drawHear_ev l0 hl
  obtain ⟨v, ⟨K3, g3⟩, wv⟩ := drawSubOk_ev l0 hl
  obtain ⟨x, y, ⟨K4, g4⟩, wx, wy⟩ := drawSameSub_ev l0 hl
  obtain ⟨r, b, ⟨K5, g5⟩, wr, wb⟩ := drawTellAll_ev l0 hl
  have ss := subWi ws (by decide)
  have su := subWi wu (by decide)
  obtain ⟨K6, g6⟩ := implTell_ev s a (ok_short ws (by decide)) (a_wi wa.2)
  obtain ⟨K7, g7⟩ := specTell_ev s a (ok_short ws (by decide)) (a_wi wa.2)
  obtain ⟨K8, g8⟩ := implHear_ev u (ok_short wu (by decide))
  obtain ⟨K9, g9⟩ := specHear_ev u (ok_short wu (by decide))
  obtain ⟨K10, g10⟩ := sameSub_self (tell s a) (tell_wi ss wa.2)
  obtain ⟨K11, g11⟩ := sameSub_self (hear u).1 (hear_wi su).1
  have hha := (hear_wi su).2
  have e12 := implSameAlarm_ev (hear u).2.1 (hear u).2.1 (by have := a_wi hha; omega)
  rw [show sameAlarm (hear u).2.1 (hear u).2.1 = true from decide_eq_true rfl] at e12
  obtain ⟨K12, g12⟩ := e12
  obtain ⟨K13, g13⟩ := implSubOk_ev v (subWi wv (by decide))
  obtain ⟨K14, g14⟩ := specSubOk_ev v (subWi wv (by decide))
  obtain ⟨q, ⟨K15, g15⟩, ⟨K16, g16⟩⟩ := sameSub_pair x y (subWi wx (by decide))
  obtain ⟨K17, g17⟩ := implTellAll_ev r b wr wb
  obtain ⟨K18, g18⟩ := specTellAll_ev r b wr wb
  obtain ⟨K19, g19⟩ := sameSubs_self (r.map (fun s => tell s b)) (tellAll_wi wr wb)
  obtain ⟨K20, g20⟩ := fnSubs_j0 s a ws wa
  let K := K1 + K2 + K3 + K4 + K5 + K6 + K7 + K8 + K9 + K10 + K11 + K12 + K13 + K14 + K15 + K16 + K17 + K18 + K19 + K20
  have f1 := g1 K (by omega)
  have f2 := g2 K (by omega)
  have f3 := g3 K (by omega)
  have f4 := g4 K (by omega)
  have f5 := g5 K (by omega)
  have f6 := g6 K (by omega)
  have f7 := g7 K (by omega)
  have f8 := g8 K (by omega)
  have f9 := g9 K (by omega)
  have f10 := g10 K (by omega)
  have f11 := g11 K (by omega)
  have f12 := g12 K (by omega)
  have f13 := g13 K (by omega)
  have f14 := g14 K (by omega)
  have f15 := g15 K (by omega)
  have f16 := g16 K (by omega)
  have f17 := g17 K (by omega)
  have f18 := g18 K (by omega)
  have f19 := g19 K (by omega)
  have f20 := g20 K (by omega)
  simp only at f1 f2 f3 f4 f5 f6 f7 f8 f9 f10 f11 f12 f13 f14 f15 f16 f17 f18 f19 f20
  refine ⟨K, ?_⟩
  generalize K = k at *
  simp only [laws_FnSubs.f, laws_big.f, Option.bind_some, decide_eq_false c, Bool.false_eq_true, if_false, f1, f2, f3, f4, f5, f6, f7, f8, f9, f10, if_true, f11, f12, f13, f14, bne_self_eq_false, f15, f16, f17, f18, f19, f20]
end Go.Proofs.Ytfholjcelnkleaa.Print
namespace Go.Proofs.Ytfholjcelnkleaa.Pure
theorem FnSubs : Go.Proofs.Ytfholjcelnkleaa.Print.laws_FnSubs.Pure := Go.Proofs.Ytfholjcelnkleaa.Print.pure_FnSubs
end Go.Proofs.Ytfholjcelnkleaa.Pure
namespace Go.Proofs.Ytfholjcelnkleaa.Print

end Go.Proofs.Ytfholjcelnkleaa.Print
end
