import Derived.Test.YtkjakmbmnbjpbaaMFnHeapsBent1
import Derived.Test.YtkjakmbmnbjpbaaMFnHeapsBent2
import Derived.Test.YtkjakmbmnbjpbaaMFnHeapsBent3
import Derived.Test.YtkjakmbmnbjpbaaMFnHeapsBent4
section
namespace Go.Proofs.Ytkjakmbmnbjpbaa.Print
open Go.RowKit Go.Proofs.YtkjakmbmnbjpbaaV.PrintWords Go.Proofs.YtkjakmbmnbjpbaaV.PrintLast Go.Proofs.YtkjakmbmnbjpbaaV.PrintMore
attribute [local go_sem] max2_int min2_int max_two min_two max_three min_three max_four min_four
set_option linter.unusedVariables false
set_option linter.unusedSimpArgs false

attribute [local go_sem high] eqA25
set_option maxHeartbeats 8000000
set_option maxRecDepth 100000
def laws_FnHeapsBent.f (k : Nat) (l0 : List Int) : Option (Bool) := (laws_big.f l0).bind fun t892 => (if t892 = true then (some true) else ((spec_DrawHeapPut.f k l0).bind fun bt893 => ((spec_DrawHeapTake.f k l0).bind fun t899 => ((impl_HeapTake.f k t899).bind fun bt902 => ((spec_HeapTake.f k t899).bind fun bt909 => ((spec_DrawHeapDrop.f k l0).bind fun bt916 => ((spec_DrawHeapOk.f k l0).bind fun t920 => ((spec_DrawSorted.f k l0).bind fun t923 => ((spec_DrawBefore.f k l0).bind fun bt926 => ((impl_HeapPut.f k bt893.1 bt893.2.1 bt893.2.2).bind fun t932 => ((spec_HeapPut.f k bt893.1 bt893.2.1 bt893.2.2).bind fun t935 => ((laws_sameHeap.f k t932 t935).bind fun t938 => (if t938 = true then ((laws_sameHeap.f k bt902.1 bt909.1).bind fun t939 => (if t939 = true then (if (bt902.2.1 == bt909.2.1 && (bt902.2.2.1 == bt909.2.2.1)) = true then (if (bt902.2.2.2 == bt909.2.2.2) = true then ((impl_HeapDrop.f k bt916.1 bt916.2).bind fun t940 => ((spec_HeapDrop.f k bt916.1 bt916.2).bind fun t943 => ((laws_sameHeap.f k t940 t943).bind fun t946 => (if t946 = true then ((impl_HeapOk.f k t920).bind fun t947 => ((spec_HeapOk.f k t920).bind fun t948 => (if (t947 == t948) = true then ((impl_Sorted.f k t923).bind fun t949 => ((spec_Sorted.f k t923).bind fun t952 => ((laws_sameHeap.f k t949 t952).bind fun t955 => (if t955 = true then ((impl_Before.f bt926.1 bt926.2.1 bt926.2.2.1 bt926.2.2.2).bind fun t956 => ((spec_Before.f bt926.1 bt926.2.1 bt926.2.2.1 bt926.2.2.2).bind fun t957 => (if (t956 == t957) = true then ((impl_Before.f bt926.1 bt926.2.1 bt926.2.2.1 bt926.2.2.2).bind fun t958 => (if t958 = true then ((impl_Before.f bt926.2.2.1 bt926.2.2.2 bt926.1 bt926.2.1).bind fun t959 => (if t959 = true then (none) else ((impl_HeapPut.f k bt893.1 bt893.2.1 bt893.2.2).bind fun t960 => (some ((t960.length : Int) == (wrap64 ((bt893.1.length : Int) + 1))))))) else ((impl_HeapPut.f k bt893.1 bt893.2.1 bt893.2.2).bind fun t963 => (some ((t963.length : Int) == (wrap64 ((bt893.1.length : Int) + 1))))))) else (none)))) else (none))))) else (none)))) else (none))))) else (none)) else (none)) else (none))) else (none))))))))))))))
theorem laws_FnHeapsBent.mono : ∀ a0 k, LeO (laws_FnHeapsBent.f k a0) (laws_FnHeapsBent.f (k + 1) a0) := by
 intro a0 k
 unfold laws_FnHeapsBent.f
 repeat' first
   | (with_reducible exact impl_HeapDrop.mono _ _ _)
   | (with_reducible exact impl_HeapOk.mono _ _)
   | (with_reducible exact impl_HeapPut.mono _ _ _ _)
   | (with_reducible exact impl_HeapTake.mono _ _)
   | (with_reducible exact impl_Sorted.mono _ _)
   | (with_reducible exact laws_sameHeap.mono _ _ _)
   | (with_reducible exact spec_DrawBefore.mono _ _)
   | (with_reducible exact spec_DrawHeapDrop.mono _ _)
   | (with_reducible exact spec_DrawHeapOk.mono _ _)
   | (with_reducible exact spec_DrawHeapPut.mono _ _)
   | (with_reducible exact spec_DrawHeapTake.mono _ _)
   | (with_reducible exact spec_DrawSorted.mono _ _)
   | (with_reducible exact spec_HeapDrop.mono _ _ _)
   | (with_reducible exact spec_HeapOk.mono _ _)
   | (with_reducible exact spec_HeapPut.mono _ _ _ _)
   | (with_reducible exact spec_HeapTake.mono _ _)
   | (with_reducible exact spec_Sorted.mono _ _)
   | (with_reducible exact LeO.refl _)
   | (with_reducible exact LeO.none _)
   | (with_reducible refine LeO.ite ?_ ?_)
   | (with_reducible refine LeO.bind ?_ (fun _ => ?_))
   | exact impl_HeapDrop.mono _ _ _
   | exact impl_HeapOk.mono _ _
   | exact impl_HeapPut.mono _ _ _ _
   | exact impl_HeapTake.mono _ _
   | exact impl_Sorted.mono _ _
   | exact laws_sameHeap.mono _ _ _
   | exact spec_DrawBefore.mono _ _
   | exact spec_DrawHeapDrop.mono _ _
   | exact spec_DrawHeapOk.mono _ _
   | exact spec_DrawHeapPut.mono _ _
   | exact spec_DrawHeapTake.mono _ _
   | exact spec_DrawSorted.mono _ _
   | exact spec_HeapDrop.mono _ _ _
   | exact spec_HeapOk.mono _ _
   | exact spec_HeapPut.mono _ _ _ _
   | exact spec_HeapTake.mono _ _
   | exact spec_Sorted.mono _ _
def laws_FnHeapsBent.T11 : Bool × List (List Nat × List Nat) := (true, [([], []), ([], []), ([0, 1], [0, 1]), ([], []), ([], []), ([3, 4, 2], [3, 4]), ([2, 5, 5], [2, 5]), ([6, 6], [6]), ([7], [7]), ([7], [7]), ([8, 9, 7, 7], [7, 8, 9]), ([7, 10], [7, 10]), ([11, 10], [11]), ([12], [12]), ([12], [12]), ([13, 14, 12], [12, 13, 14]), ([12, 15], [12, 15]), ([16, 12], [16]), ([17], [17]), ([17], [17]), ([18, 19, 17], [17, 18, 19]), ([17, 20], [17, 20]), ([21, 17], [21]), ([22], [22]), ([22], [22]), ([23, 24, 22, 22], [22, 23, 24]), ([22], [22]), ([22], [22]), ([26, 27, 25, 22], [22, 26, 27]), ([25, 28, 28, 22], [22, 25, 28]), ([22, 29], [22, 29]), ([30, 29], [30]), ([31], [31]), ([32, 31, 31], [31, 32]), ([31], [31]), ([34, 33, 31], [31, 34]), ([33, 35, 31], [31, 33, 35]), ([31, 36], [31, 36]), ([37, 35], [37]), ([38], [38]), ([39, 38, 38], [38, 39]), ([38], [38]), ([41, 40, 38], [38, 41]), ([40, 42, 42, 38], [38, 40, 42]), ([38, 43], [38, 43]), ([44, 43], [44]), ([45], [45]), ([45], [45]), ([46, 47, 45, 45], [45, 46, 47]), ([45], [45]), ([45], [45]), ([49, 50, 48, 45], [45, 49, 50]), ([48, 51, 45], [45, 48, 51]), ([45, 52], [45, 52]), ([53, 51], [53]), ([54], [54]), ([54], [54]), ([55, 56, 54, 54], [54, 55, 56]), ([57, 57, 54], [54, 57]), ([58], [58]), ([58], [58]), ([59, 60, 58, 58], [58, 59, 60]), ([58, 61, 54], [54, 58, 61]), ([62, 54], [54, 62]), ([54, 63], [54, 63]), ([64, 61], [64]), ([65], [65]), ([65], [65]), ([66, 67, 65, 65], [65, 66, 67]), ([68, 65], [65, 68]), ([65], [65]), ([70, 65], [65, 70]), ([71, 65], [65, 71]), ([69, 72, 65], [65, 69, 72]), ([65, 73], [65, 73]), ([74, 68, 0, 1, 2, 3, 4, 5, 6, 7, 8, 9, 10, 11, 12, 13, 14, 15, 16, 17, 18, 19, 20, 21, 22, 23, 24, 25, 26, 27, 28, 29, 30, 31, 32, 33, 34, 35, 36, 37, 38, 39, 40, 41, 42, 43, 44, 45, 46, 47, 48, 49, 50, 51, 52, 53, 54, 55, 56, 57, 58, 59, 60, 61, 62, 63, 64, 65, 66, 67, 68, 69, 70, 71, 72, 73, 74], [74])])
def laws_FnHeapsBent.B11 : List Nat := [0, 0, 3, 0, 0, 31, 63, 127, 255, 255, 1023, 2047, 4095, 8191, 8191, 32767, 65535, 131071, 262143, 262143, 1048575, 2097151, 4194303, 8388607, 8388607, 33554431, 8388607, 8388607, 268435455, 536870911, 1073741823, 2147483647, 4294967295, 8589934591, 4294967295, 34359738367, 68719476735, 137438953471, 274877906943, 549755813887, 1099511627775, 549755813887, 4398046511103, 8796093022207, 17592186044415, 35184372088831, 70368744177663, 70368744177663, 281474976710655, 70368744177663, 70368744177663, 2251799813685247, 4503599627370495, 9007199254740991, 18014398509481983, 36028797018963967, 36028797018963967, 144115188075855871, 288230376151711743, 576460752303423487, 576460752303423487, 2305843009213693951, 4611686018427387903, 9223372036854775807, 18446744073709551615, 36893488147419103231, 73786976294838206463, 73786976294838206463, 295147905179352825855, 590295810358705651711, 73786976294838206463, 1254378597012249509887, 3615561838447072116735, 9444732965739290427391, 18889465931478580854783, 37778931862957161709567]
theorem laws_FnHeapsBent.tab11 : rtab .any (opsOf Try.f13 11) = laws_FnHeapsBent.T11 := by kernel_rfl
theorem laws_FnHeapsBent.bits11 : waitsOk laws_FnHeapsBent.T11.2 laws_FnHeapsBent.B11 = true := by kernel_rfl
theorem laws_FnHeapsBent.calls (k : Nat) (A0 : Option Addr) (c0 : Nat) (l0 : List Int) (r : Bool) (w : World) (hr0 : Kd.C (Kd.int .u8) w A0 l0.length l0) (hc0 : l0.length ≤ c0) (h : laws_FnHeapsBent.f k l0 = some r) :
  Calls Try.prog 13 #[.slice A0 l0.length c0] w fun e w' => e = .returned (.bool r) ∧ Below w.heap.size w w' := by
 have hu25 := Try.underlying25
 have HR0 := Aside0.mk hr0
 have HC0 := Aside0.mk hc0
 clear hr0 hc0
 have HB := Aside0.mk (Below.refl w.heap.size w)
 have H : ((laws_big.f l0).bind fun t892 => (if t892 = true then (some true) else ((spec_DrawHeapPut.f k l0).bind fun bt893 => ((spec_DrawHeapTake.f k l0).bind fun t899 => ((impl_HeapTake.f k t899).bind fun bt902 => ((spec_HeapTake.f k t899).bind fun bt909 => ((spec_DrawHeapDrop.f k l0).bind fun bt916 => ((spec_DrawHeapOk.f k l0).bind fun t920 => ((spec_DrawSorted.f k l0).bind fun t923 => ((spec_DrawBefore.f k l0).bind fun bt926 => ((impl_HeapPut.f k bt893.1 bt893.2.1 bt893.2.2).bind fun t932 => ((spec_HeapPut.f k bt893.1 bt893.2.1 bt893.2.2).bind fun t935 => ((laws_sameHeap.f k t932 t935).bind fun t938 => (if t938 = true then ((laws_sameHeap.f k bt902.1 bt909.1).bind fun t939 => (if t939 = true then (if (bt902.2.1 == bt909.2.1 && (bt902.2.2.1 == bt909.2.2.1)) = true then (if (bt902.2.2.2 == bt909.2.2.2) = true then ((impl_HeapDrop.f k bt916.1 bt916.2).bind fun t940 => ((spec_HeapDrop.f k bt916.1 bt916.2).bind fun t943 => ((laws_sameHeap.f k t940 t943).bind fun t946 => (if t946 = true then ((impl_HeapOk.f k t920).bind fun t947 => ((spec_HeapOk.f k t920).bind fun t948 => (if (t947 == t948) = true then ((impl_Sorted.f k t923).bind fun t949 => ((spec_Sorted.f k t923).bind fun t952 => ((laws_sameHeap.f k t949 t952).bind fun t955 => (if t955 = true then ((impl_Before.f bt926.1 bt926.2.1 bt926.2.2.1 bt926.2.2.2).bind fun t956 => ((spec_Before.f bt926.1 bt926.2.1 bt926.2.2.1 bt926.2.2.2).bind fun t957 => (if (t956 == t957) = true then ((impl_Before.f bt926.1 bt926.2.1 bt926.2.2.1 bt926.2.2.2).bind fun t958 => (if t958 = true then ((impl_Before.f bt926.2.2.1 bt926.2.2.2 bt926.1 bt926.2.1).bind fun t959 => (if t959 = true then (none) else ((impl_HeapPut.f k bt893.1 bt893.2.1 bt893.2.2).bind fun t960 => (some ((t960.length : Int) == (wrap64 ((bt893.1.length : Int) + 1))))))) else ((impl_HeapPut.f k bt893.1 bt893.2.1 bt893.2.2).bind fun t963 => (some ((t963.length : Int) == (wrap64 ((bt893.1.length : Int) + 1))))))) else (none)))) else (none))))) else (none)))) else (none))))) else (none)) else (none)) else (none))) else (none))))))))))))))) = some r := h
 clear h
 replace H := Option.bind_eq_some_iff.mp H
 obtain ⟨t892, A20, H⟩ := H
 have A2 := Aside0.mk A20
 clear A20
 by_cases c3 : t892 = true
 ·
  subst c3
  rw [if_pos rfl] at H
  obtain rfl := Option.some.inj H
  go_enter Try.func13, Try.ntmps13
  go_wp2_with (first | ((with_reducible refine gate_callee (f := 36) rfl ?_); refine goesL_ (some 19) rfl rfl Try.func36 (by kernel_rfl) rfl #[.slice A0 l0.length c0] rfl (by (try simp only [mp_]); first | done | rfl | (simp only [List.length_drop, List.length_take]; rfl)) ?_; (with_reducible refine (laws_big.calls _ _ l0 true _ ?side1 ?side2 A2.out).mono ?_); (case side1 => repeat (first | exact HR0.out | (with_reducible first | refine ca_ ?_ _ | refine cn_ ?_ _ | refine cd_ ?_))); (case side2 => exact HC0.out); rintro e w' ⟨rfl, ⟨nd, rfl⟩⟩; refine ⟨_, rfl, ?_⟩))
  go_ret
  exact ⟨by first | rfl | (simp [errW_none, errW_some] <;> rfl) | (simp [*, errW_none, errW_some] <;> rfl), by repeat (first | (with_reducible first | exact HB.out | apply ba_ | apply bn_ | apply bd_) | exact HB.out)⟩
 replace c3 := Bool.eq_false_iff.mpr c3
 subst c3
 rw [if_neg (show ¬ (false = true) by decide)] at H
 replace H := Option.bind_eq_some_iff.mp H
 obtain ⟨⟨t893, t896, t897⟩, A40, H⟩ := H
 have A4 := Aside0.mk A40
 clear A40
 replace H := Option.bind_eq_some_iff.mp H
 obtain ⟨t899, A50, H⟩ := H
 have A5 := Aside0.mk A50
 clear A50
 replace H := Option.bind_eq_some_iff.mp H
 obtain ⟨⟨t902, t905, t906, t907⟩, A60, H⟩ := H
 have A6 := Aside0.mk A60
 clear A60
 replace H := Option.bind_eq_some_iff.mp H
 obtain ⟨⟨t909, t912, t913, t914⟩, A70, H⟩ := H
 have A7 := Aside0.mk A70
 clear A70
 replace H := Option.bind_eq_some_iff.mp H
 obtain ⟨⟨t916, t917⟩, A80, H⟩ := H
 have A8 := Aside0.mk A80
 clear A80
 replace H := Option.bind_eq_some_iff.mp H
 obtain ⟨t920, A90, H⟩ := H
 have A9 := Aside0.mk A90
 clear A90
 replace H := Option.bind_eq_some_iff.mp H
 obtain ⟨t923, A100, H⟩ := H
 have A10 := Aside0.mk A100
 clear A100
 replace H := Option.bind_eq_some_iff.mp H
 obtain ⟨⟨t926, t927, t928, t929⟩, A110, H⟩ := H
 have A11 := Aside0.mk A110
 clear A110
 replace H := Option.bind_eq_some_iff.mp H
 obtain ⟨t932, A120, H⟩ := H
 have A12 := Aside0.mk A120
 clear A120
 replace H := Option.bind_eq_some_iff.mp H
 obtain ⟨t935, A130, H⟩ := H
 have A13 := Aside0.mk A130
 clear A130
 replace H := Option.bind_eq_some_iff.mp H
 obtain ⟨t938, A140, H⟩ := H
 have A14 := Aside0.mk A140
 clear A140
 by_cases c15 : t938 = true
 ·
  subst c15
  rw [if_pos rfl] at H
  replace H := Option.bind_eq_some_iff.mp H
  obtain ⟨t939, A160, H⟩ := H
  have A16 := Aside0.mk A160
  clear A160
  by_cases c17 : t939 = true
  ·
   subst c17
   rw [if_pos rfl] at H
   by_cases c18 : (t905 == t912 && (t906 == t913)) = true
   ·
    rw [if_pos c18] at H
    have c18b0 : (t905 == t912 && (t906 == t913)) = true := c18
    (try (have c18b1 : decide (t905 = t912 && (t906 == t913)) = true := by simpa using c18))
    (try (have c18b2 : (t905 == t912 && (t906 == t913)) = true := by simpa using c18))
    clear c18
    by_cases c19 : (t907 == t914) = true
    ·
     rw [if_pos c19] at H
     have c19b0 : (t907 == t914) = true := c19
     (try (have c19b1 : decide (t907 = t914) = true := by simpa using c19))
     (try (have c19b2 : (t907 == t914) = true := by simpa using c19))
     clear c19
     replace H := Option.bind_eq_some_iff.mp H
     obtain ⟨t940, A200, H⟩ := H
     have A20 := Aside0.mk A200
     clear A200
     replace H := Option.bind_eq_some_iff.mp H
     obtain ⟨t943, A210, H⟩ := H
     have A21 := Aside0.mk A210
     clear A210
     replace H := Option.bind_eq_some_iff.mp H
     obtain ⟨t946, A220, H⟩ := H
     have A22 := Aside0.mk A220
     clear A220
     by_cases c23 : t946 = true
     ·
      subst c23
      rw [if_pos rfl] at H
      replace H := Option.bind_eq_some_iff.mp H
      obtain ⟨t947, A240, H⟩ := H
      have A24 := Aside0.mk A240
      clear A240
      replace H := Option.bind_eq_some_iff.mp H
      obtain ⟨t948, A250, H⟩ := H
      have A25 := Aside0.mk A250
      clear A250
      by_cases c26 : (t947 == t948) = true
      ·
       rw [if_pos c26] at H
       have c26b0 : (t947 == t948) = true := c26
       (try (have c26b1 : decide (t947 = t948) = true := by simpa using c26))
       (try (have c26b2 : (t947 == t948) = true := by simpa using c26))
       clear c26
       replace H := Option.bind_eq_some_iff.mp H
       obtain ⟨t949, A270, H⟩ := H
       have A27 := Aside0.mk A270
       clear A270
       replace H := Option.bind_eq_some_iff.mp H
       obtain ⟨t952, A280, H⟩ := H
       have A28 := Aside0.mk A280
       clear A280
       replace H := Option.bind_eq_some_iff.mp H
       obtain ⟨t955, A290, H⟩ := H
       have A29 := Aside0.mk A290
       clear A290
       by_cases c30 : t955 = true
       ·
        subst c30
        rw [if_pos rfl] at H
        replace H := Option.bind_eq_some_iff.mp H
        obtain ⟨t956, A310, H⟩ := H
        have A31 := Aside0.mk A310
        clear A310
        replace H := Option.bind_eq_some_iff.mp H
        obtain ⟨t957, A320, H⟩ := H
        have A32 := Aside0.mk A320
        clear A320
        by_cases c33 : (t956 == t957) = true
        ·
         rw [if_pos c33] at H
         have c33b0 : (t956 == t957) = true := c33
         (try (have c33b1 : decide (t956 = t957) = true := by simpa using c33))
         (try (have c33b2 : (t956 == t957) = true := by simpa using c33))
         clear c33
         replace H := Option.bind_eq_some_iff.mp H
         obtain ⟨t958, A340, H⟩ := H
         have A34 := Aside0.mk A340
         clear A340
         by_cases c35 : t958 = true
         ·
          subst c35
          rw [if_pos rfl] at H
          replace H := Option.bind_eq_some_iff.mp H
          obtain ⟨t959, A360, H⟩ := H
          have A36 := Aside0.mk A360
          clear A360
          by_cases c37 : t959 = true
          ·
           subst c37
           rw [if_pos rfl] at H
           exact absurd H (by simp)
          replace c37 := Bool.eq_false_iff.mpr c37
          subst c37
          rw [if_neg (show ¬ (false = true) by decide)] at H
          replace H := Option.bind_eq_some_iff.mp H
          obtain ⟨t960, A380, H⟩ := H
          have A38 := Aside0.mk A380
          clear A380
          obtain rfl := Option.some.inj H
          go_enter Try.func13, Try.ntmps13
          try go_wp2_with (first | ((with_reducible refine gate_callee (f := 36) rfl ?_); refine goesL_ (some 19) rfl rfl Try.func36 (by kernel_rfl) rfl #[.slice A0 l0.length c0] rfl (by (try simp only [mp_]); first | done | rfl | (simp only [List.length_drop, List.length_take]; rfl)) ?_; (with_reducible refine (laws_big.calls _ _ l0 false _ ?side1 ?side2 A2.out).mono ?_); (case side1 => repeat (first | exact HR0.out | (with_reducible first | refine ca_ ?_ _ | refine cn_ ?_ _ | refine cd_ ?_))); (case side2 => exact HC0.out); rintro e w' ⟨rfl, ⟨nd, rfl⟩⟩; refine ⟨_, rfl, ?_⟩) | ((with_reducible refine gate_callee (f := 48) rfl ?_); refine goesL_ (some 22) rfl rfl Try.func48 (by kernel_rfl) rfl #[.slice A0 l0.length c0] rfl (by (try simp only [mp_]); first | done | rfl | (simp only [List.length_drop, List.length_take]; rfl)) ?_; (with_reducible refine (spec_DrawHeapPut.calls k _ _ l0 t893 t896 t897 _ ?side1 ?side2 A4.out).mono ?_); (case side1 => repeat (first | exact HR0.out | (with_reducible first | refine ca_ ?_ _ | refine cn_ ?_ _ | refine cd_ ?_))); (case side2 => exact HC0.out); rintro e w39 ⟨v894, rfl, ho0, hb⟩; refine ⟨_, rfl, ?_⟩; have HO895 := Aside0.mk (Kd.R_lower ho0 (below_size (by repeat (first | (with_reducible first | exact HB.out | apply ba_ | apply bn_ | apply bd_) | exact HB.out)))); have n1_ := Aside0.mk (below_step (by repeat (first | (with_reducible first | exact HB.out | apply ba_ | apply bn_ | apply bd_) | exact HB.out)) hb); clear HB; have HB := n1_; clear n1_; (try clear hb); (try clear hb2); (try clear hk); (try clear hi); (try clear ho0)) | ((with_reducible refine gate_dst (N := 4) rfl ?_); refine box_event ?hg (N := 4) ?hd (cs := #[.int .i64 0, .int .i64 0]) (t := 25) ?hr ?_; (case hd => rfl); (case hg => rfl); (case hr => first | (go_simp; done) | (go_simp; rfl)); intro gb898 hg w40 hbox hb; have n0_ := Aside0.mk (Kd.R_below (Kd.R_elderB (rp_ HO895.out) gb898 (Nat.le_of_eq hg.symm)) hb); have n1_ := Aside0.mk (below_step (by repeat (first | (with_reducible first | exact HB.out | apply ba_ | apply bn_ | apply bd_) | exact HB.out)) hb); have BK898 := Aside0.mk (hbox); have GW898 := Aside0.mk ((by rw [hg]; exact (below_size (by repeat (first | (with_reducible first | exact HB.out | apply ba_ | apply bn_ | apply bd_) | exact HB.out))) : w.heap.size ≤ gb898)); have GE898 := GW898; clear HO895 HB; have HO895 := n0_; have HB := n1_; clear n0_ n1_; clear hb hbox hg; obtain ⟨hcz41_0, hcz41_1, hfz41_0, hfz41_1⟩ := bc2_ BK898.out) | ((with_reducible refine gate_callee (f := 49) rfl ?_); refine goesL_ (some 26) rfl rfl Try.func49 (by kernel_rfl) rfl #[.slice A0 l0.length c0] rfl (by (try simp only [mp_]); first | done | rfl | (simp only [List.length_drop, List.length_take]; rfl)) ?_; (with_reducible refine (spec_DrawHeapTake.calls k _ _ l0 t899 _ ?side1 ?side2 A5.out).mono ?_); (case side1 => exact Kd.C_below HR0.out (by repeat (first | (with_reducible first | exact HB.out | apply ba_ | apply bn_ | apply bd_ | refine below_set ?_ GE898.out) | exact HB.out))); (case side2 => exact HC0.out); rintro e w42 ⟨v900, rfl, ho0, hb⟩; refine ⟨_, rfl, ?_⟩; have n0_ := Aside0.mk (Kd.R_elder' (by (with_reducible repeat (first | apply Kd.R_alloc | apply Kd.R_drewN | apply Kd.R_drew)); exact (Kd.R_mono (Kd.R_far (p := ⟨gb898, 1, none⟩) (Kd.R_far (p := ⟨gb898, 0, none⟩) (Kd.R_mono HO895.out (fun k_ hk => (⟨hk, hk.2⟩ : _ ∧ k_ ≠ gb898))) (fun _ hk => hk.2) (.int .i64 t896)) (fun _ hk => hk.2) (.int .i64 t897)) (fun _ h_ => h_.1))) (Kd.R_base ho0) hb); have n1_ := Aside0.mk (Kd.R_lower (Kd.R_newB (Kd.R_new' ho0 (Kd.R_lt (by (with_reducible repeat (first | apply Kd.R_alloc | apply Kd.R_drewN | apply Kd.R_drew)); exact (Kd.R_mono (Kd.R_far (p := ⟨gb898, 1, none⟩) (Kd.R_far (p := ⟨gb898, 0, none⟩) (Kd.R_mono HO895.out (fun k_ hk => (⟨hk, hk.2⟩ : _ ∧ k_ ≠ gb898))) (fun _ hk => hk.2) (.int .i64 t896)) (fun _ hk => hk.2) (.int .i64 t897)) (fun _ h_ => h_.1))))) (g := gb898) (o := .cells #[.int .i64 t896, .int .i64 t897] 25 (0, 0)) (by (with_reducible repeat (first | refine kn_ ?_ _ | refine kd_ ?_ | refine ka_ ?_ _)); refine blk_put (cs := #[.int .i64 t896, .int .i64 0]) ?_ 1 _ rfl; (with_reducible repeat (first | refine kn_ ?_ _ | refine kd_ ?_ | refine ka_ ?_ _)); refine blk_put (cs := #[.int .i64 0, .int .i64 0]) ?_ 0 _ rfl; (with_reducible repeat (first | refine kn_ ?_ _ | refine kd_ ?_ | refine ka_ ?_ _)); exact BK898.out)) (below_size (by repeat (first | (with_reducible first | exact HB.out | apply ba_ | apply bn_ | apply bd_ | refine below_set ?_ GE898.out) | exact HB.out)))); have n2_ := Aside0.mk (blk_below (g := gb898) (o := .cells #[.int .i64 t896, .int .i64 t897] 25 (0, 0)) (by (with_reducible repeat (first | refine kn_ ?_ _ | refine kd_ ?_ | refine ka_ ?_ _)); refine blk_put (cs := #[.int .i64 t896, .int .i64 0]) ?_ 1 _ rfl; (with_reducible repeat (first | refine kn_ ?_ _ | refine kd_ ?_ | refine ka_ ?_ _)); refine blk_put (cs := #[.int .i64 0, .int .i64 0]) ?_ 0 _ rfl; (with_reducible repeat (first | refine kn_ ?_ _ | refine kd_ ?_ | refine ka_ ?_ _)); exact BK898.out) hb); have n3_ := Aside0.mk (below_step (by repeat (first | (with_reducible first | exact HB.out | apply ba_ | apply bn_ | apply bd_ | refine below_set ?_ GE898.out) | exact HB.out)) hb); clear HO895 BK898 HB; have HO895 := n0_; have HO901 := n1_; have BK898 := n2_; have HB := n3_; clear n0_ n1_ n2_ n3_; (try clear hb); (try clear hb2); (try clear hk); (try clear hi); (try clear ho0); obtain ⟨Ao43, co43, eo43⟩ := Kd.R_slice HO901.out; subst eo43) | ((with_reducible refine gate_callee (f := 34) rfl ?_); refine goesL_ (some 29) rfl rfl Try.func34 (by kernel_rfl) rfl #[.slice Ao43 t899.length co43] rfl (by (try simp only [mp_]); first | done | rfl | (simp only [List.length_drop, List.length_take]; rfl)) ?_; (with_reducible refine (impl_HeapTake.calls k _ _ t899 t902 t905 t906 t907 _ ?side1 ?side2 A6.out).mono ?_); (case side1 => repeat (first | exact (Kd.R_reads' HO901.out).2.2 | (with_reducible first | refine ca_ ?_ _ | refine cn_ ?_ _ | refine cd_ ?_))); (case side2 => exact (Kd.R_reads' HO901.out).2.1); rintro e w44 ⟨v903, rfl, ho0, hb⟩; refine ⟨_, rfl, ?_⟩; have n0_ := Aside0.mk (Kd.R_elder' (rp_ HO895.out) (Kd.R_base ho0) hb); have n1_ := Aside0.mk (Kd.R_elder' (rp_ HO901.out) (Kd.R_base ho0) hb); have n2_ := Aside0.mk (Kd.R_lower (Kd.R_newB (Kd.R_new' (Kd.R_new' ho0 (Kd.R_lt (rp_ HO895.out))) (Kd.R_lt (rp_ HO901.out))) (g := gb898) (o := .cells #[.int .i64 t896, .int .i64 t897] 25 (0, 0)) (pb_ BK898.out)) (below_size (by repeat (first | (with_reducible first | exact HB.out | apply ba_ | apply bn_ | apply bd_ | refine below_set ?_ GE898.out) | exact HB.out)))); have n3_ := Aside0.mk (bb_ BK898.out hb); have n4_ := Aside0.mk (below_step (by repeat (first | (with_reducible first | exact HB.out | apply ba_ | apply bn_ | apply bd_ | refine below_set ?_ GE898.out) | exact HB.out)) hb); clear HO895 HO901 BK898 HB; have HO895 := n0_; have HO901 := n1_; have HO904 := n2_; have BK898 := n3_; have HB := n4_; clear n0_ n1_ n2_ n3_ n4_; (try clear hb); (try clear hb2); (try clear hk); (try clear hi); (try clear ho0)) | ((with_reducible refine gate_dst (N := 7) rfl ?_); refine box_event ?hg (N := 7) ?hd (cs := #[.int .i64 0, .int .i64 0]) (t := 25) ?hr ?_; (case hd => rfl); (case hg => rfl); (case hr => first | (go_simp; done) | (go_simp; rfl)); intro gb908 hg w45 hbox hb; have n0_ := Aside0.mk (Kd.R_below (Kd.R_elderB (rp_ HO895.out) gb908 (Nat.le_of_eq hg.symm)) hb); have n1_ := Aside0.mk (Kd.R_below (Kd.R_elderB (rp_ HO901.out) gb908 (Nat.le_of_eq hg.symm)) hb); have n2_ := Aside0.mk (Kd.R_below (Kd.R_elderB (rp_ HO904.out) gb908 (Nat.le_of_eq hg.symm)) hb); have n3_ := Aside0.mk (bb_ BK898.out hb); have n4_ := Aside0.mk (below_step (by repeat (first | (with_reducible first | exact HB.out | apply ba_ | apply bn_ | apply bd_ | refine below_set ?_ GE898.out) | exact HB.out)) hb); have n5_ := Aside0.mk (hbox); have n6_ := Aside0.mk ((by rw [hg]; exact (below_size (by repeat (first | (with_reducible first | exact HB.out | apply ba_ | apply bn_ | apply bd_ | refine below_set ?_ GE898.out) | exact HB.out))) : w.heap.size ≤ gb908)); have n7_ := n6_; have n8_ := Aside0.mk (nl_ BK898.out hg); have n9_ := Aside0.mk (n8_.out.symm); clear HO895 HO901 HO904 BK898 HB; have HO895 := n0_; have HO901 := n1_; have HO904 := n2_; have BK898 := n3_; have HB := n4_; have BK908 := n5_; have GW908 := n6_; have GE908 := n7_; have NB898_908 := n8_; have NB908_898 := n9_; clear n0_ n1_ n2_ n3_ n4_ n5_ n6_ n7_ n8_ n9_; clear hb hbox hg; have hnb46 := NB908_898.out; have hnc46 := NB898_908.out; obtain ⟨hcz47_0, hcz47_1, hfz47_0, hfz47_1⟩ := bc2_ BK908.out) | ((with_reducible refine gate_callee (f := 33) rfl ?_); refine goesL_ (some 35) rfl rfl Try.func33 (by kernel_rfl) rfl #[.slice Ao43 t899.length co43] rfl (by (try simp only [mp_]); first | done | rfl | (simp only [List.length_drop, List.length_take]; rfl)) ?_; (with_reducible refine (spec_HeapTake.calls k _ _ t899 t909 t912 t913 t914 _ ?side1 ?side2 A7.out).mono ?_); (case side1 => refine (Kd.R_reads' (e := 25) (base := w.heap.size) (ok := fun k_ => ((((True ∧ some k_ ≠ (v894 : Value).ownBlock) ∧ k_ ≠ gb898) ∧ some k_ ≠ (v903 : Value).ownBlock) ∧ k_ ≠ gb908)) (n := t899.length) (c := co43) ?_).2.2; exact (by (with_reducible repeat (first | apply Kd.R_alloc | apply Kd.R_drewN | apply Kd.R_drew)); exact (Kd.R_mono (Kd.R_far (p := ⟨gb908, 1, none⟩) (Kd.R_far (p := ⟨gb908, 0, none⟩) (Kd.R_mono HO901.out (fun k_ hk => (⟨hk, hk.2⟩ : _ ∧ k_ ≠ gb908))) (fun _ hk => hk.2) (.int .i64 t905)) (fun _ hk => hk.2) (.int .i64 t906)) (fun _ h_ => h_.1)))); (case side2 => exact (Kd.R_reads' HO901.out).2.1); rintro e w48 ⟨v910, rfl, ho0, hb⟩; refine ⟨_, rfl, ?_⟩; have n0_ := Aside0.mk (Kd.R_elder' (by (with_reducible repeat (first | apply Kd.R_alloc | apply Kd.R_drewN | apply Kd.R_drew)); exact (Kd.R_mono (Kd.R_far (p := ⟨gb908, 1, none⟩) (Kd.R_far (p := ⟨gb908, 0, none⟩) (Kd.R_mono HO895.out (fun k_ hk => (⟨hk, hk.2⟩ : _ ∧ k_ ≠ gb908))) (fun _ hk => hk.2) (.int .i64 t905)) (fun _ hk => hk.2) (.int .i64 t906)) (fun _ h_ => h_.1))) (Kd.R_base ho0) hb); have n1_ := Aside0.mk (Kd.R_elder' (by (with_reducible repeat (first | apply Kd.R_alloc | apply Kd.R_drewN | apply Kd.R_drew)); exact (Kd.R_mono (Kd.R_far (p := ⟨gb908, 1, none⟩) (Kd.R_far (p := ⟨gb908, 0, none⟩) (Kd.R_mono HO901.out (fun k_ hk => (⟨hk, hk.2⟩ : _ ∧ k_ ≠ gb908))) (fun _ hk => hk.2) (.int .i64 t905)) (fun _ hk => hk.2) (.int .i64 t906)) (fun _ h_ => h_.1))) (Kd.R_base ho0) hb); have n2_ := Aside0.mk (Kd.R_elder' (by (with_reducible repeat (first | apply Kd.R_alloc | apply Kd.R_drewN | apply Kd.R_drew)); exact (Kd.R_mono (Kd.R_far (p := ⟨gb908, 1, none⟩) (Kd.R_far (p := ⟨gb908, 0, none⟩) (Kd.R_mono HO904.out (fun k_ hk => (⟨hk, hk.2⟩ : _ ∧ k_ ≠ gb908))) (fun _ hk => hk.2) (.int .i64 t905)) (fun _ hk => hk.2) (.int .i64 t906)) (fun _ h_ => h_.1))) (Kd.R_base ho0) hb); have n3_ := Aside0.mk (Kd.R_lower (Kd.R_newB (Kd.R_newB (Kd.R_new' (Kd.R_new' (Kd.R_new' ho0 (Kd.R_lt (by (with_reducible repeat (first | apply Kd.R_alloc | apply Kd.R_drewN | apply Kd.R_drew)); exact (Kd.R_mono (Kd.R_far (p := ⟨gb908, 1, none⟩) (Kd.R_far (p := ⟨gb908, 0, none⟩) (Kd.R_mono HO895.out (fun k_ hk => (⟨hk, hk.2⟩ : _ ∧ k_ ≠ gb908))) (fun _ hk => hk.2) (.int .i64 t905)) (fun _ hk => hk.2) (.int .i64 t906)) (fun _ h_ => h_.1))))) (Kd.R_lt (by (with_reducible repeat (first | apply Kd.R_alloc | apply Kd.R_drewN | apply Kd.R_drew)); exact (Kd.R_mono (Kd.R_far (p := ⟨gb908, 1, none⟩) (Kd.R_far (p := ⟨gb908, 0, none⟩) (Kd.R_mono HO901.out (fun k_ hk => (⟨hk, hk.2⟩ : _ ∧ k_ ≠ gb908))) (fun _ hk => hk.2) (.int .i64 t905)) (fun _ hk => hk.2) (.int .i64 t906)) (fun _ h_ => h_.1))))) (Kd.R_lt (by (with_reducible repeat (first | apply Kd.R_alloc | apply Kd.R_drewN | apply Kd.R_drew)); exact (Kd.R_mono (Kd.R_far (p := ⟨gb908, 1, none⟩) (Kd.R_far (p := ⟨gb908, 0, none⟩) (Kd.R_mono HO904.out (fun k_ hk => (⟨hk, hk.2⟩ : _ ∧ k_ ≠ gb908))) (fun _ hk => hk.2) (.int .i64 t905)) (fun _ hk => hk.2) (.int .i64 t906)) (fun _ h_ => h_.1))))) (g := gb898) (o := .cells #[.int .i64 t896, .int .i64 t897] 25 (0, 0)) (by (with_reducible repeat (first | refine kn_ ?_ _ | refine kd_ ?_ | refine ka_ ?_ _)); refine blk_far ?_ NB898_908.out _; (with_reducible repeat (first | refine kn_ ?_ _ | refine kd_ ?_ | refine ka_ ?_ _)); refine blk_far ?_ NB898_908.out _; (with_reducible repeat (first | refine kn_ ?_ _ | refine kd_ ?_ | refine ka_ ?_ _)); exact BK898.out)) (g := gb908) (o := .cells #[.int .i64 t905, .int .i64 t906] 25 (0, 0)) (by (with_reducible repeat (first | refine kn_ ?_ _ | refine kd_ ?_ | refine ka_ ?_ _)); refine blk_put (cs := #[.int .i64 t905, .int .i64 0]) ?_ 1 _ rfl; (with_reducible repeat (first | refine kn_ ?_ _ | refine kd_ ?_ | refine ka_ ?_ _)); refine blk_put (cs := #[.int .i64 0, .int .i64 0]) ?_ 0 _ rfl; (with_reducible repeat (first | refine kn_ ?_ _ | refine kd_ ?_ | refine ka_ ?_ _)); exact BK908.out)) (below_size (by repeat (first | (with_reducible first | exact HB.out | apply ba_ | apply bn_ | apply bd_ | refine below_set ?_ GE898.out | refine below_set ?_ GE908.out) | exact HB.out)))); have n4_ := Aside0.mk (blk_below (g := gb898) (o := .cells #[.int .i64 t896, .int .i64 t897] 25 (0, 0)) (by (with_reducible repeat (first | refine kn_ ?_ _ | refine kd_ ?_ | refine ka_ ?_ _)); refine blk_far ?_ NB898_908.out _; (with_reducible repeat (first | refine kn_ ?_ _ | refine kd_ ?_ | refine ka_ ?_ _)); refine blk_far ?_ NB898_908.out _; (with_reducible repeat (first | refine kn_ ?_ _ | refine kd_ ?_ | refine ka_ ?_ _)); exact BK898.out) hb); have n5_ := Aside0.mk (blk_below (g := gb908) (o := .cells #[.int .i64 t905, .int .i64 t906] 25 (0, 0)) (by (with_reducible repeat (first | refine kn_ ?_ _ | refine kd_ ?_ | refine ka_ ?_ _)); refine blk_put (cs := #[.int .i64 t905, .int .i64 0]) ?_ 1 _ rfl; (with_reducible repeat (first | refine kn_ ?_ _ | refine kd_ ?_ | refine ka_ ?_ _)); refine blk_put (cs := #[.int .i64 0, .int .i64 0]) ?_ 0 _ rfl; (with_reducible repeat (first | refine kn_ ?_ _ | refine kd_ ?_ | refine ka_ ?_ _)); exact BK908.out) hb); have n6_ := Aside0.mk (below_step (by repeat (first | (with_reducible first | exact HB.out | apply ba_ | apply bn_ | apply bd_ | refine below_set ?_ GE898.out | refine below_set ?_ GE908.out) | exact HB.out)) hb); clear HO895 HO901 HO904 BK898 BK908 HB; have HO895 := n0_; have HO901 := n1_; have HO904 := n2_; have HO911 := n3_; have BK898 := n4_; have BK908 := n5_; have HB := n6_; clear n0_ n1_ n2_ n3_ n4_ n5_ n6_; (try clear hb); (try clear hb2); (try clear hk); (try clear hi); (try clear ho0)) | ((with_reducible refine gate_dst (N := 10) rfl ?_); refine box_event ?hg (N := 10) ?hd (cs := #[.int .i64 0, .int .i64 0]) (t := 25) ?hr ?_; (case hd => rfl); (case hg => rfl); (case hr => first | (go_simp; done) | (go_simp; rfl)); intro gb915 hg w49 hbox hb; have n0_ := Aside0.mk (Kd.R_below (Kd.R_elderB (rp_ HO895.out) gb915 (Nat.le_of_eq hg.symm)) hb); have n1_ := Aside0.mk (Kd.R_below (Kd.R_elderB (rp_ HO901.out) gb915 (Nat.le_of_eq hg.symm)) hb); have n2_ := Aside0.mk (Kd.R_below (Kd.R_elderB (rp_ HO904.out) gb915 (Nat.le_of_eq hg.symm)) hb); have n3_ := Aside0.mk (Kd.R_below (Kd.R_elderB (rp_ HO911.out) gb915 (Nat.le_of_eq hg.symm)) hb); have n4_ := Aside0.mk (bb_ BK898.out hb); have n5_ := Aside0.mk (bb_ BK908.out hb); have n6_ := Aside0.mk (below_step (by repeat (first | (with_reducible first | exact HB.out | apply ba_ | apply bn_ | apply bd_ | refine below_set ?_ GE898.out | refine below_set ?_ GE908.out) | exact HB.out)) hb); have n7_ := Aside0.mk (hbox); have n8_ := Aside0.mk ((by rw [hg]; exact (below_size (by repeat (first | (with_reducible first | exact HB.out | apply ba_ | apply bn_ | apply bd_ | refine below_set ?_ GE898.out | refine below_set ?_ GE908.out) | exact HB.out))) : w.heap.size ≤ gb915)); have n9_ := n8_; have n10_ := Aside0.mk (nl_ BK898.out hg); have n11_ := Aside0.mk (n10_.out.symm); have n12_ := Aside0.mk (nl_ BK908.out hg); have n13_ := Aside0.mk (n12_.out.symm); clear HO895 HO901 HO904 HO911 BK898 BK908 HB; have HO895 := n0_; have HO901 := n1_; have HO904 := n2_; have HO911 := n3_; have BK898 := n4_; have BK908 := n5_; have HB := n6_; have BK915 := n7_; have GW915 := n8_; have GE915 := n9_; have NB898_915 := n10_; have NB915_898 := n11_; have NB908_915 := n12_; have NB915_908 := n13_; clear n0_ n1_ n2_ n3_ n4_ n5_ n6_ n7_ n8_ n9_ n10_ n11_ n12_ n13_; clear hb hbox hg; have hnb50 := NB915_898.out; have hnc50 := NB898_915.out; have hnb51 := NB915_908.out; have hnc51 := NB908_915.out; obtain ⟨hcz52_0, hcz52_1, hfz52_0, hfz52_1⟩ := bc2_ BK915.out) | ((with_reducible refine gate_callee (f := 50) rfl ?_); refine goesL_ (some 41) rfl rfl Try.func50 (by kernel_rfl) rfl #[.slice A0 l0.length c0] rfl (by (try simp only [mp_]); first | done | rfl | (simp only [List.length_drop, List.length_take]; rfl)) ?_; (with_reducible refine (spec_DrawHeapDrop.calls k _ _ l0 t916 t917 _ ?side1 ?side2 A8.out).mono ?_); (case side1 => exact Kd.C_below HR0.out (by repeat (first | (with_reducible first | exact HB.out | apply ba_ | apply bn_ | apply bd_ | refine below_set ?_ GE898.out | refine below_set ?_ GE908.out | refine below_set ?_ GE915.out) | exact HB.out))); (case side2 => exact HC0.out); rintro e w53 ⟨v918, rfl, ho0, hb⟩; refine ⟨_, rfl, ?_⟩; have n0_ := Aside0.mk (Kd.R_elder' (by (with_reducible repeat (first | apply Kd.R_alloc | apply Kd.R_drewN | apply Kd.R_drew)); exact (Kd.R_mono (Kd.R_far (p := ⟨gb915, 1, none⟩) (Kd.R_far (p := ⟨gb915, 0, none⟩) (Kd.R_mono HO895.out (fun k_ hk => (⟨hk, hk.2⟩ : _ ∧ k_ ≠ gb915))) (fun _ hk => hk.2) (.int .i64 t912)) (fun _ hk => hk.2) (.int .i64 t913)) (fun _ h_ => h_.1))) (Kd.R_base ho0) hb); have n1_ := Aside0.mk (Kd.R_elder' (by (with_reducible repeat (first | apply Kd.R_alloc | apply Kd.R_drewN | apply Kd.R_drew)); exact (Kd.R_mono (Kd.R_far (p := ⟨gb915, 1, none⟩) (Kd.R_far (p := ⟨gb915, 0, none⟩) (Kd.R_mono HO901.out (fun k_ hk => (⟨hk, hk.2⟩ : _ ∧ k_ ≠ gb915))) (fun _ hk => hk.2) (.int .i64 t912)) (fun _ hk => hk.2) (.int .i64 t913)) (fun _ h_ => h_.1))) (Kd.R_base ho0) hb); have n2_ := Aside0.mk (Kd.R_elder' (by (with_reducible repeat (first | apply Kd.R_alloc | apply Kd.R_drewN | apply Kd.R_drew)); exact (Kd.R_mono (Kd.R_far (p := ⟨gb915, 1, none⟩) (Kd.R_far (p := ⟨gb915, 0, none⟩) (Kd.R_mono HO904.out (fun k_ hk => (⟨hk, hk.2⟩ : _ ∧ k_ ≠ gb915))) (fun _ hk => hk.2) (.int .i64 t912)) (fun _ hk => hk.2) (.int .i64 t913)) (fun _ h_ => h_.1))) (Kd.R_base ho0) hb); have n3_ := Aside0.mk (Kd.R_elder' (by (with_reducible repeat (first | apply Kd.R_alloc | apply Kd.R_drewN | apply Kd.R_drew)); exact (Kd.R_mono (Kd.R_far (p := ⟨gb915, 1, none⟩) (Kd.R_far (p := ⟨gb915, 0, none⟩) (Kd.R_mono HO911.out (fun k_ hk => (⟨hk, hk.2⟩ : _ ∧ k_ ≠ gb915))) (fun _ hk => hk.2) (.int .i64 t912)) (fun _ hk => hk.2) (.int .i64 t913)) (fun _ h_ => h_.1))) (Kd.R_base ho0) hb); have n4_ := Aside0.mk (Kd.R_lower (Kd.R_newB (Kd.R_newB (Kd.R_newB (Kd.R_new' (Kd.R_new' (Kd.R_new' (Kd.R_new' ho0 (Kd.R_lt (by (with_reducible repeat (first | apply Kd.R_alloc | apply Kd.R_drewN | apply Kd.R_drew)); exact (Kd.R_mono (Kd.R_far (p := ⟨gb915, 1, none⟩) (Kd.R_far (p := ⟨gb915, 0, none⟩) (Kd.R_mono HO895.out (fun k_ hk => (⟨hk, hk.2⟩ : _ ∧ k_ ≠ gb915))) (fun _ hk => hk.2) (.int .i64 t912)) (fun _ hk => hk.2) (.int .i64 t913)) (fun _ h_ => h_.1))))) (Kd.R_lt (by (with_reducible repeat (first | apply Kd.R_alloc | apply Kd.R_drewN | apply Kd.R_drew)); exact (Kd.R_mono (Kd.R_far (p := ⟨gb915, 1, none⟩) (Kd.R_far (p := ⟨gb915, 0, none⟩) (Kd.R_mono HO901.out (fun k_ hk => (⟨hk, hk.2⟩ : _ ∧ k_ ≠ gb915))) (fun _ hk => hk.2) (.int .i64 t912)) (fun _ hk => hk.2) (.int .i64 t913)) (fun _ h_ => h_.1))))) (Kd.R_lt (by (with_reducible repeat (first | apply Kd.R_alloc | apply Kd.R_drewN | apply Kd.R_drew)); exact (Kd.R_mono (Kd.R_far (p := ⟨gb915, 1, none⟩) (Kd.R_far (p := ⟨gb915, 0, none⟩) (Kd.R_mono HO904.out (fun k_ hk => (⟨hk, hk.2⟩ : _ ∧ k_ ≠ gb915))) (fun _ hk => hk.2) (.int .i64 t912)) (fun _ hk => hk.2) (.int .i64 t913)) (fun _ h_ => h_.1))))) (Kd.R_lt (by (with_reducible repeat (first | apply Kd.R_alloc | apply Kd.R_drewN | apply Kd.R_drew)); exact (Kd.R_mono (Kd.R_far (p := ⟨gb915, 1, none⟩) (Kd.R_far (p := ⟨gb915, 0, none⟩) (Kd.R_mono HO911.out (fun k_ hk => (⟨hk, hk.2⟩ : _ ∧ k_ ≠ gb915))) (fun _ hk => hk.2) (.int .i64 t912)) (fun _ hk => hk.2) (.int .i64 t913)) (fun _ h_ => h_.1))))) (g := gb898) (o := .cells #[.int .i64 t896, .int .i64 t897] 25 (0, 0)) (by (with_reducible repeat (first | refine kn_ ?_ _ | refine kd_ ?_ | refine ka_ ?_ _)); refine blk_far ?_ NB898_915.out _; (with_reducible repeat (first | refine kn_ ?_ _ | refine kd_ ?_ | refine ka_ ?_ _)); refine blk_far ?_ NB898_915.out _; (with_reducible repeat (first | refine kn_ ?_ _ | refine kd_ ?_ | refine ka_ ?_ _)); exact BK898.out)) (g := gb908) (o := .cells #[.int .i64 t905, .int .i64 t906] 25 (0, 0)) (by (with_reducible repeat (first | refine kn_ ?_ _ | refine kd_ ?_ | refine ka_ ?_ _)); refine blk_far ?_ NB908_915.out _; (with_reducible repeat (first | refine kn_ ?_ _ | refine kd_ ?_ | refine ka_ ?_ _)); refine blk_far ?_ NB908_915.out _; (with_reducible repeat (first | refine kn_ ?_ _ | refine kd_ ?_ | refine ka_ ?_ _)); exact BK908.out)) (g := gb915) (o := .cells #[.int .i64 t912, .int .i64 t913] 25 (0, 0)) (by (with_reducible repeat (first | refine kn_ ?_ _ | refine kd_ ?_ | refine ka_ ?_ _)); refine blk_put (cs := #[.int .i64 t912, .int .i64 0]) ?_ 1 _ rfl; (with_reducible repeat (first | refine kn_ ?_ _ | refine kd_ ?_ | refine ka_ ?_ _)); refine blk_put (cs := #[.int .i64 0, .int .i64 0]) ?_ 0 _ rfl; (with_reducible repeat (first | refine kn_ ?_ _ | refine kd_ ?_ | refine ka_ ?_ _)); exact BK915.out)) (below_size (by repeat (first | (with_reducible first | exact HB.out | apply ba_ | apply bn_ | apply bd_ | refine below_set ?_ GE898.out | refine below_set ?_ GE908.out | refine below_set ?_ GE915.out) | exact HB.out)))); have n5_ := Aside0.mk (blk_below (g := gb898) (o := .cells #[.int .i64 t896, .int .i64 t897] 25 (0, 0)) (by (with_reducible repeat (first | refine kn_ ?_ _ | refine kd_ ?_ | refine ka_ ?_ _)); refine blk_far ?_ NB898_915.out _; (with_reducible repeat (first | refine kn_ ?_ _ | refine kd_ ?_ | refine ka_ ?_ _)); refine blk_far ?_ NB898_915.out _; (with_reducible repeat (first | refine kn_ ?_ _ | refine kd_ ?_ | refine ka_ ?_ _)); exact BK898.out) hb); have n6_ := Aside0.mk (blk_below (g := gb908) (o := .cells #[.int .i64 t905, .int .i64 t906] 25 (0, 0)) (by (with_reducible repeat (first | refine kn_ ?_ _ | refine kd_ ?_ | refine ka_ ?_ _)); refine blk_far ?_ NB908_915.out _; (with_reducible repeat (first | refine kn_ ?_ _ | refine kd_ ?_ | refine ka_ ?_ _)); refine blk_far ?_ NB908_915.out _; (with_reducible repeat (first | refine kn_ ?_ _ | refine kd_ ?_ | refine ka_ ?_ _)); exact BK908.out) hb); have n7_ := Aside0.mk (blk_below (g := gb915) (o := .cells #[.int .i64 t912, .int .i64 t913] 25 (0, 0)) (by (with_reducible repeat (first | refine kn_ ?_ _ | refine kd_ ?_ | refine ka_ ?_ _)); refine blk_put (cs := #[.int .i64 t912, .int .i64 0]) ?_ 1 _ rfl; (with_reducible repeat (first | refine kn_ ?_ _ | refine kd_ ?_ | refine ka_ ?_ _)); refine blk_put (cs := #[.int .i64 0, .int .i64 0]) ?_ 0 _ rfl; (with_reducible repeat (first | refine kn_ ?_ _ | refine kd_ ?_ | refine ka_ ?_ _)); exact BK915.out) hb); have n8_ := Aside0.mk (below_step (by repeat (first | (with_reducible first | exact HB.out | apply ba_ | apply bn_ | apply bd_ | refine below_set ?_ GE898.out | refine below_set ?_ GE908.out | refine below_set ?_ GE915.out) | exact HB.out)) hb); clear HO895 HO901 HO904 HO911 BK898 BK908 BK915 HB; have HO895 := n0_; have HO901 := n1_; have HO904 := n2_; have HO911 := n3_; have HO919 := n4_; have BK898 := n5_; have BK908 := n6_; have BK915 := n7_; have HB := n8_; clear n0_ n1_ n2_ n3_ n4_ n5_ n6_ n7_ n8_; (try clear hb); (try clear hb2); (try clear hk); (try clear hi); (try clear ho0)) | ((with_reducible refine gate_callee (f := 51) rfl ?_); refine goesL_ (some 45) rfl rfl Try.func51 (by kernel_rfl) rfl #[.slice A0 l0.length c0] rfl (by (try simp only [mp_]); first | done | rfl | (simp only [List.length_drop, List.length_take]; rfl)) ?_; (with_reducible refine (spec_DrawHeapOk.calls k _ _ l0 t920 _ ?side1 ?side2 A9.out).mono ?_); (case side1 => repeat (first | exact (Kd.C_below HR0.out HB.out) | (with_reducible first | refine ca_ ?_ _ | refine cn_ ?_ _ | refine cd_ ?_))); (case side2 => exact HC0.out); rintro e w54 ⟨v921, rfl, ho0, hb⟩; refine ⟨_, rfl, ?_⟩; have n0_ := Aside0.mk (Kd.R_elder' (rp_ HO895.out) (Kd.R_base ho0) hb); have n1_ := Aside0.mk (Kd.R_elder' (rp_ HO901.out) (Kd.R_base ho0) hb); have n2_ := Aside0.mk (Kd.R_elder' (rp_ HO904.out) (Kd.R_base ho0) hb); have n3_ := Aside0.mk (Kd.R_elder' (rp_ HO911.out) (Kd.R_base ho0) hb); have n4_ := Aside0.mk (Kd.R_elder' (rp_ HO919.out) (Kd.R_base ho0) hb); have n5_ := Aside0.mk (Kd.R_lower (Kd.R_newB (Kd.R_newB (Kd.R_newB (Kd.R_new' (Kd.R_new' (Kd.R_new' (Kd.R_new' (Kd.R_new' ho0 (Kd.R_lt (rp_ HO895.out))) (Kd.R_lt (rp_ HO901.out))) (Kd.R_lt (rp_ HO904.out))) (Kd.R_lt (rp_ HO911.out))) (Kd.R_lt (rp_ HO919.out))) (g := gb898) (o := .cells #[.int .i64 t896, .int .i64 t897] 25 (0, 0)) (pb_ BK898.out)) (g := gb908) (o := .cells #[.int .i64 t905, .int .i64 t906] 25 (0, 0)) (pb_ BK908.out)) (g := gb915) (o := .cells #[.int .i64 t912, .int .i64 t913] 25 (0, 0)) (pb_ BK915.out)) (below_size (by repeat (first | (with_reducible first | exact HB.out | apply ba_ | apply bn_ | apply bd_ | refine below_set ?_ GE898.out | refine below_set ?_ GE908.out | refine below_set ?_ GE915.out) | exact HB.out)))); have n6_ := Aside0.mk (bb_ BK898.out hb); have n7_ := Aside0.mk (bb_ BK908.out hb); have n8_ := Aside0.mk (bb_ BK915.out hb); have n9_ := Aside0.mk (below_step (by repeat (first | (with_reducible first | exact HB.out | apply ba_ | apply bn_ | apply bd_ | refine below_set ?_ GE898.out | refine below_set ?_ GE908.out | refine below_set ?_ GE915.out) | exact HB.out)) hb); clear HO895 HO901 HO904 HO911 HO919 BK898 BK908 BK915 HB; have HO895 := n0_; have HO901 := n1_; have HO904 := n2_; have HO911 := n3_; have HO919 := n4_; have HO922 := n5_; have BK898 := n6_; have BK908 := n7_; have BK915 := n8_; have HB := n9_; clear n0_ n1_ n2_ n3_ n4_ n5_ n6_ n7_ n8_ n9_; (try clear hb); (try clear hb2); (try clear hk); (try clear hi); (try clear ho0)) | ((with_reducible refine gate_callee (f := 52) rfl ?_); refine goesL_ (some 47) rfl rfl Try.func52 (by kernel_rfl) rfl #[.slice A0 l0.length c0] rfl (by (try simp only [mp_]); first | done | rfl | (simp only [List.length_drop, List.length_take]; rfl)) ?_; (with_reducible refine (spec_DrawSorted.calls k _ _ l0 t923 _ ?side1 ?side2 A10.out).mono ?_); (case side1 => repeat (first | exact (Kd.C_below HR0.out HB.out) | (with_reducible first | refine ca_ ?_ _ | refine cn_ ?_ _ | refine cd_ ?_))); (case side2 => exact HC0.out); rintro e w55 ⟨v924, rfl, ho0, hb⟩; refine ⟨_, rfl, ?_⟩; have n0_ := Aside0.mk (Kd.R_elder' (rp_ HO895.out) (Kd.R_base ho0) hb); have n1_ := Aside0.mk (Kd.R_elder' (rp_ HO901.out) (Kd.R_base ho0) hb); have n2_ := Aside0.mk (Kd.R_elder' (rp_ HO904.out) (Kd.R_base ho0) hb); have n3_ := Aside0.mk (Kd.R_elder' (rp_ HO911.out) (Kd.R_base ho0) hb); have n4_ := Aside0.mk (Kd.R_elder' (rp_ HO919.out) (Kd.R_base ho0) hb); have n5_ := Aside0.mk (Kd.R_elder' (rp_ HO922.out) (Kd.R_base ho0) hb); have n6_ := Aside0.mk (Kd.R_lower (Kd.R_newB (Kd.R_newB (Kd.R_newB (Kd.R_new' (Kd.R_new' (Kd.R_new' (Kd.R_new' (Kd.R_new' (Kd.R_new' ho0 (Kd.R_lt (rp_ HO895.out))) (Kd.R_lt (rp_ HO901.out))) (Kd.R_lt (rp_ HO904.out))) (Kd.R_lt (rp_ HO911.out))) (Kd.R_lt (rp_ HO919.out))) (Kd.R_lt (rp_ HO922.out))) (g := gb898) (o := .cells #[.int .i64 t896, .int .i64 t897] 25 (0, 0)) (pb_ BK898.out)) (g := gb908) (o := .cells #[.int .i64 t905, .int .i64 t906] 25 (0, 0)) (pb_ BK908.out)) (g := gb915) (o := .cells #[.int .i64 t912, .int .i64 t913] 25 (0, 0)) (pb_ BK915.out)) (below_size (by repeat (first | (with_reducible first | exact HB.out | apply ba_ | apply bn_ | apply bd_ | refine below_set ?_ GE898.out | refine below_set ?_ GE908.out | refine below_set ?_ GE915.out) | exact HB.out)))); have n7_ := Aside0.mk (bb_ BK898.out hb); have n8_ := Aside0.mk (bb_ BK908.out hb); have n9_ := Aside0.mk (bb_ BK915.out hb); have n10_ := Aside0.mk (below_step (by repeat (first | (with_reducible first | exact HB.out | apply ba_ | apply bn_ | apply bd_ | refine below_set ?_ GE898.out | refine below_set ?_ GE908.out | refine below_set ?_ GE915.out) | exact HB.out)) hb); clear HO895 HO901 HO904 HO911 HO919 HO922 BK898 BK908 BK915 HB; have HO895 := n0_; have HO901 := n1_; have HO904 := n2_; have HO911 := n3_; have HO919 := n4_; have HO922 := n5_; have HO925 := n6_; have BK898 := n7_; have BK908 := n8_; have BK915 := n9_; have HB := n10_; clear n0_ n1_ n2_ n3_ n4_ n5_ n6_ n7_ n8_ n9_ n10_; (try clear hb); (try clear hb2); (try clear hk); (try clear hi); (try clear ho0)) | ((with_reducible refine gate_callee (f := 53) rfl ?_); refine goesL_ (some 50) rfl rfl Try.func53 (by kernel_rfl) rfl #[.slice A0 l0.length c0] rfl (by (try simp only [mp_]); first | done | rfl | (simp only [List.length_drop, List.length_take]; rfl)) ?_; (with_reducible refine (spec_DrawBefore.calls k _ _ l0 t926 t927 t928 t929 _ ?side1 ?side2 A11.out).mono ?_); (case side1 => repeat (first | exact (Kd.C_below HR0.out HB.out) | (with_reducible first | refine ca_ ?_ _ | refine cn_ ?_ _ | refine cd_ ?_))); (case side2 => exact HC0.out); rintro e w56 ⟨rfl, hb⟩; refine ⟨_, rfl, ?_⟩; have n0_ := Aside0.mk (Kd.R_below (rp_ HO895.out) hb); have n1_ := Aside0.mk (Kd.R_below (rp_ HO901.out) hb); have n2_ := Aside0.mk (Kd.R_below (rp_ HO904.out) hb); have n3_ := Aside0.mk (Kd.R_below (rp_ HO911.out) hb); have n4_ := Aside0.mk (Kd.R_below (rp_ HO919.out) hb); have n5_ := Aside0.mk (Kd.R_below (rp_ HO922.out) hb); have n6_ := Aside0.mk (Kd.R_below (rp_ HO925.out) hb); have n7_ := Aside0.mk (bb_ BK898.out hb); have n8_ := Aside0.mk (bb_ BK908.out hb); have n9_ := Aside0.mk (bb_ BK915.out hb); have n10_ := Aside0.mk (below_step (by repeat (first | (with_reducible first | exact HB.out | apply ba_ | apply bn_ | apply bd_ | refine below_set ?_ GE898.out | refine below_set ?_ GE908.out | refine below_set ?_ GE915.out) | exact HB.out)) hb); clear HO895 HO901 HO904 HO911 HO919 HO922 HO925 BK898 BK908 BK915 HB; have HO895 := n0_; have HO901 := n1_; have HO904 := n2_; have HO911 := n3_; have HO919 := n4_; have HO922 := n5_; have HO925 := n6_; have BK898 := n7_; have BK908 := n8_; have BK915 := n9_; have HB := n10_; clear n0_ n1_ n2_ n3_ n4_ n5_ n6_ n7_ n8_ n9_ n10_; (try clear hb); (try clear hb2); (try clear hk); (try clear hi)) | ((with_reducible refine gate_dst (N := 16) rfl ?_); refine box_event ?hg (N := 16) ?hd (cs := #[.int .i64 0, .int .i64 0]) (t := 25) ?hr ?_; (case hd => rfl); (case hg => rfl); (case hr => first | (go_simp; done) | (go_simp; rfl)); intro gb930 hg w57 hbox hb; have n0_ := Aside0.mk (Kd.R_below (Kd.R_elderB (rp_ HO895.out) gb930 (Nat.le_of_eq hg.symm)) hb); have n1_ := Aside0.mk (Kd.R_below (Kd.R_elderB (rp_ HO901.out) gb930 (Nat.le_of_eq hg.symm)) hb); have n2_ := Aside0.mk (Kd.R_below (Kd.R_elderB (rp_ HO904.out) gb930 (Nat.le_of_eq hg.symm)) hb); have n3_ := Aside0.mk (Kd.R_below (Kd.R_elderB (rp_ HO911.out) gb930 (Nat.le_of_eq hg.symm)) hb); have n4_ := Aside0.mk (Kd.R_below (Kd.R_elderB (rp_ HO919.out) gb930 (Nat.le_of_eq hg.symm)) hb); have n5_ := Aside0.mk (Kd.R_below (Kd.R_elderB (rp_ HO922.out) gb930 (Nat.le_of_eq hg.symm)) hb); have n6_ := Aside0.mk (Kd.R_below (Kd.R_elderB (rp_ HO925.out) gb930 (Nat.le_of_eq hg.symm)) hb); have n7_ := Aside0.mk (bb_ BK898.out hb); have n8_ := Aside0.mk (bb_ BK908.out hb); have n9_ := Aside0.mk (bb_ BK915.out hb); have n10_ := Aside0.mk (below_step (by repeat (first | (with_reducible first | exact HB.out | apply ba_ | apply bn_ | apply bd_ | refine below_set ?_ GE898.out | refine below_set ?_ GE908.out | refine below_set ?_ GE915.out) | exact HB.out)) hb); have n11_ := Aside0.mk (hbox); have n12_ := Aside0.mk ((by rw [hg]; exact (below_size (by repeat (first | (with_reducible first | exact HB.out | apply ba_ | apply bn_ | apply bd_ | refine below_set ?_ GE898.out | refine below_set ?_ GE908.out | refine below_set ?_ GE915.out) | exact HB.out))) : w.heap.size ≤ gb930)); have n13_ := Aside0.mk ((by rw [hg]; exact (below_size (by repeat (first | (with_reducible first | exact HB.out | apply ba_ | apply bn_ | apply bd_ | refine below_set ?_ GE898.out | refine below_set ?_ GE908.out | refine below_set ?_ GE915.out) | exact HB.out))) : w.heap.size ≤ gb930)); have n14_ := Aside0.mk (nl_ BK898.out hg); have n15_ := Aside0.mk (n14_.out.symm); have n16_ := Aside0.mk (nl_ BK908.out hg); have n17_ := Aside0.mk (n16_.out.symm); have n18_ := Aside0.mk (nl_ BK915.out hg); have n19_ := Aside0.mk (n18_.out.symm); clear HO895 HO901 HO904 HO911 HO919 HO922 HO925 BK898 BK908 BK915 HB; have HO895 := n0_; have HO901 := n1_; have HO904 := n2_; have HO911 := n3_; have HO919 := n4_; have HO922 := n5_; have HO925 := n6_; have BK898 := n7_; have BK908 := n8_; have BK915 := n9_; have HB := n10_; have BK930 := n11_; have GW930 := n12_; have GE930 := n13_; have NB898_930 := n14_; have NB930_898 := n15_; have NB908_930 := n16_; have NB930_908 := n17_; have NB915_930 := n18_; have NB930_915 := n19_; clear n0_ n1_ n2_ n3_ n4_ n5_ n6_ n7_ n8_ n9_ n10_ n11_ n12_ n13_ n14_ n15_ n16_ n17_ n18_ n19_; clear hb hbox hg) | ((with_reducible refine gate_dst (N := 17) rfl ?_); refine box_event ?hg (N := 17) ?hd (cs := #[.int .i64 0, .int .i64 0]) (t := 25) ?hr ?_; (case hd => rfl); (case hg => rfl); (case hr => first | (go_simp; done) | (go_simp; rfl)); intro gb931 hg w58 hbox hb; have n0_ := Aside0.mk (Kd.R_below (Kd.R_elderB (rp_ HO895.out) gb931 (Nat.le_of_eq hg.symm)) hb); have n1_ := Aside0.mk (Kd.R_below (Kd.R_elderB (rp_ HO901.out) gb931 (Nat.le_of_eq hg.symm)) hb); have n2_ := Aside0.mk (Kd.R_below (Kd.R_elderB (rp_ HO904.out) gb931 (Nat.le_of_eq hg.symm)) hb); have n3_ := Aside0.mk (Kd.R_below (Kd.R_elderB (rp_ HO911.out) gb931 (Nat.le_of_eq hg.symm)) hb); have n4_ := Aside0.mk (Kd.R_below (Kd.R_elderB (rp_ HO919.out) gb931 (Nat.le_of_eq hg.symm)) hb); have n5_ := Aside0.mk (Kd.R_below (Kd.R_elderB (rp_ HO922.out) gb931 (Nat.le_of_eq hg.symm)) hb); have n6_ := Aside0.mk (Kd.R_below (Kd.R_elderB (rp_ HO925.out) gb931 (Nat.le_of_eq hg.symm)) hb); have n7_ := Aside0.mk (bb_ BK898.out hb); have n8_ := Aside0.mk (bb_ BK908.out hb); have n9_ := Aside0.mk (bb_ BK915.out hb); have n10_ := Aside0.mk (bb_ BK930.out hb); have n11_ := Aside0.mk (below_step (by repeat (first | (with_reducible first | exact HB.out | apply ba_ | apply bn_ | apply bd_ | refine below_set ?_ GE898.out | refine below_set ?_ GE908.out | refine below_set ?_ GE915.out | refine below_set ?_ GE930.out) | exact HB.out)) hb); have n12_ := Aside0.mk (hbox); have n13_ := Aside0.mk ((by rw [hg]; exact (below_size (by repeat (first | (with_reducible first | exact HB.out | apply ba_ | apply bn_ | apply bd_ | refine below_set ?_ GE898.out | refine below_set ?_ GE908.out | refine below_set ?_ GE915.out | refine below_set ?_ GE930.out) | exact HB.out))) : w.heap.size ≤ gb931)); have n14_ := Aside0.mk ((by rw [hg]; exact (below_size (by repeat (first | (with_reducible first | exact HB.out | apply ba_ | apply bn_ | apply bd_ | refine below_set ?_ GE898.out | refine below_set ?_ GE908.out | refine below_set ?_ GE915.out | refine below_set ?_ GE930.out) | exact HB.out))) : w.heap.size ≤ gb931)); have n15_ := Aside0.mk (nl_ BK898.out hg); have n16_ := Aside0.mk (n15_.out.symm); have n17_ := Aside0.mk (nl_ BK908.out hg); have n18_ := Aside0.mk (n17_.out.symm); have n19_ := Aside0.mk (nl_ BK915.out hg); have n20_ := Aside0.mk (n19_.out.symm); have n21_ := Aside0.mk (nl_ BK930.out hg); have n22_ := Aside0.mk (n21_.out.symm); clear HO895 HO901 HO904 HO911 HO919 HO922 HO925 BK898 BK908 BK915 BK930 HB; have HO895 := n0_; have HO901 := n1_; have HO904 := n2_; have HO911 := n3_; have HO919 := n4_; have HO922 := n5_; have HO925 := n6_; have BK898 := n7_; have BK908 := n8_; have BK915 := n9_; have BK930 := n10_; have HB := n11_; have BK931 := n12_; have GW931 := n13_; have GE931 := n14_; have NB898_931 := n15_; have NB931_898 := n16_; have NB908_931 := n17_; have NB931_908 := n18_; have NB915_931 := n19_; have NB931_915 := n20_; have NB930_931 := n21_; have NB931_930 := n22_; clear n0_ n1_ n2_ n3_ n4_ n5_ n6_ n7_ n8_ n9_ n10_ n11_ n12_ n13_ n14_ n15_ n16_ n17_ n18_ n19_ n20_ n21_ n22_; clear hb hbox hg; have hnb59 := NB930_898.out; have hnc59 := NB898_930.out; have hnb60 := NB930_908.out; have hnc60 := NB908_930.out; have hnb61 := NB930_915.out; have hnc61 := NB915_930.out; have hnb62 := NB930_931.out; have hnc62 := NB931_930.out; obtain ⟨hcz63_0, hcz63_1, hfz63_0, hfz63_1⟩ := bc2_ BK930.out; have hnb64 := NB931_898.out; have hnc64 := NB898_931.out; have hnb65 := NB931_908.out; have hnc65 := NB908_931.out; have hnb66 := NB931_915.out; have hnc66 := NB915_931.out; obtain ⟨hcz67_0, hcz67_1, hfz67_0, hfz67_1⟩ := bc2_ BK931.out))
          have n0_ : Aside0 (Kd.R k25 25 ((((w58.setCell ⟨gb930, 0, none⟩ (.int .i64 t926)).setCell ⟨gb930, 1, none⟩ (.int .i64 t927)).setCell ⟨gb931, 0, none⟩ (.int .i64 t928)).setCell ⟨gb931, 1, none⟩ (.int .i64 t929)) w.heap.size (fun k_ => some k_ ≠ (.slice Ao43 t899.length co43 : Value).ownBlock ∧ some k_ ≠ (v903 : Value).ownBlock ∧ some k_ ≠ (v910 : Value).ownBlock ∧ some k_ ≠ (v918 : Value).ownBlock ∧ some k_ ≠ (v921 : Value).ownBlock ∧ some k_ ≠ (v924 : Value).ownBlock ∧ k_ ≠ gb898 ∧ k_ ≠ gb908 ∧ k_ ≠ gb915 ∧ k_ ≠ gb930 ∧ k_ ≠ gb931) v894 t893) := ⟨by (with_reducible repeat (first | apply Kd.R_alloc | apply Kd.R_drewN | apply Kd.R_drew)); exact Kd.R_mono (Kd.R_far (p := ⟨gb931, 1, none⟩) (Kd.R_far (p := ⟨gb931, 0, none⟩) (Kd.R_far (p := ⟨gb930, 1, none⟩) (Kd.R_far (p := ⟨gb930, 0, none⟩) (Kd.R_mono (Kd.R_mono HO895.out (fun k_ hk => (⟨hk, hk.1.2⟩ : _ ∧ k_ ≠ gb930))) (fun k_ hk => (⟨hk, hk.1.2⟩ : _ ∧ k_ ≠ gb931))) (fun _ hk => hk.1.2) (.int .i64 t926)) (fun _ hk => hk.1.2) (.int .i64 t927)) (fun _ hk => hk.2) (.int .i64 t928)) (fun _ hk => hk.2) (.int .i64 t929)) (fun _ hk => ⟨hk.1.1.1.1.1.1.1.1.1.1.1.2, ⟨hk.1.1.1.1.1.1.1.1.1.1.2, ⟨hk.1.1.1.1.1.1.1.1.2, ⟨hk.1.1.1.1.1.1.2, ⟨hk.1.1.1.1.1.2, ⟨hk.1.1.1.1.2, ⟨hk.1.1.1.1.1.1.1.1.1.1.1.1.2, ⟨hk.1.1.1.1.1.1.1.1.1.2, ⟨hk.1.1.1.1.1.1.1.2, ⟨hk.1.1.1.2, hk.1.1.2⟩⟩⟩⟩⟩⟩⟩⟩⟩⟩)⟩
          have n1_ : Aside0 (Kd.R k25 25 ((((w58.setCell ⟨gb930, 0, none⟩ (.int .i64 t926)).setCell ⟨gb930, 1, none⟩ (.int .i64 t927)).setCell ⟨gb931, 0, none⟩ (.int .i64 t928)).setCell ⟨gb931, 1, none⟩ (.int .i64 t929)) w.heap.size (fun k_ => some k_ ≠ (v894 : Value).ownBlock ∧ some k_ ≠ (v903 : Value).ownBlock ∧ some k_ ≠ (v910 : Value).ownBlock ∧ some k_ ≠ (v918 : Value).ownBlock ∧ some k_ ≠ (v921 : Value).ownBlock ∧ some k_ ≠ (v924 : Value).ownBlock ∧ k_ ≠ gb898 ∧ k_ ≠ gb908 ∧ k_ ≠ gb915 ∧ k_ ≠ gb930 ∧ k_ ≠ gb931) (.slice Ao43 t899.length co43) t899) := ⟨by (with_reducible repeat (first | apply Kd.R_alloc | apply Kd.R_drewN | apply Kd.R_drew)); exact Kd.R_mono (Kd.R_far (p := ⟨gb931, 1, none⟩) (Kd.R_far (p := ⟨gb931, 0, none⟩) (Kd.R_far (p := ⟨gb930, 1, none⟩) (Kd.R_far (p := ⟨gb930, 0, none⟩) (Kd.R_mono (Kd.R_mono HO901.out (fun k_ hk => (⟨hk, hk.1.2⟩ : _ ∧ k_ ≠ gb930))) (fun k_ hk => (⟨hk, hk.1.2⟩ : _ ∧ k_ ≠ gb931))) (fun _ hk => hk.1.2) (.int .i64 t926)) (fun _ hk => hk.1.2) (.int .i64 t927)) (fun _ hk => hk.2) (.int .i64 t928)) (fun _ hk => hk.2) (.int .i64 t929)) (fun _ hk => ⟨hk.1.1.1.1.1.1.1.1.1.1.1.1.2, ⟨hk.1.1.1.1.1.1.1.1.1.1.2, ⟨hk.1.1.1.1.1.1.1.1.2, ⟨hk.1.1.1.1.1.1.2, ⟨hk.1.1.1.1.1.2, ⟨hk.1.1.1.1.2, ⟨hk.1.1.1.1.1.1.1.1.1.1.1.2, ⟨hk.1.1.1.1.1.1.1.1.1.2, ⟨hk.1.1.1.1.1.1.1.2, ⟨hk.1.1.1.2, hk.1.1.2⟩⟩⟩⟩⟩⟩⟩⟩⟩⟩)⟩
          have n2_ : Aside0 (Kd.R k25 25 ((((w58.setCell ⟨gb930, 0, none⟩ (.int .i64 t926)).setCell ⟨gb930, 1, none⟩ (.int .i64 t927)).setCell ⟨gb931, 0, none⟩ (.int .i64 t928)).setCell ⟨gb931, 1, none⟩ (.int .i64 t929)) w.heap.size (fun k_ => some k_ ≠ (v894 : Value).ownBlock ∧ some k_ ≠ (.slice Ao43 t899.length co43 : Value).ownBlock ∧ some k_ ≠ (v910 : Value).ownBlock ∧ some k_ ≠ (v918 : Value).ownBlock ∧ some k_ ≠ (v921 : Value).ownBlock ∧ some k_ ≠ (v924 : Value).ownBlock ∧ k_ ≠ gb898 ∧ k_ ≠ gb908 ∧ k_ ≠ gb915 ∧ k_ ≠ gb930 ∧ k_ ≠ gb931) v903 t902) := ⟨by (with_reducible repeat (first | apply Kd.R_alloc | apply Kd.R_drewN | apply Kd.R_drew)); exact Kd.R_mono (Kd.R_far (p := ⟨gb931, 1, none⟩) (Kd.R_far (p := ⟨gb931, 0, none⟩) (Kd.R_far (p := ⟨gb930, 1, none⟩) (Kd.R_far (p := ⟨gb930, 0, none⟩) (Kd.R_mono (Kd.R_mono HO904.out (fun k_ hk => (⟨hk, hk.1.2⟩ : _ ∧ k_ ≠ gb930))) (fun k_ hk => (⟨hk, hk.1.2⟩ : _ ∧ k_ ≠ gb931))) (fun _ hk => hk.1.2) (.int .i64 t926)) (fun _ hk => hk.1.2) (.int .i64 t927)) (fun _ hk => hk.2) (.int .i64 t928)) (fun _ hk => hk.2) (.int .i64 t929)) (fun _ hk => ⟨hk.1.1.1.1.1.1.1.1.1.1.1.1.2, ⟨hk.1.1.1.1.1.1.1.1.1.1.1.2, ⟨hk.1.1.1.1.1.1.1.1.2, ⟨hk.1.1.1.1.1.1.2, ⟨hk.1.1.1.1.1.2, ⟨hk.1.1.1.1.2, ⟨hk.1.1.1.1.1.1.1.1.1.1.2, ⟨hk.1.1.1.1.1.1.1.1.1.2, ⟨hk.1.1.1.1.1.1.1.2, ⟨hk.1.1.1.2, hk.1.1.2⟩⟩⟩⟩⟩⟩⟩⟩⟩⟩)⟩
          have n3_ : Aside0 (Kd.R k25 25 ((((w58.setCell ⟨gb930, 0, none⟩ (.int .i64 t926)).setCell ⟨gb930, 1, none⟩ (.int .i64 t927)).setCell ⟨gb931, 0, none⟩ (.int .i64 t928)).setCell ⟨gb931, 1, none⟩ (.int .i64 t929)) w.heap.size (fun k_ => some k_ ≠ (v894 : Value).ownBlock ∧ some k_ ≠ (.slice Ao43 t899.length co43 : Value).ownBlock ∧ some k_ ≠ (v903 : Value).ownBlock ∧ some k_ ≠ (v918 : Value).ownBlock ∧ some k_ ≠ (v921 : Value).ownBlock ∧ some k_ ≠ (v924 : Value).ownBlock ∧ k_ ≠ gb898 ∧ k_ ≠ gb908 ∧ k_ ≠ gb915 ∧ k_ ≠ gb930 ∧ k_ ≠ gb931) v910 t909) := ⟨by (with_reducible repeat (first | apply Kd.R_alloc | apply Kd.R_drewN | apply Kd.R_drew)); exact Kd.R_mono (Kd.R_far (p := ⟨gb931, 1, none⟩) (Kd.R_far (p := ⟨gb931, 0, none⟩) (Kd.R_far (p := ⟨gb930, 1, none⟩) (Kd.R_far (p := ⟨gb930, 0, none⟩) (Kd.R_mono (Kd.R_mono HO911.out (fun k_ hk => (⟨hk, hk.1.2⟩ : _ ∧ k_ ≠ gb930))) (fun k_ hk => (⟨hk, hk.1.2⟩ : _ ∧ k_ ≠ gb931))) (fun _ hk => hk.1.2) (.int .i64 t926)) (fun _ hk => hk.1.2) (.int .i64 t927)) (fun _ hk => hk.2) (.int .i64 t928)) (fun _ hk => hk.2) (.int .i64 t929)) (fun _ hk => ⟨hk.1.1.1.1.1.1.1.1.1.1.1.1.2, ⟨hk.1.1.1.1.1.1.1.1.1.1.1.2, ⟨hk.1.1.1.1.1.1.1.1.1.1.2, ⟨hk.1.1.1.1.1.1.2, ⟨hk.1.1.1.1.1.2, ⟨hk.1.1.1.1.2, ⟨hk.1.1.1.1.1.1.1.1.1.2, ⟨hk.1.1.1.1.1.1.1.1.2, ⟨hk.1.1.1.1.1.1.1.2, ⟨hk.1.1.1.2, hk.1.1.2⟩⟩⟩⟩⟩⟩⟩⟩⟩⟩)⟩
          have n4_ : Aside0 (Kd.R k25 25 ((((w58.setCell ⟨gb930, 0, none⟩ (.int .i64 t926)).setCell ⟨gb930, 1, none⟩ (.int .i64 t927)).setCell ⟨gb931, 0, none⟩ (.int .i64 t928)).setCell ⟨gb931, 1, none⟩ (.int .i64 t929)) w.heap.size (fun k_ => some k_ ≠ (v894 : Value).ownBlock ∧ some k_ ≠ (.slice Ao43 t899.length co43 : Value).ownBlock ∧ some k_ ≠ (v903 : Value).ownBlock ∧ some k_ ≠ (v910 : Value).ownBlock ∧ some k_ ≠ (v921 : Value).ownBlock ∧ some k_ ≠ (v924 : Value).ownBlock ∧ k_ ≠ gb898 ∧ k_ ≠ gb908 ∧ k_ ≠ gb915 ∧ k_ ≠ gb930 ∧ k_ ≠ gb931) v918 t916) := ⟨by (with_reducible repeat (first | apply Kd.R_alloc | apply Kd.R_drewN | apply Kd.R_drew)); exact Kd.R_mono (Kd.R_far (p := ⟨gb931, 1, none⟩) (Kd.R_far (p := ⟨gb931, 0, none⟩) (Kd.R_far (p := ⟨gb930, 1, none⟩) (Kd.R_far (p := ⟨gb930, 0, none⟩) (Kd.R_mono (Kd.R_mono HO919.out (fun k_ hk => (⟨hk, hk.1.2⟩ : _ ∧ k_ ≠ gb930))) (fun k_ hk => (⟨hk, hk.1.2⟩ : _ ∧ k_ ≠ gb931))) (fun _ hk => hk.1.2) (.int .i64 t926)) (fun _ hk => hk.1.2) (.int .i64 t927)) (fun _ hk => hk.2) (.int .i64 t928)) (fun _ hk => hk.2) (.int .i64 t929)) (fun _ hk => ⟨hk.1.1.1.1.1.1.1.1.1.1.1.1.2, ⟨hk.1.1.1.1.1.1.1.1.1.1.1.2, ⟨hk.1.1.1.1.1.1.1.1.1.1.2, ⟨hk.1.1.1.1.1.1.1.1.1.2, ⟨hk.1.1.1.1.1.2, ⟨hk.1.1.1.1.2, ⟨hk.1.1.1.1.1.1.1.1.2, ⟨hk.1.1.1.1.1.1.1.2, ⟨hk.1.1.1.1.1.1.2, ⟨hk.1.1.1.2, hk.1.1.2⟩⟩⟩⟩⟩⟩⟩⟩⟩⟩)⟩
          have n5_ : Aside0 (Kd.R k25 25 ((((w58.setCell ⟨gb930, 0, none⟩ (.int .i64 t926)).setCell ⟨gb930, 1, none⟩ (.int .i64 t927)).setCell ⟨gb931, 0, none⟩ (.int .i64 t928)).setCell ⟨gb931, 1, none⟩ (.int .i64 t929)) w.heap.size (fun k_ => some k_ ≠ (v894 : Value).ownBlock ∧ some k_ ≠ (.slice Ao43 t899.length co43 : Value).ownBlock ∧ some k_ ≠ (v903 : Value).ownBlock ∧ some k_ ≠ (v910 : Value).ownBlock ∧ some k_ ≠ (v918 : Value).ownBlock ∧ some k_ ≠ (v924 : Value).ownBlock ∧ k_ ≠ gb898 ∧ k_ ≠ gb908 ∧ k_ ≠ gb915 ∧ k_ ≠ gb930 ∧ k_ ≠ gb931) v921 t920) := ⟨by (with_reducible repeat (first | apply Kd.R_alloc | apply Kd.R_drewN | apply Kd.R_drew)); exact Kd.R_mono (Kd.R_far (p := ⟨gb931, 1, none⟩) (Kd.R_far (p := ⟨gb931, 0, none⟩) (Kd.R_far (p := ⟨gb930, 1, none⟩) (Kd.R_far (p := ⟨gb930, 0, none⟩) (Kd.R_mono (Kd.R_mono HO922.out (fun k_ hk => (⟨hk, hk.1.2⟩ : _ ∧ k_ ≠ gb930))) (fun k_ hk => (⟨hk, hk.1.2⟩ : _ ∧ k_ ≠ gb931))) (fun _ hk => hk.1.2) (.int .i64 t926)) (fun _ hk => hk.1.2) (.int .i64 t927)) (fun _ hk => hk.2) (.int .i64 t928)) (fun _ hk => hk.2) (.int .i64 t929)) (fun _ hk => ⟨hk.1.1.1.1.1.1.1.1.1.1.1.1.2, ⟨hk.1.1.1.1.1.1.1.1.1.1.1.2, ⟨hk.1.1.1.1.1.1.1.1.1.1.2, ⟨hk.1.1.1.1.1.1.1.1.1.2, ⟨hk.1.1.1.1.1.1.1.1.2, ⟨hk.1.1.1.1.2, ⟨hk.1.1.1.1.1.1.1.2, ⟨hk.1.1.1.1.1.1.2, ⟨hk.1.1.1.1.1.2, ⟨hk.1.1.1.2, hk.1.1.2⟩⟩⟩⟩⟩⟩⟩⟩⟩⟩)⟩
          have n6_ : Aside0 (Kd.R k25 25 ((((w58.setCell ⟨gb930, 0, none⟩ (.int .i64 t926)).setCell ⟨gb930, 1, none⟩ (.int .i64 t927)).setCell ⟨gb931, 0, none⟩ (.int .i64 t928)).setCell ⟨gb931, 1, none⟩ (.int .i64 t929)) w.heap.size (fun k_ => some k_ ≠ (v894 : Value).ownBlock ∧ some k_ ≠ (.slice Ao43 t899.length co43 : Value).ownBlock ∧ some k_ ≠ (v903 : Value).ownBlock ∧ some k_ ≠ (v910 : Value).ownBlock ∧ some k_ ≠ (v918 : Value).ownBlock ∧ some k_ ≠ (v921 : Value).ownBlock ∧ k_ ≠ gb898 ∧ k_ ≠ gb908 ∧ k_ ≠ gb915 ∧ k_ ≠ gb930 ∧ k_ ≠ gb931) v924 t923) := ⟨by (with_reducible repeat (first | apply Kd.R_alloc | apply Kd.R_drewN | apply Kd.R_drew)); exact Kd.R_mono (Kd.R_far (p := ⟨gb931, 1, none⟩) (Kd.R_far (p := ⟨gb931, 0, none⟩) (Kd.R_far (p := ⟨gb930, 1, none⟩) (Kd.R_far (p := ⟨gb930, 0, none⟩) (Kd.R_mono (Kd.R_mono HO925.out (fun k_ hk => (⟨hk, hk.1.2⟩ : _ ∧ k_ ≠ gb930))) (fun k_ hk => (⟨hk, hk.1.2⟩ : _ ∧ k_ ≠ gb931))) (fun _ hk => hk.1.2) (.int .i64 t926)) (fun _ hk => hk.1.2) (.int .i64 t927)) (fun _ hk => hk.2) (.int .i64 t928)) (fun _ hk => hk.2) (.int .i64 t929)) (fun _ hk => ⟨hk.1.1.1.1.1.1.1.1.1.1.1.1.2, ⟨hk.1.1.1.1.1.1.1.1.1.1.1.2, ⟨hk.1.1.1.1.1.1.1.1.1.1.2, ⟨hk.1.1.1.1.1.1.1.1.1.2, ⟨hk.1.1.1.1.1.1.1.1.2, ⟨hk.1.1.1.1.1.1.1.2, ⟨hk.1.1.1.1.1.1.2, ⟨hk.1.1.1.1.1.2, ⟨hk.1.1.1.1.2, ⟨hk.1.1.1.2, hk.1.1.2⟩⟩⟩⟩⟩⟩⟩⟩⟩⟩)⟩
          have n7_ : Aside0 (((((w58.setCell ⟨gb930, 0, none⟩ (.int .i64 t926)).setCell ⟨gb930, 1, none⟩ (.int .i64 t927)).setCell ⟨gb931, 0, none⟩ (.int .i64 t928)).setCell ⟨gb931, 1, none⟩ (.int .i64 t929)).heap[gb898]? = some (.cells #[.int .i64 t896, .int .i64 t897] 25 (0, 0))) := ⟨by (with_reducible repeat (first | refine kn_ ?_ _ | refine kd_ ?_ | refine ka_ ?_ _)); refine blk_far ?_ NB898_931.out _; (with_reducible repeat (first | refine kn_ ?_ _ | refine kd_ ?_ | refine ka_ ?_ _)); refine blk_far ?_ NB898_931.out _; (with_reducible repeat (first | refine kn_ ?_ _ | refine kd_ ?_ | refine ka_ ?_ _)); refine blk_far ?_ NB898_930.out _; (with_reducible repeat (first | refine kn_ ?_ _ | refine kd_ ?_ | refine ka_ ?_ _)); refine blk_far ?_ NB898_930.out _; (with_reducible repeat (first | refine kn_ ?_ _ | refine kd_ ?_ | refine ka_ ?_ _)); exact BK898.out⟩
          have n8_ : Aside0 (((((w58.setCell ⟨gb930, 0, none⟩ (.int .i64 t926)).setCell ⟨gb930, 1, none⟩ (.int .i64 t927)).setCell ⟨gb931, 0, none⟩ (.int .i64 t928)).setCell ⟨gb931, 1, none⟩ (.int .i64 t929)).heap[gb908]? = some (.cells #[.int .i64 t905, .int .i64 t906] 25 (0, 0))) := ⟨by (with_reducible repeat (first | refine kn_ ?_ _ | refine kd_ ?_ | refine ka_ ?_ _)); refine blk_far ?_ NB908_931.out _; (with_reducible repeat (first | refine kn_ ?_ _ | refine kd_ ?_ | refine ka_ ?_ _)); refine blk_far ?_ NB908_931.out _; (with_reducible repeat (first | refine kn_ ?_ _ | refine kd_ ?_ | refine ka_ ?_ _)); refine blk_far ?_ NB908_930.out _; (with_reducible repeat (first | refine kn_ ?_ _ | refine kd_ ?_ | refine ka_ ?_ _)); refine blk_far ?_ NB908_930.out _; (with_reducible repeat (first | refine kn_ ?_ _ | refine kd_ ?_ | refine ka_ ?_ _)); exact BK908.out⟩
          have n9_ : Aside0 (((((w58.setCell ⟨gb930, 0, none⟩ (.int .i64 t926)).setCell ⟨gb930, 1, none⟩ (.int .i64 t927)).setCell ⟨gb931, 0, none⟩ (.int .i64 t928)).setCell ⟨gb931, 1, none⟩ (.int .i64 t929)).heap[gb915]? = some (.cells #[.int .i64 t912, .int .i64 t913] 25 (0, 0))) := ⟨by (with_reducible repeat (first | refine kn_ ?_ _ | refine kd_ ?_ | refine ka_ ?_ _)); refine blk_far ?_ NB915_931.out _; (with_reducible repeat (first | refine kn_ ?_ _ | refine kd_ ?_ | refine ka_ ?_ _)); refine blk_far ?_ NB915_931.out _; (with_reducible repeat (first | refine kn_ ?_ _ | refine kd_ ?_ | refine ka_ ?_ _)); refine blk_far ?_ NB915_930.out _; (with_reducible repeat (first | refine kn_ ?_ _ | refine kd_ ?_ | refine ka_ ?_ _)); refine blk_far ?_ NB915_930.out _; (with_reducible repeat (first | refine kn_ ?_ _ | refine kd_ ?_ | refine ka_ ?_ _)); exact BK915.out⟩
          have n10_ : Aside0 (((((w58.setCell ⟨gb930, 0, none⟩ (.int .i64 t926)).setCell ⟨gb930, 1, none⟩ (.int .i64 t927)).setCell ⟨gb931, 0, none⟩ (.int .i64 t928)).setCell ⟨gb931, 1, none⟩ (.int .i64 t929)).heap[gb930]? = some (.cells #[.int .i64 t926, .int .i64 t927] 25 (0, 0))) := ⟨by (with_reducible repeat (first | refine kn_ ?_ _ | refine kd_ ?_ | refine ka_ ?_ _)); refine blk_far ?_ NB930_931.out _; (with_reducible repeat (first | refine kn_ ?_ _ | refine kd_ ?_ | refine ka_ ?_ _)); refine blk_far ?_ NB930_931.out _; (with_reducible repeat (first | refine kn_ ?_ _ | refine kd_ ?_ | refine ka_ ?_ _)); refine blk_put (cs := #[.int .i64 t926, .int .i64 0]) ?_ 1 _ rfl; (with_reducible repeat (first | refine kn_ ?_ _ | refine kd_ ?_ | refine ka_ ?_ _)); refine blk_put (cs := #[.int .i64 0, .int .i64 0]) ?_ 0 _ rfl; (with_reducible repeat (first | refine kn_ ?_ _ | refine kd_ ?_ | refine ka_ ?_ _)); exact BK930.out⟩
          have n11_ : Aside0 (((((w58.setCell ⟨gb930, 0, none⟩ (.int .i64 t926)).setCell ⟨gb930, 1, none⟩ (.int .i64 t927)).setCell ⟨gb931, 0, none⟩ (.int .i64 t928)).setCell ⟨gb931, 1, none⟩ (.int .i64 t929)).heap[gb931]? = some (.cells #[.int .i64 t928, .int .i64 t929] 25 (0, 0))) := ⟨by (with_reducible repeat (first | refine kn_ ?_ _ | refine kd_ ?_ | refine ka_ ?_ _)); refine blk_put (cs := #[.int .i64 t928, .int .i64 0]) ?_ 1 _ rfl; (with_reducible repeat (first | refine kn_ ?_ _ | refine kd_ ?_ | refine ka_ ?_ _)); refine blk_put (cs := #[.int .i64 0, .int .i64 0]) ?_ 0 _ rfl; (with_reducible repeat (first | refine kn_ ?_ _ | refine kd_ ?_ | refine ka_ ?_ _)); refine blk_far ?_ NB931_930.out _; (with_reducible repeat (first | refine kn_ ?_ _ | refine kd_ ?_ | refine ka_ ?_ _)); refine blk_far ?_ NB931_930.out _; (with_reducible repeat (first | refine kn_ ?_ _ | refine kd_ ?_ | refine ka_ ?_ _)); exact BK931.out⟩
          have n12_ : Aside0 (Below w.heap.size w ((((w58.setCell ⟨gb930, 0, none⟩ (.int .i64 t926)).setCell ⟨gb930, 1, none⟩ (.int .i64 t927)).setCell ⟨gb931, 0, none⟩ (.int .i64 t928)).setCell ⟨gb931, 1, none⟩ (.int .i64 t929))) := ⟨by repeat (first | (with_reducible first | exact HB.out | apply ba_ | apply bn_ | apply bd_ | refine below_set ?_ GE898.out | refine below_set ?_ GE908.out | refine below_set ?_ GE915.out | refine below_set ?_ GE930.out | refine below_set ?_ GE931.out) | exact HB.out)⟩
          (try clear HO895)
          (try clear HO901)
          (try clear HO904)
          (try clear HO911)
          (try clear HO919)
          (try clear HO922)
          (try clear HO925)
          (try clear BK898)
          (try clear BK908)
          (try clear BK915)
          (try clear BK930)
          (try clear BK931)
          (try clear HB)
          generalize ((((w58.setCell ⟨gb930, 0, none⟩ (.int .i64 t926)).setCell ⟨gb930, 1, none⟩ (.int .i64 t927)).setCell ⟨gb931, 0, none⟩ (.int .i64 t928)).setCell ⟨gb931, 1, none⟩ (.int .i64 t929)) = w68 at n0_ n1_ n2_ n3_ n4_ n5_ n6_ n7_ n8_ n9_ n10_ n11_ n12_ ⊢
          have HO895 := n0_
          have HO901 := n1_
          have HO904 := n2_
          have HO911 := n3_
          have HO919 := n4_
          have HO922 := n5_
          have HO925 := n6_
          have BK898 := n7_
          have BK908 := n8_
          have BK915 := n9_
          have BK930 := n10_
          have BK931 := n11_
          have HB := n12_
          clear n0_ n1_ n2_ n3_ n4_ n5_ n6_ n7_ n8_ n9_ n10_ n11_ n12_
          have n0_ := Aside0.mk (Kd.R_drew HO895.out)
          have n1_ := Aside0.mk (Kd.R_drew HO901.out)
          have n2_ := Aside0.mk (Kd.R_drew HO904.out)
          have n3_ := Aside0.mk (Kd.R_drew HO911.out)
          have n4_ := Aside0.mk (Kd.R_drew HO919.out)
          have n5_ := Aside0.mk (Kd.R_drew HO922.out)
          have n6_ := Aside0.mk (Kd.R_drew HO925.out)
          have n7_ := Aside0.mk (blk_drew BK898.out)
          have n8_ := Aside0.mk (blk_drew BK908.out)
          have n9_ := Aside0.mk (blk_drew BK915.out)
          have n10_ := Aside0.mk (blk_drew BK930.out)
          have n11_ := Aside0.mk (blk_drew BK931.out)
          have n12_ := Aside0.mk (bd_ HB.out)
          clear HO895 HO901 HO904 HO911 HO919 HO922 HO925 BK898 BK908 BK915 BK930 BK931 HB
          have HO895 := n0_
          have HO901 := n1_
          have HO904 := n2_
          have HO911 := n3_
          have HO919 := n4_
          have HO922 := n5_
          have HO925 := n6_
          have BK898 := n7_
          have BK908 := n8_
          have BK915 := n9_
          have BK930 := n10_
          have BK931 := n11_
          have HB := n12_
          clear n0_ n1_ n2_ n3_ n4_ n5_ n6_ n7_ n8_ n9_ n10_ n11_ n12_
          obtain ⟨Ao70, co70, eo70⟩ := Kd.R_slice HO895.out
          (first | subst eo70 | (injection eo70 with f1_ f2_ f3_; have f4_ := f1_.symm; have f5_ := f3_.symm; clear f1_ f2_ f3_; subst f4_; subst f5_))
          refine start_ (n := 76) (S := fun w' => w'.cell? ⟨gb898, 0, none⟩ = some (.int .i64 t896) ∧ w'.cell? ⟨gb898, 1, none⟩ = some (.int .i64 t897) ∧ w'.cell? ⟨gb908, 0, none⟩ = some (.int .i64 t905) ∧ w'.cell? ⟨gb908, 1, none⟩ = some (.int .i64 t906) ∧ w'.cell? ⟨gb915, 0, none⟩ = some (.int .i64 t912) ∧ w'.cell? ⟨gb915, 1, none⟩ = some (.int .i64 t913) ∧ w'.cell? ⟨gb930, 0, none⟩ = some (.int .i64 t926) ∧ w'.cell? ⟨gb930, 1, none⟩ = some (.int .i64 t927) ∧ w'.cell? ⟨gb931, 0, none⟩ = some (.int .i64 t928) ∧ w'.cell? ⟨gb931, 1, none⟩ = some (.int .i64 t929)) (ds := []) #[f_,f_,f_,f_,f_,f_,f_,f_,f_,f_,f_,f_,f_,f_,f_,f_,f_,f_,f_,f_,f_,f_,f_,f_,f_,f_,f_,f_,f_,f_,f_,f_,f_,f_,f_,f_,f_,f_,f_,f_,f_,f_,f_,f_,f_,f_,f_,f_,f_,f_,f_,f_,f_,f_,f_,f_,f_,f_,f_,f_,f_,f_,f_,f_,f_,f_,f_,f_,f_,f_,f_,f_,f_,f_,f_,f_] (by kernel_rfl) rfl rfl ⟨bx_ BK898.out 0, bx_ BK898.out 1, bx_ BK908.out 0, bx_ BK908.out 1, bx_ BK915.out 0, bx_ BK915.out 1, bx_ BK930.out 0, bx_ BK930.out 1, bx_ BK931.out 0, bx_ BK931.out 1⟩ (fun hHeld => ?_); refine with_tabW laws_FnHeapsBent.tab11 laws_FnHeapsBent.bits11 (fun HT_ HW_ => ?_)
          generalize w68.drew = w69 at HO895 HO901 HO904 HO911 HO919 HO922 HO925 BK898 BK908 BK915 BK930 BK931 HB hHeld ⊢
          refine pu_ 0 53 ?_ (b_ 1 75) rfl rfl HT_.out ?_ ?_ ?_ ?_; rotate_left; intro w'; go_simp; with_reducible rfl; rotate_left; simp only [fr_]; rfl
          refine pu_ 3 56 ?_ #[t_,f_,f_,t_,f_,f_,f_,f_,f_,f_,f_,f_,f_,f_,f_,f_,f_,f_,f_,f_,f_,f_,f_,f_,f_,f_,f_,f_,f_,f_,f_,f_,f_,f_,f_,f_,f_,f_,f_,f_,f_,f_,f_,f_,f_,f_,f_,f_,f_,f_,f_,f_,f_,f_,f_,f_,f_,f_,f_,f_,f_,f_,f_,f_,f_,f_,f_,f_,f_,f_,f_,f_,f_,f_,f_,f_] rfl rfl HT_.out ?_ ?_ ?_ ?_; rotate_left; intro w'; go_simp; with_reducible rfl; rotate_left; simp only [fr_]; rfl
          refine take_ (i := 1) (N := some 54) (v := ?_) (a' := ?_) #[t_,t_,f_,t_,f_,f_,f_,f_,f_,f_,f_,f_,f_,f_,f_,f_,f_,f_,f_,f_,f_,f_,f_,f_,f_,f_,f_,f_,f_,f_,f_,f_,f_,f_,f_,f_,f_,f_,f_,f_,f_,f_,f_,f_,f_,f_,f_,f_,f_,f_,f_,f_,f_,f_,f_,f_,f_,f_,f_,f_,f_,f_,f_,f_,f_,f_,f_,f_,f_,f_,f_,f_,f_,f_,f_,f_] rfl rfl (take_ofW HT_.out HW_.out (by kernel_rfl)) (fun _ _ _ h => h) (Or.inl ⟨by rfl, ?_⟩) hHeld ?_ ?_
          rotate_left
          ·
           rintro w' ⟨s0, s1, s2, s3, s4, s5, s6, s7, s8, s9⟩
           go_simp
           with_reducible rfl
          rotate_left
          ·
           simp only [fr_]
           rfl
          refine take_ (i := 4) (N := some 57) (v := ?_) (a' := ?_) #[t_,t_,f_,t_,t_,f_,f_,f_,f_,f_,f_,f_,f_,f_,f_,f_,f_,f_,f_,f_,f_,f_,f_,f_,f_,f_,f_,f_,f_,f_,f_,f_,f_,f_,f_,f_,f_,f_,f_,f_,f_,f_,f_,f_,f_,f_,f_,f_,f_,f_,f_,f_,f_,f_,f_,f_,f_,f_,f_,f_,f_,f_,f_,f_,f_,f_,f_,f_,f_,f_,f_,f_,f_,f_,f_,f_] rfl rfl (take_ofW HT_.out HW_.out (by kernel_rfl)) (fun _ _ _ h => h) (Or.inl ⟨by rfl, ?_⟩) hHeld ?_ ?_
          rotate_left
          ·
           rintro w' ⟨s0, s1, s2, s3, s4, s5, s6, s7, s8, s9⟩
           go_simp
           with_reducible rfl
          rotate_left
          ·
           simp only [fr_]
           rfl
          refine one_ (i := 2) (N := some 55) #[t_,t_,t_,t_,t_,f_,f_,f_,f_,f_,f_,f_,f_,f_,f_,f_,f_,f_,f_,f_,f_,f_,f_,f_,f_,f_,f_,f_,f_,f_,f_,f_,f_,f_,f_,f_,f_,f_,f_,f_,f_,f_,f_,f_,f_,f_,f_,f_,f_,f_,f_,f_,f_,f_,f_,f_,f_,f_,f_,f_,f_,f_,f_,f_,f_,f_,f_,f_,f_,f_,f_,f_,f_,f_,f_,f_] rfl rfl (one_of HT_.out (by kernel_rfl)) (by decide) (fun K hK => ?_)
          refine goes_ Try.func23 (by kernel_rfl) rfl #[.slice Ao70 t893.length co70, .agg #[.int .i64 t896, .int .i64 t897]] (by rfl) rfl rfl (by (try simp only [mp_]); first | done | rfl | (simp only [List.length_drop, List.length_take]; rfl)) ?_
          with_reducible refine (impl_HeapPut.calls k _ _ t893 t896 t897 t932 _ ?side1 ?side2 A12.out).mono ?_
          (case side1 => repeat (first | exact (Kd.R_reads' HO895.out).2.2 | (with_reducible first | refine ca_ ?_ _ | refine cn_ ?_ _ | refine cd_ ?_)))
          (case side2 => exact (Kd.R_reads' HO895.out).2.1)
          rintro e w71 ⟨v933, rfl, ho0, hb⟩
          refine ⟨_, rfl, ?_⟩
          have n0_ := Aside0.mk (Kd.R_elder' (rp_ HO895.out) (Kd.R_base ho0) hb)
          have n1_ := Aside0.mk (Kd.R_elder' (rp_ HO901.out) (Kd.R_base ho0) hb)
          have n2_ := Aside0.mk (Kd.R_elder' (rp_ HO904.out) (Kd.R_base ho0) hb)
          have n3_ := Aside0.mk (Kd.R_elder' (rp_ HO911.out) (Kd.R_base ho0) hb)
          have n4_ := Aside0.mk (Kd.R_elder' (rp_ HO919.out) (Kd.R_base ho0) hb)
          have n5_ := Aside0.mk (Kd.R_elder' (rp_ HO922.out) (Kd.R_base ho0) hb)
          have n6_ := Aside0.mk (Kd.R_elder' (rp_ HO925.out) (Kd.R_base ho0) hb)
          have n7_ := Aside0.mk (Kd.R_lower (Kd.R_newB (Kd.R_newB (Kd.R_newB (Kd.R_newB (Kd.R_newB (Kd.R_new' (Kd.R_new' (Kd.R_new' (Kd.R_new' (Kd.R_new' (Kd.R_new' (Kd.R_new' ho0 (Kd.R_lt (rp_ HO895.out))) (Kd.R_lt (rp_ HO901.out))) (Kd.R_lt (rp_ HO904.out))) (Kd.R_lt (rp_ HO911.out))) (Kd.R_lt (rp_ HO919.out))) (Kd.R_lt (rp_ HO922.out))) (Kd.R_lt (rp_ HO925.out))) (g := gb898) (o := .cells #[.int .i64 t896, .int .i64 t897] 25 (0, 0)) (pb_ BK898.out)) (g := gb908) (o := .cells #[.int .i64 t905, .int .i64 t906] 25 (0, 0)) (pb_ BK908.out)) (g := gb915) (o := .cells #[.int .i64 t912, .int .i64 t913] 25 (0, 0)) (pb_ BK915.out)) (g := gb930) (o := .cells #[.int .i64 t926, .int .i64 t927] 25 (0, 0)) (pb_ BK930.out)) (g := gb931) (o := .cells #[.int .i64 t928, .int .i64 t929] 25 (0, 0)) (pb_ BK931.out)) (below_size (by repeat (first | (with_reducible first | exact HB.out | apply ba_ | apply bn_ | apply bd_ | refine below_set ?_ GE898.out | refine below_set ?_ GE908.out | refine below_set ?_ GE915.out | refine below_set ?_ GE930.out | refine below_set ?_ GE931.out) | exact HB.out))))
          have n8_ := Aside0.mk (bb_ BK898.out hb)
          have n9_ := Aside0.mk (bb_ BK908.out hb)
          have n10_ := Aside0.mk (bb_ BK915.out hb)
          have n11_ := Aside0.mk (bb_ BK930.out hb)
          have n12_ := Aside0.mk (bb_ BK931.out hb)
          have n13_ := Aside0.mk (below_step (by repeat (first | (with_reducible first | exact HB.out | apply ba_ | apply bn_ | apply bd_ | refine below_set ?_ GE898.out | refine below_set ?_ GE908.out | refine below_set ?_ GE915.out | refine below_set ?_ GE930.out | refine below_set ?_ GE931.out) | exact HB.out)) hb)
          clear HO895 HO901 HO904 HO911 HO919 HO922 HO925 BK898 BK908 BK915 BK930 BK931 HB
          have HO895 := n0_
          have HO901 := n1_
          have HO904 := n2_
          have HO911 := n3_
          have HO919 := n4_
          have HO922 := n5_
          have HO925 := n6_
          have HO934 := n7_
          have BK898 := n8_
          have BK908 := n9_
          have BK915 := n10_
          have BK930 := n11_
          have BK931 := n12_
          have HB := n13_
          clear n0_ n1_ n2_ n3_ n4_ n5_ n6_ n7_ n8_ n9_ n10_ n11_ n12_ n13_
          (try clear hb)
          (try clear hb2)
          (try clear hk)
          (try clear hi)
          (try clear ho0)
          refine hK.out _ _ ⟨bx_ BK898.out 0, bx_ BK898.out 1, bx_ BK908.out 0, bx_ BK908.out 1, bx_ BK915.out 0, bx_ BK915.out 1, bx_ BK930.out 0, bx_ BK930.out 1, bx_ BK931.out 0, bx_ BK931.out 1⟩ (fun hHeld => ?_)
          clear hK K
          refine norm_ (a' := ?_) ?_ ?_
          rotate_left
          ·
           show Act.put _ (some 55) _ = _
           simp only [fr_]
           rfl
          refine one_ (i := 5) (N := some 58) #[t_,t_,t_,t_,t_,t_,f_,f_,f_,f_,f_,f_,f_,f_,f_,f_,f_,f_,f_,f_,f_,f_,f_,f_,f_,f_,f_,f_,f_,f_,f_,f_,f_,f_,f_,f_,f_,f_,f_,f_,f_,f_,f_,f_,f_,f_,f_,f_,f_,f_,f_,f_,f_,f_,f_,f_,f_,f_,f_,f_,f_,f_,f_,f_,f_,f_,f_,f_,f_,f_,f_,f_,f_,f_,f_,f_] rfl rfl (one_of HT_.out (by kernel_rfl)) (by decide) (fun K hK => ?_)
          refine goes_ Try.func22 (by kernel_rfl) rfl #[.slice Ao70 t893.length co70, .agg #[.int .i64 t896, .int .i64 t897]] (by rfl) rfl rfl (by (try simp only [mp_]); first | done | rfl | (simp only [List.length_drop, List.length_take]; rfl)) ?_
          with_reducible refine (spec_HeapPut.calls k _ _ t893 t896 t897 t935 _ ?side1 ?side2 A13.out).mono ?_
          (case side1 => repeat (first | exact (Kd.R_reads' HO895.out).2.2 | (with_reducible first | refine ca_ ?_ _ | refine cn_ ?_ _ | refine cd_ ?_)))
          (case side2 => exact (Kd.R_reads' HO895.out).2.1)
          rintro e w72 ⟨v936, rfl, ho0, hb⟩
          refine ⟨_, rfl, ?_⟩
          have n0_ := Aside0.mk (Kd.R_elder' (rp_ HO895.out) (Kd.R_base ho0) hb)
          have n1_ := Aside0.mk (Kd.R_elder' (rp_ HO901.out) (Kd.R_base ho0) hb)
          have n2_ := Aside0.mk (Kd.R_elder' (rp_ HO904.out) (Kd.R_base ho0) hb)
          have n3_ := Aside0.mk (Kd.R_elder' (rp_ HO911.out) (Kd.R_base ho0) hb)
          have n4_ := Aside0.mk (Kd.R_elder' (rp_ HO919.out) (Kd.R_base ho0) hb)
          have n5_ := Aside0.mk (Kd.R_elder' (rp_ HO922.out) (Kd.R_base ho0) hb)
          have n6_ := Aside0.mk (Kd.R_elder' (rp_ HO925.out) (Kd.R_base ho0) hb)
          have n7_ := Aside0.mk (Kd.R_elder' (rp_ HO934.out) (Kd.R_base ho0) hb)
          have n8_ := Aside0.mk (Kd.R_lower (Kd.R_newB (Kd.R_newB (Kd.R_newB (Kd.R_newB (Kd.R_newB (Kd.R_new' (Kd.R_new' (Kd.R_new' (Kd.R_new' (Kd.R_new' (Kd.R_new' (Kd.R_new' (Kd.R_new' ho0 (Kd.R_lt (rp_ HO895.out))) (Kd.R_lt (rp_ HO901.out))) (Kd.R_lt (rp_ HO904.out))) (Kd.R_lt (rp_ HO911.out))) (Kd.R_lt (rp_ HO919.out))) (Kd.R_lt (rp_ HO922.out))) (Kd.R_lt (rp_ HO925.out))) (Kd.R_lt (rp_ HO934.out))) (g := gb898) (o := .cells #[.int .i64 t896, .int .i64 t897] 25 (0, 0)) (pb_ BK898.out)) (g := gb908) (o := .cells #[.int .i64 t905, .int .i64 t906] 25 (0, 0)) (pb_ BK908.out)) (g := gb915) (o := .cells #[.int .i64 t912, .int .i64 t913] 25 (0, 0)) (pb_ BK915.out)) (g := gb930) (o := .cells #[.int .i64 t926, .int .i64 t927] 25 (0, 0)) (pb_ BK930.out)) (g := gb931) (o := .cells #[.int .i64 t928, .int .i64 t929] 25 (0, 0)) (pb_ BK931.out)) (below_size (by repeat (first | (with_reducible first | exact HB.out | apply ba_ | apply bn_ | apply bd_ | refine below_set ?_ GE898.out | refine below_set ?_ GE908.out | refine below_set ?_ GE915.out | refine below_set ?_ GE930.out | refine below_set ?_ GE931.out) | exact HB.out))))
          have n9_ := Aside0.mk (bb_ BK898.out hb)
          have n10_ := Aside0.mk (bb_ BK908.out hb)
          have n11_ := Aside0.mk (bb_ BK915.out hb)
          have n12_ := Aside0.mk (bb_ BK930.out hb)
          have n13_ := Aside0.mk (bb_ BK931.out hb)
          have n14_ := Aside0.mk (below_step (by repeat (first | (with_reducible first | exact HB.out | apply ba_ | apply bn_ | apply bd_ | refine below_set ?_ GE898.out | refine below_set ?_ GE908.out | refine below_set ?_ GE915.out | refine below_set ?_ GE930.out | refine below_set ?_ GE931.out) | exact HB.out)) hb)
          clear HO895 HO901 HO904 HO911 HO919 HO922 HO925 HO934 BK898 BK908 BK915 BK930 BK931 HB
          have HO895 := n0_
          have HO901 := n1_
          have HO904 := n2_
          have HO911 := n3_
          have HO919 := n4_
          have HO922 := n5_
          have HO925 := n6_
          have HO934 := n7_
          have HO937 := n8_
          have BK898 := n9_
          have BK908 := n10_
          have BK915 := n11_
          have BK930 := n12_
          have BK931 := n13_
          have HB := n14_
          clear n0_ n1_ n2_ n3_ n4_ n5_ n6_ n7_ n8_ n9_ n10_ n11_ n12_ n13_ n14_
          (try clear hb)
          (try clear hb2)
          (try clear hk)
          (try clear hi)
          (try clear ho0)
          obtain ⟨Ao73, co73, eo73⟩ := Kd.R_slice HO934.out
          (first | subst eo73 | (injection eo73 with f1_ f2_ f3_; have f4_ := f1_.symm; have f5_ := f3_.symm; clear f1_ f2_ f3_; subst f4_; subst f5_))
          obtain ⟨Ao74, co74, eo74⟩ := Kd.R_slice HO937.out
          (first | subst eo74 | (injection eo74 with f1_ f2_ f3_; have f4_ := f1_.symm; have f5_ := f3_.symm; clear f1_ f2_ f3_; subst f4_; subst f5_))
          refine hK.out _ _ ⟨bx_ BK898.out 0, bx_ BK898.out 1, bx_ BK908.out 0, bx_ BK908.out 1, bx_ BK915.out 0, bx_ BK915.out 1, bx_ BK930.out 0, bx_ BK930.out 1, bx_ BK931.out 0, bx_ BK931.out 1⟩ (fun hHeld => ?_)
          clear hK K
          refine norm_ (a' := ?_) ?_ ?_
          rotate_left
          ·
           show Act.put _ (some 58) _ = _
           simp only [fr_]
           rfl
          refine one_ (i := 6) (N := some 59) #[t_,t_,t_,t_,t_,t_,t_,f_,f_,f_,f_,f_,f_,f_,f_,f_,f_,f_,f_,f_,f_,f_,f_,f_,f_,f_,f_,f_,f_,f_,f_,f_,f_,f_,f_,f_,f_,f_,f_,f_,f_,f_,f_,f_,f_,f_,f_,f_,f_,f_,f_,f_,f_,f_,f_,f_,f_,f_,f_,f_,f_,f_,f_,f_,f_,f_,f_,f_,f_,f_,f_,f_,f_,f_,f_,f_] rfl rfl (one_of HT_.out (by kernel_rfl)) (by decide) (fun K hK => ?_)
          refine goes_ Try.func39 (by kernel_rfl) rfl #[.slice Ao73 t932.length co73, .slice Ao74 t935.length co74] (by rfl) rfl rfl (by (try simp only [mp_]); first | done | rfl | (simp only [List.length_drop, List.length_take]; rfl)) ?_
          with_reducible refine (laws_sameHeap.calls k _ _ t932 _ _ t935 true _ ?side1 ?side2 ?side3 ?side4 A14.out).mono ?_
          (case side1 => repeat (first | exact (Kd.R_reads' HO934.out).2.2 | (with_reducible first | refine ca_ ?_ _ | refine cn_ ?_ _ | refine cd_ ?_)))
          (case side2 => exact (Kd.R_reads' HO934.out).2.1)
          (case side3 => repeat (first | exact (Kd.R_reads' HO937.out).2.2 | (with_reducible first | refine ca_ ?_ _ | refine cn_ ?_ _ | refine cd_ ?_)))
          (case side4 => exact (Kd.R_reads' HO937.out).2.1)
          rintro e w' ⟨rfl, ⟨nd, rfl⟩⟩
          refine ⟨_, rfl, ?_⟩
          obtain ⟨Ao75, co75, eo75⟩ := Kd.R_slice HO904.out
          (first | subst eo75 | (injection eo75 with f1_ f2_ f3_; have f4_ := f1_.symm; have f5_ := f3_.symm; clear f1_ f2_ f3_; subst f4_; subst f5_))
          obtain ⟨Ao76, co76, eo76⟩ := Kd.R_slice HO911.out
          (first | subst eo76 | (injection eo76 with f1_ f2_ f3_; have f4_ := f1_.symm; have f5_ := f3_.symm; clear f1_ f2_ f3_; subst f4_; subst f5_))
          refine hK.out _ _ ⟨bx_ BK898.out 0, bx_ BK898.out 1, bx_ BK908.out 0, bx_ BK908.out 1, bx_ BK915.out 0, bx_ BK915.out 1, bx_ BK930.out 0, bx_ BK930.out 1, bx_ BK931.out 0, bx_ BK931.out 1⟩ (fun hHeld => ?_)
          clear hK K
          refine norm_ (a' := ?_) ?_ ?_
          rotate_left
          ·
           show Act.put _ (some 59) _ = _
           simp only [fr_]
           rfl
          refine pu_ 7 60 ?_ (b_ 8 68) rfl rfl HT_.out ?_ ?_ ?_ ?_; rotate_left; intro w'; go_simp; with_reducible rfl; rotate_left; simp only [fr_]; rfl
          refine pu_ 8 61 ?_ (b_ 9 67) rfl rfl HT_.out ?_ ?_ ?_ ?_; rotate_left; intro w'; go_simp; with_reducible rfl; rotate_left; simp only [fr_]; rfl
          refine pu_ 9 62 ?_ (b_ 10 66) rfl rfl HT_.out ?_ ?_ ?_ ?_; rotate_left; intro w'; go_simp; with_reducible rfl; rotate_left; simp only [fr_]; rfl
          refine one_ (i := 10) (N := some 63) #[t_,t_,t_,t_,t_,t_,t_,t_,t_,t_,t_,f_,f_,f_,f_,f_,f_,f_,f_,f_,f_,f_,f_,f_,f_,f_,f_,f_,f_,f_,f_,f_,f_,f_,f_,f_,f_,f_,f_,f_,f_,f_,f_,f_,f_,f_,f_,f_,f_,f_,f_,f_,f_,f_,f_,f_,f_,f_,f_,f_,f_,f_,f_,f_,f_,f_,f_,f_,f_,f_,f_,f_,f_,f_,f_,f_] rfl rfl (one_of HT_.out (by kernel_rfl)) (by decide) (fun K hK => ?_)
          refine goes_ Try.func39 (by kernel_rfl) rfl #[.slice Ao75 t902.length co75, .slice Ao76 t909.length co76] (by rfl) rfl rfl (by (try simp only [mp_]); first | done | rfl | (simp only [List.length_drop, List.length_take]; rfl)) ?_
          with_reducible refine (laws_sameHeap.calls k _ _ t902 _ _ t909 true _ ?side1 ?side2 ?side3 ?side4 A16.out).mono ?_
          (case side1 => repeat (first | exact (Kd.R_reads' HO904.out).2.2 | (with_reducible first | refine ca_ ?_ _ | refine cn_ ?_ _ | refine cd_ ?_)))
          (case side2 => exact (Kd.R_reads' HO904.out).2.1)
          (case side3 => repeat (first | exact (Kd.R_reads' HO911.out).2.2 | (with_reducible first | refine ca_ ?_ _ | refine cn_ ?_ _ | refine cd_ ?_)))
          (case side4 => exact (Kd.R_reads' HO911.out).2.1)
          rintro e w' ⟨rfl, ⟨nd, rfl⟩⟩
          refine ⟨_, rfl, ?_⟩
          obtain ⟨Ao77, co77, eo77⟩ := Kd.R_slice HO919.out
          (first | subst eo77 | (injection eo77 with f1_ f2_ f3_; have f4_ := f1_.symm; have f5_ := f3_.symm; clear f1_ f2_ f3_; subst f4_; subst f5_))
          refine hK.out _ _ ⟨bx_ BK898.out 0, bx_ BK898.out 1, bx_ BK908.out 0, bx_ BK908.out 1, bx_ BK915.out 0, bx_ BK915.out 1, bx_ BK930.out 0, bx_ BK930.out 1, bx_ BK931.out 0, bx_ BK931.out 1⟩ (fun hHeld => ?_)
          clear hK K
          refine norm_ (a' := ?_) ?_ ?_
          rotate_left
          ·
           show Act.put _ (some 63) _ = _
           simp only [fr_]
           rfl
          refine pu_ 11 64 ?_ (b_ 12 64) rfl rfl HT_.out ?_ ?_ ?_ ?_; rotate_left; intro w'; go_simp; with_reducible rfl; rotate_left; simp only [fr_]; rfl
          refine pu_ 12 65 ?_ (b_ 13 63) rfl rfl HT_.out ?_ ?_ ?_ ?_; rotate_left; intro w'; go_simp; with_reducible rfl; rotate_left; simp only [fr_]; rfl
          refine take_ (i := 13) (N := some 66) (v := ?_) (a' := ?_) #[t_,t_,t_,t_,t_,t_,t_,t_,t_,t_,t_,t_,t_,t_,f_,f_,f_,f_,f_,f_,f_,f_,f_,f_,f_,f_,f_,f_,f_,f_,f_,f_,f_,f_,f_,f_,f_,f_,f_,f_,f_,f_,f_,f_,f_,f_,f_,f_,f_,f_,f_,f_,f_,f_,f_,f_,f_,f_,f_,f_,f_,f_,f_,f_,f_,f_,f_,f_,f_,f_,f_,f_,f_,f_,f_,f_] rfl rfl (take_ofW HT_.out HW_.out (by kernel_rfl)) (fun _ _ _ h => h) (Or.inl ⟨by rfl, ?_⟩) hHeld ?_ ?_
          rotate_left
          ·
           rintro w' ⟨s0, s1, s2, s3, s4, s5, s6, s7, s8, s9⟩
           go_simp
           with_reducible rfl
          rotate_left
          ·
           simp only [fr_]
           rfl
          refine take_ (i := 14) (N := some 67) (v := ?_) (a' := ?_) #[t_,t_,t_,t_,t_,t_,t_,t_,t_,t_,t_,t_,t_,t_,t_,f_,f_,f_,f_,f_,f_,f_,f_,f_,f_,f_,f_,f_,f_,f_,f_,f_,f_,f_,f_,f_,f_,f_,f_,f_,f_,f_,f_,f_,f_,f_,f_,f_,f_,f_,f_,f_,f_,f_,f_,f_,f_,f_,f_,f_,f_,f_,f_,f_,f_,f_,f_,f_,f_,f_,f_,f_,f_,f_,f_,f_] rfl rfl (take_ofW HT_.out HW_.out (by kernel_rfl)) (fun _ _ _ h => h) (Or.inl ⟨by rfl, ?_⟩) hHeld ?_ ?_
          rotate_left
          ·
           rintro w' ⟨s0, s1, s2, s3, s4, s5, s6, s7, s8, s9⟩
           go_simp
           with_reducible rfl
          rotate_left
          ·
           simp only [fr_]
           rfl
          refine pu_ 15 68 ?_ (b_ 16 60) rfl rfl HT_.out ?_ ?_ ?_ ?_; rotate_left; intro w'; go_simp; with_reducible rfl; rotate_left; simp only [fr_]; rfl
          refine pu_ 16 69 ?_ (b_ 17 59) rfl rfl HT_.out ?_ ?_ ?_ ?_; rotate_left; intro w'; go_simp; with_reducible rfl; rotate_left; simp only [fr_]; rfl
          refine pu_ 17 70 ?_ (b_ 18 58) rfl rfl HT_.out ?_ ?_ ?_ ?_; rotate_left; intro w'; go_simp; with_reducible rfl; rotate_left; simp only [fr_]; rfl
          refine pu_ 18 71 ?_ (b_ 19 57) rfl rfl HT_.out ?_ ?_ ?_ ?_; rotate_left; intro w'; go_simp; with_reducible rfl; rotate_left; simp only [fr_]; rfl
          refine pu_ 19 72 ?_ (b_ 20 56) rfl rfl HT_.out ?_ ?_ ?_ ?_; rotate_left; intro w'; go_simp; with_reducible rfl; rotate_left; simp only [fr_]; rfl
          refine pu_ 20 73 ?_ (b_ 21 55) rfl rfl HT_.out ?_ ?_ ?_ ?_; rotate_left; intro w'; go_simp; with_reducible rfl; rotate_left; simp only [fr_]; rfl
          refine pu_ 21 74 ?_ (b_ 22 54) rfl rfl HT_.out ?_ ?_ ?_ ?_; rotate_left; intro w'; go_simp; with_reducible rfl; rotate_left; simp only [fr_]; rfl
          refine pu_ 22 75 ?_ (b_ 23 53) rfl rfl HT_.out ?_ ?_ ?_ ?_; rotate_left; intro w'; go_simp; with_reducible rfl; rotate_left; simp only [fr_]; rfl
          refine pu_ 23 76 ?_ (b_ 24 52) rfl rfl HT_.out ?_ ?_ ?_ ?_; rotate_left; intro w'; go_simp; with_reducible rfl; rotate_left; simp only [fr_]; rfl
          refine pu_ 24 77 ?_ (b_ 25 51) rfl rfl HT_.out ?_ ?_ ?_ ?_; rotate_left; intro w'; go_simp; with_reducible rfl; rotate_left; simp only [fr_]; rfl
          refine pu_ 26 79 ?_ #[t_,t_,t_,t_,t_,t_,t_,t_,t_,t_,t_,t_,t_,t_,t_,t_,t_,t_,t_,t_,t_,t_,t_,t_,t_,f_,t_,f_,f_,f_,f_,f_,f_,f_,f_,f_,f_,f_,f_,f_,f_,f_,f_,f_,f_,f_,f_,f_,f_,f_,f_,f_,f_,f_,f_,f_,f_,f_,f_,f_,f_,f_,f_,f_,f_,f_,f_,f_,f_,f_,f_,f_,f_,f_,f_,f_] rfl rfl HT_.out ?_ ?_ ?_ ?_; rotate_left; intro w'; go_simp; with_reducible rfl; rotate_left; simp only [fr_]; rfl
          refine pu_ 27 80 ?_ #[t_,t_,t_,t_,t_,t_,t_,t_,t_,t_,t_,t_,t_,t_,t_,t_,t_,t_,t_,t_,t_,t_,t_,t_,t_,f_,t_,t_,f_,f_,f_,f_,f_,f_,f_,f_,f_,f_,f_,f_,f_,f_,f_,f_,f_,f_,f_,f_,f_,f_,f_,f_,f_,f_,f_,f_,f_,f_,f_,f_,f_,f_,f_,f_,f_,f_,f_,f_,f_,f_,f_,f_,f_,f_,f_,f_] rfl rfl HT_.out ?_ ?_ ?_ ?_; rotate_left; intro w'; go_simp; with_reducible rfl; rotate_left; simp only [fr_]; rfl
          refine one_ (i := 25) (N := some 78) #[t_,t_,t_,t_,t_,t_,t_,t_,t_,t_,t_,t_,t_,t_,t_,t_,t_,t_,t_,t_,t_,t_,t_,t_,t_,t_,t_,t_,f_,f_,f_,f_,f_,f_,f_,f_,f_,f_,f_,f_,f_,f_,f_,f_,f_,f_,f_,f_,f_,f_,f_,f_,f_,f_,f_,f_,f_,f_,f_,f_,f_,f_,f_,f_,f_,f_,f_,f_,f_,f_,f_,f_,f_,f_,f_,f_] rfl rfl (one_of HT_.out (by kernel_rfl)) (by decide) (fun K hK => ?_)
          refine goes_ Try.func32 (by kernel_rfl) rfl #[.slice Ao77 t916.length co77, .int .i64 t917] (by rfl) rfl rfl (by (try simp only [mp_]); first | done | rfl | (simp only [List.length_drop, List.length_take]; rfl)) ?_
          with_reducible refine (impl_HeapDrop.calls k _ _ t916 t917 t940 _ ?side1 ?side2 A20.out).mono ?_
          (case side1 => repeat (first | exact (Kd.R_reads' HO919.out).2.2 | (with_reducible first | refine ca_ ?_ _ | refine cn_ ?_ _ | refine cd_ ?_)))
          (case side2 => exact (Kd.R_reads' HO919.out).2.1)
          rintro e w78 ⟨v941, rfl, ho0, hb⟩
          refine ⟨_, rfl, ?_⟩
          have n0_ := Aside0.mk (Kd.R_elder' (rp_ HO895.out) (Kd.R_base ho0) hb)
          have n1_ := Aside0.mk (Kd.R_elder' (rp_ HO901.out) (Kd.R_base ho0) hb)
          have n2_ := Aside0.mk (Kd.R_elder' (rp_ HO904.out) (Kd.R_base ho0) hb)
          have n3_ := Aside0.mk (Kd.R_elder' (rp_ HO911.out) (Kd.R_base ho0) hb)
          have n4_ := Aside0.mk (Kd.R_elder' (rp_ HO919.out) (Kd.R_base ho0) hb)
          have n5_ := Aside0.mk (Kd.R_elder' (rp_ HO922.out) (Kd.R_base ho0) hb)
          have n6_ := Aside0.mk (Kd.R_elder' (rp_ HO925.out) (Kd.R_base ho0) hb)
          have n7_ := Aside0.mk (Kd.R_elder' (rp_ HO934.out) (Kd.R_base ho0) hb)
          have n8_ := Aside0.mk (Kd.R_elder' (rp_ HO937.out) (Kd.R_base ho0) hb)
          have n9_ := Aside0.mk (Kd.R_lower (Kd.R_newB (Kd.R_newB (Kd.R_newB (Kd.R_newB (Kd.R_newB (Kd.R_new' (Kd.R_new' (Kd.R_new' (Kd.R_new' (Kd.R_new' (Kd.R_new' (Kd.R_new' (Kd.R_new' (Kd.R_new' ho0 (Kd.R_lt (rp_ HO895.out))) (Kd.R_lt (rp_ HO901.out))) (Kd.R_lt (rp_ HO904.out))) (Kd.R_lt (rp_ HO911.out))) (Kd.R_lt (rp_ HO919.out))) (Kd.R_lt (rp_ HO922.out))) (Kd.R_lt (rp_ HO925.out))) (Kd.R_lt (rp_ HO934.out))) (Kd.R_lt (rp_ HO937.out))) (g := gb898) (o := .cells #[.int .i64 t896, .int .i64 t897] 25 (0, 0)) (pb_ BK898.out)) (g := gb908) (o := .cells #[.int .i64 t905, .int .i64 t906] 25 (0, 0)) (pb_ BK908.out)) (g := gb915) (o := .cells #[.int .i64 t912, .int .i64 t913] 25 (0, 0)) (pb_ BK915.out)) (g := gb930) (o := .cells #[.int .i64 t926, .int .i64 t927] 25 (0, 0)) (pb_ BK930.out)) (g := gb931) (o := .cells #[.int .i64 t928, .int .i64 t929] 25 (0, 0)) (pb_ BK931.out)) (below_size (by repeat (first | (with_reducible first | exact HB.out | apply ba_ | apply bn_ | apply bd_ | refine below_set ?_ GE898.out | refine below_set ?_ GE908.out | refine below_set ?_ GE915.out | refine below_set ?_ GE930.out | refine below_set ?_ GE931.out) | exact HB.out))))
          have n10_ := Aside0.mk (bb_ BK898.out hb)
          have n11_ := Aside0.mk (bb_ BK908.out hb)
          have n12_ := Aside0.mk (bb_ BK915.out hb)
          have n13_ := Aside0.mk (bb_ BK930.out hb)
          have n14_ := Aside0.mk (bb_ BK931.out hb)
          have n15_ := Aside0.mk (below_step (by repeat (first | (with_reducible first | exact HB.out | apply ba_ | apply bn_ | apply bd_ | refine below_set ?_ GE898.out | refine below_set ?_ GE908.out | refine below_set ?_ GE915.out | refine below_set ?_ GE930.out | refine below_set ?_ GE931.out) | exact HB.out)) hb)
          clear HO895 HO901 HO904 HO911 HO919 HO922 HO925 HO934 HO937 BK898 BK908 BK915 BK930 BK931 HB
          have HO895 := n0_
          have HO901 := n1_
          have HO904 := n2_
          have HO911 := n3_
          have HO919 := n4_
          have HO922 := n5_
          have HO925 := n6_
          have HO934 := n7_
          have HO937 := n8_
          have HO942 := n9_
          have BK898 := n10_
          have BK908 := n11_
          have BK915 := n12_
          have BK930 := n13_
          have BK931 := n14_
          have HB := n15_
          clear n0_ n1_ n2_ n3_ n4_ n5_ n6_ n7_ n8_ n9_ n10_ n11_ n12_ n13_ n14_ n15_
          (try clear hb)
          (try clear hb2)
          (try clear hk)
          (try clear hi)
          (try clear ho0)
          refine hK.out _ _ ⟨bx_ BK898.out 0, bx_ BK898.out 1, bx_ BK908.out 0, bx_ BK908.out 1, bx_ BK915.out 0, bx_ BK915.out 1, bx_ BK930.out 0, bx_ BK930.out 1, bx_ BK931.out 0, bx_ BK931.out 1⟩ (fun hHeld => ?_)
          clear hK K
          refine norm_ (a' := ?_) ?_ ?_
          rotate_left
          ·
           show Act.put _ (some 78) _ = _
           simp only [fr_]
           rfl
          refine one_ (i := 28) (N := some 81) #[t_,t_,t_,t_,t_,t_,t_,t_,t_,t_,t_,t_,t_,t_,t_,t_,t_,t_,t_,t_,t_,t_,t_,t_,t_,t_,t_,t_,t_,f_,f_,f_,f_,f_,f_,f_,f_,f_,f_,f_,f_,f_,f_,f_,f_,f_,f_,f_,f_,f_,f_,f_,f_,f_,f_,f_,f_,f_,f_,f_,f_,f_,f_,f_,f_,f_,f_,f_,f_,f_,f_,f_,f_,f_,f_,f_] rfl rfl (one_of HT_.out (by kernel_rfl)) (by decide) (fun K hK => ?_)
          refine goes_ Try.func31 (by kernel_rfl) rfl #[.slice Ao77 t916.length co77, .int .i64 t917] (by rfl) rfl rfl (by (try simp only [mp_]); first | done | rfl | (simp only [List.length_drop, List.length_take]; rfl)) ?_
          with_reducible refine (spec_HeapDrop.calls k _ _ t916 t917 t943 _ ?side1 ?side2 A21.out).mono ?_
          (case side1 => repeat (first | exact (Kd.R_reads' HO919.out).2.2 | (with_reducible first | refine ca_ ?_ _ | refine cn_ ?_ _ | refine cd_ ?_)))
          (case side2 => exact (Kd.R_reads' HO919.out).2.1)
          rintro e w79 ⟨v944, rfl, ho0, hb⟩
          refine ⟨_, rfl, ?_⟩
          have n0_ := Aside0.mk (Kd.R_elder' (rp_ HO895.out) (Kd.R_base ho0) hb)
          have n1_ := Aside0.mk (Kd.R_elder' (rp_ HO901.out) (Kd.R_base ho0) hb)
          have n2_ := Aside0.mk (Kd.R_elder' (rp_ HO904.out) (Kd.R_base ho0) hb)
          have n3_ := Aside0.mk (Kd.R_elder' (rp_ HO911.out) (Kd.R_base ho0) hb)
          have n4_ := Aside0.mk (Kd.R_elder' (rp_ HO919.out) (Kd.R_base ho0) hb)
          have n5_ := Aside0.mk (Kd.R_elder' (rp_ HO922.out) (Kd.R_base ho0) hb)
          have n6_ := Aside0.mk (Kd.R_elder' (rp_ HO925.out) (Kd.R_base ho0) hb)
          have n7_ := Aside0.mk (Kd.R_elder' (rp_ HO934.out) (Kd.R_base ho0) hb)
          have n8_ := Aside0.mk (Kd.R_elder' (rp_ HO937.out) (Kd.R_base ho0) hb)
          have n9_ := Aside0.mk (Kd.R_elder' (rp_ HO942.out) (Kd.R_base ho0) hb)
          have n10_ := Aside0.mk (Kd.R_lower (Kd.R_newB (Kd.R_newB (Kd.R_newB (Kd.R_newB (Kd.R_newB (Kd.R_new' (Kd.R_new' (Kd.R_new' (Kd.R_new' (Kd.R_new' (Kd.R_new' (Kd.R_new' (Kd.R_new' (Kd.R_new' (Kd.R_new' ho0 (Kd.R_lt (rp_ HO895.out))) (Kd.R_lt (rp_ HO901.out))) (Kd.R_lt (rp_ HO904.out))) (Kd.R_lt (rp_ HO911.out))) (Kd.R_lt (rp_ HO919.out))) (Kd.R_lt (rp_ HO922.out))) (Kd.R_lt (rp_ HO925.out))) (Kd.R_lt (rp_ HO934.out))) (Kd.R_lt (rp_ HO937.out))) (Kd.R_lt (rp_ HO942.out))) (g := gb898) (o := .cells #[.int .i64 t896, .int .i64 t897] 25 (0, 0)) (pb_ BK898.out)) (g := gb908) (o := .cells #[.int .i64 t905, .int .i64 t906] 25 (0, 0)) (pb_ BK908.out)) (g := gb915) (o := .cells #[.int .i64 t912, .int .i64 t913] 25 (0, 0)) (pb_ BK915.out)) (g := gb930) (o := .cells #[.int .i64 t926, .int .i64 t927] 25 (0, 0)) (pb_ BK930.out)) (g := gb931) (o := .cells #[.int .i64 t928, .int .i64 t929] 25 (0, 0)) (pb_ BK931.out)) (below_size (by repeat (first | (with_reducible first | exact HB.out | apply ba_ | apply bn_ | apply bd_ | refine below_set ?_ GE898.out | refine below_set ?_ GE908.out | refine below_set ?_ GE915.out | refine below_set ?_ GE930.out | refine below_set ?_ GE931.out) | exact HB.out))))
          have n11_ := Aside0.mk (bb_ BK898.out hb)
          have n12_ := Aside0.mk (bb_ BK908.out hb)
          have n13_ := Aside0.mk (bb_ BK915.out hb)
          have n14_ := Aside0.mk (bb_ BK930.out hb)
          have n15_ := Aside0.mk (bb_ BK931.out hb)
          have n16_ := Aside0.mk (below_step (by repeat (first | (with_reducible first | exact HB.out | apply ba_ | apply bn_ | apply bd_ | refine below_set ?_ GE898.out | refine below_set ?_ GE908.out | refine below_set ?_ GE915.out | refine below_set ?_ GE930.out | refine below_set ?_ GE931.out) | exact HB.out)) hb)
          clear HO895 HO901 HO904 HO911 HO919 HO922 HO925 HO934 HO937 HO942 BK898 BK908 BK915 BK930 BK931 HB
          have HO895 := n0_
          have HO901 := n1_
          have HO904 := n2_
          have HO911 := n3_
          have HO919 := n4_
          have HO922 := n5_
          have HO925 := n6_
          have HO934 := n7_
          have HO937 := n8_
          have HO942 := n9_
          have HO945 := n10_
          have BK898 := n11_
          have BK908 := n12_
          have BK915 := n13_
          have BK930 := n14_
          have BK931 := n15_
          have HB := n16_
          clear n0_ n1_ n2_ n3_ n4_ n5_ n6_ n7_ n8_ n9_ n10_ n11_ n12_ n13_ n14_ n15_ n16_
          (try clear hb)
          (try clear hb2)
          (try clear hk)
          (try clear hi)
          (try clear ho0)
          obtain ⟨Ao80, co80, eo80⟩ := Kd.R_slice HO942.out
          (first | subst eo80 | (injection eo80 with f1_ f2_ f3_; have f4_ := f1_.symm; have f5_ := f3_.symm; clear f1_ f2_ f3_; subst f4_; subst f5_))
          obtain ⟨Ao81, co81, eo81⟩ := Kd.R_slice HO945.out
          (first | subst eo81 | (injection eo81 with f1_ f2_ f3_; have f4_ := f1_.symm; have f5_ := f3_.symm; clear f1_ f2_ f3_; subst f4_; subst f5_))
          refine hK.out _ _ ⟨bx_ BK898.out 0, bx_ BK898.out 1, bx_ BK908.out 0, bx_ BK908.out 1, bx_ BK915.out 0, bx_ BK915.out 1, bx_ BK930.out 0, bx_ BK930.out 1, bx_ BK931.out 0, bx_ BK931.out 1⟩ (fun hHeld => ?_)
          clear hK K
          refine norm_ (a' := ?_) ?_ ?_
          rotate_left
          ·
           show Act.put _ (some 81) _ = _
           simp only [fr_]
           rfl
          refine one_ (i := 29) (N := some 82) #[t_,t_,t_,t_,t_,t_,t_,t_,t_,t_,t_,t_,t_,t_,t_,t_,t_,t_,t_,t_,t_,t_,t_,t_,t_,t_,t_,t_,t_,t_,f_,f_,f_,f_,f_,f_,f_,f_,f_,f_,f_,f_,f_,f_,f_,f_,f_,f_,f_,f_,f_,f_,f_,f_,f_,f_,f_,f_,f_,f_,f_,f_,f_,f_,f_,f_,f_,f_,f_,f_,f_,f_,f_,f_,f_,f_] rfl rfl (one_of HT_.out (by kernel_rfl)) (by decide) (fun K hK => ?_)
          refine goes_ Try.func39 (by kernel_rfl) rfl #[.slice Ao80 t940.length co80, .slice Ao81 t943.length co81] (by rfl) rfl rfl (by (try simp only [mp_]); first | done | rfl | (simp only [List.length_drop, List.length_take]; rfl)) ?_
          with_reducible refine (laws_sameHeap.calls k _ _ t940 _ _ t943 true _ ?side1 ?side2 ?side3 ?side4 A22.out).mono ?_
          (case side1 => repeat (first | exact (Kd.R_reads' HO942.out).2.2 | (with_reducible first | refine ca_ ?_ _ | refine cn_ ?_ _ | refine cd_ ?_)))
          (case side2 => exact (Kd.R_reads' HO942.out).2.1)
          (case side3 => repeat (first | exact (Kd.R_reads' HO945.out).2.2 | (with_reducible first | refine ca_ ?_ _ | refine cn_ ?_ _ | refine cd_ ?_)))
          (case side4 => exact (Kd.R_reads' HO945.out).2.1)
          rintro e w' ⟨rfl, ⟨nd, rfl⟩⟩
          refine ⟨_, rfl, ?_⟩
          obtain ⟨Ao82, co82, eo82⟩ := Kd.R_slice HO922.out
          (first | subst eo82 | (injection eo82 with f1_ f2_ f3_; have f4_ := f1_.symm; have f5_ := f3_.symm; clear f1_ f2_ f3_; subst f4_; subst f5_))
          refine hK.out _ _ ⟨bx_ BK898.out 0, bx_ BK898.out 1, bx_ BK908.out 0, bx_ BK908.out 1, bx_ BK915.out 0, bx_ BK915.out 1, bx_ BK930.out 0, bx_ BK930.out 1, bx_ BK931.out 0, bx_ BK931.out 1⟩ (fun hHeld => ?_)
          clear hK K
          refine norm_ (a' := ?_) ?_ ?_
          rotate_left
          ·
           show Act.put _ (some 82) _ = _
           simp only [fr_]
           rfl
          refine pu_ 30 83 ?_ (b_ 31 45) rfl rfl HT_.out ?_ ?_ ?_ ?_; rotate_left; intro w'; go_simp; with_reducible rfl; rotate_left; simp only [fr_]; rfl
          refine pu_ 31 84 ?_ (b_ 32 44) rfl rfl HT_.out ?_ ?_ ?_ ?_; rotate_left; intro w'; go_simp; with_reducible rfl; rotate_left; simp only [fr_]; rfl
          refine pu_ 32 85 ?_ (b_ 33 43) rfl rfl HT_.out ?_ ?_ ?_ ?_; rotate_left; intro w'; go_simp; with_reducible rfl; rotate_left; simp only [fr_]; rfl
          refine pu_ 34 87 ?_ #[t_,t_,t_,t_,t_,t_,t_,t_,t_,t_,t_,t_,t_,t_,t_,t_,t_,t_,t_,t_,t_,t_,t_,t_,t_,t_,t_,t_,t_,t_,t_,t_,t_,f_,t_,f_,f_,f_,f_,f_,f_,f_,f_,f_,f_,f_,f_,f_,f_,f_,f_,f_,f_,f_,f_,f_,f_,f_,f_,f_,f_,f_,f_,f_,f_,f_,f_,f_,f_,f_,f_,f_,f_,f_,f_,f_] rfl rfl HT_.out ?_ ?_ ?_ ?_; rotate_left; intro w'; go_simp; with_reducible rfl; rotate_left; simp only [fr_]; rfl
          refine one_ (i := 33) (N := some 86) #[t_,t_,t_,t_,t_,t_,t_,t_,t_,t_,t_,t_,t_,t_,t_,t_,t_,t_,t_,t_,t_,t_,t_,t_,t_,t_,t_,t_,t_,t_,t_,t_,t_,t_,t_,f_,f_,f_,f_,f_,f_,f_,f_,f_,f_,f_,f_,f_,f_,f_,f_,f_,f_,f_,f_,f_,f_,f_,f_,f_,f_,f_,f_,f_,f_,f_,f_,f_,f_,f_,f_,f_,f_,f_,f_,f_] rfl rfl (one_of HT_.out (by kernel_rfl)) (by decide) (fun K hK => ?_)
          refine goes_ Try.func20 (by kernel_rfl) rfl #[.slice Ao82 t920.length co82] (by rfl) rfl rfl (by (try simp only [mp_]); first | done | rfl | (simp only [List.length_drop, List.length_take]; rfl)) ?_
          with_reducible refine (impl_HeapOk.calls k _ _ t920 t947 _ ?side1 ?side2 A24.out).mono ?_
          (case side1 => repeat (first | exact (Kd.R_reads' HO922.out).2.2 | (with_reducible first | refine ca_ ?_ _ | refine cn_ ?_ _ | refine cd_ ?_)))
          (case side2 => exact (Kd.R_reads' HO922.out).2.1)
          rintro e w83 ⟨rfl, hb⟩
          refine ⟨_, rfl, ?_⟩
          have n0_ := Aside0.mk (Kd.R_below (rp_ HO895.out) hb)
          have n1_ := Aside0.mk (Kd.R_below (rp_ HO901.out) hb)
          have n2_ := Aside0.mk (Kd.R_below (rp_ HO904.out) hb)
          have n3_ := Aside0.mk (Kd.R_below (rp_ HO911.out) hb)
          have n4_ := Aside0.mk (Kd.R_below (rp_ HO919.out) hb)
          have n5_ := Aside0.mk (Kd.R_below (rp_ HO922.out) hb)
          have n6_ := Aside0.mk (Kd.R_below (rp_ HO925.out) hb)
          have n7_ := Aside0.mk (Kd.R_below (rp_ HO934.out) hb)
          have n8_ := Aside0.mk (Kd.R_below (rp_ HO937.out) hb)
          have n9_ := Aside0.mk (Kd.R_below (rp_ HO942.out) hb)
          have n10_ := Aside0.mk (Kd.R_below (rp_ HO945.out) hb)
          have n11_ := Aside0.mk (bb_ BK898.out hb)
          have n12_ := Aside0.mk (bb_ BK908.out hb)
          have n13_ := Aside0.mk (bb_ BK915.out hb)
          have n14_ := Aside0.mk (bb_ BK930.out hb)
          have n15_ := Aside0.mk (bb_ BK931.out hb)
          have n16_ := Aside0.mk (below_step (by repeat (first | (with_reducible first | exact HB.out | apply ba_ | apply bn_ | apply bd_ | refine below_set ?_ GE898.out | refine below_set ?_ GE908.out | refine below_set ?_ GE915.out | refine below_set ?_ GE930.out | refine below_set ?_ GE931.out) | exact HB.out)) hb)
          clear HO895 HO901 HO904 HO911 HO919 HO922 HO925 HO934 HO937 HO942 HO945 BK898 BK908 BK915 BK930 BK931 HB
          have HO895 := n0_
          have HO901 := n1_
          have HO904 := n2_
          have HO911 := n3_
          have HO919 := n4_
          have HO922 := n5_
          have HO925 := n6_
          have HO934 := n7_
          have HO937 := n8_
          have HO942 := n9_
          have HO945 := n10_
          have BK898 := n11_
          have BK908 := n12_
          have BK915 := n13_
          have BK930 := n14_
          have BK931 := n15_
          have HB := n16_
          clear n0_ n1_ n2_ n3_ n4_ n5_ n6_ n7_ n8_ n9_ n10_ n11_ n12_ n13_ n14_ n15_ n16_
          (try clear hb)
          (try clear hb2)
          (try clear hk)
          (try clear hi)
          refine hK.out _ _ ⟨bx_ BK898.out 0, bx_ BK898.out 1, bx_ BK908.out 0, bx_ BK908.out 1, bx_ BK915.out 0, bx_ BK915.out 1, bx_ BK930.out 0, bx_ BK930.out 1, bx_ BK931.out 0, bx_ BK931.out 1⟩ (fun hHeld => ?_)
          clear hK K
          refine norm_ (a' := ?_) ?_ ?_
          rotate_left
          ·
           show Act.put _ (some 86) _ = _
           simp only [fr_]
           rfl
          refine one_ (i := 35) (N := some 88) #[t_,t_,t_,t_,t_,t_,t_,t_,t_,t_,t_,t_,t_,t_,t_,t_,t_,t_,t_,t_,t_,t_,t_,t_,t_,t_,t_,t_,t_,t_,t_,t_,t_,t_,t_,t_,f_,f_,f_,f_,f_,f_,f_,f_,f_,f_,f_,f_,f_,f_,f_,f_,f_,f_,f_,f_,f_,f_,f_,f_,f_,f_,f_,f_,f_,f_,f_,f_,f_,f_,f_,f_,f_,f_,f_,f_] rfl rfl (one_of HT_.out (by kernel_rfl)) (by decide) (fun K hK => ?_)
          refine goes_ Try.func18 (by kernel_rfl) rfl #[.slice Ao82 t920.length co82] (by rfl) rfl rfl (by (try simp only [mp_]); first | done | rfl | (simp only [List.length_drop, List.length_take]; rfl)) ?_
          with_reducible refine (spec_HeapOk.calls k _ _ t920 t948 _ ?side1 ?side2 A25.out).mono ?_
          (case side1 => repeat (first | exact (Kd.R_reads' HO922.out).2.2 | (with_reducible first | refine ca_ ?_ _ | refine cn_ ?_ _ | refine cd_ ?_)))
          (case side2 => exact (Kd.R_reads' HO922.out).2.1)
          rintro e w84 ⟨rfl, hb⟩
          refine ⟨_, rfl, ?_⟩
          have n0_ := Aside0.mk (Kd.R_below (rp_ HO895.out) hb)
          have n1_ := Aside0.mk (Kd.R_below (rp_ HO901.out) hb)
          have n2_ := Aside0.mk (Kd.R_below (rp_ HO904.out) hb)
          have n3_ := Aside0.mk (Kd.R_below (rp_ HO911.out) hb)
          have n4_ := Aside0.mk (Kd.R_below (rp_ HO919.out) hb)
          have n5_ := Aside0.mk (Kd.R_below (rp_ HO922.out) hb)
          have n6_ := Aside0.mk (Kd.R_below (rp_ HO925.out) hb)
          have n7_ := Aside0.mk (Kd.R_below (rp_ HO934.out) hb)
          have n8_ := Aside0.mk (Kd.R_below (rp_ HO937.out) hb)
          have n9_ := Aside0.mk (Kd.R_below (rp_ HO942.out) hb)
          have n10_ := Aside0.mk (Kd.R_below (rp_ HO945.out) hb)
          have n11_ := Aside0.mk (bb_ BK898.out hb)
          have n12_ := Aside0.mk (bb_ BK908.out hb)
          have n13_ := Aside0.mk (bb_ BK915.out hb)
          have n14_ := Aside0.mk (bb_ BK930.out hb)
          have n15_ := Aside0.mk (bb_ BK931.out hb)
          have n16_ := Aside0.mk (below_step (by repeat (first | (with_reducible first | exact HB.out | apply ba_ | apply bn_ | apply bd_ | refine below_set ?_ GE898.out | refine below_set ?_ GE908.out | refine below_set ?_ GE915.out | refine below_set ?_ GE930.out | refine below_set ?_ GE931.out) | exact HB.out)) hb)
          clear HO895 HO901 HO904 HO911 HO919 HO922 HO925 HO934 HO937 HO942 HO945 BK898 BK908 BK915 BK930 BK931 HB
          have HO895 := n0_
          have HO901 := n1_
          have HO904 := n2_
          have HO911 := n3_
          have HO919 := n4_
          have HO922 := n5_
          have HO925 := n6_
          have HO934 := n7_
          have HO937 := n8_
          have HO942 := n9_
          have HO945 := n10_
          have BK898 := n11_
          have BK908 := n12_
          have BK915 := n13_
          have BK930 := n14_
          have BK931 := n15_
          have HB := n16_
          clear n0_ n1_ n2_ n3_ n4_ n5_ n6_ n7_ n8_ n9_ n10_ n11_ n12_ n13_ n14_ n15_ n16_
          (try clear hb)
          (try clear hb2)
          (try clear hk)
          (try clear hi)
          obtain ⟨Ao85, co85, eo85⟩ := Kd.R_slice HO925.out
          (first | subst eo85 | (injection eo85 with f1_ f2_ f3_; have f4_ := f1_.symm; have f5_ := f3_.symm; clear f1_ f2_ f3_; subst f4_; subst f5_))
          refine hK.out _ _ ⟨bx_ BK898.out 0, bx_ BK898.out 1, bx_ BK908.out 0, bx_ BK908.out 1, bx_ BK915.out 0, bx_ BK915.out 1, bx_ BK930.out 0, bx_ BK930.out 1, bx_ BK931.out 0, bx_ BK931.out 1⟩ (fun hHeld => ?_)
          clear hK K
          refine norm_ (a' := ?_) ?_ ?_
          rotate_left
          ·
           show Act.put _ (some 88) _ = _
           simp only [fr_]
           rfl
          refine pu_ 36 89 ?_ (b_ 37 39) rfl rfl HT_.out ?_ ?_ ?_ ?_; rotate_left; intro w'; go_simp; with_reducible rfl; rotate_left; simp only [fr_]; rfl
          refine pu_ 37 90 ?_ (b_ 38 38) rfl rfl HT_.out ?_ ?_ ?_ ?_; rotate_left; intro w'; go_simp; with_reducible rfl; rotate_left; simp only [fr_]; rfl
          refine pu_ 38 91 ?_ (b_ 39 37) rfl rfl HT_.out ?_ ?_ ?_ ?_; rotate_left; intro w'; go_simp; with_reducible rfl; rotate_left; simp only [fr_]; rfl
          refine pu_ 39 92 ?_ (b_ 40 36) rfl rfl HT_.out ?_ ?_ ?_ ?_; rotate_left; intro w'; go_simp; with_reducible rfl; rotate_left; simp only [fr_]; rfl
          refine pu_ 41 94 ?_ #[t_,t_,t_,t_,t_,t_,t_,t_,t_,t_,t_,t_,t_,t_,t_,t_,t_,t_,t_,t_,t_,t_,t_,t_,t_,t_,t_,t_,t_,t_,t_,t_,t_,t_,t_,t_,t_,t_,t_,t_,f_,t_,f_,f_,f_,f_,f_,f_,f_,f_,f_,f_,f_,f_,f_,f_,f_,f_,f_,f_,f_,f_,f_,f_,f_,f_,f_,f_,f_,f_,f_,f_,f_,f_,f_,f_] rfl rfl HT_.out ?_ ?_ ?_ ?_; rotate_left; intro w'; go_simp; with_reducible rfl; rotate_left; simp only [fr_]; rfl
          refine one_ (i := 40) (N := some 93) #[t_,t_,t_,t_,t_,t_,t_,t_,t_,t_,t_,t_,t_,t_,t_,t_,t_,t_,t_,t_,t_,t_,t_,t_,t_,t_,t_,t_,t_,t_,t_,t_,t_,t_,t_,t_,t_,t_,t_,t_,t_,t_,f_,f_,f_,f_,f_,f_,f_,f_,f_,f_,f_,f_,f_,f_,f_,f_,f_,f_,f_,f_,f_,f_,f_,f_,f_,f_,f_,f_,f_,f_,f_,f_,f_,f_] rfl rfl (one_of HT_.out (by kernel_rfl)) (by decide) (fun K hK => ?_)
          refine goes_ Try.func38 (by kernel_rfl) rfl #[.slice Ao85 t923.length co85] (by rfl) rfl rfl (by (try simp only [mp_]); first | done | rfl | (simp only [List.length_drop, List.length_take]; rfl)) ?_
          with_reducible refine (impl_Sorted.calls k (fun k_ => some k_ = (.slice Ao85 t923.length co85 : Value).ownBlock) _ _ t923 t949 _ ?side1 A27.out).mono ?_
          (case side1 => exact Kd.R_V (Kd.R_tight rfl (HO925.out)))
          rintro e w86 ⟨v950, rfl, ho0, hb⟩
          refine ⟨_, rfl, ?_⟩
          have n0_ := Aside0.mk (Kd.R_elder' (rp_ HO895.out) (Kd.R_base ho0) hb)
          have n1_ := Aside0.mk (Kd.R_elder' (rp_ HO901.out) (Kd.R_base ho0) hb)
          have n2_ := Aside0.mk (Kd.R_elder' (rp_ HO904.out) (Kd.R_base ho0) hb)
          have n3_ := Aside0.mk (Kd.R_elder' (rp_ HO911.out) (Kd.R_base ho0) hb)
          have n4_ := Aside0.mk (Kd.R_elder' (rp_ HO919.out) (Kd.R_base ho0) hb)
          have n5_ := Aside0.mk (Kd.R_elder' (rp_ HO922.out) (Kd.R_base ho0) hb)
          have n6_ := Aside0.mk (Kd.R_elder' (rp_ HO925.out) (Kd.R_base ho0) hb)
          have n7_ := Aside0.mk (Kd.R_elder' (rp_ HO934.out) (Kd.R_base ho0) hb)
          have n8_ := Aside0.mk (Kd.R_elder' (rp_ HO937.out) (Kd.R_base ho0) hb)
          have n9_ := Aside0.mk (Kd.R_elder' (rp_ HO942.out) (Kd.R_base ho0) hb)
          have n10_ := Aside0.mk (Kd.R_elder' (rp_ HO945.out) (Kd.R_base ho0) hb)
          have n11_ := Aside0.mk (Kd.R_lower (Kd.R_newB (Kd.R_newB (Kd.R_newB (Kd.R_newB (Kd.R_newB (Kd.R_new' (Kd.R_new' (Kd.R_new' (Kd.R_new' (Kd.R_new' (Kd.R_new' (Kd.R_new' (Kd.R_new' (Kd.R_new' (Kd.R_new' (Kd.R_new' (Kd.R_mono (ok' := fun k_ => True) ho0 (fun _ hk_ => trivial)) (Kd.R_lt (rp_ HO895.out))) (Kd.R_lt (rp_ HO901.out))) (Kd.R_lt (rp_ HO904.out))) (Kd.R_lt (rp_ HO911.out))) (Kd.R_lt (rp_ HO919.out))) (Kd.R_lt (rp_ HO922.out))) (Kd.R_lt (rp_ HO925.out))) (Kd.R_lt (rp_ HO934.out))) (Kd.R_lt (rp_ HO937.out))) (Kd.R_lt (rp_ HO942.out))) (Kd.R_lt (rp_ HO945.out))) (g := gb898) (o := .cells #[.int .i64 t896, .int .i64 t897] 25 (0, 0)) (pb_ BK898.out)) (g := gb908) (o := .cells #[.int .i64 t905, .int .i64 t906] 25 (0, 0)) (pb_ BK908.out)) (g := gb915) (o := .cells #[.int .i64 t912, .int .i64 t913] 25 (0, 0)) (pb_ BK915.out)) (g := gb930) (o := .cells #[.int .i64 t926, .int .i64 t927] 25 (0, 0)) (pb_ BK930.out)) (g := gb931) (o := .cells #[.int .i64 t928, .int .i64 t929] 25 (0, 0)) (pb_ BK931.out)) (below_size (by repeat (first | (with_reducible first | exact HB.out | apply ba_ | apply bn_ | apply bd_ | refine below_set ?_ GE898.out | refine below_set ?_ GE908.out | refine below_set ?_ GE915.out | refine below_set ?_ GE930.out | refine below_set ?_ GE931.out) | exact HB.out))))
          have n12_ := Aside0.mk (bb_ BK898.out hb)
          have n13_ := Aside0.mk (bb_ BK908.out hb)
          have n14_ := Aside0.mk (bb_ BK915.out hb)
          have n15_ := Aside0.mk (bb_ BK930.out hb)
          have n16_ := Aside0.mk (bb_ BK931.out hb)
          have n17_ := Aside0.mk (below_step (by repeat (first | (with_reducible first | exact HB.out | apply ba_ | apply bn_ | apply bd_ | refine below_set ?_ GE898.out | refine below_set ?_ GE908.out | refine below_set ?_ GE915.out | refine below_set ?_ GE930.out | refine below_set ?_ GE931.out) | exact HB.out)) hb)
          clear HO895 HO901 HO904 HO911 HO919 HO922 HO925 HO934 HO937 HO942 HO945 BK898 BK908 BK915 BK930 BK931 HB
          have HO895 := n0_
          have HO901 := n1_
          have HO904 := n2_
          have HO911 := n3_
          have HO919 := n4_
          have HO922 := n5_
          have HO925 := n6_
          have HO934 := n7_
          have HO937 := n8_
          have HO942 := n9_
          have HO945 := n10_
          have HO951 := n11_
          have BK898 := n12_
          have BK908 := n13_
          have BK915 := n14_
          have BK930 := n15_
          have BK931 := n16_
          have HB := n17_
          clear n0_ n1_ n2_ n3_ n4_ n5_ n6_ n7_ n8_ n9_ n10_ n11_ n12_ n13_ n14_ n15_ n16_ n17_
          (try clear hb)
          (try clear hb2)
          (try clear hk)
          (try clear hi)
          (try clear ho0)
          refine hK.out _ _ ⟨bx_ BK898.out 0, bx_ BK898.out 1, bx_ BK908.out 0, bx_ BK908.out 1, bx_ BK915.out 0, bx_ BK915.out 1, bx_ BK930.out 0, bx_ BK930.out 1, bx_ BK931.out 0, bx_ BK931.out 1⟩ (fun hHeld => ?_)
          clear hK K
          refine norm_ (a' := ?_) ?_ ?_
          rotate_left
          ·
           show Act.put _ (some 93) _ = _
           simp only [fr_]
           rfl
          refine one_ (i := 42) (N := some 95) #[t_,t_,t_,t_,t_,t_,t_,t_,t_,t_,t_,t_,t_,t_,t_,t_,t_,t_,t_,t_,t_,t_,t_,t_,t_,t_,t_,t_,t_,t_,t_,t_,t_,t_,t_,t_,t_,t_,t_,t_,t_,t_,t_,f_,f_,f_,f_,f_,f_,f_,f_,f_,f_,f_,f_,f_,f_,f_,f_,f_,f_,f_,f_,f_,f_,f_,f_,f_,f_,f_,f_,f_,f_,f_,f_,f_] rfl rfl (one_of HT_.out (by kernel_rfl)) (by decide) (fun K hK => ?_)
          refine goes_ Try.func42 (by kernel_rfl) rfl #[.slice Ao85 t923.length co85] (by rfl) rfl rfl (by (try simp only [mp_]); first | done | rfl | (simp only [List.length_drop, List.length_take]; rfl)) ?_
          with_reducible refine (spec_Sorted.calls k _ _ t923 t952 _ ?side1 ?side2 A28.out).mono ?_
          (case side1 => repeat (first | exact (Kd.R_reads' HO925.out).2.2 | (with_reducible first | refine ca_ ?_ _ | refine cn_ ?_ _ | refine cd_ ?_)))
          (case side2 => exact (Kd.R_reads' HO925.out).2.1)
          rintro e w87 ⟨v953, rfl, ho0, hb⟩
          refine ⟨_, rfl, ?_⟩
          have n0_ := Aside0.mk (Kd.R_elder' (rp_ HO895.out) (Kd.R_base ho0) hb)
          have n1_ := Aside0.mk (Kd.R_elder' (rp_ HO901.out) (Kd.R_base ho0) hb)
          have n2_ := Aside0.mk (Kd.R_elder' (rp_ HO904.out) (Kd.R_base ho0) hb)
          have n3_ := Aside0.mk (Kd.R_elder' (rp_ HO911.out) (Kd.R_base ho0) hb)
          have n4_ := Aside0.mk (Kd.R_elder' (rp_ HO919.out) (Kd.R_base ho0) hb)
          have n5_ := Aside0.mk (Kd.R_elder' (rp_ HO922.out) (Kd.R_base ho0) hb)
          have n6_ := Aside0.mk (Kd.R_elder' (rp_ HO925.out) (Kd.R_base ho0) hb)
          have n7_ := Aside0.mk (Kd.R_elder' (rp_ HO934.out) (Kd.R_base ho0) hb)
          have n8_ := Aside0.mk (Kd.R_elder' (rp_ HO937.out) (Kd.R_base ho0) hb)
          have n9_ := Aside0.mk (Kd.R_elder' (rp_ HO942.out) (Kd.R_base ho0) hb)
          have n10_ := Aside0.mk (Kd.R_elder' (rp_ HO945.out) (Kd.R_base ho0) hb)
          have n11_ := Aside0.mk (Kd.R_elder' (rp_ HO951.out) (Kd.R_base ho0) hb)
          have n12_ := Aside0.mk (Kd.R_lower (Kd.R_newB (Kd.R_newB (Kd.R_newB (Kd.R_newB (Kd.R_newB (Kd.R_new' (Kd.R_new' (Kd.R_new' (Kd.R_new' (Kd.R_new' (Kd.R_new' (Kd.R_new' (Kd.R_new' (Kd.R_new' (Kd.R_new' (Kd.R_new' (Kd.R_new' ho0 (Kd.R_lt (rp_ HO895.out))) (Kd.R_lt (rp_ HO901.out))) (Kd.R_lt (rp_ HO904.out))) (Kd.R_lt (rp_ HO911.out))) (Kd.R_lt (rp_ HO919.out))) (Kd.R_lt (rp_ HO922.out))) (Kd.R_lt (rp_ HO925.out))) (Kd.R_lt (rp_ HO934.out))) (Kd.R_lt (rp_ HO937.out))) (Kd.R_lt (rp_ HO942.out))) (Kd.R_lt (rp_ HO945.out))) (Kd.R_lt (rp_ HO951.out))) (g := gb898) (o := .cells #[.int .i64 t896, .int .i64 t897] 25 (0, 0)) (pb_ BK898.out)) (g := gb908) (o := .cells #[.int .i64 t905, .int .i64 t906] 25 (0, 0)) (pb_ BK908.out)) (g := gb915) (o := .cells #[.int .i64 t912, .int .i64 t913] 25 (0, 0)) (pb_ BK915.out)) (g := gb930) (o := .cells #[.int .i64 t926, .int .i64 t927] 25 (0, 0)) (pb_ BK930.out)) (g := gb931) (o := .cells #[.int .i64 t928, .int .i64 t929] 25 (0, 0)) (pb_ BK931.out)) (below_size (by repeat (first | (with_reducible first | exact HB.out | apply ba_ | apply bn_ | apply bd_ | refine below_set ?_ GE898.out | refine below_set ?_ GE908.out | refine below_set ?_ GE915.out | refine below_set ?_ GE930.out | refine below_set ?_ GE931.out) | exact HB.out))))
          have n13_ := Aside0.mk (bb_ BK898.out hb)
          have n14_ := Aside0.mk (bb_ BK908.out hb)
          have n15_ := Aside0.mk (bb_ BK915.out hb)
          have n16_ := Aside0.mk (bb_ BK930.out hb)
          have n17_ := Aside0.mk (bb_ BK931.out hb)
          have n18_ := Aside0.mk (below_step (by repeat (first | (with_reducible first | exact HB.out | apply ba_ | apply bn_ | apply bd_ | refine below_set ?_ GE898.out | refine below_set ?_ GE908.out | refine below_set ?_ GE915.out | refine below_set ?_ GE930.out | refine below_set ?_ GE931.out) | exact HB.out)) hb)
          clear HO895 HO901 HO904 HO911 HO919 HO922 HO925 HO934 HO937 HO942 HO945 HO951 BK898 BK908 BK915 BK930 BK931 HB
          have HO895 := n0_
          have HO901 := n1_
          have HO904 := n2_
          have HO911 := n3_
          have HO919 := n4_
          have HO922 := n5_
          have HO925 := n6_
          have HO934 := n7_
          have HO937 := n8_
          have HO942 := n9_
          have HO945 := n10_
          have HO951 := n11_
          have HO954 := n12_
          have BK898 := n13_
          have BK908 := n14_
          have BK915 := n15_
          have BK930 := n16_
          have BK931 := n17_
          have HB := n18_
          clear n0_ n1_ n2_ n3_ n4_ n5_ n6_ n7_ n8_ n9_ n10_ n11_ n12_ n13_ n14_ n15_ n16_ n17_ n18_
          (try clear hb)
          (try clear hb2)
          (try clear hk)
          (try clear hi)
          (try clear ho0)
          obtain ⟨Ao88, co88, eo88⟩ := Kd.R_slice HO951.out
          (first | subst eo88 | (injection eo88 with f1_ f2_ f3_; have f4_ := f1_.symm; have f5_ := f3_.symm; clear f1_ f2_ f3_; subst f4_; subst f5_))
          obtain ⟨Ao89, co89, eo89⟩ := Kd.R_slice HO954.out
          (first | subst eo89 | (injection eo89 with f1_ f2_ f3_; have f4_ := f1_.symm; have f5_ := f3_.symm; clear f1_ f2_ f3_; subst f4_; subst f5_))
          refine hK.out _ _ ⟨bx_ BK898.out 0, bx_ BK898.out 1, bx_ BK908.out 0, bx_ BK908.out 1, bx_ BK915.out 0, bx_ BK915.out 1, bx_ BK930.out 0, bx_ BK930.out 1, bx_ BK931.out 0, bx_ BK931.out 1⟩ (fun hHeld => ?_)
          clear hK K
          refine norm_ (a' := ?_) ?_ ?_
          rotate_left
          ·
           show Act.put _ (some 95) _ = _
           simp only [fr_]
           rfl
          refine one_ (i := 43) (N := some 96) #[t_,t_,t_,t_,t_,t_,t_,t_,t_,t_,t_,t_,t_,t_,t_,t_,t_,t_,t_,t_,t_,t_,t_,t_,t_,t_,t_,t_,t_,t_,t_,t_,t_,t_,t_,t_,t_,t_,t_,t_,t_,t_,t_,t_,f_,f_,f_,f_,f_,f_,f_,f_,f_,f_,f_,f_,f_,f_,f_,f_,f_,f_,f_,f_,f_,f_,f_,f_,f_,f_,f_,f_,f_,f_,f_,f_] rfl rfl (one_of HT_.out (by kernel_rfl)) (by decide) (fun K hK => ?_)
          refine goes_ Try.func39 (by kernel_rfl) rfl #[.slice Ao88 t949.length co88, .slice Ao89 t952.length co89] (by rfl) rfl rfl (by (try simp only [mp_]); first | done | rfl | (simp only [List.length_drop, List.length_take]; rfl)) ?_
          with_reducible refine (laws_sameHeap.calls k _ _ t949 _ _ t952 true _ ?side1 ?side2 ?side3 ?side4 A29.out).mono ?_
          (case side1 => repeat (first | exact (Kd.R_reads' HO951.out).2.2 | (with_reducible first | refine ca_ ?_ _ | refine cn_ ?_ _ | refine cd_ ?_)))
          (case side2 => exact (Kd.R_reads' HO951.out).2.1)
          (case side3 => repeat (first | exact (Kd.R_reads' HO954.out).2.2 | (with_reducible first | refine ca_ ?_ _ | refine cn_ ?_ _ | refine cd_ ?_)))
          (case side4 => exact (Kd.R_reads' HO954.out).2.1)
          rintro e w' ⟨rfl, ⟨nd, rfl⟩⟩
          refine ⟨_, rfl, ?_⟩
          refine hK.out _ _ ⟨bx_ BK898.out 0, bx_ BK898.out 1, bx_ BK908.out 0, bx_ BK908.out 1, bx_ BK915.out 0, bx_ BK915.out 1, bx_ BK930.out 0, bx_ BK930.out 1, bx_ BK931.out 0, bx_ BK931.out 1⟩ (fun hHeld => ?_)
          clear hK K
          refine norm_ (a' := ?_) ?_ ?_
          rotate_left
          ·
           show Act.put _ (some 96) _ = _
           simp only [fr_]
           rfl
          refine pu_ 44 97 ?_ (b_ 45 31) rfl rfl HT_.out ?_ ?_ ?_ ?_; rotate_left; intro w'; go_simp; with_reducible rfl; rotate_left; simp only [fr_]; rfl
          refine pu_ 45 98 ?_ (b_ 46 30) rfl rfl HT_.out ?_ ?_ ?_ ?_; rotate_left; intro w'; go_simp; with_reducible rfl; rotate_left; simp only [fr_]; rfl
          refine take_ (i := 46) (N := some 99) (v := ?_) (a' := ?_) #[t_,t_,t_,t_,t_,t_,t_,t_,t_,t_,t_,t_,t_,t_,t_,t_,t_,t_,t_,t_,t_,t_,t_,t_,t_,t_,t_,t_,t_,t_,t_,t_,t_,t_,t_,t_,t_,t_,t_,t_,t_,t_,t_,t_,t_,t_,t_,f_,f_,f_,f_,f_,f_,f_,f_,f_,f_,f_,f_,f_,f_,f_,f_,f_,f_,f_,f_,f_,f_,f_,f_,f_,f_,f_,f_,f_] rfl rfl (take_ofW HT_.out HW_.out (by kernel_rfl)) (fun _ _ _ h => h) (Or.inl ⟨by rfl, ?_⟩) hHeld ?_ ?_
          rotate_left
          ·
           rintro w' ⟨s0, s1, s2, s3, s4, s5, s6, s7, s8, s9⟩
           go_simp
           with_reducible rfl
          rotate_left
          ·
           simp only [fr_]
           rfl
          refine take_ (i := 47) (N := some 100) (v := ?_) (a' := ?_) #[t_,t_,t_,t_,t_,t_,t_,t_,t_,t_,t_,t_,t_,t_,t_,t_,t_,t_,t_,t_,t_,t_,t_,t_,t_,t_,t_,t_,t_,t_,t_,t_,t_,t_,t_,t_,t_,t_,t_,t_,t_,t_,t_,t_,t_,t_,t_,t_,f_,f_,f_,f_,f_,f_,f_,f_,f_,f_,f_,f_,f_,f_,f_,f_,f_,f_,f_,f_,f_,f_,f_,f_,f_,f_,f_,f_] rfl rfl (take_ofW HT_.out HW_.out (by kernel_rfl)) (fun _ _ _ h => h) (Or.inl ⟨by rfl, ?_⟩) hHeld ?_ ?_
          rotate_left
          ·
           rintro w' ⟨s0, s1, s2, s3, s4, s5, s6, s7, s8, s9⟩
           go_simp
           with_reducible rfl
          rotate_left
          ·
           simp only [fr_]
           rfl
          refine take_ (i := 49) (N := some 102) (v := ?_) (a' := ?_) #[t_,t_,t_,t_,t_,t_,t_,t_,t_,t_,t_,t_,t_,t_,t_,t_,t_,t_,t_,t_,t_,t_,t_,t_,t_,t_,t_,t_,t_,t_,t_,t_,t_,t_,t_,t_,t_,t_,t_,t_,t_,t_,t_,t_,t_,t_,t_,t_,f_,t_,f_,f_,f_,f_,f_,f_,f_,f_,f_,f_,f_,f_,f_,f_,f_,f_,f_,f_,f_,f_,f_,f_,f_,f_,f_,f_] rfl rfl (take_ofW HT_.out HW_.out (by kernel_rfl)) (fun _ _ _ h => h) (Or.inl ⟨by rfl, ?_⟩) hHeld ?_ ?_
          rotate_left
          ·
           rintro w' ⟨s0, s1, s2, s3, s4, s5, s6, s7, s8, s9⟩
           go_simp
           with_reducible rfl
          rotate_left
          ·
           simp only [fr_]
           rfl
          refine take_ (i := 50) (N := some 103) (v := ?_) (a' := ?_) #[t_,t_,t_,t_,t_,t_,t_,t_,t_,t_,t_,t_,t_,t_,t_,t_,t_,t_,t_,t_,t_,t_,t_,t_,t_,t_,t_,t_,t_,t_,t_,t_,t_,t_,t_,t_,t_,t_,t_,t_,t_,t_,t_,t_,t_,t_,t_,t_,f_,t_,t_,f_,f_,f_,f_,f_,f_,f_,f_,f_,f_,f_,f_,f_,f_,f_,f_,f_,f_,f_,f_,f_,f_,f_,f_,f_] rfl rfl (take_ofW HT_.out HW_.out (by kernel_rfl)) (fun _ _ _ h => h) (Or.inl ⟨by rfl, ?_⟩) hHeld ?_ ?_
          rotate_left
          ·
           rintro w' ⟨s0, s1, s2, s3, s4, s5, s6, s7, s8, s9⟩
           go_simp
           with_reducible rfl
          rotate_left
          ·
           simp only [fr_]
           rfl
          refine one_ (i := 48) (N := some 101) #[t_,t_,t_,t_,t_,t_,t_,t_,t_,t_,t_,t_,t_,t_,t_,t_,t_,t_,t_,t_,t_,t_,t_,t_,t_,t_,t_,t_,t_,t_,t_,t_,t_,t_,t_,t_,t_,t_,t_,t_,t_,t_,t_,t_,t_,t_,t_,t_,t_,t_,t_,f_,f_,f_,f_,f_,f_,f_,f_,f_,f_,f_,f_,f_,f_,f_,f_,f_,f_,f_,f_,f_,f_,f_,f_,f_] rfl rfl (one_of HT_.out (by kernel_rfl)) (by decide) (fun K hK => ?_)
          refine goes_ Try.func16 (by kernel_rfl) rfl #[.agg #[.int .i64 t926, .int .i64 t927], .agg #[.int .i64 t928, .int .i64 t929]] (by rfl) rfl rfl (by (try simp only [mp_]); first | done | rfl | (simp only [List.length_drop, List.length_take]; rfl)) ?_
          with_reducible refine (impl_Before.calls t926 t927 t928 t929 t956 _ A31.out).mono ?_
          rintro e w90 ⟨rfl, hb⟩
          refine ⟨_, rfl, ?_⟩
          have n0_ := Aside0.mk (Kd.R_below (rp_ HO895.out) hb)
          have n1_ := Aside0.mk (Kd.R_below (rp_ HO901.out) hb)
          have n2_ := Aside0.mk (Kd.R_below (rp_ HO904.out) hb)
          have n3_ := Aside0.mk (Kd.R_below (rp_ HO911.out) hb)
          have n4_ := Aside0.mk (Kd.R_below (rp_ HO919.out) hb)
          have n5_ := Aside0.mk (Kd.R_below (rp_ HO922.out) hb)
          have n6_ := Aside0.mk (Kd.R_below (rp_ HO925.out) hb)
          have n7_ := Aside0.mk (Kd.R_below (rp_ HO934.out) hb)
          have n8_ := Aside0.mk (Kd.R_below (rp_ HO937.out) hb)
          have n9_ := Aside0.mk (Kd.R_below (rp_ HO942.out) hb)
          have n10_ := Aside0.mk (Kd.R_below (rp_ HO945.out) hb)
          have n11_ := Aside0.mk (Kd.R_below (rp_ HO951.out) hb)
          have n12_ := Aside0.mk (Kd.R_below (rp_ HO954.out) hb)
          have n13_ := Aside0.mk (bb_ BK898.out hb)
          have n14_ := Aside0.mk (bb_ BK908.out hb)
          have n15_ := Aside0.mk (bb_ BK915.out hb)
          have n16_ := Aside0.mk (bb_ BK930.out hb)
          have n17_ := Aside0.mk (bb_ BK931.out hb)
          have n18_ := Aside0.mk (below_step (by repeat (first | (with_reducible first | exact HB.out | apply ba_ | apply bn_ | apply bd_ | refine below_set ?_ GE898.out | refine below_set ?_ GE908.out | refine below_set ?_ GE915.out | refine below_set ?_ GE930.out | refine below_set ?_ GE931.out) | exact HB.out)) hb)
          clear HO895 HO901 HO904 HO911 HO919 HO922 HO925 HO934 HO937 HO942 HO945 HO951 HO954 BK898 BK908 BK915 BK930 BK931 HB
          have HO895 := n0_
          have HO901 := n1_
          have HO904 := n2_
          have HO911 := n3_
          have HO919 := n4_
          have HO922 := n5_
          have HO925 := n6_
          have HO934 := n7_
          have HO937 := n8_
          have HO942 := n9_
          have HO945 := n10_
          have HO951 := n11_
          have HO954 := n12_
          have BK898 := n13_
          have BK908 := n14_
          have BK915 := n15_
          have BK930 := n16_
          have BK931 := n17_
          have HB := n18_
          clear n0_ n1_ n2_ n3_ n4_ n5_ n6_ n7_ n8_ n9_ n10_ n11_ n12_ n13_ n14_ n15_ n16_ n17_ n18_
          (try clear hb)
          (try clear hb2)
          (try clear hk)
          (try clear hi)
          refine hK.out _ _ ⟨bx_ BK898.out 0, bx_ BK898.out 1, bx_ BK908.out 0, bx_ BK908.out 1, bx_ BK915.out 0, bx_ BK915.out 1, bx_ BK930.out 0, bx_ BK930.out 1, bx_ BK931.out 0, bx_ BK931.out 1⟩ (fun hHeld => ?_)
          clear hK K
          refine norm_ (a' := ?_) ?_ ?_
          rotate_left
          ·
           show Act.put _ (some 101) _ = _
           simp only [fr_]
           rfl
          refine one_ (i := 51) (N := some 104) #[t_,t_,t_,t_,t_,t_,t_,t_,t_,t_,t_,t_,t_,t_,t_,t_,t_,t_,t_,t_,t_,t_,t_,t_,t_,t_,t_,t_,t_,t_,t_,t_,t_,t_,t_,t_,t_,t_,t_,t_,t_,t_,t_,t_,t_,t_,t_,t_,t_,t_,t_,t_,f_,f_,f_,f_,f_,f_,f_,f_,f_,f_,f_,f_,f_,f_,f_,f_,f_,f_,f_,f_,f_,f_,f_,f_] rfl rfl (one_of HT_.out (by kernel_rfl)) (by decide) (fun K hK => ?_)
          refine goes_ Try.func14 (by kernel_rfl) rfl #[.agg #[.int .i64 t926, .int .i64 t927], .agg #[.int .i64 t928, .int .i64 t929]] (by rfl) rfl rfl (by (try simp only [mp_]); first | done | rfl | (simp only [List.length_drop, List.length_take]; rfl)) ?_
          with_reducible refine (spec_Before.calls t926 t927 t928 t929 t957 _ A32.out).mono ?_
          rintro e w91 ⟨rfl, hb⟩
          refine ⟨_, rfl, ?_⟩
          have n0_ := Aside0.mk (Kd.R_below (rp_ HO895.out) hb)
          have n1_ := Aside0.mk (Kd.R_below (rp_ HO901.out) hb)
          have n2_ := Aside0.mk (Kd.R_below (rp_ HO904.out) hb)
          have n3_ := Aside0.mk (Kd.R_below (rp_ HO911.out) hb)
          have n4_ := Aside0.mk (Kd.R_below (rp_ HO919.out) hb)
          have n5_ := Aside0.mk (Kd.R_below (rp_ HO922.out) hb)
          have n6_ := Aside0.mk (Kd.R_below (rp_ HO925.out) hb)
          have n7_ := Aside0.mk (Kd.R_below (rp_ HO934.out) hb)
          have n8_ := Aside0.mk (Kd.R_below (rp_ HO937.out) hb)
          have n9_ := Aside0.mk (Kd.R_below (rp_ HO942.out) hb)
          have n10_ := Aside0.mk (Kd.R_below (rp_ HO945.out) hb)
          have n11_ := Aside0.mk (Kd.R_below (rp_ HO951.out) hb)
          have n12_ := Aside0.mk (Kd.R_below (rp_ HO954.out) hb)
          have n13_ := Aside0.mk (bb_ BK898.out hb)
          have n14_ := Aside0.mk (bb_ BK908.out hb)
          have n15_ := Aside0.mk (bb_ BK915.out hb)
          have n16_ := Aside0.mk (bb_ BK930.out hb)
          have n17_ := Aside0.mk (bb_ BK931.out hb)
          have n18_ := Aside0.mk (below_step (by repeat (first | (with_reducible first | exact HB.out | apply ba_ | apply bn_ | apply bd_ | refine below_set ?_ GE898.out | refine below_set ?_ GE908.out | refine below_set ?_ GE915.out | refine below_set ?_ GE930.out | refine below_set ?_ GE931.out) | exact HB.out)) hb)
          clear HO895 HO901 HO904 HO911 HO919 HO922 HO925 HO934 HO937 HO942 HO945 HO951 HO954 BK898 BK908 BK915 BK930 BK931 HB
          have HO895 := n0_
          have HO901 := n1_
          have HO904 := n2_
          have HO911 := n3_
          have HO919 := n4_
          have HO922 := n5_
          have HO925 := n6_
          have HO934 := n7_
          have HO937 := n8_
          have HO942 := n9_
          have HO945 := n10_
          have HO951 := n11_
          have HO954 := n12_
          have BK898 := n13_
          have BK908 := n14_
          have BK915 := n15_
          have BK930 := n16_
          have BK931 := n17_
          have HB := n18_
          clear n0_ n1_ n2_ n3_ n4_ n5_ n6_ n7_ n8_ n9_ n10_ n11_ n12_ n13_ n14_ n15_ n16_ n17_ n18_
          (try clear hb)
          (try clear hb2)
          (try clear hk)
          (try clear hi)
          refine hK.out _ _ ⟨bx_ BK898.out 0, bx_ BK898.out 1, bx_ BK908.out 0, bx_ BK908.out 1, bx_ BK915.out 0, bx_ BK915.out 1, bx_ BK930.out 0, bx_ BK930.out 1, bx_ BK931.out 0, bx_ BK931.out 1⟩ (fun hHeld => ?_)
          clear hK K
          refine norm_ (a' := ?_) ?_ ?_
          rotate_left
          ·
           show Act.put _ (some 104) _ = _
           simp only [fr_]
           rfl
          refine pu_ 52 105 ?_ (b_ 53 23) rfl rfl HT_.out ?_ ?_ ?_ ?_; rotate_left; intro w'; go_simp; with_reducible rfl; rotate_left; simp only [fr_]; rfl
          refine pu_ 53 106 ?_ (b_ 54 22) rfl rfl HT_.out ?_ ?_ ?_ ?_; rotate_left; intro w'; go_simp; with_reducible rfl; rotate_left; simp only [fr_]; rfl
          refine pu_ 54 107 ?_ (b_ 55 21) rfl rfl HT_.out ?_ ?_ ?_ ?_; rotate_left; intro w'; go_simp; with_reducible rfl; rotate_left; simp only [fr_]; rfl
          refine take_ (i := 55) (N := some 108) (v := ?_) (a' := ?_) #[t_,t_,t_,t_,t_,t_,t_,t_,t_,t_,t_,t_,t_,t_,t_,t_,t_,t_,t_,t_,t_,t_,t_,t_,t_,t_,t_,t_,t_,t_,t_,t_,t_,t_,t_,t_,t_,t_,t_,t_,t_,t_,t_,t_,t_,t_,t_,t_,t_,t_,t_,t_,t_,t_,t_,t_,f_,f_,f_,f_,f_,f_,f_,f_,f_,f_,f_,f_,f_,f_,f_,f_,f_,f_,f_,f_] rfl rfl (take_ofW HT_.out HW_.out (by kernel_rfl)) (fun _ _ _ h => h) (Or.inl ⟨by rfl, ?_⟩) hHeld ?_ ?_
          rotate_left
          ·
           rintro w' ⟨s0, s1, s2, s3, s4, s5, s6, s7, s8, s9⟩
           go_simp
           with_reducible rfl
          rotate_left
          ·
           simp only [fr_]
           rfl
          refine take_ (i := 56) (N := some 109) (v := ?_) (a' := ?_) #[t_,t_,t_,t_,t_,t_,t_,t_,t_,t_,t_,t_,t_,t_,t_,t_,t_,t_,t_,t_,t_,t_,t_,t_,t_,t_,t_,t_,t_,t_,t_,t_,t_,t_,t_,t_,t_,t_,t_,t_,t_,t_,t_,t_,t_,t_,t_,t_,t_,t_,t_,t_,t_,t_,t_,t_,t_,f_,f_,f_,f_,f_,f_,f_,f_,f_,f_,f_,f_,f_,f_,f_,f_,f_,f_,f_] rfl rfl (take_ofW HT_.out HW_.out (by kernel_rfl)) (fun _ _ _ h => h) (Or.inl ⟨by rfl, ?_⟩) hHeld ?_ ?_
          rotate_left
          ·
           rintro w' ⟨s0, s1, s2, s3, s4, s5, s6, s7, s8, s9⟩
           go_simp
           with_reducible rfl
          rotate_left
          ·
           simp only [fr_]
           rfl
          refine one_ (i := 57) (N := some 110) #[t_,t_,t_,t_,t_,t_,t_,t_,t_,t_,t_,t_,t_,t_,t_,t_,t_,t_,t_,t_,t_,t_,t_,t_,t_,t_,t_,t_,t_,t_,t_,t_,t_,t_,t_,t_,t_,t_,t_,t_,t_,t_,t_,t_,t_,t_,t_,t_,t_,t_,t_,t_,t_,t_,t_,t_,t_,t_,f_,f_,f_,f_,f_,f_,f_,f_,f_,f_,f_,f_,f_,f_,f_,f_,f_,f_] rfl rfl (one_of HT_.out (by kernel_rfl)) (by decide) (fun K hK => ?_)
          refine goes_ Try.func16 (by kernel_rfl) rfl #[.agg #[.int .i64 t926, .int .i64 t927], .agg #[.int .i64 t928, .int .i64 t929]] (by rfl) rfl rfl (by (try simp only [mp_]); first | done | rfl | (simp only [List.length_drop, List.length_take]; rfl)) ?_
          with_reducible refine (impl_Before.calls t926 t927 t928 t929 true _ A34.out).mono ?_
          rintro e w92 ⟨rfl, hb⟩
          refine ⟨_, rfl, ?_⟩
          have n0_ := Aside0.mk (Kd.R_below (rp_ HO895.out) hb)
          have n1_ := Aside0.mk (Kd.R_below (rp_ HO901.out) hb)
          have n2_ := Aside0.mk (Kd.R_below (rp_ HO904.out) hb)
          have n3_ := Aside0.mk (Kd.R_below (rp_ HO911.out) hb)
          have n4_ := Aside0.mk (Kd.R_below (rp_ HO919.out) hb)
          have n5_ := Aside0.mk (Kd.R_below (rp_ HO922.out) hb)
          have n6_ := Aside0.mk (Kd.R_below (rp_ HO925.out) hb)
          have n7_ := Aside0.mk (Kd.R_below (rp_ HO934.out) hb)
          have n8_ := Aside0.mk (Kd.R_below (rp_ HO937.out) hb)
          have n9_ := Aside0.mk (Kd.R_below (rp_ HO942.out) hb)
          have n10_ := Aside0.mk (Kd.R_below (rp_ HO945.out) hb)
          have n11_ := Aside0.mk (Kd.R_below (rp_ HO951.out) hb)
          have n12_ := Aside0.mk (Kd.R_below (rp_ HO954.out) hb)
          have n13_ := Aside0.mk (bb_ BK898.out hb)
          have n14_ := Aside0.mk (bb_ BK908.out hb)
          have n15_ := Aside0.mk (bb_ BK915.out hb)
          have n16_ := Aside0.mk (bb_ BK930.out hb)
          have n17_ := Aside0.mk (bb_ BK931.out hb)
          have n18_ := Aside0.mk (below_step (by repeat (first | (with_reducible first | exact HB.out | apply ba_ | apply bn_ | apply bd_ | refine below_set ?_ GE898.out | refine below_set ?_ GE908.out | refine below_set ?_ GE915.out | refine below_set ?_ GE930.out | refine below_set ?_ GE931.out) | exact HB.out)) hb)
          clear HO895 HO901 HO904 HO911 HO919 HO922 HO925 HO934 HO937 HO942 HO945 HO951 HO954 BK898 BK908 BK915 BK930 BK931 HB
          have HO895 := n0_
          have HO901 := n1_
          have HO904 := n2_
          have HO911 := n3_
          have HO919 := n4_
          have HO922 := n5_
          have HO925 := n6_
          have HO934 := n7_
          have HO937 := n8_
          have HO942 := n9_
          have HO945 := n10_
          have HO951 := n11_
          have HO954 := n12_
          have BK898 := n13_
          have BK908 := n14_
          have BK915 := n15_
          have BK930 := n16_
          have BK931 := n17_
          have HB := n18_
          clear n0_ n1_ n2_ n3_ n4_ n5_ n6_ n7_ n8_ n9_ n10_ n11_ n12_ n13_ n14_ n15_ n16_ n17_ n18_
          (try clear hb)
          (try clear hb2)
          (try clear hk)
          (try clear hi)
          refine hK.out _ _ ⟨bx_ BK898.out 0, bx_ BK898.out 1, bx_ BK908.out 0, bx_ BK908.out 1, bx_ BK915.out 0, bx_ BK915.out 1, bx_ BK930.out 0, bx_ BK930.out 1, bx_ BK931.out 0, bx_ BK931.out 1⟩ (fun hHeld => ?_)
          clear hK K
          refine norm_ (a' := ?_) ?_ ?_
          rotate_left
          ·
           show Act.put _ (some 110) _ = _
           simp only [fr_]
           rfl
          refine pu_ 58 111 ?_ (b_ 59 17) rfl rfl HT_.out ?_ ?_ ?_ ?_; rotate_left; intro w'; go_simp; with_reducible rfl; rotate_left; simp only [fr_]; rfl
          refine take_ (i := 59) (N := some 112) (v := ?_) (a' := ?_) #[t_,t_,t_,t_,t_,t_,t_,t_,t_,t_,t_,t_,t_,t_,t_,t_,t_,t_,t_,t_,t_,t_,t_,t_,t_,t_,t_,t_,t_,t_,t_,t_,t_,t_,t_,t_,t_,t_,t_,t_,t_,t_,t_,t_,t_,t_,t_,t_,t_,t_,t_,t_,t_,t_,t_,t_,t_,t_,t_,t_,f_,f_,f_,f_,f_,f_,f_,f_,f_,f_,f_,f_,f_,f_,f_,f_] rfl rfl (take_ofW HT_.out HW_.out (by kernel_rfl)) (fun _ _ _ h => h) (Or.inl ⟨by rfl, ?_⟩) hHeld ?_ ?_
          rotate_left
          ·
           rintro w' ⟨s0, s1, s2, s3, s4, s5, s6, s7, s8, s9⟩
           go_simp
           with_reducible rfl
          rotate_left
          ·
           simp only [fr_]
           rfl
          refine take_ (i := 60) (N := some 113) (v := ?_) (a' := ?_) #[t_,t_,t_,t_,t_,t_,t_,t_,t_,t_,t_,t_,t_,t_,t_,t_,t_,t_,t_,t_,t_,t_,t_,t_,t_,t_,t_,t_,t_,t_,t_,t_,t_,t_,t_,t_,t_,t_,t_,t_,t_,t_,t_,t_,t_,t_,t_,t_,t_,t_,t_,t_,t_,t_,t_,t_,t_,t_,t_,t_,t_,f_,f_,f_,f_,f_,f_,f_,f_,f_,f_,f_,f_,f_,f_,f_] rfl rfl (take_ofW HT_.out HW_.out (by kernel_rfl)) (fun _ _ _ h => h) (Or.inl ⟨by rfl, ?_⟩) hHeld ?_ ?_
          rotate_left
          ·
           rintro w' ⟨s0, s1, s2, s3, s4, s5, s6, s7, s8, s9⟩
           go_simp
           with_reducible rfl
          rotate_left
          ·
           simp only [fr_]
           rfl
          refine one_ (i := 61) (N := some 114) #[t_,t_,t_,t_,t_,t_,t_,t_,t_,t_,t_,t_,t_,t_,t_,t_,t_,t_,t_,t_,t_,t_,t_,t_,t_,t_,t_,t_,t_,t_,t_,t_,t_,t_,t_,t_,t_,t_,t_,t_,t_,t_,t_,t_,t_,t_,t_,t_,t_,t_,t_,t_,t_,t_,t_,t_,t_,t_,t_,t_,t_,t_,f_,f_,f_,f_,f_,f_,f_,f_,f_,f_,f_,f_,f_,f_] rfl rfl (one_of HT_.out (by kernel_rfl)) (by decide) (fun K hK => ?_)
          refine goes_ Try.func16 (by kernel_rfl) rfl #[.agg #[.int .i64 t928, .int .i64 t929], .agg #[.int .i64 t926, .int .i64 t927]] (by rfl) rfl rfl (by (try simp only [mp_]); first | done | rfl | (simp only [List.length_drop, List.length_take]; rfl)) ?_
          with_reducible refine (impl_Before.calls t928 t929 t926 t927 false _ A36.out).mono ?_
          rintro e w93 ⟨rfl, hb⟩
          refine ⟨_, rfl, ?_⟩
          have n0_ := Aside0.mk (Kd.R_below (rp_ HO895.out) hb)
          have n1_ := Aside0.mk (Kd.R_below (rp_ HO901.out) hb)
          have n2_ := Aside0.mk (Kd.R_below (rp_ HO904.out) hb)
          have n3_ := Aside0.mk (Kd.R_below (rp_ HO911.out) hb)
          have n4_ := Aside0.mk (Kd.R_below (rp_ HO919.out) hb)
          have n5_ := Aside0.mk (Kd.R_below (rp_ HO922.out) hb)
          have n6_ := Aside0.mk (Kd.R_below (rp_ HO925.out) hb)
          have n7_ := Aside0.mk (Kd.R_below (rp_ HO934.out) hb)
          have n8_ := Aside0.mk (Kd.R_below (rp_ HO937.out) hb)
          have n9_ := Aside0.mk (Kd.R_below (rp_ HO942.out) hb)
          have n10_ := Aside0.mk (Kd.R_below (rp_ HO945.out) hb)
          have n11_ := Aside0.mk (Kd.R_below (rp_ HO951.out) hb)
          have n12_ := Aside0.mk (Kd.R_below (rp_ HO954.out) hb)
          have n13_ := Aside0.mk (bb_ BK898.out hb)
          have n14_ := Aside0.mk (bb_ BK908.out hb)
          have n15_ := Aside0.mk (bb_ BK915.out hb)
          have n16_ := Aside0.mk (bb_ BK930.out hb)
          have n17_ := Aside0.mk (bb_ BK931.out hb)
          have n18_ := Aside0.mk (below_step (by repeat (first | (with_reducible first | exact HB.out | apply ba_ | apply bn_ | apply bd_ | refine below_set ?_ GE898.out | refine below_set ?_ GE908.out | refine below_set ?_ GE915.out | refine below_set ?_ GE930.out | refine below_set ?_ GE931.out) | exact HB.out)) hb)
          clear HO895 HO901 HO904 HO911 HO919 HO922 HO925 HO934 HO937 HO942 HO945 HO951 HO954 BK898 BK908 BK915 BK930 BK931 HB
          have HO895 := n0_
          have HO901 := n1_
          have HO904 := n2_
          have HO911 := n3_
          have HO919 := n4_
          have HO922 := n5_
          have HO925 := n6_
          have HO934 := n7_
          have HO937 := n8_
          have HO942 := n9_
          have HO945 := n10_
          have HO951 := n11_
          have HO954 := n12_
          have BK898 := n13_
          have BK908 := n14_
          have BK915 := n15_
          have BK930 := n16_
          have BK931 := n17_
          have HB := n18_
          clear n0_ n1_ n2_ n3_ n4_ n5_ n6_ n7_ n8_ n9_ n10_ n11_ n12_ n13_ n14_ n15_ n16_ n17_ n18_
          (try clear hb)
          (try clear hb2)
          (try clear hk)
          (try clear hi)
          refine hK.out _ _ ⟨bx_ BK898.out 0, bx_ BK898.out 1, bx_ BK908.out 0, bx_ BK908.out 1, bx_ BK915.out 0, bx_ BK915.out 1, bx_ BK930.out 0, bx_ BK930.out 1, bx_ BK931.out 0, bx_ BK931.out 1⟩ (fun hHeld => ?_)
          clear hK K
          refine norm_ (a' := ?_) ?_ ?_
          rotate_left
          ·
           show Act.put _ (some 114) _ = _
           simp only [fr_]
           rfl
          refine pu_ 62 115 ?_ (b_ 63 13) rfl rfl HT_.out ?_ ?_ ?_ ?_; rotate_left; intro w'; go_simp; with_reducible rfl; rotate_left; simp only [fr_]; rfl
          refine pu_ 63 116 ?_ (b_ 64 12) rfl rfl HT_.out ?_ ?_ ?_ ?_; rotate_left; intro w'; go_simp; with_reducible rfl; rotate_left; simp only [fr_]; rfl
          refine pu_ 64 117 ?_ (b_ 65 11) rfl rfl HT_.out ?_ ?_ ?_ ?_; rotate_left; intro w'; go_simp; with_reducible rfl; rotate_left; simp only [fr_]; rfl
          refine pu_ 65 118 ?_ (b_ 66 10) rfl rfl HT_.out ?_ ?_ ?_ ?_; rotate_left; intro w'; go_simp; with_reducible rfl; rotate_left; simp only [fr_]; rfl
          refine pu_ 66 119 ?_ (b_ 67 9) rfl rfl HT_.out ?_ ?_ ?_ ?_; rotate_left; intro w'; go_simp; with_reducible rfl; rotate_left; simp only [fr_]; rfl
          refine pu_ 70 123 ?_ #[t_,t_,t_,t_,t_,t_,t_,t_,t_,t_,t_,t_,t_,t_,t_,t_,t_,t_,t_,t_,t_,t_,t_,t_,t_,t_,t_,t_,t_,t_,t_,t_,t_,t_,t_,t_,t_,t_,t_,t_,t_,t_,t_,t_,t_,t_,t_,t_,t_,t_,t_,t_,t_,t_,t_,t_,t_,t_,t_,t_,t_,t_,t_,t_,t_,t_,t_,f_,f_,f_,t_,f_,f_,f_,f_,f_] rfl rfl HT_.out ?_ ?_ ?_ ?_; rotate_left; intro w'; go_simp; with_reducible rfl; rotate_left; simp only [fr_]; rfl
          refine pu_ 71 124 ?_ #[t_,t_,t_,t_,t_,t_,t_,t_,t_,t_,t_,t_,t_,t_,t_,t_,t_,t_,t_,t_,t_,t_,t_,t_,t_,t_,t_,t_,t_,t_,t_,t_,t_,t_,t_,t_,t_,t_,t_,t_,t_,t_,t_,t_,t_,t_,t_,t_,t_,t_,t_,t_,t_,t_,t_,t_,t_,t_,t_,t_,t_,t_,t_,t_,t_,t_,t_,f_,f_,f_,t_,t_,f_,f_,f_,f_] rfl rfl HT_.out ?_ ?_ ?_ ?_; rotate_left; intro w'; go_simp; with_reducible rfl; rotate_left; simp only [fr_]; rfl
          refine pu_ 72 125 ?_ #[t_,t_,t_,t_,t_,t_,t_,t_,t_,t_,t_,t_,t_,t_,t_,t_,t_,t_,t_,t_,t_,t_,t_,t_,t_,t_,t_,t_,t_,t_,t_,t_,t_,t_,t_,t_,t_,t_,t_,t_,t_,t_,t_,t_,t_,t_,t_,t_,t_,t_,t_,t_,t_,t_,t_,t_,t_,t_,t_,t_,t_,t_,t_,t_,t_,t_,t_,f_,f_,f_,t_,t_,t_,f_,f_,f_] rfl rfl HT_.out ?_ ?_ ?_ ?_; rotate_left; intro w'; go_simp; with_reducible rfl; rotate_left; simp only [fr_]; rfl
          refine take_ (i := 67) (N := some 120) (v := ?_) (a' := ?_) #[t_,t_,t_,t_,t_,t_,t_,t_,t_,t_,t_,t_,t_,t_,t_,t_,t_,t_,t_,t_,t_,t_,t_,t_,t_,t_,t_,t_,t_,t_,t_,t_,t_,t_,t_,t_,t_,t_,t_,t_,t_,t_,t_,t_,t_,t_,t_,t_,t_,t_,t_,t_,t_,t_,t_,t_,t_,t_,t_,t_,t_,t_,t_,t_,t_,t_,t_,t_,f_,f_,t_,t_,t_,f_,f_,f_] rfl rfl (take_ofW HT_.out HW_.out (by kernel_rfl)) (fun _ _ _ h => h) (Or.inl ⟨by rfl, ?_⟩) hHeld ?_ ?_
          rotate_left
          ·
           rintro w' ⟨s0, s1, s2, s3, s4, s5, s6, s7, s8, s9⟩
           go_simp
           with_reducible rfl
          rotate_left
          ·
           simp only [fr_]
           rfl
          refine one_ (i := 68) (N := some 121) #[t_,t_,t_,t_,t_,t_,t_,t_,t_,t_,t_,t_,t_,t_,t_,t_,t_,t_,t_,t_,t_,t_,t_,t_,t_,t_,t_,t_,t_,t_,t_,t_,t_,t_,t_,t_,t_,t_,t_,t_,t_,t_,t_,t_,t_,t_,t_,t_,t_,t_,t_,t_,t_,t_,t_,t_,t_,t_,t_,t_,t_,t_,t_,t_,t_,t_,t_,t_,t_,f_,t_,t_,t_,f_,f_,f_] rfl rfl (one_of HT_.out (by kernel_rfl)) (by decide) (fun K hK => ?_)
          refine goes_ Try.func23 (by kernel_rfl) rfl #[.slice Ao70 t893.length co70, .agg #[.int .i64 t896, .int .i64 t897]] (by rfl) rfl rfl (by (try simp only [mp_]); first | done | rfl | (simp only [List.length_drop, List.length_take]; rfl)) ?_
          with_reducible refine (impl_HeapPut.calls k _ _ t893 t896 t897 t960 _ ?side1 ?side2 A38.out).mono ?_
          (case side1 => repeat (first | exact (Kd.R_reads' HO895.out).2.2 | (with_reducible first | refine ca_ ?_ _ | refine cn_ ?_ _ | refine cd_ ?_)))
          (case side2 => exact (Kd.R_reads' HO895.out).2.1)
          rintro e w94 ⟨v961, rfl, ho0, hb⟩
          refine ⟨_, rfl, ?_⟩
          have n0_ := Aside0.mk (Kd.R_elder' (rp_ HO895.out) (Kd.R_base ho0) hb)
          have n1_ := Aside0.mk (Kd.R_elder' (rp_ HO901.out) (Kd.R_base ho0) hb)
          have n2_ := Aside0.mk (Kd.R_elder' (rp_ HO904.out) (Kd.R_base ho0) hb)
          have n3_ := Aside0.mk (Kd.R_elder' (rp_ HO911.out) (Kd.R_base ho0) hb)
          have n4_ := Aside0.mk (Kd.R_elder' (rp_ HO919.out) (Kd.R_base ho0) hb)
          have n5_ := Aside0.mk (Kd.R_elder' (rp_ HO922.out) (Kd.R_base ho0) hb)
          have n6_ := Aside0.mk (Kd.R_elder' (rp_ HO925.out) (Kd.R_base ho0) hb)
          have n7_ := Aside0.mk (Kd.R_elder' (rp_ HO934.out) (Kd.R_base ho0) hb)
          have n8_ := Aside0.mk (Kd.R_elder' (rp_ HO937.out) (Kd.R_base ho0) hb)
          have n9_ := Aside0.mk (Kd.R_elder' (rp_ HO942.out) (Kd.R_base ho0) hb)
          have n10_ := Aside0.mk (Kd.R_elder' (rp_ HO945.out) (Kd.R_base ho0) hb)
          have n11_ := Aside0.mk (Kd.R_elder' (rp_ HO951.out) (Kd.R_base ho0) hb)
          have n12_ := Aside0.mk (Kd.R_elder' (rp_ HO954.out) (Kd.R_base ho0) hb)
          have n13_ := Aside0.mk (Kd.R_lower (Kd.R_newB (Kd.R_newB (Kd.R_newB (Kd.R_newB (Kd.R_newB (Kd.R_new' (Kd.R_new' (Kd.R_new' (Kd.R_new' (Kd.R_new' (Kd.R_new' (Kd.R_new' (Kd.R_new' (Kd.R_new' (Kd.R_new' (Kd.R_new' (Kd.R_new' (Kd.R_new' ho0 (Kd.R_lt (rp_ HO895.out))) (Kd.R_lt (rp_ HO901.out))) (Kd.R_lt (rp_ HO904.out))) (Kd.R_lt (rp_ HO911.out))) (Kd.R_lt (rp_ HO919.out))) (Kd.R_lt (rp_ HO922.out))) (Kd.R_lt (rp_ HO925.out))) (Kd.R_lt (rp_ HO934.out))) (Kd.R_lt (rp_ HO937.out))) (Kd.R_lt (rp_ HO942.out))) (Kd.R_lt (rp_ HO945.out))) (Kd.R_lt (rp_ HO951.out))) (Kd.R_lt (rp_ HO954.out))) (g := gb898) (o := .cells #[.int .i64 t896, .int .i64 t897] 25 (0, 0)) (pb_ BK898.out)) (g := gb908) (o := .cells #[.int .i64 t905, .int .i64 t906] 25 (0, 0)) (pb_ BK908.out)) (g := gb915) (o := .cells #[.int .i64 t912, .int .i64 t913] 25 (0, 0)) (pb_ BK915.out)) (g := gb930) (o := .cells #[.int .i64 t926, .int .i64 t927] 25 (0, 0)) (pb_ BK930.out)) (g := gb931) (o := .cells #[.int .i64 t928, .int .i64 t929] 25 (0, 0)) (pb_ BK931.out)) (below_size (by repeat (first | (with_reducible first | exact HB.out | apply ba_ | apply bn_ | apply bd_ | refine below_set ?_ GE898.out | refine below_set ?_ GE908.out | refine below_set ?_ GE915.out | refine below_set ?_ GE930.out | refine below_set ?_ GE931.out) | exact HB.out))))
          have n14_ := Aside0.mk (bb_ BK898.out hb)
          have n15_ := Aside0.mk (bb_ BK908.out hb)
          have n16_ := Aside0.mk (bb_ BK915.out hb)
          have n17_ := Aside0.mk (bb_ BK930.out hb)
          have n18_ := Aside0.mk (bb_ BK931.out hb)
          have n19_ := Aside0.mk (below_step (by repeat (first | (with_reducible first | exact HB.out | apply ba_ | apply bn_ | apply bd_ | refine below_set ?_ GE898.out | refine below_set ?_ GE908.out | refine below_set ?_ GE915.out | refine below_set ?_ GE930.out | refine below_set ?_ GE931.out) | exact HB.out)) hb)
          clear HO895 HO901 HO904 HO911 HO919 HO922 HO925 HO934 HO937 HO942 HO945 HO951 HO954 BK898 BK908 BK915 BK930 BK931 HB
          have HO895 := n0_
          have HO901 := n1_
          have HO904 := n2_
          have HO911 := n3_
          have HO919 := n4_
          have HO922 := n5_
          have HO925 := n6_
          have HO934 := n7_
          have HO937 := n8_
          have HO942 := n9_
          have HO945 := n10_
          have HO951 := n11_
          have HO954 := n12_
          have HO962 := n13_
          have BK898 := n14_
          have BK908 := n15_
          have BK915 := n16_
          have BK930 := n17_
          have BK931 := n18_
          have HB := n19_
          clear n0_ n1_ n2_ n3_ n4_ n5_ n6_ n7_ n8_ n9_ n10_ n11_ n12_ n13_ n14_ n15_ n16_ n17_ n18_ n19_
          (try clear hb)
          (try clear hb2)
          (try clear hk)
          (try clear hi)
          (try clear ho0)
          obtain ⟨Ao95, co95, eo95⟩ := Kd.R_slice HO962.out
          (first | subst eo95 | (injection eo95 with f1_ f2_ f3_; have f4_ := f1_.symm; have f5_ := f3_.symm; clear f1_ f2_ f3_; subst f4_; subst f5_))
          refine hK.out _ _ ⟨bx_ BK898.out 0, bx_ BK898.out 1, bx_ BK908.out 0, bx_ BK908.out 1, bx_ BK915.out 0, bx_ BK915.out 1, bx_ BK930.out 0, bx_ BK930.out 1, bx_ BK931.out 0, bx_ BK931.out 1⟩ (fun hHeld => ?_)
          clear hK K
          refine norm_ (a' := ?_) ?_ ?_
          rotate_left
          ·
           show Act.put _ (some 121) _ = _
           simp only [fr_]
           rfl
          refine pu_ 69 122 ?_ (b_ 73 3) rfl rfl HT_.out ?_ ?_ ?_ ?_; rotate_left; intro w'; go_simp; with_reducible rfl; rotate_left; simp only [fr_]; rfl
          refine pu_ 73 126 ?_ (b_ 74 2) rfl rfl HT_.out ?_ ?_ ?_ ?_; rotate_left; intro w'; go_simp; with_reducible rfl; rotate_left; simp only [fr_]; rfl
          refine pu_ 74 127 ?_ (b_ 75 1) rfl rfl HT_.out ?_ ?_ ?_ ?_; rotate_left; intro w'; go_simp; with_reducible rfl; rotate_left; simp only [fr_]; rfl
          refine pu_ 75 2 ?_ (b_ 76 0) rfl rfl HT_.out ?_ ?_ ?_ ?_; rotate_left; intro w'; go_simp; with_reducible rfl; rotate_left; simp only [fr_]; rfl
          refine done_ (done_of HT_.out (by kernel_rfl)) ?_
          try go_wp2
          go_ret
          exact ⟨by first | rfl | (simp [errW_none, errW_some] <;> rfl) | (simp [*, errW_none, errW_some] <;> rfl), by repeat (first | (with_reducible first | exact HB.out | apply ba_ | apply bn_ | apply bd_ | refine below_set ?_ GE898.out | refine below_set ?_ GE908.out | refine below_set ?_ GE915.out | refine below_set ?_ GE930.out | refine below_set ?_ GE931.out) | exact HB.out)⟩
         replace c35 := Bool.eq_false_iff.mpr c35
         subst c35
         rw [if_neg (show ¬ (false = true) by decide)] at H
         replace H := Option.bind_eq_some_iff.mp H
         obtain ⟨t963, A960, H⟩ := H
         have A96 := Aside0.mk A960
         clear A960
         obtain rfl := Option.some.inj H
         go_enter Try.func13, Try.ntmps13
         try go_wp2_with (first | ((with_reducible refine gate_callee (f := 36) rfl ?_); refine goesL_ (some 19) rfl rfl Try.func36 (by kernel_rfl) rfl #[.slice A0 l0.length c0] rfl (by (try simp only [mp_]); first | done | rfl | (simp only [List.length_drop, List.length_take]; rfl)) ?_; (with_reducible refine (laws_big.calls _ _ l0 false _ ?side1 ?side2 A2.out).mono ?_); (case side1 => repeat (first | exact HR0.out | (with_reducible first | refine ca_ ?_ _ | refine cn_ ?_ _ | refine cd_ ?_))); (case side2 => exact HC0.out); rintro e w' ⟨rfl, ⟨nd, rfl⟩⟩; refine ⟨_, rfl, ?_⟩) | ((with_reducible refine gate_callee (f := 48) rfl ?_); refine goesL_ (some 22) rfl rfl Try.func48 (by kernel_rfl) rfl #[.slice A0 l0.length c0] rfl (by (try simp only [mp_]); first | done | rfl | (simp only [List.length_drop, List.length_take]; rfl)) ?_; (with_reducible refine (spec_DrawHeapPut.calls k _ _ l0 t893 t896 t897 _ ?side1 ?side2 A4.out).mono ?_); (case side1 => repeat (first | exact HR0.out | (with_reducible first | refine ca_ ?_ _ | refine cn_ ?_ _ | refine cd_ ?_))); (case side2 => exact HC0.out); rintro e w97 ⟨v894, rfl, ho0, hb⟩; refine ⟨_, rfl, ?_⟩; have HO895 := Aside0.mk (Kd.R_lower ho0 (below_size (by repeat (first | (with_reducible first | exact HB.out | apply ba_ | apply bn_ | apply bd_) | exact HB.out)))); have n1_ := Aside0.mk (below_step (by repeat (first | (with_reducible first | exact HB.out | apply ba_ | apply bn_ | apply bd_) | exact HB.out)) hb); clear HB; have HB := n1_; clear n1_; (try clear hb); (try clear hb2); (try clear hk); (try clear hi); (try clear ho0)) | ((with_reducible refine gate_dst (N := 4) rfl ?_); refine box_event ?hg (N := 4) ?hd (cs := #[.int .i64 0, .int .i64 0]) (t := 25) ?hr ?_; (case hd => rfl); (case hg => rfl); (case hr => first | (go_simp; done) | (go_simp; rfl)); intro gb898 hg w98 hbox hb; have n0_ := Aside0.mk (Kd.R_below (Kd.R_elderB (rp_ HO895.out) gb898 (Nat.le_of_eq hg.symm)) hb); have n1_ := Aside0.mk (below_step (by repeat (first | (with_reducible first | exact HB.out | apply ba_ | apply bn_ | apply bd_) | exact HB.out)) hb); have BK898 := Aside0.mk (hbox); have GW898 := Aside0.mk ((by rw [hg]; exact (below_size (by repeat (first | (with_reducible first | exact HB.out | apply ba_ | apply bn_ | apply bd_) | exact HB.out))) : w.heap.size ≤ gb898)); have GE898 := GW898; clear HO895 HB; have HO895 := n0_; have HB := n1_; clear n0_ n1_; clear hb hbox hg; obtain ⟨hcz99_0, hcz99_1, hfz99_0, hfz99_1⟩ := bc2_ BK898.out) | ((with_reducible refine gate_callee (f := 49) rfl ?_); refine goesL_ (some 26) rfl rfl Try.func49 (by kernel_rfl) rfl #[.slice A0 l0.length c0] rfl (by (try simp only [mp_]); first | done | rfl | (simp only [List.length_drop, List.length_take]; rfl)) ?_; (with_reducible refine (spec_DrawHeapTake.calls k _ _ l0 t899 _ ?side1 ?side2 A5.out).mono ?_); (case side1 => exact Kd.C_below HR0.out (by repeat (first | (with_reducible first | exact HB.out | apply ba_ | apply bn_ | apply bd_ | refine below_set ?_ GE898.out) | exact HB.out))); (case side2 => exact HC0.out); rintro e w100 ⟨v900, rfl, ho0, hb⟩; refine ⟨_, rfl, ?_⟩; have n0_ := Aside0.mk (Kd.R_elder' (by (with_reducible repeat (first | apply Kd.R_alloc | apply Kd.R_drewN | apply Kd.R_drew)); exact (Kd.R_mono (Kd.R_far (p := ⟨gb898, 1, none⟩) (Kd.R_far (p := ⟨gb898, 0, none⟩) (Kd.R_mono HO895.out (fun k_ hk => (⟨hk, hk.2⟩ : _ ∧ k_ ≠ gb898))) (fun _ hk => hk.2) (.int .i64 t896)) (fun _ hk => hk.2) (.int .i64 t897)) (fun _ h_ => h_.1))) (Kd.R_base ho0) hb); have n1_ := Aside0.mk (Kd.R_lower (Kd.R_newB (Kd.R_new' ho0 (Kd.R_lt (by (with_reducible repeat (first | apply Kd.R_alloc | apply Kd.R_drewN | apply Kd.R_drew)); exact (Kd.R_mono (Kd.R_far (p := ⟨gb898, 1, none⟩) (Kd.R_far (p := ⟨gb898, 0, none⟩) (Kd.R_mono HO895.out (fun k_ hk => (⟨hk, hk.2⟩ : _ ∧ k_ ≠ gb898))) (fun _ hk => hk.2) (.int .i64 t896)) (fun _ hk => hk.2) (.int .i64 t897)) (fun _ h_ => h_.1))))) (g := gb898) (o := .cells #[.int .i64 t896, .int .i64 t897] 25 (0, 0)) (by (with_reducible repeat (first | refine kn_ ?_ _ | refine kd_ ?_ | refine ka_ ?_ _)); refine blk_put (cs := #[.int .i64 t896, .int .i64 0]) ?_ 1 _ rfl; (with_reducible repeat (first | refine kn_ ?_ _ | refine kd_ ?_ | refine ka_ ?_ _)); refine blk_put (cs := #[.int .i64 0, .int .i64 0]) ?_ 0 _ rfl; (with_reducible repeat (first | refine kn_ ?_ _ | refine kd_ ?_ | refine ka_ ?_ _)); exact BK898.out)) (below_size (by repeat (first | (with_reducible first | exact HB.out | apply ba_ | apply bn_ | apply bd_ | refine below_set ?_ GE898.out) | exact HB.out)))); have n2_ := Aside0.mk (blk_below (g := gb898) (o := .cells #[.int .i64 t896, .int .i64 t897] 25 (0, 0)) (by (with_reducible repeat (first | refine kn_ ?_ _ | refine kd_ ?_ | refine ka_ ?_ _)); refine blk_put (cs := #[.int .i64 t896, .int .i64 0]) ?_ 1 _ rfl; (with_reducible repeat (first | refine kn_ ?_ _ | refine kd_ ?_ | refine ka_ ?_ _)); refine blk_put (cs := #[.int .i64 0, .int .i64 0]) ?_ 0 _ rfl; (with_reducible repeat (first | refine kn_ ?_ _ | refine kd_ ?_ | refine ka_ ?_ _)); exact BK898.out) hb); have n3_ := Aside0.mk (below_step (by repeat (first | (with_reducible first | exact HB.out | apply ba_ | apply bn_ | apply bd_ | refine below_set ?_ GE898.out) | exact HB.out)) hb); clear HO895 BK898 HB; have HO895 := n0_; have HO901 := n1_; have BK898 := n2_; have HB := n3_; clear n0_ n1_ n2_ n3_; (try clear hb); (try clear hb2); (try clear hk); (try clear hi); (try clear ho0); obtain ⟨Ao101, co101, eo101⟩ := Kd.R_slice HO901.out; subst eo101) | ((with_reducible refine gate_callee (f := 34) rfl ?_); refine goesL_ (some 29) rfl rfl Try.func34 (by kernel_rfl) rfl #[.slice Ao101 t899.length co101] rfl (by (try simp only [mp_]); first | done | rfl | (simp only [List.length_drop, List.length_take]; rfl)) ?_; (with_reducible refine (impl_HeapTake.calls k _ _ t899 t902 t905 t906 t907 _ ?side1 ?side2 A6.out).mono ?_); (case side1 => repeat (first | exact (Kd.R_reads' HO901.out).2.2 | (with_reducible first | refine ca_ ?_ _ | refine cn_ ?_ _ | refine cd_ ?_))); (case side2 => exact (Kd.R_reads' HO901.out).2.1); rintro e w102 ⟨v903, rfl, ho0, hb⟩; refine ⟨_, rfl, ?_⟩; have n0_ := Aside0.mk (Kd.R_elder' (rp_ HO895.out) (Kd.R_base ho0) hb); have n1_ := Aside0.mk (Kd.R_elder' (rp_ HO901.out) (Kd.R_base ho0) hb); have n2_ := Aside0.mk (Kd.R_lower (Kd.R_newB (Kd.R_new' (Kd.R_new' ho0 (Kd.R_lt (rp_ HO895.out))) (Kd.R_lt (rp_ HO901.out))) (g := gb898) (o := .cells #[.int .i64 t896, .int .i64 t897] 25 (0, 0)) (pb_ BK898.out)) (below_size (by repeat (first | (with_reducible first | exact HB.out | apply ba_ | apply bn_ | apply bd_ | refine below_set ?_ GE898.out) | exact HB.out)))); have n3_ := Aside0.mk (bb_ BK898.out hb); have n4_ := Aside0.mk (below_step (by repeat (first | (with_reducible first | exact HB.out | apply ba_ | apply bn_ | apply bd_ | refine below_set ?_ GE898.out) | exact HB.out)) hb); clear HO895 HO901 BK898 HB; have HO895 := n0_; have HO901 := n1_; have HO904 := n2_; have BK898 := n3_; have HB := n4_; clear n0_ n1_ n2_ n3_ n4_; (try clear hb); (try clear hb2); (try clear hk); (try clear hi); (try clear ho0)) | ((with_reducible refine gate_dst (N := 7) rfl ?_); refine box_event ?hg (N := 7) ?hd (cs := #[.int .i64 0, .int .i64 0]) (t := 25) ?hr ?_; (case hd => rfl); (case hg => rfl); (case hr => first | (go_simp; done) | (go_simp; rfl)); intro gb908 hg w103 hbox hb; have n0_ := Aside0.mk (Kd.R_below (Kd.R_elderB (rp_ HO895.out) gb908 (Nat.le_of_eq hg.symm)) hb); have n1_ := Aside0.mk (Kd.R_below (Kd.R_elderB (rp_ HO901.out) gb908 (Nat.le_of_eq hg.symm)) hb); have n2_ := Aside0.mk (Kd.R_below (Kd.R_elderB (rp_ HO904.out) gb908 (Nat.le_of_eq hg.symm)) hb); have n3_ := Aside0.mk (bb_ BK898.out hb); have n4_ := Aside0.mk (below_step (by repeat (first | (with_reducible first | exact HB.out | apply ba_ | apply bn_ | apply bd_ | refine below_set ?_ GE898.out) | exact HB.out)) hb); have n5_ := Aside0.mk (hbox); have n6_ := Aside0.mk ((by rw [hg]; exact (below_size (by repeat (first | (with_reducible first | exact HB.out | apply ba_ | apply bn_ | apply bd_ | refine below_set ?_ GE898.out) | exact HB.out))) : w.heap.size ≤ gb908)); have n7_ := n6_; have n8_ := Aside0.mk (nl_ BK898.out hg); have n9_ := Aside0.mk (n8_.out.symm); clear HO895 HO901 HO904 BK898 HB; have HO895 := n0_; have HO901 := n1_; have HO904 := n2_; have BK898 := n3_; have HB := n4_; have BK908 := n5_; have GW908 := n6_; have GE908 := n7_; have NB898_908 := n8_; have NB908_898 := n9_; clear n0_ n1_ n2_ n3_ n4_ n5_ n6_ n7_ n8_ n9_; clear hb hbox hg; have hnb104 := NB908_898.out; have hnc104 := NB898_908.out; obtain ⟨hcz105_0, hcz105_1, hfz105_0, hfz105_1⟩ := bc2_ BK908.out) | ((with_reducible refine gate_callee (f := 33) rfl ?_); refine goesL_ (some 35) rfl rfl Try.func33 (by kernel_rfl) rfl #[.slice Ao101 t899.length co101] rfl (by (try simp only [mp_]); first | done | rfl | (simp only [List.length_drop, List.length_take]; rfl)) ?_; (with_reducible refine (spec_HeapTake.calls k _ _ t899 t909 t912 t913 t914 _ ?side1 ?side2 A7.out).mono ?_); (case side1 => refine (Kd.R_reads' (e := 25) (base := w.heap.size) (ok := fun k_ => ((((True ∧ some k_ ≠ (v894 : Value).ownBlock) ∧ k_ ≠ gb898) ∧ some k_ ≠ (v903 : Value).ownBlock) ∧ k_ ≠ gb908)) (n := t899.length) (c := co101) ?_).2.2; exact (by (with_reducible repeat (first | apply Kd.R_alloc | apply Kd.R_drewN | apply Kd.R_drew)); exact (Kd.R_mono (Kd.R_far (p := ⟨gb908, 1, none⟩) (Kd.R_far (p := ⟨gb908, 0, none⟩) (Kd.R_mono HO901.out (fun k_ hk => (⟨hk, hk.2⟩ : _ ∧ k_ ≠ gb908))) (fun _ hk => hk.2) (.int .i64 t905)) (fun _ hk => hk.2) (.int .i64 t906)) (fun _ h_ => h_.1)))); (case side2 => exact (Kd.R_reads' HO901.out).2.1); rintro e w106 ⟨v910, rfl, ho0, hb⟩; refine ⟨_, rfl, ?_⟩; have n0_ := Aside0.mk (Kd.R_elder' (by (with_reducible repeat (first | apply Kd.R_alloc | apply Kd.R_drewN | apply Kd.R_drew)); exact (Kd.R_mono (Kd.R_far (p := ⟨gb908, 1, none⟩) (Kd.R_far (p := ⟨gb908, 0, none⟩) (Kd.R_mono HO895.out (fun k_ hk => (⟨hk, hk.2⟩ : _ ∧ k_ ≠ gb908))) (fun _ hk => hk.2) (.int .i64 t905)) (fun _ hk => hk.2) (.int .i64 t906)) (fun _ h_ => h_.1))) (Kd.R_base ho0) hb); have n1_ := Aside0.mk (Kd.R_elder' (by (with_reducible repeat (first | apply Kd.R_alloc | apply Kd.R_drewN | apply Kd.R_drew)); exact (Kd.R_mono (Kd.R_far (p := ⟨gb908, 1, none⟩) (Kd.R_far (p := ⟨gb908, 0, none⟩) (Kd.R_mono HO901.out (fun k_ hk => (⟨hk, hk.2⟩ : _ ∧ k_ ≠ gb908))) (fun _ hk => hk.2) (.int .i64 t905)) (fun _ hk => hk.2) (.int .i64 t906)) (fun _ h_ => h_.1))) (Kd.R_base ho0) hb); have n2_ := Aside0.mk (Kd.R_elder' (by (with_reducible repeat (first | apply Kd.R_alloc | apply Kd.R_drewN | apply Kd.R_drew)); exact (Kd.R_mono (Kd.R_far (p := ⟨gb908, 1, none⟩) (Kd.R_far (p := ⟨gb908, 0, none⟩) (Kd.R_mono HO904.out (fun k_ hk => (⟨hk, hk.2⟩ : _ ∧ k_ ≠ gb908))) (fun _ hk => hk.2) (.int .i64 t905)) (fun _ hk => hk.2) (.int .i64 t906)) (fun _ h_ => h_.1))) (Kd.R_base ho0) hb); have n3_ := Aside0.mk (Kd.R_lower (Kd.R_newB (Kd.R_newB (Kd.R_new' (Kd.R_new' (Kd.R_new' ho0 (Kd.R_lt (by (with_reducible repeat (first | apply Kd.R_alloc | apply Kd.R_drewN | apply Kd.R_drew)); exact (Kd.R_mono (Kd.R_far (p := ⟨gb908, 1, none⟩) (Kd.R_far (p := ⟨gb908, 0, none⟩) (Kd.R_mono HO895.out (fun k_ hk => (⟨hk, hk.2⟩ : _ ∧ k_ ≠ gb908))) (fun _ hk => hk.2) (.int .i64 t905)) (fun _ hk => hk.2) (.int .i64 t906)) (fun _ h_ => h_.1))))) (Kd.R_lt (by (with_reducible repeat (first | apply Kd.R_alloc | apply Kd.R_drewN | apply Kd.R_drew)); exact (Kd.R_mono (Kd.R_far (p := ⟨gb908, 1, none⟩) (Kd.R_far (p := ⟨gb908, 0, none⟩) (Kd.R_mono HO901.out (fun k_ hk => (⟨hk, hk.2⟩ : _ ∧ k_ ≠ gb908))) (fun _ hk => hk.2) (.int .i64 t905)) (fun _ hk => hk.2) (.int .i64 t906)) (fun _ h_ => h_.1))))) (Kd.R_lt (by (with_reducible repeat (first | apply Kd.R_alloc | apply Kd.R_drewN | apply Kd.R_drew)); exact (Kd.R_mono (Kd.R_far (p := ⟨gb908, 1, none⟩) (Kd.R_far (p := ⟨gb908, 0, none⟩) (Kd.R_mono HO904.out (fun k_ hk => (⟨hk, hk.2⟩ : _ ∧ k_ ≠ gb908))) (fun _ hk => hk.2) (.int .i64 t905)) (fun _ hk => hk.2) (.int .i64 t906)) (fun _ h_ => h_.1))))) (g := gb898) (o := .cells #[.int .i64 t896, .int .i64 t897] 25 (0, 0)) (by (with_reducible repeat (first | refine kn_ ?_ _ | refine kd_ ?_ | refine ka_ ?_ _)); refine blk_far ?_ NB898_908.out _; (with_reducible repeat (first | refine kn_ ?_ _ | refine kd_ ?_ | refine ka_ ?_ _)); refine blk_far ?_ NB898_908.out _; (with_reducible repeat (first | refine kn_ ?_ _ | refine kd_ ?_ | refine ka_ ?_ _)); exact BK898.out)) (g := gb908) (o := .cells #[.int .i64 t905, .int .i64 t906] 25 (0, 0)) (by (with_reducible repeat (first | refine kn_ ?_ _ | refine kd_ ?_ | refine ka_ ?_ _)); refine blk_put (cs := #[.int .i64 t905, .int .i64 0]) ?_ 1 _ rfl; (with_reducible repeat (first | refine kn_ ?_ _ | refine kd_ ?_ | refine ka_ ?_ _)); refine blk_put (cs := #[.int .i64 0, .int .i64 0]) ?_ 0 _ rfl; (with_reducible repeat (first | refine kn_ ?_ _ | refine kd_ ?_ | refine ka_ ?_ _)); exact BK908.out)) (below_size (by repeat (first | (with_reducible first | exact HB.out | apply ba_ | apply bn_ | apply bd_ | refine below_set ?_ GE898.out | refine below_set ?_ GE908.out) | exact HB.out)))); have n4_ := Aside0.mk (blk_below (g := gb898) (o := .cells #[.int .i64 t896, .int .i64 t897] 25 (0, 0)) (by (with_reducible repeat (first | refine kn_ ?_ _ | refine kd_ ?_ | refine ka_ ?_ _)); refine blk_far ?_ NB898_908.out _; (with_reducible repeat (first | refine kn_ ?_ _ | refine kd_ ?_ | refine ka_ ?_ _)); refine blk_far ?_ NB898_908.out _; (with_reducible repeat (first | refine kn_ ?_ _ | refine kd_ ?_ | refine ka_ ?_ _)); exact BK898.out) hb); have n5_ := Aside0.mk (blk_below (g := gb908) (o := .cells #[.int .i64 t905, .int .i64 t906] 25 (0, 0)) (by (with_reducible repeat (first | refine kn_ ?_ _ | refine kd_ ?_ | refine ka_ ?_ _)); refine blk_put (cs := #[.int .i64 t905, .int .i64 0]) ?_ 1 _ rfl; (with_reducible repeat (first | refine kn_ ?_ _ | refine kd_ ?_ | refine ka_ ?_ _)); refine blk_put (cs := #[.int .i64 0, .int .i64 0]) ?_ 0 _ rfl; (with_reducible repeat (first | refine kn_ ?_ _ | refine kd_ ?_ | refine ka_ ?_ _)); exact BK908.out) hb); have n6_ := Aside0.mk (below_step (by repeat (first | (with_reducible first | exact HB.out | apply ba_ | apply bn_ | apply bd_ | refine below_set ?_ GE898.out | refine below_set ?_ GE908.out) | exact HB.out)) hb); clear HO895 HO901 HO904 BK898 BK908 HB; have HO895 := n0_; have HO901 := n1_; have HO904 := n2_; have HO911 := n3_; have BK898 := n4_; have BK908 := n5_; have HB := n6_; clear n0_ n1_ n2_ n3_ n4_ n5_ n6_; (try clear hb); (try clear hb2); (try clear hk); (try clear hi); (try clear ho0)) | ((with_reducible refine gate_dst (N := 10) rfl ?_); refine box_event ?hg (N := 10) ?hd (cs := #[.int .i64 0, .int .i64 0]) (t := 25) ?hr ?_; (case hd => rfl); (case hg => rfl); (case hr => first | (go_simp; done) | (go_simp; rfl)); intro gb915 hg w107 hbox hb; have n0_ := Aside0.mk (Kd.R_below (Kd.R_elderB (rp_ HO895.out) gb915 (Nat.le_of_eq hg.symm)) hb); have n1_ := Aside0.mk (Kd.R_below (Kd.R_elderB (rp_ HO901.out) gb915 (Nat.le_of_eq hg.symm)) hb); have n2_ := Aside0.mk (Kd.R_below (Kd.R_elderB (rp_ HO904.out) gb915 (Nat.le_of_eq hg.symm)) hb); have n3_ := Aside0.mk (Kd.R_below (Kd.R_elderB (rp_ HO911.out) gb915 (Nat.le_of_eq hg.symm)) hb); have n4_ := Aside0.mk (bb_ BK898.out hb); have n5_ := Aside0.mk (bb_ BK908.out hb); have n6_ := Aside0.mk (below_step (by repeat (first | (with_reducible first | exact HB.out | apply ba_ | apply bn_ | apply bd_ | refine below_set ?_ GE898.out | refine below_set ?_ GE908.out) | exact HB.out)) hb); have n7_ := Aside0.mk (hbox); have n8_ := Aside0.mk ((by rw [hg]; exact (below_size (by repeat (first | (with_reducible first | exact HB.out | apply ba_ | apply bn_ | apply bd_ | refine below_set ?_ GE898.out | refine below_set ?_ GE908.out) | exact HB.out))) : w.heap.size ≤ gb915)); have n9_ := n8_; have n10_ := Aside0.mk (nl_ BK898.out hg); have n11_ := Aside0.mk (n10_.out.symm); have n12_ := Aside0.mk (nl_ BK908.out hg); have n13_ := Aside0.mk (n12_.out.symm); clear HO895 HO901 HO904 HO911 BK898 BK908 HB; have HO895 := n0_; have HO901 := n1_; have HO904 := n2_; have HO911 := n3_; have BK898 := n4_; have BK908 := n5_; have HB := n6_; have BK915 := n7_; have GW915 := n8_; have GE915 := n9_; have NB898_915 := n10_; have NB915_898 := n11_; have NB908_915 := n12_; have NB915_908 := n13_; clear n0_ n1_ n2_ n3_ n4_ n5_ n6_ n7_ n8_ n9_ n10_ n11_ n12_ n13_; clear hb hbox hg; have hnb108 := NB915_898.out; have hnc108 := NB898_915.out; have hnb109 := NB915_908.out; have hnc109 := NB908_915.out; obtain ⟨hcz110_0, hcz110_1, hfz110_0, hfz110_1⟩ := bc2_ BK915.out) | ((with_reducible refine gate_callee (f := 50) rfl ?_); refine goesL_ (some 41) rfl rfl Try.func50 (by kernel_rfl) rfl #[.slice A0 l0.length c0] rfl (by (try simp only [mp_]); first | done | rfl | (simp only [List.length_drop, List.length_take]; rfl)) ?_; (with_reducible refine (spec_DrawHeapDrop.calls k _ _ l0 t916 t917 _ ?side1 ?side2 A8.out).mono ?_); (case side1 => exact Kd.C_below HR0.out (by repeat (first | (with_reducible first | exact HB.out | apply ba_ | apply bn_ | apply bd_ | refine below_set ?_ GE898.out | refine below_set ?_ GE908.out | refine below_set ?_ GE915.out) | exact HB.out))); (case side2 => exact HC0.out); rintro e w111 ⟨v918, rfl, ho0, hb⟩; refine ⟨_, rfl, ?_⟩; have n0_ := Aside0.mk (Kd.R_elder' (by (with_reducible repeat (first | apply Kd.R_alloc | apply Kd.R_drewN | apply Kd.R_drew)); exact (Kd.R_mono (Kd.R_far (p := ⟨gb915, 1, none⟩) (Kd.R_far (p := ⟨gb915, 0, none⟩) (Kd.R_mono HO895.out (fun k_ hk => (⟨hk, hk.2⟩ : _ ∧ k_ ≠ gb915))) (fun _ hk => hk.2) (.int .i64 t912)) (fun _ hk => hk.2) (.int .i64 t913)) (fun _ h_ => h_.1))) (Kd.R_base ho0) hb); have n1_ := Aside0.mk (Kd.R_elder' (by (with_reducible repeat (first | apply Kd.R_alloc | apply Kd.R_drewN | apply Kd.R_drew)); exact (Kd.R_mono (Kd.R_far (p := ⟨gb915, 1, none⟩) (Kd.R_far (p := ⟨gb915, 0, none⟩) (Kd.R_mono HO901.out (fun k_ hk => (⟨hk, hk.2⟩ : _ ∧ k_ ≠ gb915))) (fun _ hk => hk.2) (.int .i64 t912)) (fun _ hk => hk.2) (.int .i64 t913)) (fun _ h_ => h_.1))) (Kd.R_base ho0) hb); have n2_ := Aside0.mk (Kd.R_elder' (by (with_reducible repeat (first | apply Kd.R_alloc | apply Kd.R_drewN | apply Kd.R_drew)); exact (Kd.R_mono (Kd.R_far (p := ⟨gb915, 1, none⟩) (Kd.R_far (p := ⟨gb915, 0, none⟩) (Kd.R_mono HO904.out (fun k_ hk => (⟨hk, hk.2⟩ : _ ∧ k_ ≠ gb915))) (fun _ hk => hk.2) (.int .i64 t912)) (fun _ hk => hk.2) (.int .i64 t913)) (fun _ h_ => h_.1))) (Kd.R_base ho0) hb); have n3_ := Aside0.mk (Kd.R_elder' (by (with_reducible repeat (first | apply Kd.R_alloc | apply Kd.R_drewN | apply Kd.R_drew)); exact (Kd.R_mono (Kd.R_far (p := ⟨gb915, 1, none⟩) (Kd.R_far (p := ⟨gb915, 0, none⟩) (Kd.R_mono HO911.out (fun k_ hk => (⟨hk, hk.2⟩ : _ ∧ k_ ≠ gb915))) (fun _ hk => hk.2) (.int .i64 t912)) (fun _ hk => hk.2) (.int .i64 t913)) (fun _ h_ => h_.1))) (Kd.R_base ho0) hb); have n4_ := Aside0.mk (Kd.R_lower (Kd.R_newB (Kd.R_newB (Kd.R_newB (Kd.R_new' (Kd.R_new' (Kd.R_new' (Kd.R_new' ho0 (Kd.R_lt (by (with_reducible repeat (first | apply Kd.R_alloc | apply Kd.R_drewN | apply Kd.R_drew)); exact (Kd.R_mono (Kd.R_far (p := ⟨gb915, 1, none⟩) (Kd.R_far (p := ⟨gb915, 0, none⟩) (Kd.R_mono HO895.out (fun k_ hk => (⟨hk, hk.2⟩ : _ ∧ k_ ≠ gb915))) (fun _ hk => hk.2) (.int .i64 t912)) (fun _ hk => hk.2) (.int .i64 t913)) (fun _ h_ => h_.1))))) (Kd.R_lt (by (with_reducible repeat (first | apply Kd.R_alloc | apply Kd.R_drewN | apply Kd.R_drew)); exact (Kd.R_mono (Kd.R_far (p := ⟨gb915, 1, none⟩) (Kd.R_far (p := ⟨gb915, 0, none⟩) (Kd.R_mono HO901.out (fun k_ hk => (⟨hk, hk.2⟩ : _ ∧ k_ ≠ gb915))) (fun _ hk => hk.2) (.int .i64 t912)) (fun _ hk => hk.2) (.int .i64 t913)) (fun _ h_ => h_.1))))) (Kd.R_lt (by (with_reducible repeat (first | apply Kd.R_alloc | apply Kd.R_drewN | apply Kd.R_drew)); exact (Kd.R_mono (Kd.R_far (p := ⟨gb915, 1, none⟩) (Kd.R_far (p := ⟨gb915, 0, none⟩) (Kd.R_mono HO904.out (fun k_ hk => (⟨hk, hk.2⟩ : _ ∧ k_ ≠ gb915))) (fun _ hk => hk.2) (.int .i64 t912)) (fun _ hk => hk.2) (.int .i64 t913)) (fun _ h_ => h_.1))))) (Kd.R_lt (by (with_reducible repeat (first | apply Kd.R_alloc | apply Kd.R_drewN | apply Kd.R_drew)); exact (Kd.R_mono (Kd.R_far (p := ⟨gb915, 1, none⟩) (Kd.R_far (p := ⟨gb915, 0, none⟩) (Kd.R_mono HO911.out (fun k_ hk => (⟨hk, hk.2⟩ : _ ∧ k_ ≠ gb915))) (fun _ hk => hk.2) (.int .i64 t912)) (fun _ hk => hk.2) (.int .i64 t913)) (fun _ h_ => h_.1))))) (g := gb898) (o := .cells #[.int .i64 t896, .int .i64 t897] 25 (0, 0)) (by (with_reducible repeat (first | refine kn_ ?_ _ | refine kd_ ?_ | refine ka_ ?_ _)); refine blk_far ?_ NB898_915.out _; (with_reducible repeat (first | refine kn_ ?_ _ | refine kd_ ?_ | refine ka_ ?_ _)); refine blk_far ?_ NB898_915.out _; (with_reducible repeat (first | refine kn_ ?_ _ | refine kd_ ?_ | refine ka_ ?_ _)); exact BK898.out)) (g := gb908) (o := .cells #[.int .i64 t905, .int .i64 t906] 25 (0, 0)) (by (with_reducible repeat (first | refine kn_ ?_ _ | refine kd_ ?_ | refine ka_ ?_ _)); refine blk_far ?_ NB908_915.out _; (with_reducible repeat (first | refine kn_ ?_ _ | refine kd_ ?_ | refine ka_ ?_ _)); refine blk_far ?_ NB908_915.out _; (with_reducible repeat (first | refine kn_ ?_ _ | refine kd_ ?_ | refine ka_ ?_ _)); exact BK908.out)) (g := gb915) (o := .cells #[.int .i64 t912, .int .i64 t913] 25 (0, 0)) (by (with_reducible repeat (first | refine kn_ ?_ _ | refine kd_ ?_ | refine ka_ ?_ _)); refine blk_put (cs := #[.int .i64 t912, .int .i64 0]) ?_ 1 _ rfl; (with_reducible repeat (first | refine kn_ ?_ _ | refine kd_ ?_ | refine ka_ ?_ _)); refine blk_put (cs := #[.int .i64 0, .int .i64 0]) ?_ 0 _ rfl; (with_reducible repeat (first | refine kn_ ?_ _ | refine kd_ ?_ | refine ka_ ?_ _)); exact BK915.out)) (below_size (by repeat (first | (with_reducible first | exact HB.out | apply ba_ | apply bn_ | apply bd_ | refine below_set ?_ GE898.out | refine below_set ?_ GE908.out | refine below_set ?_ GE915.out) | exact HB.out)))); have n5_ := Aside0.mk (blk_below (g := gb898) (o := .cells #[.int .i64 t896, .int .i64 t897] 25 (0, 0)) (by (with_reducible repeat (first | refine kn_ ?_ _ | refine kd_ ?_ | refine ka_ ?_ _)); refine blk_far ?_ NB898_915.out _; (with_reducible repeat (first | refine kn_ ?_ _ | refine kd_ ?_ | refine ka_ ?_ _)); refine blk_far ?_ NB898_915.out _; (with_reducible repeat (first | refine kn_ ?_ _ | refine kd_ ?_ | refine ka_ ?_ _)); exact BK898.out) hb); have n6_ := Aside0.mk (blk_below (g := gb908) (o := .cells #[.int .i64 t905, .int .i64 t906] 25 (0, 0)) (by (with_reducible repeat (first | refine kn_ ?_ _ | refine kd_ ?_ | refine ka_ ?_ _)); refine blk_far ?_ NB908_915.out _; (with_reducible repeat (first | refine kn_ ?_ _ | refine kd_ ?_ | refine ka_ ?_ _)); refine blk_far ?_ NB908_915.out _; (with_reducible repeat (first | refine kn_ ?_ _ | refine kd_ ?_ | refine ka_ ?_ _)); exact BK908.out) hb); have n7_ := Aside0.mk (blk_below (g := gb915) (o := .cells #[.int .i64 t912, .int .i64 t913] 25 (0, 0)) (by (with_reducible repeat (first | refine kn_ ?_ _ | refine kd_ ?_ | refine ka_ ?_ _)); refine blk_put (cs := #[.int .i64 t912, .int .i64 0]) ?_ 1 _ rfl; (with_reducible repeat (first | refine kn_ ?_ _ | refine kd_ ?_ | refine ka_ ?_ _)); refine blk_put (cs := #[.int .i64 0, .int .i64 0]) ?_ 0 _ rfl; (with_reducible repeat (first | refine kn_ ?_ _ | refine kd_ ?_ | refine ka_ ?_ _)); exact BK915.out) hb); have n8_ := Aside0.mk (below_step (by repeat (first | (with_reducible first | exact HB.out | apply ba_ | apply bn_ | apply bd_ | refine below_set ?_ GE898.out | refine below_set ?_ GE908.out | refine below_set ?_ GE915.out) | exact HB.out)) hb); clear HO895 HO901 HO904 HO911 BK898 BK908 BK915 HB; have HO895 := n0_; have HO901 := n1_; have HO904 := n2_; have HO911 := n3_; have HO919 := n4_; have BK898 := n5_; have BK908 := n6_; have BK915 := n7_; have HB := n8_; clear n0_ n1_ n2_ n3_ n4_ n5_ n6_ n7_ n8_; (try clear hb); (try clear hb2); (try clear hk); (try clear hi); (try clear ho0)) | ((with_reducible refine gate_callee (f := 51) rfl ?_); refine goesL_ (some 45) rfl rfl Try.func51 (by kernel_rfl) rfl #[.slice A0 l0.length c0] rfl (by (try simp only [mp_]); first | done | rfl | (simp only [List.length_drop, List.length_take]; rfl)) ?_; (with_reducible refine (spec_DrawHeapOk.calls k _ _ l0 t920 _ ?side1 ?side2 A9.out).mono ?_); (case side1 => repeat (first | exact (Kd.C_below HR0.out HB.out) | (with_reducible first | refine ca_ ?_ _ | refine cn_ ?_ _ | refine cd_ ?_))); (case side2 => exact HC0.out); rintro e w112 ⟨v921, rfl, ho0, hb⟩; refine ⟨_, rfl, ?_⟩; have n0_ := Aside0.mk (Kd.R_elder' (rp_ HO895.out) (Kd.R_base ho0) hb); have n1_ := Aside0.mk (Kd.R_elder' (rp_ HO901.out) (Kd.R_base ho0) hb); have n2_ := Aside0.mk (Kd.R_elder' (rp_ HO904.out) (Kd.R_base ho0) hb); have n3_ := Aside0.mk (Kd.R_elder' (rp_ HO911.out) (Kd.R_base ho0) hb); have n4_ := Aside0.mk (Kd.R_elder' (rp_ HO919.out) (Kd.R_base ho0) hb); have n5_ := Aside0.mk (Kd.R_lower (Kd.R_newB (Kd.R_newB (Kd.R_newB (Kd.R_new' (Kd.R_new' (Kd.R_new' (Kd.R_new' (Kd.R_new' ho0 (Kd.R_lt (rp_ HO895.out))) (Kd.R_lt (rp_ HO901.out))) (Kd.R_lt (rp_ HO904.out))) (Kd.R_lt (rp_ HO911.out))) (Kd.R_lt (rp_ HO919.out))) (g := gb898) (o := .cells #[.int .i64 t896, .int .i64 t897] 25 (0, 0)) (pb_ BK898.out)) (g := gb908) (o := .cells #[.int .i64 t905, .int .i64 t906] 25 (0, 0)) (pb_ BK908.out)) (g := gb915) (o := .cells #[.int .i64 t912, .int .i64 t913] 25 (0, 0)) (pb_ BK915.out)) (below_size (by repeat (first | (with_reducible first | exact HB.out | apply ba_ | apply bn_ | apply bd_ | refine below_set ?_ GE898.out | refine below_set ?_ GE908.out | refine below_set ?_ GE915.out) | exact HB.out)))); have n6_ := Aside0.mk (bb_ BK898.out hb); have n7_ := Aside0.mk (bb_ BK908.out hb); have n8_ := Aside0.mk (bb_ BK915.out hb); have n9_ := Aside0.mk (below_step (by repeat (first | (with_reducible first | exact HB.out | apply ba_ | apply bn_ | apply bd_ | refine below_set ?_ GE898.out | refine below_set ?_ GE908.out | refine below_set ?_ GE915.out) | exact HB.out)) hb); clear HO895 HO901 HO904 HO911 HO919 BK898 BK908 BK915 HB; have HO895 := n0_; have HO901 := n1_; have HO904 := n2_; have HO911 := n3_; have HO919 := n4_; have HO922 := n5_; have BK898 := n6_; have BK908 := n7_; have BK915 := n8_; have HB := n9_; clear n0_ n1_ n2_ n3_ n4_ n5_ n6_ n7_ n8_ n9_; (try clear hb); (try clear hb2); (try clear hk); (try clear hi); (try clear ho0)) | ((with_reducible refine gate_callee (f := 52) rfl ?_); refine goesL_ (some 47) rfl rfl Try.func52 (by kernel_rfl) rfl #[.slice A0 l0.length c0] rfl (by (try simp only [mp_]); first | done | rfl | (simp only [List.length_drop, List.length_take]; rfl)) ?_; (with_reducible refine (spec_DrawSorted.calls k _ _ l0 t923 _ ?side1 ?side2 A10.out).mono ?_); (case side1 => repeat (first | exact (Kd.C_below HR0.out HB.out) | (with_reducible first | refine ca_ ?_ _ | refine cn_ ?_ _ | refine cd_ ?_))); (case side2 => exact HC0.out); rintro e w113 ⟨v924, rfl, ho0, hb⟩; refine ⟨_, rfl, ?_⟩; have n0_ := Aside0.mk (Kd.R_elder' (rp_ HO895.out) (Kd.R_base ho0) hb); have n1_ := Aside0.mk (Kd.R_elder' (rp_ HO901.out) (Kd.R_base ho0) hb); have n2_ := Aside0.mk (Kd.R_elder' (rp_ HO904.out) (Kd.R_base ho0) hb); have n3_ := Aside0.mk (Kd.R_elder' (rp_ HO911.out) (Kd.R_base ho0) hb); have n4_ := Aside0.mk (Kd.R_elder' (rp_ HO919.out) (Kd.R_base ho0) hb); have n5_ := Aside0.mk (Kd.R_elder' (rp_ HO922.out) (Kd.R_base ho0) hb); have n6_ := Aside0.mk (Kd.R_lower (Kd.R_newB (Kd.R_newB (Kd.R_newB (Kd.R_new' (Kd.R_new' (Kd.R_new' (Kd.R_new' (Kd.R_new' (Kd.R_new' ho0 (Kd.R_lt (rp_ HO895.out))) (Kd.R_lt (rp_ HO901.out))) (Kd.R_lt (rp_ HO904.out))) (Kd.R_lt (rp_ HO911.out))) (Kd.R_lt (rp_ HO919.out))) (Kd.R_lt (rp_ HO922.out))) (g := gb898) (o := .cells #[.int .i64 t896, .int .i64 t897] 25 (0, 0)) (pb_ BK898.out)) (g := gb908) (o := .cells #[.int .i64 t905, .int .i64 t906] 25 (0, 0)) (pb_ BK908.out)) (g := gb915) (o := .cells #[.int .i64 t912, .int .i64 t913] 25 (0, 0)) (pb_ BK915.out)) (below_size (by repeat (first | (with_reducible first | exact HB.out | apply ba_ | apply bn_ | apply bd_ | refine below_set ?_ GE898.out | refine below_set ?_ GE908.out | refine below_set ?_ GE915.out) | exact HB.out)))); have n7_ := Aside0.mk (bb_ BK898.out hb); have n8_ := Aside0.mk (bb_ BK908.out hb); have n9_ := Aside0.mk (bb_ BK915.out hb); have n10_ := Aside0.mk (below_step (by repeat (first | (with_reducible first | exact HB.out | apply ba_ | apply bn_ | apply bd_ | refine below_set ?_ GE898.out | refine below_set ?_ GE908.out | refine below_set ?_ GE915.out) | exact HB.out)) hb); clear HO895 HO901 HO904 HO911 HO919 HO922 BK898 BK908 BK915 HB; have HO895 := n0_; have HO901 := n1_; have HO904 := n2_; have HO911 := n3_; have HO919 := n4_; have HO922 := n5_; have HO925 := n6_; have BK898 := n7_; have BK908 := n8_; have BK915 := n9_; have HB := n10_; clear n0_ n1_ n2_ n3_ n4_ n5_ n6_ n7_ n8_ n9_ n10_; (try clear hb); (try clear hb2); (try clear hk); (try clear hi); (try clear ho0)) | ((with_reducible refine gate_callee (f := 53) rfl ?_); refine goesL_ (some 50) rfl rfl Try.func53 (by kernel_rfl) rfl #[.slice A0 l0.length c0] rfl (by (try simp only [mp_]); first | done | rfl | (simp only [List.length_drop, List.length_take]; rfl)) ?_; (with_reducible refine (spec_DrawBefore.calls k _ _ l0 t926 t927 t928 t929 _ ?side1 ?side2 A11.out).mono ?_); (case side1 => repeat (first | exact (Kd.C_below HR0.out HB.out) | (with_reducible first | refine ca_ ?_ _ | refine cn_ ?_ _ | refine cd_ ?_))); (case side2 => exact HC0.out); rintro e w114 ⟨rfl, hb⟩; refine ⟨_, rfl, ?_⟩; have n0_ := Aside0.mk (Kd.R_below (rp_ HO895.out) hb); have n1_ := Aside0.mk (Kd.R_below (rp_ HO901.out) hb); have n2_ := Aside0.mk (Kd.R_below (rp_ HO904.out) hb); have n3_ := Aside0.mk (Kd.R_below (rp_ HO911.out) hb); have n4_ := Aside0.mk (Kd.R_below (rp_ HO919.out) hb); have n5_ := Aside0.mk (Kd.R_below (rp_ HO922.out) hb); have n6_ := Aside0.mk (Kd.R_below (rp_ HO925.out) hb); have n7_ := Aside0.mk (bb_ BK898.out hb); have n8_ := Aside0.mk (bb_ BK908.out hb); have n9_ := Aside0.mk (bb_ BK915.out hb); have n10_ := Aside0.mk (below_step (by repeat (first | (with_reducible first | exact HB.out | apply ba_ | apply bn_ | apply bd_ | refine below_set ?_ GE898.out | refine below_set ?_ GE908.out | refine below_set ?_ GE915.out) | exact HB.out)) hb); clear HO895 HO901 HO904 HO911 HO919 HO922 HO925 BK898 BK908 BK915 HB; have HO895 := n0_; have HO901 := n1_; have HO904 := n2_; have HO911 := n3_; have HO919 := n4_; have HO922 := n5_; have HO925 := n6_; have BK898 := n7_; have BK908 := n8_; have BK915 := n9_; have HB := n10_; clear n0_ n1_ n2_ n3_ n4_ n5_ n6_ n7_ n8_ n9_ n10_; (try clear hb); (try clear hb2); (try clear hk); (try clear hi)) | ((with_reducible refine gate_dst (N := 16) rfl ?_); refine box_event ?hg (N := 16) ?hd (cs := #[.int .i64 0, .int .i64 0]) (t := 25) ?hr ?_; (case hd => rfl); (case hg => rfl); (case hr => first | (go_simp; done) | (go_simp; rfl)); intro gb930 hg w115 hbox hb; have n0_ := Aside0.mk (Kd.R_below (Kd.R_elderB (rp_ HO895.out) gb930 (Nat.le_of_eq hg.symm)) hb); have n1_ := Aside0.mk (Kd.R_below (Kd.R_elderB (rp_ HO901.out) gb930 (Nat.le_of_eq hg.symm)) hb); have n2_ := Aside0.mk (Kd.R_below (Kd.R_elderB (rp_ HO904.out) gb930 (Nat.le_of_eq hg.symm)) hb); have n3_ := Aside0.mk (Kd.R_below (Kd.R_elderB (rp_ HO911.out) gb930 (Nat.le_of_eq hg.symm)) hb); have n4_ := Aside0.mk (Kd.R_below (Kd.R_elderB (rp_ HO919.out) gb930 (Nat.le_of_eq hg.symm)) hb); have n5_ := Aside0.mk (Kd.R_below (Kd.R_elderB (rp_ HO922.out) gb930 (Nat.le_of_eq hg.symm)) hb); have n6_ := Aside0.mk (Kd.R_below (Kd.R_elderB (rp_ HO925.out) gb930 (Nat.le_of_eq hg.symm)) hb); have n7_ := Aside0.mk (bb_ BK898.out hb); have n8_ := Aside0.mk (bb_ BK908.out hb); have n9_ := Aside0.mk (bb_ BK915.out hb); have n10_ := Aside0.mk (below_step (by repeat (first | (with_reducible first | exact HB.out | apply ba_ | apply bn_ | apply bd_ | refine below_set ?_ GE898.out | refine below_set ?_ GE908.out | refine below_set ?_ GE915.out) | exact HB.out)) hb); have n11_ := Aside0.mk (hbox); have n12_ := Aside0.mk ((by rw [hg]; exact (below_size (by repeat (first | (with_reducible first | exact HB.out | apply ba_ | apply bn_ | apply bd_ | refine below_set ?_ GE898.out | refine below_set ?_ GE908.out | refine below_set ?_ GE915.out) | exact HB.out))) : w.heap.size ≤ gb930)); have n13_ := Aside0.mk ((by rw [hg]; exact (below_size (by repeat (first | (with_reducible first | exact HB.out | apply ba_ | apply bn_ | apply bd_ | refine below_set ?_ GE898.out | refine below_set ?_ GE908.out | refine below_set ?_ GE915.out) | exact HB.out))) : w.heap.size ≤ gb930)); have n14_ := Aside0.mk (nl_ BK898.out hg); have n15_ := Aside0.mk (n14_.out.symm); have n16_ := Aside0.mk (nl_ BK908.out hg); have n17_ := Aside0.mk (n16_.out.symm); have n18_ := Aside0.mk (nl_ BK915.out hg); have n19_ := Aside0.mk (n18_.out.symm); clear HO895 HO901 HO904 HO911 HO919 HO922 HO925 BK898 BK908 BK915 HB; have HO895 := n0_; have HO901 := n1_; have HO904 := n2_; have HO911 := n3_; have HO919 := n4_; have HO922 := n5_; have HO925 := n6_; have BK898 := n7_; have BK908 := n8_; have BK915 := n9_; have HB := n10_; have BK930 := n11_; have GW930 := n12_; have GE930 := n13_; have NB898_930 := n14_; have NB930_898 := n15_; have NB908_930 := n16_; have NB930_908 := n17_; have NB915_930 := n18_; have NB930_915 := n19_; clear n0_ n1_ n2_ n3_ n4_ n5_ n6_ n7_ n8_ n9_ n10_ n11_ n12_ n13_ n14_ n15_ n16_ n17_ n18_ n19_; clear hb hbox hg) | ((with_reducible refine gate_dst (N := 17) rfl ?_); refine box_event ?hg (N := 17) ?hd (cs := #[.int .i64 0, .int .i64 0]) (t := 25) ?hr ?_; (case hd => rfl); (case hg => rfl); (case hr => first | (go_simp; done) | (go_simp; rfl)); intro gb931 hg w116 hbox hb; have n0_ := Aside0.mk (Kd.R_below (Kd.R_elderB (rp_ HO895.out) gb931 (Nat.le_of_eq hg.symm)) hb); have n1_ := Aside0.mk (Kd.R_below (Kd.R_elderB (rp_ HO901.out) gb931 (Nat.le_of_eq hg.symm)) hb); have n2_ := Aside0.mk (Kd.R_below (Kd.R_elderB (rp_ HO904.out) gb931 (Nat.le_of_eq hg.symm)) hb); have n3_ := Aside0.mk (Kd.R_below (Kd.R_elderB (rp_ HO911.out) gb931 (Nat.le_of_eq hg.symm)) hb); have n4_ := Aside0.mk (Kd.R_below (Kd.R_elderB (rp_ HO919.out) gb931 (Nat.le_of_eq hg.symm)) hb); have n5_ := Aside0.mk (Kd.R_below (Kd.R_elderB (rp_ HO922.out) gb931 (Nat.le_of_eq hg.symm)) hb); have n6_ := Aside0.mk (Kd.R_below (Kd.R_elderB (rp_ HO925.out) gb931 (Nat.le_of_eq hg.symm)) hb); have n7_ := Aside0.mk (bb_ BK898.out hb); have n8_ := Aside0.mk (bb_ BK908.out hb); have n9_ := Aside0.mk (bb_ BK915.out hb); have n10_ := Aside0.mk (bb_ BK930.out hb); have n11_ := Aside0.mk (below_step (by repeat (first | (with_reducible first | exact HB.out | apply ba_ | apply bn_ | apply bd_ | refine below_set ?_ GE898.out | refine below_set ?_ GE908.out | refine below_set ?_ GE915.out | refine below_set ?_ GE930.out) | exact HB.out)) hb); have n12_ := Aside0.mk (hbox); have n13_ := Aside0.mk ((by rw [hg]; exact (below_size (by repeat (first | (with_reducible first | exact HB.out | apply ba_ | apply bn_ | apply bd_ | refine below_set ?_ GE898.out | refine below_set ?_ GE908.out | refine below_set ?_ GE915.out | refine below_set ?_ GE930.out) | exact HB.out))) : w.heap.size ≤ gb931)); have n14_ := Aside0.mk ((by rw [hg]; exact (below_size (by repeat (first | (with_reducible first | exact HB.out | apply ba_ | apply bn_ | apply bd_ | refine below_set ?_ GE898.out | refine below_set ?_ GE908.out | refine below_set ?_ GE915.out | refine below_set ?_ GE930.out) | exact HB.out))) : w.heap.size ≤ gb931)); have n15_ := Aside0.mk (nl_ BK898.out hg); have n16_ := Aside0.mk (n15_.out.symm); have n17_ := Aside0.mk (nl_ BK908.out hg); have n18_ := Aside0.mk (n17_.out.symm); have n19_ := Aside0.mk (nl_ BK915.out hg); have n20_ := Aside0.mk (n19_.out.symm); have n21_ := Aside0.mk (nl_ BK930.out hg); have n22_ := Aside0.mk (n21_.out.symm); clear HO895 HO901 HO904 HO911 HO919 HO922 HO925 BK898 BK908 BK915 BK930 HB; have HO895 := n0_; have HO901 := n1_; have HO904 := n2_; have HO911 := n3_; have HO919 := n4_; have HO922 := n5_; have HO925 := n6_; have BK898 := n7_; have BK908 := n8_; have BK915 := n9_; have BK930 := n10_; have HB := n11_; have BK931 := n12_; have GW931 := n13_; have GE931 := n14_; have NB898_931 := n15_; have NB931_898 := n16_; have NB908_931 := n17_; have NB931_908 := n18_; have NB915_931 := n19_; have NB931_915 := n20_; have NB930_931 := n21_; have NB931_930 := n22_; clear n0_ n1_ n2_ n3_ n4_ n5_ n6_ n7_ n8_ n9_ n10_ n11_ n12_ n13_ n14_ n15_ n16_ n17_ n18_ n19_ n20_ n21_ n22_; clear hb hbox hg; have hnb117 := NB930_898.out; have hnc117 := NB898_930.out; have hnb118 := NB930_908.out; have hnc118 := NB908_930.out; have hnb119 := NB930_915.out; have hnc119 := NB915_930.out; have hnb120 := NB930_931.out; have hnc120 := NB931_930.out; obtain ⟨hcz121_0, hcz121_1, hfz121_0, hfz121_1⟩ := bc2_ BK930.out; have hnb122 := NB931_898.out; have hnc122 := NB898_931.out; have hnb123 := NB931_908.out; have hnc123 := NB908_931.out; have hnb124 := NB931_915.out; have hnc124 := NB915_931.out; obtain ⟨hcz125_0, hcz125_1, hfz125_0, hfz125_1⟩ := bc2_ BK931.out))
         have n0_ : Aside0 (Kd.R k25 25 ((((w116.setCell ⟨gb930, 0, none⟩ (.int .i64 t926)).setCell ⟨gb930, 1, none⟩ (.int .i64 t927)).setCell ⟨gb931, 0, none⟩ (.int .i64 t928)).setCell ⟨gb931, 1, none⟩ (.int .i64 t929)) w.heap.size (fun k_ => some k_ ≠ (.slice Ao101 t899.length co101 : Value).ownBlock ∧ some k_ ≠ (v903 : Value).ownBlock ∧ some k_ ≠ (v910 : Value).ownBlock ∧ some k_ ≠ (v918 : Value).ownBlock ∧ some k_ ≠ (v921 : Value).ownBlock ∧ some k_ ≠ (v924 : Value).ownBlock ∧ k_ ≠ gb898 ∧ k_ ≠ gb908 ∧ k_ ≠ gb915 ∧ k_ ≠ gb930 ∧ k_ ≠ gb931) v894 t893) := ⟨by (with_reducible repeat (first | apply Kd.R_alloc | apply Kd.R_drewN | apply Kd.R_drew)); exact Kd.R_mono (Kd.R_far (p := ⟨gb931, 1, none⟩) (Kd.R_far (p := ⟨gb931, 0, none⟩) (Kd.R_far (p := ⟨gb930, 1, none⟩) (Kd.R_far (p := ⟨gb930, 0, none⟩) (Kd.R_mono (Kd.R_mono HO895.out (fun k_ hk => (⟨hk, hk.1.2⟩ : _ ∧ k_ ≠ gb930))) (fun k_ hk => (⟨hk, hk.1.2⟩ : _ ∧ k_ ≠ gb931))) (fun _ hk => hk.1.2) (.int .i64 t926)) (fun _ hk => hk.1.2) (.int .i64 t927)) (fun _ hk => hk.2) (.int .i64 t928)) (fun _ hk => hk.2) (.int .i64 t929)) (fun _ hk => ⟨hk.1.1.1.1.1.1.1.1.1.1.1.2, ⟨hk.1.1.1.1.1.1.1.1.1.1.2, ⟨hk.1.1.1.1.1.1.1.1.2, ⟨hk.1.1.1.1.1.1.2, ⟨hk.1.1.1.1.1.2, ⟨hk.1.1.1.1.2, ⟨hk.1.1.1.1.1.1.1.1.1.1.1.1.2, ⟨hk.1.1.1.1.1.1.1.1.1.2, ⟨hk.1.1.1.1.1.1.1.2, ⟨hk.1.1.1.2, hk.1.1.2⟩⟩⟩⟩⟩⟩⟩⟩⟩⟩)⟩
         have n1_ : Aside0 (Kd.R k25 25 ((((w116.setCell ⟨gb930, 0, none⟩ (.int .i64 t926)).setCell ⟨gb930, 1, none⟩ (.int .i64 t927)).setCell ⟨gb931, 0, none⟩ (.int .i64 t928)).setCell ⟨gb931, 1, none⟩ (.int .i64 t929)) w.heap.size (fun k_ => some k_ ≠ (v894 : Value).ownBlock ∧ some k_ ≠ (v903 : Value).ownBlock ∧ some k_ ≠ (v910 : Value).ownBlock ∧ some k_ ≠ (v918 : Value).ownBlock ∧ some k_ ≠ (v921 : Value).ownBlock ∧ some k_ ≠ (v924 : Value).ownBlock ∧ k_ ≠ gb898 ∧ k_ ≠ gb908 ∧ k_ ≠ gb915 ∧ k_ ≠ gb930 ∧ k_ ≠ gb931) (.slice Ao101 t899.length co101) t899) := ⟨by (with_reducible repeat (first | apply Kd.R_alloc | apply Kd.R_drewN | apply Kd.R_drew)); exact Kd.R_mono (Kd.R_far (p := ⟨gb931, 1, none⟩) (Kd.R_far (p := ⟨gb931, 0, none⟩) (Kd.R_far (p := ⟨gb930, 1, none⟩) (Kd.R_far (p := ⟨gb930, 0, none⟩) (Kd.R_mono (Kd.R_mono HO901.out (fun k_ hk => (⟨hk, hk.1.2⟩ : _ ∧ k_ ≠ gb930))) (fun k_ hk => (⟨hk, hk.1.2⟩ : _ ∧ k_ ≠ gb931))) (fun _ hk => hk.1.2) (.int .i64 t926)) (fun _ hk => hk.1.2) (.int .i64 t927)) (fun _ hk => hk.2) (.int .i64 t928)) (fun _ hk => hk.2) (.int .i64 t929)) (fun _ hk => ⟨hk.1.1.1.1.1.1.1.1.1.1.1.1.2, ⟨hk.1.1.1.1.1.1.1.1.1.1.2, ⟨hk.1.1.1.1.1.1.1.1.2, ⟨hk.1.1.1.1.1.1.2, ⟨hk.1.1.1.1.1.2, ⟨hk.1.1.1.1.2, ⟨hk.1.1.1.1.1.1.1.1.1.1.1.2, ⟨hk.1.1.1.1.1.1.1.1.1.2, ⟨hk.1.1.1.1.1.1.1.2, ⟨hk.1.1.1.2, hk.1.1.2⟩⟩⟩⟩⟩⟩⟩⟩⟩⟩)⟩
         have n2_ : Aside0 (Kd.R k25 25 ((((w116.setCell ⟨gb930, 0, none⟩ (.int .i64 t926)).setCell ⟨gb930, 1, none⟩ (.int .i64 t927)).setCell ⟨gb931, 0, none⟩ (.int .i64 t928)).setCell ⟨gb931, 1, none⟩ (.int .i64 t929)) w.heap.size (fun k_ => some k_ ≠ (v894 : Value).ownBlock ∧ some k_ ≠ (.slice Ao101 t899.length co101 : Value).ownBlock ∧ some k_ ≠ (v910 : Value).ownBlock ∧ some k_ ≠ (v918 : Value).ownBlock ∧ some k_ ≠ (v921 : Value).ownBlock ∧ some k_ ≠ (v924 : Value).ownBlock ∧ k_ ≠ gb898 ∧ k_ ≠ gb908 ∧ k_ ≠ gb915 ∧ k_ ≠ gb930 ∧ k_ ≠ gb931) v903 t902) := ⟨by (with_reducible repeat (first | apply Kd.R_alloc | apply Kd.R_drewN | apply Kd.R_drew)); exact Kd.R_mono (Kd.R_far (p := ⟨gb931, 1, none⟩) (Kd.R_far (p := ⟨gb931, 0, none⟩) (Kd.R_far (p := ⟨gb930, 1, none⟩) (Kd.R_far (p := ⟨gb930, 0, none⟩) (Kd.R_mono (Kd.R_mono HO904.out (fun k_ hk => (⟨hk, hk.1.2⟩ : _ ∧ k_ ≠ gb930))) (fun k_ hk => (⟨hk, hk.1.2⟩ : _ ∧ k_ ≠ gb931))) (fun _ hk => hk.1.2) (.int .i64 t926)) (fun _ hk => hk.1.2) (.int .i64 t927)) (fun _ hk => hk.2) (.int .i64 t928)) (fun _ hk => hk.2) (.int .i64 t929)) (fun _ hk => ⟨hk.1.1.1.1.1.1.1.1.1.1.1.1.2, ⟨hk.1.1.1.1.1.1.1.1.1.1.1.2, ⟨hk.1.1.1.1.1.1.1.1.2, ⟨hk.1.1.1.1.1.1.2, ⟨hk.1.1.1.1.1.2, ⟨hk.1.1.1.1.2, ⟨hk.1.1.1.1.1.1.1.1.1.1.2, ⟨hk.1.1.1.1.1.1.1.1.1.2, ⟨hk.1.1.1.1.1.1.1.2, ⟨hk.1.1.1.2, hk.1.1.2⟩⟩⟩⟩⟩⟩⟩⟩⟩⟩)⟩
         have n3_ : Aside0 (Kd.R k25 25 ((((w116.setCell ⟨gb930, 0, none⟩ (.int .i64 t926)).setCell ⟨gb930, 1, none⟩ (.int .i64 t927)).setCell ⟨gb931, 0, none⟩ (.int .i64 t928)).setCell ⟨gb931, 1, none⟩ (.int .i64 t929)) w.heap.size (fun k_ => some k_ ≠ (v894 : Value).ownBlock ∧ some k_ ≠ (.slice Ao101 t899.length co101 : Value).ownBlock ∧ some k_ ≠ (v903 : Value).ownBlock ∧ some k_ ≠ (v918 : Value).ownBlock ∧ some k_ ≠ (v921 : Value).ownBlock ∧ some k_ ≠ (v924 : Value).ownBlock ∧ k_ ≠ gb898 ∧ k_ ≠ gb908 ∧ k_ ≠ gb915 ∧ k_ ≠ gb930 ∧ k_ ≠ gb931) v910 t909) := ⟨by (with_reducible repeat (first | apply Kd.R_alloc | apply Kd.R_drewN | apply Kd.R_drew)); exact Kd.R_mono (Kd.R_far (p := ⟨gb931, 1, none⟩) (Kd.R_far (p := ⟨gb931, 0, none⟩) (Kd.R_far (p := ⟨gb930, 1, none⟩) (Kd.R_far (p := ⟨gb930, 0, none⟩) (Kd.R_mono (Kd.R_mono HO911.out (fun k_ hk => (⟨hk, hk.1.2⟩ : _ ∧ k_ ≠ gb930))) (fun k_ hk => (⟨hk, hk.1.2⟩ : _ ∧ k_ ≠ gb931))) (fun _ hk => hk.1.2) (.int .i64 t926)) (fun _ hk => hk.1.2) (.int .i64 t927)) (fun _ hk => hk.2) (.int .i64 t928)) (fun _ hk => hk.2) (.int .i64 t929)) (fun _ hk => ⟨hk.1.1.1.1.1.1.1.1.1.1.1.1.2, ⟨hk.1.1.1.1.1.1.1.1.1.1.1.2, ⟨hk.1.1.1.1.1.1.1.1.1.1.2, ⟨hk.1.1.1.1.1.1.2, ⟨hk.1.1.1.1.1.2, ⟨hk.1.1.1.1.2, ⟨hk.1.1.1.1.1.1.1.1.1.2, ⟨hk.1.1.1.1.1.1.1.1.2, ⟨hk.1.1.1.1.1.1.1.2, ⟨hk.1.1.1.2, hk.1.1.2⟩⟩⟩⟩⟩⟩⟩⟩⟩⟩)⟩
         have n4_ : Aside0 (Kd.R k25 25 ((((w116.setCell ⟨gb930, 0, none⟩ (.int .i64 t926)).setCell ⟨gb930, 1, none⟩ (.int .i64 t927)).setCell ⟨gb931, 0, none⟩ (.int .i64 t928)).setCell ⟨gb931, 1, none⟩ (.int .i64 t929)) w.heap.size (fun k_ => some k_ ≠ (v894 : Value).ownBlock ∧ some k_ ≠ (.slice Ao101 t899.length co101 : Value).ownBlock ∧ some k_ ≠ (v903 : Value).ownBlock ∧ some k_ ≠ (v910 : Value).ownBlock ∧ some k_ ≠ (v921 : Value).ownBlock ∧ some k_ ≠ (v924 : Value).ownBlock ∧ k_ ≠ gb898 ∧ k_ ≠ gb908 ∧ k_ ≠ gb915 ∧ k_ ≠ gb930 ∧ k_ ≠ gb931) v918 t916) := ⟨by (with_reducible repeat (first | apply Kd.R_alloc | apply Kd.R_drewN | apply Kd.R_drew)); exact Kd.R_mono (Kd.R_far (p := ⟨gb931, 1, none⟩) (Kd.R_far (p := ⟨gb931, 0, none⟩) (Kd.R_far (p := ⟨gb930, 1, none⟩) (Kd.R_far (p := ⟨gb930, 0, none⟩) (Kd.R_mono (Kd.R_mono HO919.out (fun k_ hk => (⟨hk, hk.1.2⟩ : _ ∧ k_ ≠ gb930))) (fun k_ hk => (⟨hk, hk.1.2⟩ : _ ∧ k_ ≠ gb931))) (fun _ hk => hk.1.2) (.int .i64 t926)) (fun _ hk => hk.1.2) (.int .i64 t927)) (fun _ hk => hk.2) (.int .i64 t928)) (fun _ hk => hk.2) (.int .i64 t929)) (fun _ hk => ⟨hk.1.1.1.1.1.1.1.1.1.1.1.1.2, ⟨hk.1.1.1.1.1.1.1.1.1.1.1.2, ⟨hk.1.1.1.1.1.1.1.1.1.1.2, ⟨hk.1.1.1.1.1.1.1.1.1.2, ⟨hk.1.1.1.1.1.2, ⟨hk.1.1.1.1.2, ⟨hk.1.1.1.1.1.1.1.1.2, ⟨hk.1.1.1.1.1.1.1.2, ⟨hk.1.1.1.1.1.1.2, ⟨hk.1.1.1.2, hk.1.1.2⟩⟩⟩⟩⟩⟩⟩⟩⟩⟩)⟩
         have n5_ : Aside0 (Kd.R k25 25 ((((w116.setCell ⟨gb930, 0, none⟩ (.int .i64 t926)).setCell ⟨gb930, 1, none⟩ (.int .i64 t927)).setCell ⟨gb931, 0, none⟩ (.int .i64 t928)).setCell ⟨gb931, 1, none⟩ (.int .i64 t929)) w.heap.size (fun k_ => some k_ ≠ (v894 : Value).ownBlock ∧ some k_ ≠ (.slice Ao101 t899.length co101 : Value).ownBlock ∧ some k_ ≠ (v903 : Value).ownBlock ∧ some k_ ≠ (v910 : Value).ownBlock ∧ some k_ ≠ (v918 : Value).ownBlock ∧ some k_ ≠ (v924 : Value).ownBlock ∧ k_ ≠ gb898 ∧ k_ ≠ gb908 ∧ k_ ≠ gb915 ∧ k_ ≠ gb930 ∧ k_ ≠ gb931) v921 t920) := ⟨by (with_reducible repeat (first | apply Kd.R_alloc | apply Kd.R_drewN | apply Kd.R_drew)); exact Kd.R_mono (Kd.R_far (p := ⟨gb931, 1, none⟩) (Kd.R_far (p := ⟨gb931, 0, none⟩) (Kd.R_far (p := ⟨gb930, 1, none⟩) (Kd.R_far (p := ⟨gb930, 0, none⟩) (Kd.R_mono (Kd.R_mono HO922.out (fun k_ hk => (⟨hk, hk.1.2⟩ : _ ∧ k_ ≠ gb930))) (fun k_ hk => (⟨hk, hk.1.2⟩ : _ ∧ k_ ≠ gb931))) (fun _ hk => hk.1.2) (.int .i64 t926)) (fun _ hk => hk.1.2) (.int .i64 t927)) (fun _ hk => hk.2) (.int .i64 t928)) (fun _ hk => hk.2) (.int .i64 t929)) (fun _ hk => ⟨hk.1.1.1.1.1.1.1.1.1.1.1.1.2, ⟨hk.1.1.1.1.1.1.1.1.1.1.1.2, ⟨hk.1.1.1.1.1.1.1.1.1.1.2, ⟨hk.1.1.1.1.1.1.1.1.1.2, ⟨hk.1.1.1.1.1.1.1.1.2, ⟨hk.1.1.1.1.2, ⟨hk.1.1.1.1.1.1.1.2, ⟨hk.1.1.1.1.1.1.2, ⟨hk.1.1.1.1.1.2, ⟨hk.1.1.1.2, hk.1.1.2⟩⟩⟩⟩⟩⟩⟩⟩⟩⟩)⟩
         have n6_ : Aside0 (Kd.R k25 25 ((((w116.setCell ⟨gb930, 0, none⟩ (.int .i64 t926)).setCell ⟨gb930, 1, none⟩ (.int .i64 t927)).setCell ⟨gb931, 0, none⟩ (.int .i64 t928)).setCell ⟨gb931, 1, none⟩ (.int .i64 t929)) w.heap.size (fun k_ => some k_ ≠ (v894 : Value).ownBlock ∧ some k_ ≠ (.slice Ao101 t899.length co101 : Value).ownBlock ∧ some k_ ≠ (v903 : Value).ownBlock ∧ some k_ ≠ (v910 : Value).ownBlock ∧ some k_ ≠ (v918 : Value).ownBlock ∧ some k_ ≠ (v921 : Value).ownBlock ∧ k_ ≠ gb898 ∧ k_ ≠ gb908 ∧ k_ ≠ gb915 ∧ k_ ≠ gb930 ∧ k_ ≠ gb931) v924 t923) := ⟨by (with_reducible repeat (first | apply Kd.R_alloc | apply Kd.R_drewN | apply Kd.R_drew)); exact Kd.R_mono (Kd.R_far (p := ⟨gb931, 1, none⟩) (Kd.R_far (p := ⟨gb931, 0, none⟩) (Kd.R_far (p := ⟨gb930, 1, none⟩) (Kd.R_far (p := ⟨gb930, 0, none⟩) (Kd.R_mono (Kd.R_mono HO925.out (fun k_ hk => (⟨hk, hk.1.2⟩ : _ ∧ k_ ≠ gb930))) (fun k_ hk => (⟨hk, hk.1.2⟩ : _ ∧ k_ ≠ gb931))) (fun _ hk => hk.1.2) (.int .i64 t926)) (fun _ hk => hk.1.2) (.int .i64 t927)) (fun _ hk => hk.2) (.int .i64 t928)) (fun _ hk => hk.2) (.int .i64 t929)) (fun _ hk => ⟨hk.1.1.1.1.1.1.1.1.1.1.1.1.2, ⟨hk.1.1.1.1.1.1.1.1.1.1.1.2, ⟨hk.1.1.1.1.1.1.1.1.1.1.2, ⟨hk.1.1.1.1.1.1.1.1.1.2, ⟨hk.1.1.1.1.1.1.1.1.2, ⟨hk.1.1.1.1.1.1.1.2, ⟨hk.1.1.1.1.1.1.2, ⟨hk.1.1.1.1.1.2, ⟨hk.1.1.1.1.2, ⟨hk.1.1.1.2, hk.1.1.2⟩⟩⟩⟩⟩⟩⟩⟩⟩⟩)⟩
         have n7_ : Aside0 (((((w116.setCell ⟨gb930, 0, none⟩ (.int .i64 t926)).setCell ⟨gb930, 1, none⟩ (.int .i64 t927)).setCell ⟨gb931, 0, none⟩ (.int .i64 t928)).setCell ⟨gb931, 1, none⟩ (.int .i64 t929)).heap[gb898]? = some (.cells #[.int .i64 t896, .int .i64 t897] 25 (0, 0))) := ⟨by (with_reducible repeat (first | refine kn_ ?_ _ | refine kd_ ?_ | refine ka_ ?_ _)); refine blk_far ?_ NB898_931.out _; (with_reducible repeat (first | refine kn_ ?_ _ | refine kd_ ?_ | refine ka_ ?_ _)); refine blk_far ?_ NB898_931.out _; (with_reducible repeat (first | refine kn_ ?_ _ | refine kd_ ?_ | refine ka_ ?_ _)); refine blk_far ?_ NB898_930.out _; (with_reducible repeat (first | refine kn_ ?_ _ | refine kd_ ?_ | refine ka_ ?_ _)); refine blk_far ?_ NB898_930.out _; (with_reducible repeat (first | refine kn_ ?_ _ | refine kd_ ?_ | refine ka_ ?_ _)); exact BK898.out⟩
         have n8_ : Aside0 (((((w116.setCell ⟨gb930, 0, none⟩ (.int .i64 t926)).setCell ⟨gb930, 1, none⟩ (.int .i64 t927)).setCell ⟨gb931, 0, none⟩ (.int .i64 t928)).setCell ⟨gb931, 1, none⟩ (.int .i64 t929)).heap[gb908]? = some (.cells #[.int .i64 t905, .int .i64 t906] 25 (0, 0))) := ⟨by (with_reducible repeat (first | refine kn_ ?_ _ | refine kd_ ?_ | refine ka_ ?_ _)); refine blk_far ?_ NB908_931.out _; (with_reducible repeat (first | refine kn_ ?_ _ | refine kd_ ?_ | refine ka_ ?_ _)); refine blk_far ?_ NB908_931.out _; (with_reducible repeat (first | refine kn_ ?_ _ | refine kd_ ?_ | refine ka_ ?_ _)); refine blk_far ?_ NB908_930.out _; (with_reducible repeat (first | refine kn_ ?_ _ | refine kd_ ?_ | refine ka_ ?_ _)); refine blk_far ?_ NB908_930.out _; (with_reducible repeat (first | refine kn_ ?_ _ | refine kd_ ?_ | refine ka_ ?_ _)); exact BK908.out⟩
         have n9_ : Aside0 (((((w116.setCell ⟨gb930, 0, none⟩ (.int .i64 t926)).setCell ⟨gb930, 1, none⟩ (.int .i64 t927)).setCell ⟨gb931, 0, none⟩ (.int .i64 t928)).setCell ⟨gb931, 1, none⟩ (.int .i64 t929)).heap[gb915]? = some (.cells #[.int .i64 t912, .int .i64 t913] 25 (0, 0))) := ⟨by (with_reducible repeat (first | refine kn_ ?_ _ | refine kd_ ?_ | refine ka_ ?_ _)); refine blk_far ?_ NB915_931.out _; (with_reducible repeat (first | refine kn_ ?_ _ | refine kd_ ?_ | refine ka_ ?_ _)); refine blk_far ?_ NB915_931.out _; (with_reducible repeat (first | refine kn_ ?_ _ | refine kd_ ?_ | refine ka_ ?_ _)); refine blk_far ?_ NB915_930.out _; (with_reducible repeat (first | refine kn_ ?_ _ | refine kd_ ?_ | refine ka_ ?_ _)); refine blk_far ?_ NB915_930.out _; (with_reducible repeat (first | refine kn_ ?_ _ | refine kd_ ?_ | refine ka_ ?_ _)); exact BK915.out⟩
         have n10_ : Aside0 (((((w116.setCell ⟨gb930, 0, none⟩ (.int .i64 t926)).setCell ⟨gb930, 1, none⟩ (.int .i64 t927)).setCell ⟨gb931, 0, none⟩ (.int .i64 t928)).setCell ⟨gb931, 1, none⟩ (.int .i64 t929)).heap[gb930]? = some (.cells #[.int .i64 t926, .int .i64 t927] 25 (0, 0))) := ⟨by (with_reducible repeat (first | refine kn_ ?_ _ | refine kd_ ?_ | refine ka_ ?_ _)); refine blk_far ?_ NB930_931.out _; (with_reducible repeat (first | refine kn_ ?_ _ | refine kd_ ?_ | refine ka_ ?_ _)); refine blk_far ?_ NB930_931.out _; (with_reducible repeat (first | refine kn_ ?_ _ | refine kd_ ?_ | refine ka_ ?_ _)); refine blk_put (cs := #[.int .i64 t926, .int .i64 0]) ?_ 1 _ rfl; (with_reducible repeat (first | refine kn_ ?_ _ | refine kd_ ?_ | refine ka_ ?_ _)); refine blk_put (cs := #[.int .i64 0, .int .i64 0]) ?_ 0 _ rfl; (with_reducible repeat (first | refine kn_ ?_ _ | refine kd_ ?_ | refine ka_ ?_ _)); exact BK930.out⟩
         have n11_ : Aside0 (((((w116.setCell ⟨gb930, 0, none⟩ (.int .i64 t926)).setCell ⟨gb930, 1, none⟩ (.int .i64 t927)).setCell ⟨gb931, 0, none⟩ (.int .i64 t928)).setCell ⟨gb931, 1, none⟩ (.int .i64 t929)).heap[gb931]? = some (.cells #[.int .i64 t928, .int .i64 t929] 25 (0, 0))) := ⟨by (with_reducible repeat (first | refine kn_ ?_ _ | refine kd_ ?_ | refine ka_ ?_ _)); refine blk_put (cs := #[.int .i64 t928, .int .i64 0]) ?_ 1 _ rfl; (with_reducible repeat (first | refine kn_ ?_ _ | refine kd_ ?_ | refine ka_ ?_ _)); refine blk_put (cs := #[.int .i64 0, .int .i64 0]) ?_ 0 _ rfl; (with_reducible repeat (first | refine kn_ ?_ _ | refine kd_ ?_ | refine ka_ ?_ _)); refine blk_far ?_ NB931_930.out _; (with_reducible repeat (first | refine kn_ ?_ _ | refine kd_ ?_ | refine ka_ ?_ _)); refine blk_far ?_ NB931_930.out _; (with_reducible repeat (first | refine kn_ ?_ _ | refine kd_ ?_ | refine ka_ ?_ _)); exact BK931.out⟩
         have n12_ : Aside0 (Below w.heap.size w ((((w116.setCell ⟨gb930, 0, none⟩ (.int .i64 t926)).setCell ⟨gb930, 1, none⟩ (.int .i64 t927)).setCell ⟨gb931, 0, none⟩ (.int .i64 t928)).setCell ⟨gb931, 1, none⟩ (.int .i64 t929))) := ⟨by repeat (first | (with_reducible first | exact HB.out | apply ba_ | apply bn_ | apply bd_ | refine below_set ?_ GE898.out | refine below_set ?_ GE908.out | refine below_set ?_ GE915.out | refine below_set ?_ GE930.out | refine below_set ?_ GE931.out) | exact HB.out)⟩
         (try clear HO895)
         (try clear HO901)
         (try clear HO904)
         (try clear HO911)
         (try clear HO919)
         (try clear HO922)
         (try clear HO925)
         (try clear BK898)
         (try clear BK908)
         (try clear BK915)
         (try clear BK930)
         (try clear BK931)
         (try clear HB)
         generalize ((((w116.setCell ⟨gb930, 0, none⟩ (.int .i64 t926)).setCell ⟨gb930, 1, none⟩ (.int .i64 t927)).setCell ⟨gb931, 0, none⟩ (.int .i64 t928)).setCell ⟨gb931, 1, none⟩ (.int .i64 t929)) = w126 at n0_ n1_ n2_ n3_ n4_ n5_ n6_ n7_ n8_ n9_ n10_ n11_ n12_ ⊢
         have HO895 := n0_
         have HO901 := n1_
         have HO904 := n2_
         have HO911 := n3_
         have HO919 := n4_
         have HO922 := n5_
         have HO925 := n6_
         have BK898 := n7_
         have BK908 := n8_
         have BK915 := n9_
         have BK930 := n10_
         have BK931 := n11_
         have HB := n12_
         clear n0_ n1_ n2_ n3_ n4_ n5_ n6_ n7_ n8_ n9_ n10_ n11_ n12_
         have n0_ := Aside0.mk (Kd.R_drew HO895.out)
         have n1_ := Aside0.mk (Kd.R_drew HO901.out)
         have n2_ := Aside0.mk (Kd.R_drew HO904.out)
         have n3_ := Aside0.mk (Kd.R_drew HO911.out)
         have n4_ := Aside0.mk (Kd.R_drew HO919.out)
         have n5_ := Aside0.mk (Kd.R_drew HO922.out)
         have n6_ := Aside0.mk (Kd.R_drew HO925.out)
         have n7_ := Aside0.mk (blk_drew BK898.out)
         have n8_ := Aside0.mk (blk_drew BK908.out)
         have n9_ := Aside0.mk (blk_drew BK915.out)
         have n10_ := Aside0.mk (blk_drew BK930.out)
         have n11_ := Aside0.mk (blk_drew BK931.out)
         have n12_ := Aside0.mk (bd_ HB.out)
         clear HO895 HO901 HO904 HO911 HO919 HO922 HO925 BK898 BK908 BK915 BK930 BK931 HB
         have HO895 := n0_
         have HO901 := n1_
         have HO904 := n2_
         have HO911 := n3_
         have HO919 := n4_
         have HO922 := n5_
         have HO925 := n6_
         have BK898 := n7_
         have BK908 := n8_
         have BK915 := n9_
         have BK930 := n10_
         have BK931 := n11_
         have HB := n12_
         clear n0_ n1_ n2_ n3_ n4_ n5_ n6_ n7_ n8_ n9_ n10_ n11_ n12_
         obtain ⟨Ao128, co128, eo128⟩ := Kd.R_slice HO895.out
         (first | subst eo128 | (injection eo128 with f1_ f2_ f3_; have f4_ := f1_.symm; have f5_ := f3_.symm; clear f1_ f2_ f3_; subst f4_; subst f5_))
         refine start_ (n := 76) (S := fun w' => w'.cell? ⟨gb898, 0, none⟩ = some (.int .i64 t896) ∧ w'.cell? ⟨gb898, 1, none⟩ = some (.int .i64 t897) ∧ w'.cell? ⟨gb908, 0, none⟩ = some (.int .i64 t905) ∧ w'.cell? ⟨gb908, 1, none⟩ = some (.int .i64 t906) ∧ w'.cell? ⟨gb915, 0, none⟩ = some (.int .i64 t912) ∧ w'.cell? ⟨gb915, 1, none⟩ = some (.int .i64 t913) ∧ w'.cell? ⟨gb930, 0, none⟩ = some (.int .i64 t926) ∧ w'.cell? ⟨gb930, 1, none⟩ = some (.int .i64 t927) ∧ w'.cell? ⟨gb931, 0, none⟩ = some (.int .i64 t928) ∧ w'.cell? ⟨gb931, 1, none⟩ = some (.int .i64 t929)) (ds := []) #[f_,f_,f_,f_,f_,f_,f_,f_,f_,f_,f_,f_,f_,f_,f_,f_,f_,f_,f_,f_,f_,f_,f_,f_,f_,f_,f_,f_,f_,f_,f_,f_,f_,f_,f_,f_,f_,f_,f_,f_,f_,f_,f_,f_,f_,f_,f_,f_,f_,f_,f_,f_,f_,f_,f_,f_,f_,f_,f_,f_,f_,f_,f_,f_,f_,f_,f_,f_,f_,f_,f_,f_,f_,f_,f_,f_] (by kernel_rfl) rfl rfl ⟨bx_ BK898.out 0, bx_ BK898.out 1, bx_ BK908.out 0, bx_ BK908.out 1, bx_ BK915.out 0, bx_ BK915.out 1, bx_ BK930.out 0, bx_ BK930.out 1, bx_ BK931.out 0, bx_ BK931.out 1⟩ (fun hHeld => ?_); refine with_tabW laws_FnHeapsBent.tab11 laws_FnHeapsBent.bits11 (fun HT_ HW_ => ?_)
         generalize w126.drew = w127 at HO895 HO901 HO904 HO911 HO919 HO922 HO925 BK898 BK908 BK915 BK930 BK931 HB hHeld ⊢
         refine pu_ 0 53 ?_ (b_ 1 75) rfl rfl HT_.out ?_ ?_ ?_ ?_; rotate_left; intro w'; go_simp; with_reducible rfl; rotate_left; simp only [fr_]; rfl
         refine pu_ 3 56 ?_ #[t_,f_,f_,t_,f_,f_,f_,f_,f_,f_,f_,f_,f_,f_,f_,f_,f_,f_,f_,f_,f_,f_,f_,f_,f_,f_,f_,f_,f_,f_,f_,f_,f_,f_,f_,f_,f_,f_,f_,f_,f_,f_,f_,f_,f_,f_,f_,f_,f_,f_,f_,f_,f_,f_,f_,f_,f_,f_,f_,f_,f_,f_,f_,f_,f_,f_,f_,f_,f_,f_,f_,f_,f_,f_,f_,f_] rfl rfl HT_.out ?_ ?_ ?_ ?_; rotate_left; intro w'; go_simp; with_reducible rfl; rotate_left; simp only [fr_]; rfl
         refine take_ (i := 1) (N := some 54) (v := ?_) (a' := ?_) #[t_,t_,f_,t_,f_,f_,f_,f_,f_,f_,f_,f_,f_,f_,f_,f_,f_,f_,f_,f_,f_,f_,f_,f_,f_,f_,f_,f_,f_,f_,f_,f_,f_,f_,f_,f_,f_,f_,f_,f_,f_,f_,f_,f_,f_,f_,f_,f_,f_,f_,f_,f_,f_,f_,f_,f_,f_,f_,f_,f_,f_,f_,f_,f_,f_,f_,f_,f_,f_,f_,f_,f_,f_,f_,f_,f_] rfl rfl (take_ofW HT_.out HW_.out (by kernel_rfl)) (fun _ _ _ h => h) (Or.inl ⟨by rfl, ?_⟩) hHeld ?_ ?_
         rotate_left
         ·
          rintro w' ⟨s0, s1, s2, s3, s4, s5, s6, s7, s8, s9⟩
          go_simp
          with_reducible rfl
         rotate_left
         ·
          simp only [fr_]
          rfl
         refine take_ (i := 4) (N := some 57) (v := ?_) (a' := ?_) #[t_,t_,f_,t_,t_,f_,f_,f_,f_,f_,f_,f_,f_,f_,f_,f_,f_,f_,f_,f_,f_,f_,f_,f_,f_,f_,f_,f_,f_,f_,f_,f_,f_,f_,f_,f_,f_,f_,f_,f_,f_,f_,f_,f_,f_,f_,f_,f_,f_,f_,f_,f_,f_,f_,f_,f_,f_,f_,f_,f_,f_,f_,f_,f_,f_,f_,f_,f_,f_,f_,f_,f_,f_,f_,f_,f_] rfl rfl (take_ofW HT_.out HW_.out (by kernel_rfl)) (fun _ _ _ h => h) (Or.inl ⟨by rfl, ?_⟩) hHeld ?_ ?_
         rotate_left
         ·
          rintro w' ⟨s0, s1, s2, s3, s4, s5, s6, s7, s8, s9⟩
          go_simp
          with_reducible rfl
         rotate_left
         ·
          simp only [fr_]
          rfl
         refine one_ (i := 2) (N := some 55) #[t_,t_,t_,t_,t_,f_,f_,f_,f_,f_,f_,f_,f_,f_,f_,f_,f_,f_,f_,f_,f_,f_,f_,f_,f_,f_,f_,f_,f_,f_,f_,f_,f_,f_,f_,f_,f_,f_,f_,f_,f_,f_,f_,f_,f_,f_,f_,f_,f_,f_,f_,f_,f_,f_,f_,f_,f_,f_,f_,f_,f_,f_,f_,f_,f_,f_,f_,f_,f_,f_,f_,f_,f_,f_,f_,f_] rfl rfl (one_of HT_.out (by kernel_rfl)) (by decide) (fun K hK => ?_)
         refine goes_ Try.func23 (by kernel_rfl) rfl #[.slice Ao128 t893.length co128, .agg #[.int .i64 t896, .int .i64 t897]] (by rfl) rfl rfl (by (try simp only [mp_]); first | done | rfl | (simp only [List.length_drop, List.length_take]; rfl)) ?_
         with_reducible refine (impl_HeapPut.calls k _ _ t893 t896 t897 t932 _ ?side1 ?side2 A12.out).mono ?_
         (case side1 => repeat (first | exact (Kd.R_reads' HO895.out).2.2 | (with_reducible first | refine ca_ ?_ _ | refine cn_ ?_ _ | refine cd_ ?_)))
         (case side2 => exact (Kd.R_reads' HO895.out).2.1)
         rintro e w129 ⟨v933, rfl, ho0, hb⟩
         refine ⟨_, rfl, ?_⟩
         have n0_ := Aside0.mk (Kd.R_elder' (rp_ HO895.out) (Kd.R_base ho0) hb)
         have n1_ := Aside0.mk (Kd.R_elder' (rp_ HO901.out) (Kd.R_base ho0) hb)
         have n2_ := Aside0.mk (Kd.R_elder' (rp_ HO904.out) (Kd.R_base ho0) hb)
         have n3_ := Aside0.mk (Kd.R_elder' (rp_ HO911.out) (Kd.R_base ho0) hb)
         have n4_ := Aside0.mk (Kd.R_elder' (rp_ HO919.out) (Kd.R_base ho0) hb)
         have n5_ := Aside0.mk (Kd.R_elder' (rp_ HO922.out) (Kd.R_base ho0) hb)
         have n6_ := Aside0.mk (Kd.R_elder' (rp_ HO925.out) (Kd.R_base ho0) hb)
         have n7_ := Aside0.mk (Kd.R_lower (Kd.R_newB (Kd.R_newB (Kd.R_newB (Kd.R_newB (Kd.R_newB (Kd.R_new' (Kd.R_new' (Kd.R_new' (Kd.R_new' (Kd.R_new' (Kd.R_new' (Kd.R_new' ho0 (Kd.R_lt (rp_ HO895.out))) (Kd.R_lt (rp_ HO901.out))) (Kd.R_lt (rp_ HO904.out))) (Kd.R_lt (rp_ HO911.out))) (Kd.R_lt (rp_ HO919.out))) (Kd.R_lt (rp_ HO922.out))) (Kd.R_lt (rp_ HO925.out))) (g := gb898) (o := .cells #[.int .i64 t896, .int .i64 t897] 25 (0, 0)) (pb_ BK898.out)) (g := gb908) (o := .cells #[.int .i64 t905, .int .i64 t906] 25 (0, 0)) (pb_ BK908.out)) (g := gb915) (o := .cells #[.int .i64 t912, .int .i64 t913] 25 (0, 0)) (pb_ BK915.out)) (g := gb930) (o := .cells #[.int .i64 t926, .int .i64 t927] 25 (0, 0)) (pb_ BK930.out)) (g := gb931) (o := .cells #[.int .i64 t928, .int .i64 t929] 25 (0, 0)) (pb_ BK931.out)) (below_size (by repeat (first | (with_reducible first | exact HB.out | apply ba_ | apply bn_ | apply bd_ | refine below_set ?_ GE898.out | refine below_set ?_ GE908.out | refine below_set ?_ GE915.out | refine below_set ?_ GE930.out | refine below_set ?_ GE931.out) | exact HB.out))))
         have n8_ := Aside0.mk (bb_ BK898.out hb)
         have n9_ := Aside0.mk (bb_ BK908.out hb)
         have n10_ := Aside0.mk (bb_ BK915.out hb)
         have n11_ := Aside0.mk (bb_ BK930.out hb)
         have n12_ := Aside0.mk (bb_ BK931.out hb)
         have n13_ := Aside0.mk (below_step (by repeat (first | (with_reducible first | exact HB.out | apply ba_ | apply bn_ | apply bd_ | refine below_set ?_ GE898.out | refine below_set ?_ GE908.out | refine below_set ?_ GE915.out | refine below_set ?_ GE930.out | refine below_set ?_ GE931.out) | exact HB.out)) hb)
         clear HO895 HO901 HO904 HO911 HO919 HO922 HO925 BK898 BK908 BK915 BK930 BK931 HB
         have HO895 := n0_
         have HO901 := n1_
         have HO904 := n2_
         have HO911 := n3_
         have HO919 := n4_
         have HO922 := n5_
         have HO925 := n6_
         have HO934 := n7_
         have BK898 := n8_
         have BK908 := n9_
         have BK915 := n10_
         have BK930 := n11_
         have BK931 := n12_
         have HB := n13_
         clear n0_ n1_ n2_ n3_ n4_ n5_ n6_ n7_ n8_ n9_ n10_ n11_ n12_ n13_
         (try clear hb)
         (try clear hb2)
         (try clear hk)
         (try clear hi)
         (try clear ho0)
         refine hK.out _ _ ⟨bx_ BK898.out 0, bx_ BK898.out 1, bx_ BK908.out 0, bx_ BK908.out 1, bx_ BK915.out 0, bx_ BK915.out 1, bx_ BK930.out 0, bx_ BK930.out 1, bx_ BK931.out 0, bx_ BK931.out 1⟩ (fun hHeld => ?_)
         clear hK K
         refine norm_ (a' := ?_) ?_ ?_
         rotate_left
         ·
          show Act.put _ (some 55) _ = _
          simp only [fr_]
          rfl
         refine one_ (i := 5) (N := some 58) #[t_,t_,t_,t_,t_,t_,f_,f_,f_,f_,f_,f_,f_,f_,f_,f_,f_,f_,f_,f_,f_,f_,f_,f_,f_,f_,f_,f_,f_,f_,f_,f_,f_,f_,f_,f_,f_,f_,f_,f_,f_,f_,f_,f_,f_,f_,f_,f_,f_,f_,f_,f_,f_,f_,f_,f_,f_,f_,f_,f_,f_,f_,f_,f_,f_,f_,f_,f_,f_,f_,f_,f_,f_,f_,f_,f_] rfl rfl (one_of HT_.out (by kernel_rfl)) (by decide) (fun K hK => ?_)
         refine goes_ Try.func22 (by kernel_rfl) rfl #[.slice Ao128 t893.length co128, .agg #[.int .i64 t896, .int .i64 t897]] (by rfl) rfl rfl (by (try simp only [mp_]); first | done | rfl | (simp only [List.length_drop, List.length_take]; rfl)) ?_
         with_reducible refine (spec_HeapPut.calls k _ _ t893 t896 t897 t935 _ ?side1 ?side2 A13.out).mono ?_
         (case side1 => repeat (first | exact (Kd.R_reads' HO895.out).2.2 | (with_reducible first | refine ca_ ?_ _ | refine cn_ ?_ _ | refine cd_ ?_)))
         (case side2 => exact (Kd.R_reads' HO895.out).2.1)
         rintro e w130 ⟨v936, rfl, ho0, hb⟩
         refine ⟨_, rfl, ?_⟩
         have n0_ := Aside0.mk (Kd.R_elder' (rp_ HO895.out) (Kd.R_base ho0) hb)
         have n1_ := Aside0.mk (Kd.R_elder' (rp_ HO901.out) (Kd.R_base ho0) hb)
         have n2_ := Aside0.mk (Kd.R_elder' (rp_ HO904.out) (Kd.R_base ho0) hb)
         have n3_ := Aside0.mk (Kd.R_elder' (rp_ HO911.out) (Kd.R_base ho0) hb)
         have n4_ := Aside0.mk (Kd.R_elder' (rp_ HO919.out) (Kd.R_base ho0) hb)
         have n5_ := Aside0.mk (Kd.R_elder' (rp_ HO922.out) (Kd.R_base ho0) hb)
         have n6_ := Aside0.mk (Kd.R_elder' (rp_ HO925.out) (Kd.R_base ho0) hb)
         have n7_ := Aside0.mk (Kd.R_elder' (rp_ HO934.out) (Kd.R_base ho0) hb)
         have n8_ := Aside0.mk (Kd.R_lower (Kd.R_newB (Kd.R_newB (Kd.R_newB (Kd.R_newB (Kd.R_newB (Kd.R_new' (Kd.R_new' (Kd.R_new' (Kd.R_new' (Kd.R_new' (Kd.R_new' (Kd.R_new' (Kd.R_new' ho0 (Kd.R_lt (rp_ HO895.out))) (Kd.R_lt (rp_ HO901.out))) (Kd.R_lt (rp_ HO904.out))) (Kd.R_lt (rp_ HO911.out))) (Kd.R_lt (rp_ HO919.out))) (Kd.R_lt (rp_ HO922.out))) (Kd.R_lt (rp_ HO925.out))) (Kd.R_lt (rp_ HO934.out))) (g := gb898) (o := .cells #[.int .i64 t896, .int .i64 t897] 25 (0, 0)) (pb_ BK898.out)) (g := gb908) (o := .cells #[.int .i64 t905, .int .i64 t906] 25 (0, 0)) (pb_ BK908.out)) (g := gb915) (o := .cells #[.int .i64 t912, .int .i64 t913] 25 (0, 0)) (pb_ BK915.out)) (g := gb930) (o := .cells #[.int .i64 t926, .int .i64 t927] 25 (0, 0)) (pb_ BK930.out)) (g := gb931) (o := .cells #[.int .i64 t928, .int .i64 t929] 25 (0, 0)) (pb_ BK931.out)) (below_size (by repeat (first | (with_reducible first | exact HB.out | apply ba_ | apply bn_ | apply bd_ | refine below_set ?_ GE898.out | refine below_set ?_ GE908.out | refine below_set ?_ GE915.out | refine below_set ?_ GE930.out | refine below_set ?_ GE931.out) | exact HB.out))))
         have n9_ := Aside0.mk (bb_ BK898.out hb)
         have n10_ := Aside0.mk (bb_ BK908.out hb)
         have n11_ := Aside0.mk (bb_ BK915.out hb)
         have n12_ := Aside0.mk (bb_ BK930.out hb)
         have n13_ := Aside0.mk (bb_ BK931.out hb)
         have n14_ := Aside0.mk (below_step (by repeat (first | (with_reducible first | exact HB.out | apply ba_ | apply bn_ | apply bd_ | refine below_set ?_ GE898.out | refine below_set ?_ GE908.out | refine below_set ?_ GE915.out | refine below_set ?_ GE930.out | refine below_set ?_ GE931.out) | exact HB.out)) hb)
         clear HO895 HO901 HO904 HO911 HO919 HO922 HO925 HO934 BK898 BK908 BK915 BK930 BK931 HB
         have HO895 := n0_
         have HO901 := n1_
         have HO904 := n2_
         have HO911 := n3_
         have HO919 := n4_
         have HO922 := n5_
         have HO925 := n6_
         have HO934 := n7_
         have HO937 := n8_
         have BK898 := n9_
         have BK908 := n10_
         have BK915 := n11_
         have BK930 := n12_
         have BK931 := n13_
         have HB := n14_
         clear n0_ n1_ n2_ n3_ n4_ n5_ n6_ n7_ n8_ n9_ n10_ n11_ n12_ n13_ n14_
         (try clear hb)
         (try clear hb2)
         (try clear hk)
         (try clear hi)
         (try clear ho0)
         obtain ⟨Ao131, co131, eo131⟩ := Kd.R_slice HO934.out
         (first | subst eo131 | (injection eo131 with f1_ f2_ f3_; have f4_ := f1_.symm; have f5_ := f3_.symm; clear f1_ f2_ f3_; subst f4_; subst f5_))
         obtain ⟨Ao132, co132, eo132⟩ := Kd.R_slice HO937.out
         (first | subst eo132 | (injection eo132 with f1_ f2_ f3_; have f4_ := f1_.symm; have f5_ := f3_.symm; clear f1_ f2_ f3_; subst f4_; subst f5_))
         refine hK.out _ _ ⟨bx_ BK898.out 0, bx_ BK898.out 1, bx_ BK908.out 0, bx_ BK908.out 1, bx_ BK915.out 0, bx_ BK915.out 1, bx_ BK930.out 0, bx_ BK930.out 1, bx_ BK931.out 0, bx_ BK931.out 1⟩ (fun hHeld => ?_)
         clear hK K
         refine norm_ (a' := ?_) ?_ ?_
         rotate_left
         ·
          show Act.put _ (some 58) _ = _
          simp only [fr_]
          rfl
         refine one_ (i := 6) (N := some 59) #[t_,t_,t_,t_,t_,t_,t_,f_,f_,f_,f_,f_,f_,f_,f_,f_,f_,f_,f_,f_,f_,f_,f_,f_,f_,f_,f_,f_,f_,f_,f_,f_,f_,f_,f_,f_,f_,f_,f_,f_,f_,f_,f_,f_,f_,f_,f_,f_,f_,f_,f_,f_,f_,f_,f_,f_,f_,f_,f_,f_,f_,f_,f_,f_,f_,f_,f_,f_,f_,f_,f_,f_,f_,f_,f_,f_] rfl rfl (one_of HT_.out (by kernel_rfl)) (by decide) (fun K hK => ?_)
         refine goes_ Try.func39 (by kernel_rfl) rfl #[.slice Ao131 t932.length co131, .slice Ao132 t935.length co132] (by rfl) rfl rfl (by (try simp only [mp_]); first | done | rfl | (simp only [List.length_drop, List.length_take]; rfl)) ?_
         with_reducible refine (laws_sameHeap.calls k _ _ t932 _ _ t935 true _ ?side1 ?side2 ?side3 ?side4 A14.out).mono ?_
         (case side1 => repeat (first | exact (Kd.R_reads' HO934.out).2.2 | (with_reducible first | refine ca_ ?_ _ | refine cn_ ?_ _ | refine cd_ ?_)))
         (case side2 => exact (Kd.R_reads' HO934.out).2.1)
         (case side3 => repeat (first | exact (Kd.R_reads' HO937.out).2.2 | (with_reducible first | refine ca_ ?_ _ | refine cn_ ?_ _ | refine cd_ ?_)))
         (case side4 => exact (Kd.R_reads' HO937.out).2.1)
         rintro e w' ⟨rfl, ⟨nd, rfl⟩⟩
         refine ⟨_, rfl, ?_⟩
         obtain ⟨Ao133, co133, eo133⟩ := Kd.R_slice HO904.out
         (first | subst eo133 | (injection eo133 with f1_ f2_ f3_; have f4_ := f1_.symm; have f5_ := f3_.symm; clear f1_ f2_ f3_; subst f4_; subst f5_))
         obtain ⟨Ao134, co134, eo134⟩ := Kd.R_slice HO911.out
         (first | subst eo134 | (injection eo134 with f1_ f2_ f3_; have f4_ := f1_.symm; have f5_ := f3_.symm; clear f1_ f2_ f3_; subst f4_; subst f5_))
         refine hK.out _ _ ⟨bx_ BK898.out 0, bx_ BK898.out 1, bx_ BK908.out 0, bx_ BK908.out 1, bx_ BK915.out 0, bx_ BK915.out 1, bx_ BK930.out 0, bx_ BK930.out 1, bx_ BK931.out 0, bx_ BK931.out 1⟩ (fun hHeld => ?_)
         clear hK K
         refine norm_ (a' := ?_) ?_ ?_
         rotate_left
         ·
          show Act.put _ (some 59) _ = _
          simp only [fr_]
          rfl
         refine pu_ 7 60 ?_ (b_ 8 68) rfl rfl HT_.out ?_ ?_ ?_ ?_; rotate_left; intro w'; go_simp; with_reducible rfl; rotate_left; simp only [fr_]; rfl
         refine pu_ 8 61 ?_ (b_ 9 67) rfl rfl HT_.out ?_ ?_ ?_ ?_; rotate_left; intro w'; go_simp; with_reducible rfl; rotate_left; simp only [fr_]; rfl
         refine pu_ 9 62 ?_ (b_ 10 66) rfl rfl HT_.out ?_ ?_ ?_ ?_; rotate_left; intro w'; go_simp; with_reducible rfl; rotate_left; simp only [fr_]; rfl
         refine one_ (i := 10) (N := some 63) #[t_,t_,t_,t_,t_,t_,t_,t_,t_,t_,t_,f_,f_,f_,f_,f_,f_,f_,f_,f_,f_,f_,f_,f_,f_,f_,f_,f_,f_,f_,f_,f_,f_,f_,f_,f_,f_,f_,f_,f_,f_,f_,f_,f_,f_,f_,f_,f_,f_,f_,f_,f_,f_,f_,f_,f_,f_,f_,f_,f_,f_,f_,f_,f_,f_,f_,f_,f_,f_,f_,f_,f_,f_,f_,f_,f_] rfl rfl (one_of HT_.out (by kernel_rfl)) (by decide) (fun K hK => ?_)
         refine goes_ Try.func39 (by kernel_rfl) rfl #[.slice Ao133 t902.length co133, .slice Ao134 t909.length co134] (by rfl) rfl rfl (by (try simp only [mp_]); first | done | rfl | (simp only [List.length_drop, List.length_take]; rfl)) ?_
         with_reducible refine (laws_sameHeap.calls k _ _ t902 _ _ t909 true _ ?side1 ?side2 ?side3 ?side4 A16.out).mono ?_
         (case side1 => repeat (first | exact (Kd.R_reads' HO904.out).2.2 | (with_reducible first | refine ca_ ?_ _ | refine cn_ ?_ _ | refine cd_ ?_)))
         (case side2 => exact (Kd.R_reads' HO904.out).2.1)
         (case side3 => repeat (first | exact (Kd.R_reads' HO911.out).2.2 | (with_reducible first | refine ca_ ?_ _ | refine cn_ ?_ _ | refine cd_ ?_)))
         (case side4 => exact (Kd.R_reads' HO911.out).2.1)
         rintro e w' ⟨rfl, ⟨nd, rfl⟩⟩
         refine ⟨_, rfl, ?_⟩
         obtain ⟨Ao135, co135, eo135⟩ := Kd.R_slice HO919.out
         (first | subst eo135 | (injection eo135 with f1_ f2_ f3_; have f4_ := f1_.symm; have f5_ := f3_.symm; clear f1_ f2_ f3_; subst f4_; subst f5_))
         refine hK.out _ _ ⟨bx_ BK898.out 0, bx_ BK898.out 1, bx_ BK908.out 0, bx_ BK908.out 1, bx_ BK915.out 0, bx_ BK915.out 1, bx_ BK930.out 0, bx_ BK930.out 1, bx_ BK931.out 0, bx_ BK931.out 1⟩ (fun hHeld => ?_)
         clear hK K
         refine norm_ (a' := ?_) ?_ ?_
         rotate_left
         ·
          show Act.put _ (some 63) _ = _
          simp only [fr_]
          rfl
         refine pu_ 11 64 ?_ (b_ 12 64) rfl rfl HT_.out ?_ ?_ ?_ ?_; rotate_left; intro w'; go_simp; with_reducible rfl; rotate_left; simp only [fr_]; rfl
         refine pu_ 12 65 ?_ (b_ 13 63) rfl rfl HT_.out ?_ ?_ ?_ ?_; rotate_left; intro w'; go_simp; with_reducible rfl; rotate_left; simp only [fr_]; rfl
         refine take_ (i := 13) (N := some 66) (v := ?_) (a' := ?_) #[t_,t_,t_,t_,t_,t_,t_,t_,t_,t_,t_,t_,t_,t_,f_,f_,f_,f_,f_,f_,f_,f_,f_,f_,f_,f_,f_,f_,f_,f_,f_,f_,f_,f_,f_,f_,f_,f_,f_,f_,f_,f_,f_,f_,f_,f_,f_,f_,f_,f_,f_,f_,f_,f_,f_,f_,f_,f_,f_,f_,f_,f_,f_,f_,f_,f_,f_,f_,f_,f_,f_,f_,f_,f_,f_,f_] rfl rfl (take_ofW HT_.out HW_.out (by kernel_rfl)) (fun _ _ _ h => h) (Or.inl ⟨by rfl, ?_⟩) hHeld ?_ ?_
         rotate_left
         ·
          rintro w' ⟨s0, s1, s2, s3, s4, s5, s6, s7, s8, s9⟩
          go_simp
          with_reducible rfl
         rotate_left
         ·
          simp only [fr_]
          rfl
         refine take_ (i := 14) (N := some 67) (v := ?_) (a' := ?_) #[t_,t_,t_,t_,t_,t_,t_,t_,t_,t_,t_,t_,t_,t_,t_,f_,f_,f_,f_,f_,f_,f_,f_,f_,f_,f_,f_,f_,f_,f_,f_,f_,f_,f_,f_,f_,f_,f_,f_,f_,f_,f_,f_,f_,f_,f_,f_,f_,f_,f_,f_,f_,f_,f_,f_,f_,f_,f_,f_,f_,f_,f_,f_,f_,f_,f_,f_,f_,f_,f_,f_,f_,f_,f_,f_,f_] rfl rfl (take_ofW HT_.out HW_.out (by kernel_rfl)) (fun _ _ _ h => h) (Or.inl ⟨by rfl, ?_⟩) hHeld ?_ ?_
         rotate_left
         ·
          rintro w' ⟨s0, s1, s2, s3, s4, s5, s6, s7, s8, s9⟩
          go_simp
          with_reducible rfl
         rotate_left
         ·
          simp only [fr_]
          rfl
         refine pu_ 15 68 ?_ (b_ 16 60) rfl rfl HT_.out ?_ ?_ ?_ ?_; rotate_left; intro w'; go_simp; with_reducible rfl; rotate_left; simp only [fr_]; rfl
         refine pu_ 16 69 ?_ (b_ 17 59) rfl rfl HT_.out ?_ ?_ ?_ ?_; rotate_left; intro w'; go_simp; with_reducible rfl; rotate_left; simp only [fr_]; rfl
         refine pu_ 17 70 ?_ (b_ 18 58) rfl rfl HT_.out ?_ ?_ ?_ ?_; rotate_left; intro w'; go_simp; with_reducible rfl; rotate_left; simp only [fr_]; rfl
         refine pu_ 18 71 ?_ (b_ 19 57) rfl rfl HT_.out ?_ ?_ ?_ ?_; rotate_left; intro w'; go_simp; with_reducible rfl; rotate_left; simp only [fr_]; rfl
         refine pu_ 19 72 ?_ (b_ 20 56) rfl rfl HT_.out ?_ ?_ ?_ ?_; rotate_left; intro w'; go_simp; with_reducible rfl; rotate_left; simp only [fr_]; rfl
         refine pu_ 20 73 ?_ (b_ 21 55) rfl rfl HT_.out ?_ ?_ ?_ ?_; rotate_left; intro w'; go_simp; with_reducible rfl; rotate_left; simp only [fr_]; rfl
         refine pu_ 21 74 ?_ (b_ 22 54) rfl rfl HT_.out ?_ ?_ ?_ ?_; rotate_left; intro w'; go_simp; with_reducible rfl; rotate_left; simp only [fr_]; rfl
         refine pu_ 22 75 ?_ (b_ 23 53) rfl rfl HT_.out ?_ ?_ ?_ ?_; rotate_left; intro w'; go_simp; with_reducible rfl; rotate_left; simp only [fr_]; rfl
         refine pu_ 23 76 ?_ (b_ 24 52) rfl rfl HT_.out ?_ ?_ ?_ ?_; rotate_left; intro w'; go_simp; with_reducible rfl; rotate_left; simp only [fr_]; rfl
         refine pu_ 24 77 ?_ (b_ 25 51) rfl rfl HT_.out ?_ ?_ ?_ ?_; rotate_left; intro w'; go_simp; with_reducible rfl; rotate_left; simp only [fr_]; rfl
         refine pu_ 26 79 ?_ #[t_,t_,t_,t_,t_,t_,t_,t_,t_,t_,t_,t_,t_,t_,t_,t_,t_,t_,t_,t_,t_,t_,t_,t_,t_,f_,t_,f_,f_,f_,f_,f_,f_,f_,f_,f_,f_,f_,f_,f_,f_,f_,f_,f_,f_,f_,f_,f_,f_,f_,f_,f_,f_,f_,f_,f_,f_,f_,f_,f_,f_,f_,f_,f_,f_,f_,f_,f_,f_,f_,f_,f_,f_,f_,f_,f_] rfl rfl HT_.out ?_ ?_ ?_ ?_; rotate_left; intro w'; go_simp; with_reducible rfl; rotate_left; simp only [fr_]; rfl
         refine pu_ 27 80 ?_ #[t_,t_,t_,t_,t_,t_,t_,t_,t_,t_,t_,t_,t_,t_,t_,t_,t_,t_,t_,t_,t_,t_,t_,t_,t_,f_,t_,t_,f_,f_,f_,f_,f_,f_,f_,f_,f_,f_,f_,f_,f_,f_,f_,f_,f_,f_,f_,f_,f_,f_,f_,f_,f_,f_,f_,f_,f_,f_,f_,f_,f_,f_,f_,f_,f_,f_,f_,f_,f_,f_,f_,f_,f_,f_,f_,f_] rfl rfl HT_.out ?_ ?_ ?_ ?_; rotate_left; intro w'; go_simp; with_reducible rfl; rotate_left; simp only [fr_]; rfl
         refine one_ (i := 25) (N := some 78) #[t_,t_,t_,t_,t_,t_,t_,t_,t_,t_,t_,t_,t_,t_,t_,t_,t_,t_,t_,t_,t_,t_,t_,t_,t_,t_,t_,t_,f_,f_,f_,f_,f_,f_,f_,f_,f_,f_,f_,f_,f_,f_,f_,f_,f_,f_,f_,f_,f_,f_,f_,f_,f_,f_,f_,f_,f_,f_,f_,f_,f_,f_,f_,f_,f_,f_,f_,f_,f_,f_,f_,f_,f_,f_,f_,f_] rfl rfl (one_of HT_.out (by kernel_rfl)) (by decide) (fun K hK => ?_)
         refine goes_ Try.func32 (by kernel_rfl) rfl #[.slice Ao135 t916.length co135, .int .i64 t917] (by rfl) rfl rfl (by (try simp only [mp_]); first | done | rfl | (simp only [List.length_drop, List.length_take]; rfl)) ?_
         with_reducible refine (impl_HeapDrop.calls k _ _ t916 t917 t940 _ ?side1 ?side2 A20.out).mono ?_
         (case side1 => repeat (first | exact (Kd.R_reads' HO919.out).2.2 | (with_reducible first | refine ca_ ?_ _ | refine cn_ ?_ _ | refine cd_ ?_)))
         (case side2 => exact (Kd.R_reads' HO919.out).2.1)
         rintro e w136 ⟨v941, rfl, ho0, hb⟩
         refine ⟨_, rfl, ?_⟩
         have n0_ := Aside0.mk (Kd.R_elder' (rp_ HO895.out) (Kd.R_base ho0) hb)
         have n1_ := Aside0.mk (Kd.R_elder' (rp_ HO901.out) (Kd.R_base ho0) hb)
         have n2_ := Aside0.mk (Kd.R_elder' (rp_ HO904.out) (Kd.R_base ho0) hb)
         have n3_ := Aside0.mk (Kd.R_elder' (rp_ HO911.out) (Kd.R_base ho0) hb)
         have n4_ := Aside0.mk (Kd.R_elder' (rp_ HO919.out) (Kd.R_base ho0) hb)
         have n5_ := Aside0.mk (Kd.R_elder' (rp_ HO922.out) (Kd.R_base ho0) hb)
         have n6_ := Aside0.mk (Kd.R_elder' (rp_ HO925.out) (Kd.R_base ho0) hb)
         have n7_ := Aside0.mk (Kd.R_elder' (rp_ HO934.out) (Kd.R_base ho0) hb)
         have n8_ := Aside0.mk (Kd.R_elder' (rp_ HO937.out) (Kd.R_base ho0) hb)
         have n9_ := Aside0.mk (Kd.R_lower (Kd.R_newB (Kd.R_newB (Kd.R_newB (Kd.R_newB (Kd.R_newB (Kd.R_new' (Kd.R_new' (Kd.R_new' (Kd.R_new' (Kd.R_new' (Kd.R_new' (Kd.R_new' (Kd.R_new' (Kd.R_new' ho0 (Kd.R_lt (rp_ HO895.out))) (Kd.R_lt (rp_ HO901.out))) (Kd.R_lt (rp_ HO904.out))) (Kd.R_lt (rp_ HO911.out))) (Kd.R_lt (rp_ HO919.out))) (Kd.R_lt (rp_ HO922.out))) (Kd.R_lt (rp_ HO925.out))) (Kd.R_lt (rp_ HO934.out))) (Kd.R_lt (rp_ HO937.out))) (g := gb898) (o := .cells #[.int .i64 t896, .int .i64 t897] 25 (0, 0)) (pb_ BK898.out)) (g := gb908) (o := .cells #[.int .i64 t905, .int .i64 t906] 25 (0, 0)) (pb_ BK908.out)) (g := gb915) (o := .cells #[.int .i64 t912, .int .i64 t913] 25 (0, 0)) (pb_ BK915.out)) (g := gb930) (o := .cells #[.int .i64 t926, .int .i64 t927] 25 (0, 0)) (pb_ BK930.out)) (g := gb931) (o := .cells #[.int .i64 t928, .int .i64 t929] 25 (0, 0)) (pb_ BK931.out)) (below_size (by repeat (first | (with_reducible first | exact HB.out | apply ba_ | apply bn_ | apply bd_ | refine below_set ?_ GE898.out | refine below_set ?_ GE908.out | refine below_set ?_ GE915.out | refine below_set ?_ GE930.out | refine below_set ?_ GE931.out) | exact HB.out))))
         have n10_ := Aside0.mk (bb_ BK898.out hb)
         have n11_ := Aside0.mk (bb_ BK908.out hb)
         have n12_ := Aside0.mk (bb_ BK915.out hb)
         have n13_ := Aside0.mk (bb_ BK930.out hb)
         have n14_ := Aside0.mk (bb_ BK931.out hb)
         have n15_ := Aside0.mk (below_step (by repeat (first | (with_reducible first | exact HB.out | apply ba_ | apply bn_ | apply bd_ | refine below_set ?_ GE898.out | refine below_set ?_ GE908.out | refine below_set ?_ GE915.out | refine below_set ?_ GE930.out | refine below_set ?_ GE931.out) | exact HB.out)) hb)
         clear HO895 HO901 HO904 HO911 HO919 HO922 HO925 HO934 HO937 BK898 BK908 BK915 BK930 BK931 HB
         have HO895 := n0_
         have HO901 := n1_
         have HO904 := n2_
         have HO911 := n3_
         have HO919 := n4_
         have HO922 := n5_
         have HO925 := n6_
         have HO934 := n7_
         have HO937 := n8_
         have HO942 := n9_
         have BK898 := n10_
         have BK908 := n11_
         have BK915 := n12_
         have BK930 := n13_
         have BK931 := n14_
         have HB := n15_
         clear n0_ n1_ n2_ n3_ n4_ n5_ n6_ n7_ n8_ n9_ n10_ n11_ n12_ n13_ n14_ n15_
         (try clear hb)
         (try clear hb2)
         (try clear hk)
         (try clear hi)
         (try clear ho0)
         refine hK.out _ _ ⟨bx_ BK898.out 0, bx_ BK898.out 1, bx_ BK908.out 0, bx_ BK908.out 1, bx_ BK915.out 0, bx_ BK915.out 1, bx_ BK930.out 0, bx_ BK930.out 1, bx_ BK931.out 0, bx_ BK931.out 1⟩ (fun hHeld => ?_)
         clear hK K
         refine norm_ (a' := ?_) ?_ ?_
         rotate_left
         ·
          show Act.put _ (some 78) _ = _
          simp only [fr_]
          rfl
         refine one_ (i := 28) (N := some 81) #[t_,t_,t_,t_,t_,t_,t_,t_,t_,t_,t_,t_,t_,t_,t_,t_,t_,t_,t_,t_,t_,t_,t_,t_,t_,t_,t_,t_,t_,f_,f_,f_,f_,f_,f_,f_,f_,f_,f_,f_,f_,f_,f_,f_,f_,f_,f_,f_,f_,f_,f_,f_,f_,f_,f_,f_,f_,f_,f_,f_,f_,f_,f_,f_,f_,f_,f_,f_,f_,f_,f_,f_,f_,f_,f_,f_] rfl rfl (one_of HT_.out (by kernel_rfl)) (by decide) (fun K hK => ?_)
         refine goes_ Try.func31 (by kernel_rfl) rfl #[.slice Ao135 t916.length co135, .int .i64 t917] (by rfl) rfl rfl (by (try simp only [mp_]); first | done | rfl | (simp only [List.length_drop, List.length_take]; rfl)) ?_
         with_reducible refine (spec_HeapDrop.calls k _ _ t916 t917 t943 _ ?side1 ?side2 A21.out).mono ?_
         (case side1 => repeat (first | exact (Kd.R_reads' HO919.out).2.2 | (with_reducible first | refine ca_ ?_ _ | refine cn_ ?_ _ | refine cd_ ?_)))
         (case side2 => exact (Kd.R_reads' HO919.out).2.1)
         rintro e w137 ⟨v944, rfl, ho0, hb⟩
         refine ⟨_, rfl, ?_⟩
         have n0_ := Aside0.mk (Kd.R_elder' (rp_ HO895.out) (Kd.R_base ho0) hb)
         have n1_ := Aside0.mk (Kd.R_elder' (rp_ HO901.out) (Kd.R_base ho0) hb)
         have n2_ := Aside0.mk (Kd.R_elder' (rp_ HO904.out) (Kd.R_base ho0) hb)
         have n3_ := Aside0.mk (Kd.R_elder' (rp_ HO911.out) (Kd.R_base ho0) hb)
         have n4_ := Aside0.mk (Kd.R_elder' (rp_ HO919.out) (Kd.R_base ho0) hb)
         have n5_ := Aside0.mk (Kd.R_elder' (rp_ HO922.out) (Kd.R_base ho0) hb)
         have n6_ := Aside0.mk (Kd.R_elder' (rp_ HO925.out) (Kd.R_base ho0) hb)
         have n7_ := Aside0.mk (Kd.R_elder' (rp_ HO934.out) (Kd.R_base ho0) hb)
         have n8_ := Aside0.mk (Kd.R_elder' (rp_ HO937.out) (Kd.R_base ho0) hb)
         have n9_ := Aside0.mk (Kd.R_elder' (rp_ HO942.out) (Kd.R_base ho0) hb)
         have n10_ := Aside0.mk (Kd.R_lower (Kd.R_newB (Kd.R_newB (Kd.R_newB (Kd.R_newB (Kd.R_newB (Kd.R_new' (Kd.R_new' (Kd.R_new' (Kd.R_new' (Kd.R_new' (Kd.R_new' (Kd.R_new' (Kd.R_new' (Kd.R_new' (Kd.R_new' ho0 (Kd.R_lt (rp_ HO895.out))) (Kd.R_lt (rp_ HO901.out))) (Kd.R_lt (rp_ HO904.out))) (Kd.R_lt (rp_ HO911.out))) (Kd.R_lt (rp_ HO919.out))) (Kd.R_lt (rp_ HO922.out))) (Kd.R_lt (rp_ HO925.out))) (Kd.R_lt (rp_ HO934.out))) (Kd.R_lt (rp_ HO937.out))) (Kd.R_lt (rp_ HO942.out))) (g := gb898) (o := .cells #[.int .i64 t896, .int .i64 t897] 25 (0, 0)) (pb_ BK898.out)) (g := gb908) (o := .cells #[.int .i64 t905, .int .i64 t906] 25 (0, 0)) (pb_ BK908.out)) (g := gb915) (o := .cells #[.int .i64 t912, .int .i64 t913] 25 (0, 0)) (pb_ BK915.out)) (g := gb930) (o := .cells #[.int .i64 t926, .int .i64 t927] 25 (0, 0)) (pb_ BK930.out)) (g := gb931) (o := .cells #[.int .i64 t928, .int .i64 t929] 25 (0, 0)) (pb_ BK931.out)) (below_size (by repeat (first | (with_reducible first | exact HB.out | apply ba_ | apply bn_ | apply bd_ | refine below_set ?_ GE898.out | refine below_set ?_ GE908.out | refine below_set ?_ GE915.out | refine below_set ?_ GE930.out | refine below_set ?_ GE931.out) | exact HB.out))))
         have n11_ := Aside0.mk (bb_ BK898.out hb)
         have n12_ := Aside0.mk (bb_ BK908.out hb)
         have n13_ := Aside0.mk (bb_ BK915.out hb)
         have n14_ := Aside0.mk (bb_ BK930.out hb)
         have n15_ := Aside0.mk (bb_ BK931.out hb)
         have n16_ := Aside0.mk (below_step (by repeat (first | (with_reducible first | exact HB.out | apply ba_ | apply bn_ | apply bd_ | refine below_set ?_ GE898.out | refine below_set ?_ GE908.out | refine below_set ?_ GE915.out | refine below_set ?_ GE930.out | refine below_set ?_ GE931.out) | exact HB.out)) hb)
         clear HO895 HO901 HO904 HO911 HO919 HO922 HO925 HO934 HO937 HO942 BK898 BK908 BK915 BK930 BK931 HB
         have HO895 := n0_
         have HO901 := n1_
         have HO904 := n2_
         have HO911 := n3_
         have HO919 := n4_
         have HO922 := n5_
         have HO925 := n6_
         have HO934 := n7_
         have HO937 := n8_
         have HO942 := n9_
         have HO945 := n10_
         have BK898 := n11_
         have BK908 := n12_
         have BK915 := n13_
         have BK930 := n14_
         have BK931 := n15_
         have HB := n16_
         clear n0_ n1_ n2_ n3_ n4_ n5_ n6_ n7_ n8_ n9_ n10_ n11_ n12_ n13_ n14_ n15_ n16_
         (try clear hb)
         (try clear hb2)
         (try clear hk)
         (try clear hi)
         (try clear ho0)
         obtain ⟨Ao138, co138, eo138⟩ := Kd.R_slice HO942.out
         (first | subst eo138 | (injection eo138 with f1_ f2_ f3_; have f4_ := f1_.symm; have f5_ := f3_.symm; clear f1_ f2_ f3_; subst f4_; subst f5_))
         obtain ⟨Ao139, co139, eo139⟩ := Kd.R_slice HO945.out
         (first | subst eo139 | (injection eo139 with f1_ f2_ f3_; have f4_ := f1_.symm; have f5_ := f3_.symm; clear f1_ f2_ f3_; subst f4_; subst f5_))
         refine hK.out _ _ ⟨bx_ BK898.out 0, bx_ BK898.out 1, bx_ BK908.out 0, bx_ BK908.out 1, bx_ BK915.out 0, bx_ BK915.out 1, bx_ BK930.out 0, bx_ BK930.out 1, bx_ BK931.out 0, bx_ BK931.out 1⟩ (fun hHeld => ?_)
         clear hK K
         refine norm_ (a' := ?_) ?_ ?_
         rotate_left
         ·
          show Act.put _ (some 81) _ = _
          simp only [fr_]
          rfl
         refine one_ (i := 29) (N := some 82) #[t_,t_,t_,t_,t_,t_,t_,t_,t_,t_,t_,t_,t_,t_,t_,t_,t_,t_,t_,t_,t_,t_,t_,t_,t_,t_,t_,t_,t_,t_,f_,f_,f_,f_,f_,f_,f_,f_,f_,f_,f_,f_,f_,f_,f_,f_,f_,f_,f_,f_,f_,f_,f_,f_,f_,f_,f_,f_,f_,f_,f_,f_,f_,f_,f_,f_,f_,f_,f_,f_,f_,f_,f_,f_,f_,f_] rfl rfl (one_of HT_.out (by kernel_rfl)) (by decide) (fun K hK => ?_)
         refine goes_ Try.func39 (by kernel_rfl) rfl #[.slice Ao138 t940.length co138, .slice Ao139 t943.length co139] (by rfl) rfl rfl (by (try simp only [mp_]); first | done | rfl | (simp only [List.length_drop, List.length_take]; rfl)) ?_
         with_reducible refine (laws_sameHeap.calls k _ _ t940 _ _ t943 true _ ?side1 ?side2 ?side3 ?side4 A22.out).mono ?_
         (case side1 => repeat (first | exact (Kd.R_reads' HO942.out).2.2 | (with_reducible first | refine ca_ ?_ _ | refine cn_ ?_ _ | refine cd_ ?_)))
         (case side2 => exact (Kd.R_reads' HO942.out).2.1)
         (case side3 => repeat (first | exact (Kd.R_reads' HO945.out).2.2 | (with_reducible first | refine ca_ ?_ _ | refine cn_ ?_ _ | refine cd_ ?_)))
         (case side4 => exact (Kd.R_reads' HO945.out).2.1)
         rintro e w' ⟨rfl, ⟨nd, rfl⟩⟩
         refine ⟨_, rfl, ?_⟩
         obtain ⟨Ao140, co140, eo140⟩ := Kd.R_slice HO922.out
         (first | subst eo140 | (injection eo140 with f1_ f2_ f3_; have f4_ := f1_.symm; have f5_ := f3_.symm; clear f1_ f2_ f3_; subst f4_; subst f5_))
         refine hK.out _ _ ⟨bx_ BK898.out 0, bx_ BK898.out 1, bx_ BK908.out 0, bx_ BK908.out 1, bx_ BK915.out 0, bx_ BK915.out 1, bx_ BK930.out 0, bx_ BK930.out 1, bx_ BK931.out 0, bx_ BK931.out 1⟩ (fun hHeld => ?_)
         clear hK K
         refine norm_ (a' := ?_) ?_ ?_
         rotate_left
         ·
          show Act.put _ (some 82) _ = _
          simp only [fr_]
          rfl
         refine pu_ 30 83 ?_ (b_ 31 45) rfl rfl HT_.out ?_ ?_ ?_ ?_; rotate_left; intro w'; go_simp; with_reducible rfl; rotate_left; simp only [fr_]; rfl
         refine pu_ 31 84 ?_ (b_ 32 44) rfl rfl HT_.out ?_ ?_ ?_ ?_; rotate_left; intro w'; go_simp; with_reducible rfl; rotate_left; simp only [fr_]; rfl
         refine pu_ 32 85 ?_ (b_ 33 43) rfl rfl HT_.out ?_ ?_ ?_ ?_; rotate_left; intro w'; go_simp; with_reducible rfl; rotate_left; simp only [fr_]; rfl
         refine pu_ 34 87 ?_ #[t_,t_,t_,t_,t_,t_,t_,t_,t_,t_,t_,t_,t_,t_,t_,t_,t_,t_,t_,t_,t_,t_,t_,t_,t_,t_,t_,t_,t_,t_,t_,t_,t_,f_,t_,f_,f_,f_,f_,f_,f_,f_,f_,f_,f_,f_,f_,f_,f_,f_,f_,f_,f_,f_,f_,f_,f_,f_,f_,f_,f_,f_,f_,f_,f_,f_,f_,f_,f_,f_,f_,f_,f_,f_,f_,f_] rfl rfl HT_.out ?_ ?_ ?_ ?_; rotate_left; intro w'; go_simp; with_reducible rfl; rotate_left; simp only [fr_]; rfl
         refine one_ (i := 33) (N := some 86) #[t_,t_,t_,t_,t_,t_,t_,t_,t_,t_,t_,t_,t_,t_,t_,t_,t_,t_,t_,t_,t_,t_,t_,t_,t_,t_,t_,t_,t_,t_,t_,t_,t_,t_,t_,f_,f_,f_,f_,f_,f_,f_,f_,f_,f_,f_,f_,f_,f_,f_,f_,f_,f_,f_,f_,f_,f_,f_,f_,f_,f_,f_,f_,f_,f_,f_,f_,f_,f_,f_,f_,f_,f_,f_,f_,f_] rfl rfl (one_of HT_.out (by kernel_rfl)) (by decide) (fun K hK => ?_)
         refine goes_ Try.func20 (by kernel_rfl) rfl #[.slice Ao140 t920.length co140] (by rfl) rfl rfl (by (try simp only [mp_]); first | done | rfl | (simp only [List.length_drop, List.length_take]; rfl)) ?_
         with_reducible refine (impl_HeapOk.calls k _ _ t920 t947 _ ?side1 ?side2 A24.out).mono ?_
         (case side1 => repeat (first | exact (Kd.R_reads' HO922.out).2.2 | (with_reducible first | refine ca_ ?_ _ | refine cn_ ?_ _ | refine cd_ ?_)))
         (case side2 => exact (Kd.R_reads' HO922.out).2.1)
         rintro e w141 ⟨rfl, hb⟩
         refine ⟨_, rfl, ?_⟩
         have n0_ := Aside0.mk (Kd.R_below (rp_ HO895.out) hb)
         have n1_ := Aside0.mk (Kd.R_below (rp_ HO901.out) hb)
         have n2_ := Aside0.mk (Kd.R_below (rp_ HO904.out) hb)
         have n3_ := Aside0.mk (Kd.R_below (rp_ HO911.out) hb)
         have n4_ := Aside0.mk (Kd.R_below (rp_ HO919.out) hb)
         have n5_ := Aside0.mk (Kd.R_below (rp_ HO922.out) hb)
         have n6_ := Aside0.mk (Kd.R_below (rp_ HO925.out) hb)
         have n7_ := Aside0.mk (Kd.R_below (rp_ HO934.out) hb)
         have n8_ := Aside0.mk (Kd.R_below (rp_ HO937.out) hb)
         have n9_ := Aside0.mk (Kd.R_below (rp_ HO942.out) hb)
         have n10_ := Aside0.mk (Kd.R_below (rp_ HO945.out) hb)
         have n11_ := Aside0.mk (bb_ BK898.out hb)
         have n12_ := Aside0.mk (bb_ BK908.out hb)
         have n13_ := Aside0.mk (bb_ BK915.out hb)
         have n14_ := Aside0.mk (bb_ BK930.out hb)
         have n15_ := Aside0.mk (bb_ BK931.out hb)
         have n16_ := Aside0.mk (below_step (by repeat (first | (with_reducible first | exact HB.out | apply ba_ | apply bn_ | apply bd_ | refine below_set ?_ GE898.out | refine below_set ?_ GE908.out | refine below_set ?_ GE915.out | refine below_set ?_ GE930.out | refine below_set ?_ GE931.out) | exact HB.out)) hb)
         clear HO895 HO901 HO904 HO911 HO919 HO922 HO925 HO934 HO937 HO942 HO945 BK898 BK908 BK915 BK930 BK931 HB
         have HO895 := n0_
         have HO901 := n1_
         have HO904 := n2_
         have HO911 := n3_
         have HO919 := n4_
         have HO922 := n5_
         have HO925 := n6_
         have HO934 := n7_
         have HO937 := n8_
         have HO942 := n9_
         have HO945 := n10_
         have BK898 := n11_
         have BK908 := n12_
         have BK915 := n13_
         have BK930 := n14_
         have BK931 := n15_
         have HB := n16_
         clear n0_ n1_ n2_ n3_ n4_ n5_ n6_ n7_ n8_ n9_ n10_ n11_ n12_ n13_ n14_ n15_ n16_
         (try clear hb)
         (try clear hb2)
         (try clear hk)
         (try clear hi)
         refine hK.out _ _ ⟨bx_ BK898.out 0, bx_ BK898.out 1, bx_ BK908.out 0, bx_ BK908.out 1, bx_ BK915.out 0, bx_ BK915.out 1, bx_ BK930.out 0, bx_ BK930.out 1, bx_ BK931.out 0, bx_ BK931.out 1⟩ (fun hHeld => ?_)
         clear hK K
         refine norm_ (a' := ?_) ?_ ?_
         rotate_left
         ·
          show Act.put _ (some 86) _ = _
          simp only [fr_]
          rfl
         refine one_ (i := 35) (N := some 88) #[t_,t_,t_,t_,t_,t_,t_,t_,t_,t_,t_,t_,t_,t_,t_,t_,t_,t_,t_,t_,t_,t_,t_,t_,t_,t_,t_,t_,t_,t_,t_,t_,t_,t_,t_,t_,f_,f_,f_,f_,f_,f_,f_,f_,f_,f_,f_,f_,f_,f_,f_,f_,f_,f_,f_,f_,f_,f_,f_,f_,f_,f_,f_,f_,f_,f_,f_,f_,f_,f_,f_,f_,f_,f_,f_,f_] rfl rfl (one_of HT_.out (by kernel_rfl)) (by decide) (fun K hK => ?_)
         refine goes_ Try.func18 (by kernel_rfl) rfl #[.slice Ao140 t920.length co140] (by rfl) rfl rfl (by (try simp only [mp_]); first | done | rfl | (simp only [List.length_drop, List.length_take]; rfl)) ?_
         with_reducible refine (spec_HeapOk.calls k _ _ t920 t948 _ ?side1 ?side2 A25.out).mono ?_
         (case side1 => repeat (first | exact (Kd.R_reads' HO922.out).2.2 | (with_reducible first | refine ca_ ?_ _ | refine cn_ ?_ _ | refine cd_ ?_)))
         (case side2 => exact (Kd.R_reads' HO922.out).2.1)
         rintro e w142 ⟨rfl, hb⟩
         refine ⟨_, rfl, ?_⟩
         have n0_ := Aside0.mk (Kd.R_below (rp_ HO895.out) hb)
         have n1_ := Aside0.mk (Kd.R_below (rp_ HO901.out) hb)
         have n2_ := Aside0.mk (Kd.R_below (rp_ HO904.out) hb)
         have n3_ := Aside0.mk (Kd.R_below (rp_ HO911.out) hb)
         have n4_ := Aside0.mk (Kd.R_below (rp_ HO919.out) hb)
         have n5_ := Aside0.mk (Kd.R_below (rp_ HO922.out) hb)
         have n6_ := Aside0.mk (Kd.R_below (rp_ HO925.out) hb)
         have n7_ := Aside0.mk (Kd.R_below (rp_ HO934.out) hb)
         have n8_ := Aside0.mk (Kd.R_below (rp_ HO937.out) hb)
         have n9_ := Aside0.mk (Kd.R_below (rp_ HO942.out) hb)
         have n10_ := Aside0.mk (Kd.R_below (rp_ HO945.out) hb)
         have n11_ := Aside0.mk (bb_ BK898.out hb)
         have n12_ := Aside0.mk (bb_ BK908.out hb)
         have n13_ := Aside0.mk (bb_ BK915.out hb)
         have n14_ := Aside0.mk (bb_ BK930.out hb)
         have n15_ := Aside0.mk (bb_ BK931.out hb)
         have n16_ := Aside0.mk (below_step (by repeat (first | (with_reducible first | exact HB.out | apply ba_ | apply bn_ | apply bd_ | refine below_set ?_ GE898.out | refine below_set ?_ GE908.out | refine below_set ?_ GE915.out | refine below_set ?_ GE930.out | refine below_set ?_ GE931.out) | exact HB.out)) hb)
         clear HO895 HO901 HO904 HO911 HO919 HO922 HO925 HO934 HO937 HO942 HO945 BK898 BK908 BK915 BK930 BK931 HB
         have HO895 := n0_
         have HO901 := n1_
         have HO904 := n2_
         have HO911 := n3_
         have HO919 := n4_
         have HO922 := n5_
         have HO925 := n6_
         have HO934 := n7_
         have HO937 := n8_
         have HO942 := n9_
         have HO945 := n10_
         have BK898 := n11_
         have BK908 := n12_
         have BK915 := n13_
         have BK930 := n14_
         have BK931 := n15_
         have HB := n16_
         clear n0_ n1_ n2_ n3_ n4_ n5_ n6_ n7_ n8_ n9_ n10_ n11_ n12_ n13_ n14_ n15_ n16_
         (try clear hb)
         (try clear hb2)
         (try clear hk)
         (try clear hi)
         obtain ⟨Ao143, co143, eo143⟩ := Kd.R_slice HO925.out
         (first | subst eo143 | (injection eo143 with f1_ f2_ f3_; have f4_ := f1_.symm; have f5_ := f3_.symm; clear f1_ f2_ f3_; subst f4_; subst f5_))
         refine hK.out _ _ ⟨bx_ BK898.out 0, bx_ BK898.out 1, bx_ BK908.out 0, bx_ BK908.out 1, bx_ BK915.out 0, bx_ BK915.out 1, bx_ BK930.out 0, bx_ BK930.out 1, bx_ BK931.out 0, bx_ BK931.out 1⟩ (fun hHeld => ?_)
         clear hK K
         refine norm_ (a' := ?_) ?_ ?_
         rotate_left
         ·
          show Act.put _ (some 88) _ = _
          simp only [fr_]
          rfl
         refine pu_ 36 89 ?_ (b_ 37 39) rfl rfl HT_.out ?_ ?_ ?_ ?_; rotate_left; intro w'; go_simp; with_reducible rfl; rotate_left; simp only [fr_]; rfl
         refine pu_ 37 90 ?_ (b_ 38 38) rfl rfl HT_.out ?_ ?_ ?_ ?_; rotate_left; intro w'; go_simp; with_reducible rfl; rotate_left; simp only [fr_]; rfl
         refine pu_ 38 91 ?_ (b_ 39 37) rfl rfl HT_.out ?_ ?_ ?_ ?_; rotate_left; intro w'; go_simp; with_reducible rfl; rotate_left; simp only [fr_]; rfl
         refine pu_ 39 92 ?_ (b_ 40 36) rfl rfl HT_.out ?_ ?_ ?_ ?_; rotate_left; intro w'; go_simp; with_reducible rfl; rotate_left; simp only [fr_]; rfl
         refine pu_ 41 94 ?_ #[t_,t_,t_,t_,t_,t_,t_,t_,t_,t_,t_,t_,t_,t_,t_,t_,t_,t_,t_,t_,t_,t_,t_,t_,t_,t_,t_,t_,t_,t_,t_,t_,t_,t_,t_,t_,t_,t_,t_,t_,f_,t_,f_,f_,f_,f_,f_,f_,f_,f_,f_,f_,f_,f_,f_,f_,f_,f_,f_,f_,f_,f_,f_,f_,f_,f_,f_,f_,f_,f_,f_,f_,f_,f_,f_,f_] rfl rfl HT_.out ?_ ?_ ?_ ?_; rotate_left; intro w'; go_simp; with_reducible rfl; rotate_left; simp only [fr_]; rfl
         refine one_ (i := 40) (N := some 93) #[t_,t_,t_,t_,t_,t_,t_,t_,t_,t_,t_,t_,t_,t_,t_,t_,t_,t_,t_,t_,t_,t_,t_,t_,t_,t_,t_,t_,t_,t_,t_,t_,t_,t_,t_,t_,t_,t_,t_,t_,t_,t_,f_,f_,f_,f_,f_,f_,f_,f_,f_,f_,f_,f_,f_,f_,f_,f_,f_,f_,f_,f_,f_,f_,f_,f_,f_,f_,f_,f_,f_,f_,f_,f_,f_,f_] rfl rfl (one_of HT_.out (by kernel_rfl)) (by decide) (fun K hK => ?_)
         refine goes_ Try.func38 (by kernel_rfl) rfl #[.slice Ao143 t923.length co143] (by rfl) rfl rfl (by (try simp only [mp_]); first | done | rfl | (simp only [List.length_drop, List.length_take]; rfl)) ?_
         with_reducible refine (impl_Sorted.calls k (fun k_ => some k_ = (.slice Ao143 t923.length co143 : Value).ownBlock) _ _ t923 t949 _ ?side1 A27.out).mono ?_
         (case side1 => exact Kd.R_V (Kd.R_tight rfl (HO925.out)))
         rintro e w144 ⟨v950, rfl, ho0, hb⟩
         refine ⟨_, rfl, ?_⟩
         have n0_ := Aside0.mk (Kd.R_elder' (rp_ HO895.out) (Kd.R_base ho0) hb)
         have n1_ := Aside0.mk (Kd.R_elder' (rp_ HO901.out) (Kd.R_base ho0) hb)
         have n2_ := Aside0.mk (Kd.R_elder' (rp_ HO904.out) (Kd.R_base ho0) hb)
         have n3_ := Aside0.mk (Kd.R_elder' (rp_ HO911.out) (Kd.R_base ho0) hb)
         have n4_ := Aside0.mk (Kd.R_elder' (rp_ HO919.out) (Kd.R_base ho0) hb)
         have n5_ := Aside0.mk (Kd.R_elder' (rp_ HO922.out) (Kd.R_base ho0) hb)
         have n6_ := Aside0.mk (Kd.R_elder' (rp_ HO925.out) (Kd.R_base ho0) hb)
         have n7_ := Aside0.mk (Kd.R_elder' (rp_ HO934.out) (Kd.R_base ho0) hb)
         have n8_ := Aside0.mk (Kd.R_elder' (rp_ HO937.out) (Kd.R_base ho0) hb)
         have n9_ := Aside0.mk (Kd.R_elder' (rp_ HO942.out) (Kd.R_base ho0) hb)
         have n10_ := Aside0.mk (Kd.R_elder' (rp_ HO945.out) (Kd.R_base ho0) hb)
         have n11_ := Aside0.mk (Kd.R_lower (Kd.R_newB (Kd.R_newB (Kd.R_newB (Kd.R_newB (Kd.R_newB (Kd.R_new' (Kd.R_new' (Kd.R_new' (Kd.R_new' (Kd.R_new' (Kd.R_new' (Kd.R_new' (Kd.R_new' (Kd.R_new' (Kd.R_new' (Kd.R_new' (Kd.R_mono (ok' := fun k_ => True) ho0 (fun _ hk_ => trivial)) (Kd.R_lt (rp_ HO895.out))) (Kd.R_lt (rp_ HO901.out))) (Kd.R_lt (rp_ HO904.out))) (Kd.R_lt (rp_ HO911.out))) (Kd.R_lt (rp_ HO919.out))) (Kd.R_lt (rp_ HO922.out))) (Kd.R_lt (rp_ HO925.out))) (Kd.R_lt (rp_ HO934.out))) (Kd.R_lt (rp_ HO937.out))) (Kd.R_lt (rp_ HO942.out))) (Kd.R_lt (rp_ HO945.out))) (g := gb898) (o := .cells #[.int .i64 t896, .int .i64 t897] 25 (0, 0)) (pb_ BK898.out)) (g := gb908) (o := .cells #[.int .i64 t905, .int .i64 t906] 25 (0, 0)) (pb_ BK908.out)) (g := gb915) (o := .cells #[.int .i64 t912, .int .i64 t913] 25 (0, 0)) (pb_ BK915.out)) (g := gb930) (o := .cells #[.int .i64 t926, .int .i64 t927] 25 (0, 0)) (pb_ BK930.out)) (g := gb931) (o := .cells #[.int .i64 t928, .int .i64 t929] 25 (0, 0)) (pb_ BK931.out)) (below_size (by repeat (first | (with_reducible first | exact HB.out | apply ba_ | apply bn_ | apply bd_ | refine below_set ?_ GE898.out | refine below_set ?_ GE908.out | refine below_set ?_ GE915.out | refine below_set ?_ GE930.out | refine below_set ?_ GE931.out) | exact HB.out))))
         have n12_ := Aside0.mk (bb_ BK898.out hb)
         have n13_ := Aside0.mk (bb_ BK908.out hb)
         have n14_ := Aside0.mk (bb_ BK915.out hb)
         have n15_ := Aside0.mk (bb_ BK930.out hb)
         have n16_ := Aside0.mk (bb_ BK931.out hb)
         have n17_ := Aside0.mk (below_step (by repeat (first | (with_reducible first | exact HB.out | apply ba_ | apply bn_ | apply bd_ | refine below_set ?_ GE898.out | refine below_set ?_ GE908.out | refine below_set ?_ GE915.out | refine below_set ?_ GE930.out | refine below_set ?_ GE931.out) | exact HB.out)) hb)
         clear HO895 HO901 HO904 HO911 HO919 HO922 HO925 HO934 HO937 HO942 HO945 BK898 BK908 BK915 BK930 BK931 HB
         have HO895 := n0_
         have HO901 := n1_
         have HO904 := n2_
         have HO911 := n3_
         have HO919 := n4_
         have HO922 := n5_
         have HO925 := n6_
         have HO934 := n7_
         have HO937 := n8_
         have HO942 := n9_
         have HO945 := n10_
         have HO951 := n11_
         have BK898 := n12_
         have BK908 := n13_
         have BK915 := n14_
         have BK930 := n15_
         have BK931 := n16_
         have HB := n17_
         clear n0_ n1_ n2_ n3_ n4_ n5_ n6_ n7_ n8_ n9_ n10_ n11_ n12_ n13_ n14_ n15_ n16_ n17_
         (try clear hb)
         (try clear hb2)
         (try clear hk)
         (try clear hi)
         (try clear ho0)
         refine hK.out _ _ ⟨bx_ BK898.out 0, bx_ BK898.out 1, bx_ BK908.out 0, bx_ BK908.out 1, bx_ BK915.out 0, bx_ BK915.out 1, bx_ BK930.out 0, bx_ BK930.out 1, bx_ BK931.out 0, bx_ BK931.out 1⟩ (fun hHeld => ?_)
         clear hK K
         refine norm_ (a' := ?_) ?_ ?_
         rotate_left
         ·
          show Act.put _ (some 93) _ = _
          simp only [fr_]
          rfl
         refine one_ (i := 42) (N := some 95) #[t_,t_,t_,t_,t_,t_,t_,t_,t_,t_,t_,t_,t_,t_,t_,t_,t_,t_,t_,t_,t_,t_,t_,t_,t_,t_,t_,t_,t_,t_,t_,t_,t_,t_,t_,t_,t_,t_,t_,t_,t_,t_,t_,f_,f_,f_,f_,f_,f_,f_,f_,f_,f_,f_,f_,f_,f_,f_,f_,f_,f_,f_,f_,f_,f_,f_,f_,f_,f_,f_,f_,f_,f_,f_,f_,f_] rfl rfl (one_of HT_.out (by kernel_rfl)) (by decide) (fun K hK => ?_)
         refine goes_ Try.func42 (by kernel_rfl) rfl #[.slice Ao143 t923.length co143] (by rfl) rfl rfl (by (try simp only [mp_]); first | done | rfl | (simp only [List.length_drop, List.length_take]; rfl)) ?_
         with_reducible refine (spec_Sorted.calls k _ _ t923 t952 _ ?side1 ?side2 A28.out).mono ?_
         (case side1 => repeat (first | exact (Kd.R_reads' HO925.out).2.2 | (with_reducible first | refine ca_ ?_ _ | refine cn_ ?_ _ | refine cd_ ?_)))
         (case side2 => exact (Kd.R_reads' HO925.out).2.1)
         rintro e w145 ⟨v953, rfl, ho0, hb⟩
         refine ⟨_, rfl, ?_⟩
         have n0_ := Aside0.mk (Kd.R_elder' (rp_ HO895.out) (Kd.R_base ho0) hb)
         have n1_ := Aside0.mk (Kd.R_elder' (rp_ HO901.out) (Kd.R_base ho0) hb)
         have n2_ := Aside0.mk (Kd.R_elder' (rp_ HO904.out) (Kd.R_base ho0) hb)
         have n3_ := Aside0.mk (Kd.R_elder' (rp_ HO911.out) (Kd.R_base ho0) hb)
         have n4_ := Aside0.mk (Kd.R_elder' (rp_ HO919.out) (Kd.R_base ho0) hb)
         have n5_ := Aside0.mk (Kd.R_elder' (rp_ HO922.out) (Kd.R_base ho0) hb)
         have n6_ := Aside0.mk (Kd.R_elder' (rp_ HO925.out) (Kd.R_base ho0) hb)
         have n7_ := Aside0.mk (Kd.R_elder' (rp_ HO934.out) (Kd.R_base ho0) hb)
         have n8_ := Aside0.mk (Kd.R_elder' (rp_ HO937.out) (Kd.R_base ho0) hb)
         have n9_ := Aside0.mk (Kd.R_elder' (rp_ HO942.out) (Kd.R_base ho0) hb)
         have n10_ := Aside0.mk (Kd.R_elder' (rp_ HO945.out) (Kd.R_base ho0) hb)
         have n11_ := Aside0.mk (Kd.R_elder' (rp_ HO951.out) (Kd.R_base ho0) hb)
         have n12_ := Aside0.mk (Kd.R_lower (Kd.R_newB (Kd.R_newB (Kd.R_newB (Kd.R_newB (Kd.R_newB (Kd.R_new' (Kd.R_new' (Kd.R_new' (Kd.R_new' (Kd.R_new' (Kd.R_new' (Kd.R_new' (Kd.R_new' (Kd.R_new' (Kd.R_new' (Kd.R_new' (Kd.R_new' ho0 (Kd.R_lt (rp_ HO895.out))) (Kd.R_lt (rp_ HO901.out))) (Kd.R_lt (rp_ HO904.out))) (Kd.R_lt (rp_ HO911.out))) (Kd.R_lt (rp_ HO919.out))) (Kd.R_lt (rp_ HO922.out))) (Kd.R_lt (rp_ HO925.out))) (Kd.R_lt (rp_ HO934.out))) (Kd.R_lt (rp_ HO937.out))) (Kd.R_lt (rp_ HO942.out))) (Kd.R_lt (rp_ HO945.out))) (Kd.R_lt (rp_ HO951.out))) (g := gb898) (o := .cells #[.int .i64 t896, .int .i64 t897] 25 (0, 0)) (pb_ BK898.out)) (g := gb908) (o := .cells #[.int .i64 t905, .int .i64 t906] 25 (0, 0)) (pb_ BK908.out)) (g := gb915) (o := .cells #[.int .i64 t912, .int .i64 t913] 25 (0, 0)) (pb_ BK915.out)) (g := gb930) (o := .cells #[.int .i64 t926, .int .i64 t927] 25 (0, 0)) (pb_ BK930.out)) (g := gb931) (o := .cells #[.int .i64 t928, .int .i64 t929] 25 (0, 0)) (pb_ BK931.out)) (below_size (by repeat (first | (with_reducible first | exact HB.out | apply ba_ | apply bn_ | apply bd_ | refine below_set ?_ GE898.out | refine below_set ?_ GE908.out | refine below_set ?_ GE915.out | refine below_set ?_ GE930.out | refine below_set ?_ GE931.out) | exact HB.out))))
         have n13_ := Aside0.mk (bb_ BK898.out hb)
         have n14_ := Aside0.mk (bb_ BK908.out hb)
         have n15_ := Aside0.mk (bb_ BK915.out hb)
         have n16_ := Aside0.mk (bb_ BK930.out hb)
         have n17_ := Aside0.mk (bb_ BK931.out hb)
         have n18_ := Aside0.mk (below_step (by repeat (first | (with_reducible first | exact HB.out | apply ba_ | apply bn_ | apply bd_ | refine below_set ?_ GE898.out | refine below_set ?_ GE908.out | refine below_set ?_ GE915.out | refine below_set ?_ GE930.out | refine below_set ?_ GE931.out) | exact HB.out)) hb)
         clear HO895 HO901 HO904 HO911 HO919 HO922 HO925 HO934 HO937 HO942 HO945 HO951 BK898 BK908 BK915 BK930 BK931 HB
         have HO895 := n0_
         have HO901 := n1_
         have HO904 := n2_
         have HO911 := n3_
         have HO919 := n4_
         have HO922 := n5_
         have HO925 := n6_
         have HO934 := n7_
         have HO937 := n8_
         have HO942 := n9_
         have HO945 := n10_
         have HO951 := n11_
         have HO954 := n12_
         have BK898 := n13_
         have BK908 := n14_
         have BK915 := n15_
         have BK930 := n16_
         have BK931 := n17_
         have HB := n18_
         clear n0_ n1_ n2_ n3_ n4_ n5_ n6_ n7_ n8_ n9_ n10_ n11_ n12_ n13_ n14_ n15_ n16_ n17_ n18_
         (try clear hb)
         (try clear hb2)
         (try clear hk)
         (try clear hi)
         (try clear ho0)
         obtain ⟨Ao146, co146, eo146⟩ := Kd.R_slice HO951.out
         (first | subst eo146 | (injection eo146 with f1_ f2_ f3_; have f4_ := f1_.symm; have f5_ := f3_.symm; clear f1_ f2_ f3_; subst f4_; subst f5_))
         obtain ⟨Ao147, co147, eo147⟩ := Kd.R_slice HO954.out
         (first | subst eo147 | (injection eo147 with f1_ f2_ f3_; have f4_ := f1_.symm; have f5_ := f3_.symm; clear f1_ f2_ f3_; subst f4_; subst f5_))
         refine hK.out _ _ ⟨bx_ BK898.out 0, bx_ BK898.out 1, bx_ BK908.out 0, bx_ BK908.out 1, bx_ BK915.out 0, bx_ BK915.out 1, bx_ BK930.out 0, bx_ BK930.out 1, bx_ BK931.out 0, bx_ BK931.out 1⟩ (fun hHeld => ?_)
         clear hK K
         refine norm_ (a' := ?_) ?_ ?_
         rotate_left
         ·
          show Act.put _ (some 95) _ = _
          simp only [fr_]
          rfl
         refine one_ (i := 43) (N := some 96) #[t_,t_,t_,t_,t_,t_,t_,t_,t_,t_,t_,t_,t_,t_,t_,t_,t_,t_,t_,t_,t_,t_,t_,t_,t_,t_,t_,t_,t_,t_,t_,t_,t_,t_,t_,t_,t_,t_,t_,t_,t_,t_,t_,t_,f_,f_,f_,f_,f_,f_,f_,f_,f_,f_,f_,f_,f_,f_,f_,f_,f_,f_,f_,f_,f_,f_,f_,f_,f_,f_,f_,f_,f_,f_,f_,f_] rfl rfl (one_of HT_.out (by kernel_rfl)) (by decide) (fun K hK => ?_)
         refine goes_ Try.func39 (by kernel_rfl) rfl #[.slice Ao146 t949.length co146, .slice Ao147 t952.length co147] (by rfl) rfl rfl (by (try simp only [mp_]); first | done | rfl | (simp only [List.length_drop, List.length_take]; rfl)) ?_
         with_reducible refine (laws_sameHeap.calls k _ _ t949 _ _ t952 true _ ?side1 ?side2 ?side3 ?side4 A29.out).mono ?_
         (case side1 => repeat (first | exact (Kd.R_reads' HO951.out).2.2 | (with_reducible first | refine ca_ ?_ _ | refine cn_ ?_ _ | refine cd_ ?_)))
         (case side2 => exact (Kd.R_reads' HO951.out).2.1)
         (case side3 => repeat (first | exact (Kd.R_reads' HO954.out).2.2 | (with_reducible first | refine ca_ ?_ _ | refine cn_ ?_ _ | refine cd_ ?_)))
         (case side4 => exact (Kd.R_reads' HO954.out).2.1)
         rintro e w' ⟨rfl, ⟨nd, rfl⟩⟩
         refine ⟨_, rfl, ?_⟩
         refine hK.out _ _ ⟨bx_ BK898.out 0, bx_ BK898.out 1, bx_ BK908.out 0, bx_ BK908.out 1, bx_ BK915.out 0, bx_ BK915.out 1, bx_ BK930.out 0, bx_ BK930.out 1, bx_ BK931.out 0, bx_ BK931.out 1⟩ (fun hHeld => ?_)
         clear hK K
         refine norm_ (a' := ?_) ?_ ?_
         rotate_left
         ·
          show Act.put _ (some 96) _ = _
          simp only [fr_]
          rfl
         refine pu_ 44 97 ?_ (b_ 45 31) rfl rfl HT_.out ?_ ?_ ?_ ?_; rotate_left; intro w'; go_simp; with_reducible rfl; rotate_left; simp only [fr_]; rfl
         refine pu_ 45 98 ?_ (b_ 46 30) rfl rfl HT_.out ?_ ?_ ?_ ?_; rotate_left; intro w'; go_simp; with_reducible rfl; rotate_left; simp only [fr_]; rfl
         refine take_ (i := 46) (N := some 99) (v := ?_) (a' := ?_) #[t_,t_,t_,t_,t_,t_,t_,t_,t_,t_,t_,t_,t_,t_,t_,t_,t_,t_,t_,t_,t_,t_,t_,t_,t_,t_,t_,t_,t_,t_,t_,t_,t_,t_,t_,t_,t_,t_,t_,t_,t_,t_,t_,t_,t_,t_,t_,f_,f_,f_,f_,f_,f_,f_,f_,f_,f_,f_,f_,f_,f_,f_,f_,f_,f_,f_,f_,f_,f_,f_,f_,f_,f_,f_,f_,f_] rfl rfl (take_ofW HT_.out HW_.out (by kernel_rfl)) (fun _ _ _ h => h) (Or.inl ⟨by rfl, ?_⟩) hHeld ?_ ?_
         rotate_left
         ·
          rintro w' ⟨s0, s1, s2, s3, s4, s5, s6, s7, s8, s9⟩
          go_simp
          with_reducible rfl
         rotate_left
         ·
          simp only [fr_]
          rfl
         refine take_ (i := 47) (N := some 100) (v := ?_) (a' := ?_) #[t_,t_,t_,t_,t_,t_,t_,t_,t_,t_,t_,t_,t_,t_,t_,t_,t_,t_,t_,t_,t_,t_,t_,t_,t_,t_,t_,t_,t_,t_,t_,t_,t_,t_,t_,t_,t_,t_,t_,t_,t_,t_,t_,t_,t_,t_,t_,t_,f_,f_,f_,f_,f_,f_,f_,f_,f_,f_,f_,f_,f_,f_,f_,f_,f_,f_,f_,f_,f_,f_,f_,f_,f_,f_,f_,f_] rfl rfl (take_ofW HT_.out HW_.out (by kernel_rfl)) (fun _ _ _ h => h) (Or.inl ⟨by rfl, ?_⟩) hHeld ?_ ?_
         rotate_left
         ·
          rintro w' ⟨s0, s1, s2, s3, s4, s5, s6, s7, s8, s9⟩
          go_simp
          with_reducible rfl
         rotate_left
         ·
          simp only [fr_]
          rfl
         refine take_ (i := 49) (N := some 102) (v := ?_) (a' := ?_) #[t_,t_,t_,t_,t_,t_,t_,t_,t_,t_,t_,t_,t_,t_,t_,t_,t_,t_,t_,t_,t_,t_,t_,t_,t_,t_,t_,t_,t_,t_,t_,t_,t_,t_,t_,t_,t_,t_,t_,t_,t_,t_,t_,t_,t_,t_,t_,t_,f_,t_,f_,f_,f_,f_,f_,f_,f_,f_,f_,f_,f_,f_,f_,f_,f_,f_,f_,f_,f_,f_,f_,f_,f_,f_,f_,f_] rfl rfl (take_ofW HT_.out HW_.out (by kernel_rfl)) (fun _ _ _ h => h) (Or.inl ⟨by rfl, ?_⟩) hHeld ?_ ?_
         rotate_left
         ·
          rintro w' ⟨s0, s1, s2, s3, s4, s5, s6, s7, s8, s9⟩
          go_simp
          with_reducible rfl
         rotate_left
         ·
          simp only [fr_]
          rfl
         refine take_ (i := 50) (N := some 103) (v := ?_) (a' := ?_) #[t_,t_,t_,t_,t_,t_,t_,t_,t_,t_,t_,t_,t_,t_,t_,t_,t_,t_,t_,t_,t_,t_,t_,t_,t_,t_,t_,t_,t_,t_,t_,t_,t_,t_,t_,t_,t_,t_,t_,t_,t_,t_,t_,t_,t_,t_,t_,t_,f_,t_,t_,f_,f_,f_,f_,f_,f_,f_,f_,f_,f_,f_,f_,f_,f_,f_,f_,f_,f_,f_,f_,f_,f_,f_,f_,f_] rfl rfl (take_ofW HT_.out HW_.out (by kernel_rfl)) (fun _ _ _ h => h) (Or.inl ⟨by rfl, ?_⟩) hHeld ?_ ?_
         rotate_left
         ·
          rintro w' ⟨s0, s1, s2, s3, s4, s5, s6, s7, s8, s9⟩
          go_simp
          with_reducible rfl
         rotate_left
         ·
          simp only [fr_]
          rfl
         refine one_ (i := 48) (N := some 101) #[t_,t_,t_,t_,t_,t_,t_,t_,t_,t_,t_,t_,t_,t_,t_,t_,t_,t_,t_,t_,t_,t_,t_,t_,t_,t_,t_,t_,t_,t_,t_,t_,t_,t_,t_,t_,t_,t_,t_,t_,t_,t_,t_,t_,t_,t_,t_,t_,t_,t_,t_,f_,f_,f_,f_,f_,f_,f_,f_,f_,f_,f_,f_,f_,f_,f_,f_,f_,f_,f_,f_,f_,f_,f_,f_,f_] rfl rfl (one_of HT_.out (by kernel_rfl)) (by decide) (fun K hK => ?_)
         refine goes_ Try.func16 (by kernel_rfl) rfl #[.agg #[.int .i64 t926, .int .i64 t927], .agg #[.int .i64 t928, .int .i64 t929]] (by rfl) rfl rfl (by (try simp only [mp_]); first | done | rfl | (simp only [List.length_drop, List.length_take]; rfl)) ?_
         with_reducible refine (impl_Before.calls t926 t927 t928 t929 t956 _ A31.out).mono ?_
         rintro e w148 ⟨rfl, hb⟩
         refine ⟨_, rfl, ?_⟩
         have n0_ := Aside0.mk (Kd.R_below (rp_ HO895.out) hb)
         have n1_ := Aside0.mk (Kd.R_below (rp_ HO901.out) hb)
         have n2_ := Aside0.mk (Kd.R_below (rp_ HO904.out) hb)
         have n3_ := Aside0.mk (Kd.R_below (rp_ HO911.out) hb)
         have n4_ := Aside0.mk (Kd.R_below (rp_ HO919.out) hb)
         have n5_ := Aside0.mk (Kd.R_below (rp_ HO922.out) hb)
         have n6_ := Aside0.mk (Kd.R_below (rp_ HO925.out) hb)
         have n7_ := Aside0.mk (Kd.R_below (rp_ HO934.out) hb)
         have n8_ := Aside0.mk (Kd.R_below (rp_ HO937.out) hb)
         have n9_ := Aside0.mk (Kd.R_below (rp_ HO942.out) hb)
         have n10_ := Aside0.mk (Kd.R_below (rp_ HO945.out) hb)
         have n11_ := Aside0.mk (Kd.R_below (rp_ HO951.out) hb)
         have n12_ := Aside0.mk (Kd.R_below (rp_ HO954.out) hb)
         have n13_ := Aside0.mk (bb_ BK898.out hb)
         have n14_ := Aside0.mk (bb_ BK908.out hb)
         have n15_ := Aside0.mk (bb_ BK915.out hb)
         have n16_ := Aside0.mk (bb_ BK930.out hb)
         have n17_ := Aside0.mk (bb_ BK931.out hb)
         have n18_ := Aside0.mk (below_step (by repeat (first | (with_reducible first | exact HB.out | apply ba_ | apply bn_ | apply bd_ | refine below_set ?_ GE898.out | refine below_set ?_ GE908.out | refine below_set ?_ GE915.out | refine below_set ?_ GE930.out | refine below_set ?_ GE931.out) | exact HB.out)) hb)
         clear HO895 HO901 HO904 HO911 HO919 HO922 HO925 HO934 HO937 HO942 HO945 HO951 HO954 BK898 BK908 BK915 BK930 BK931 HB
         have HO895 := n0_
         have HO901 := n1_
         have HO904 := n2_
         have HO911 := n3_
         have HO919 := n4_
         have HO922 := n5_
         have HO925 := n6_
         have HO934 := n7_
         have HO937 := n8_
         have HO942 := n9_
         have HO945 := n10_
         have HO951 := n11_
         have HO954 := n12_
         have BK898 := n13_
         have BK908 := n14_
         have BK915 := n15_
         have BK930 := n16_
         have BK931 := n17_
         have HB := n18_
         clear n0_ n1_ n2_ n3_ n4_ n5_ n6_ n7_ n8_ n9_ n10_ n11_ n12_ n13_ n14_ n15_ n16_ n17_ n18_
         (try clear hb)
         (try clear hb2)
         (try clear hk)
         (try clear hi)
         refine hK.out _ _ ⟨bx_ BK898.out 0, bx_ BK898.out 1, bx_ BK908.out 0, bx_ BK908.out 1, bx_ BK915.out 0, bx_ BK915.out 1, bx_ BK930.out 0, bx_ BK930.out 1, bx_ BK931.out 0, bx_ BK931.out 1⟩ (fun hHeld => ?_)
         clear hK K
         refine norm_ (a' := ?_) ?_ ?_
         rotate_left
         ·
          show Act.put _ (some 101) _ = _
          simp only [fr_]
          rfl
         refine one_ (i := 51) (N := some 104) #[t_,t_,t_,t_,t_,t_,t_,t_,t_,t_,t_,t_,t_,t_,t_,t_,t_,t_,t_,t_,t_,t_,t_,t_,t_,t_,t_,t_,t_,t_,t_,t_,t_,t_,t_,t_,t_,t_,t_,t_,t_,t_,t_,t_,t_,t_,t_,t_,t_,t_,t_,t_,f_,f_,f_,f_,f_,f_,f_,f_,f_,f_,f_,f_,f_,f_,f_,f_,f_,f_,f_,f_,f_,f_,f_,f_] rfl rfl (one_of HT_.out (by kernel_rfl)) (by decide) (fun K hK => ?_)
         refine goes_ Try.func14 (by kernel_rfl) rfl #[.agg #[.int .i64 t926, .int .i64 t927], .agg #[.int .i64 t928, .int .i64 t929]] (by rfl) rfl rfl (by (try simp only [mp_]); first | done | rfl | (simp only [List.length_drop, List.length_take]; rfl)) ?_
         with_reducible refine (spec_Before.calls t926 t927 t928 t929 t957 _ A32.out).mono ?_
         rintro e w149 ⟨rfl, hb⟩
         refine ⟨_, rfl, ?_⟩
         have n0_ := Aside0.mk (Kd.R_below (rp_ HO895.out) hb)
         have n1_ := Aside0.mk (Kd.R_below (rp_ HO901.out) hb)
         have n2_ := Aside0.mk (Kd.R_below (rp_ HO904.out) hb)
         have n3_ := Aside0.mk (Kd.R_below (rp_ HO911.out) hb)
         have n4_ := Aside0.mk (Kd.R_below (rp_ HO919.out) hb)
         have n5_ := Aside0.mk (Kd.R_below (rp_ HO922.out) hb)
         have n6_ := Aside0.mk (Kd.R_below (rp_ HO925.out) hb)
         have n7_ := Aside0.mk (Kd.R_below (rp_ HO934.out) hb)
         have n8_ := Aside0.mk (Kd.R_below (rp_ HO937.out) hb)
         have n9_ := Aside0.mk (Kd.R_below (rp_ HO942.out) hb)
         have n10_ := Aside0.mk (Kd.R_below (rp_ HO945.out) hb)
         have n11_ := Aside0.mk (Kd.R_below (rp_ HO951.out) hb)
         have n12_ := Aside0.mk (Kd.R_below (rp_ HO954.out) hb)
         have n13_ := Aside0.mk (bb_ BK898.out hb)
         have n14_ := Aside0.mk (bb_ BK908.out hb)
         have n15_ := Aside0.mk (bb_ BK915.out hb)
         have n16_ := Aside0.mk (bb_ BK930.out hb)
         have n17_ := Aside0.mk (bb_ BK931.out hb)
         have n18_ := Aside0.mk (below_step (by repeat (first | (with_reducible first | exact HB.out | apply ba_ | apply bn_ | apply bd_ | refine below_set ?_ GE898.out | refine below_set ?_ GE908.out | refine below_set ?_ GE915.out | refine below_set ?_ GE930.out | refine below_set ?_ GE931.out) | exact HB.out)) hb)
         clear HO895 HO901 HO904 HO911 HO919 HO922 HO925 HO934 HO937 HO942 HO945 HO951 HO954 BK898 BK908 BK915 BK930 BK931 HB
         have HO895 := n0_
         have HO901 := n1_
         have HO904 := n2_
         have HO911 := n3_
         have HO919 := n4_
         have HO922 := n5_
         have HO925 := n6_
         have HO934 := n7_
         have HO937 := n8_
         have HO942 := n9_
         have HO945 := n10_
         have HO951 := n11_
         have HO954 := n12_
         have BK898 := n13_
         have BK908 := n14_
         have BK915 := n15_
         have BK930 := n16_
         have BK931 := n17_
         have HB := n18_
         clear n0_ n1_ n2_ n3_ n4_ n5_ n6_ n7_ n8_ n9_ n10_ n11_ n12_ n13_ n14_ n15_ n16_ n17_ n18_
         (try clear hb)
         (try clear hb2)
         (try clear hk)
         (try clear hi)
         refine hK.out _ _ ⟨bx_ BK898.out 0, bx_ BK898.out 1, bx_ BK908.out 0, bx_ BK908.out 1, bx_ BK915.out 0, bx_ BK915.out 1, bx_ BK930.out 0, bx_ BK930.out 1, bx_ BK931.out 0, bx_ BK931.out 1⟩ (fun hHeld => ?_)
         clear hK K
         refine norm_ (a' := ?_) ?_ ?_
         rotate_left
         ·
          show Act.put _ (some 104) _ = _
          simp only [fr_]
          rfl
         refine pu_ 52 105 ?_ (b_ 53 23) rfl rfl HT_.out ?_ ?_ ?_ ?_; rotate_left; intro w'; go_simp; with_reducible rfl; rotate_left; simp only [fr_]; rfl
         refine pu_ 53 106 ?_ (b_ 54 22) rfl rfl HT_.out ?_ ?_ ?_ ?_; rotate_left; intro w'; go_simp; with_reducible rfl; rotate_left; simp only [fr_]; rfl
         refine pu_ 54 107 ?_ (b_ 55 21) rfl rfl HT_.out ?_ ?_ ?_ ?_; rotate_left; intro w'; go_simp; with_reducible rfl; rotate_left; simp only [fr_]; rfl
         refine take_ (i := 55) (N := some 108) (v := ?_) (a' := ?_) #[t_,t_,t_,t_,t_,t_,t_,t_,t_,t_,t_,t_,t_,t_,t_,t_,t_,t_,t_,t_,t_,t_,t_,t_,t_,t_,t_,t_,t_,t_,t_,t_,t_,t_,t_,t_,t_,t_,t_,t_,t_,t_,t_,t_,t_,t_,t_,t_,t_,t_,t_,t_,t_,t_,t_,t_,f_,f_,f_,f_,f_,f_,f_,f_,f_,f_,f_,f_,f_,f_,f_,f_,f_,f_,f_,f_] rfl rfl (take_ofW HT_.out HW_.out (by kernel_rfl)) (fun _ _ _ h => h) (Or.inl ⟨by rfl, ?_⟩) hHeld ?_ ?_
         rotate_left
         ·
          rintro w' ⟨s0, s1, s2, s3, s4, s5, s6, s7, s8, s9⟩
          go_simp
          with_reducible rfl
         rotate_left
         ·
          simp only [fr_]
          rfl
         refine take_ (i := 56) (N := some 109) (v := ?_) (a' := ?_) #[t_,t_,t_,t_,t_,t_,t_,t_,t_,t_,t_,t_,t_,t_,t_,t_,t_,t_,t_,t_,t_,t_,t_,t_,t_,t_,t_,t_,t_,t_,t_,t_,t_,t_,t_,t_,t_,t_,t_,t_,t_,t_,t_,t_,t_,t_,t_,t_,t_,t_,t_,t_,t_,t_,t_,t_,t_,f_,f_,f_,f_,f_,f_,f_,f_,f_,f_,f_,f_,f_,f_,f_,f_,f_,f_,f_] rfl rfl (take_ofW HT_.out HW_.out (by kernel_rfl)) (fun _ _ _ h => h) (Or.inl ⟨by rfl, ?_⟩) hHeld ?_ ?_
         rotate_left
         ·
          rintro w' ⟨s0, s1, s2, s3, s4, s5, s6, s7, s8, s9⟩
          go_simp
          with_reducible rfl
         rotate_left
         ·
          simp only [fr_]
          rfl
         refine one_ (i := 57) (N := some 110) #[t_,t_,t_,t_,t_,t_,t_,t_,t_,t_,t_,t_,t_,t_,t_,t_,t_,t_,t_,t_,t_,t_,t_,t_,t_,t_,t_,t_,t_,t_,t_,t_,t_,t_,t_,t_,t_,t_,t_,t_,t_,t_,t_,t_,t_,t_,t_,t_,t_,t_,t_,t_,t_,t_,t_,t_,t_,t_,f_,f_,f_,f_,f_,f_,f_,f_,f_,f_,f_,f_,f_,f_,f_,f_,f_,f_] rfl rfl (one_of HT_.out (by kernel_rfl)) (by decide) (fun K hK => ?_)
         refine goes_ Try.func16 (by kernel_rfl) rfl #[.agg #[.int .i64 t926, .int .i64 t927], .agg #[.int .i64 t928, .int .i64 t929]] (by rfl) rfl rfl (by (try simp only [mp_]); first | done | rfl | (simp only [List.length_drop, List.length_take]; rfl)) ?_
         with_reducible refine (impl_Before.calls t926 t927 t928 t929 false _ A34.out).mono ?_
         rintro e w150 ⟨rfl, hb⟩
         refine ⟨_, rfl, ?_⟩
         have n0_ := Aside0.mk (Kd.R_below (rp_ HO895.out) hb)
         have n1_ := Aside0.mk (Kd.R_below (rp_ HO901.out) hb)
         have n2_ := Aside0.mk (Kd.R_below (rp_ HO904.out) hb)
         have n3_ := Aside0.mk (Kd.R_below (rp_ HO911.out) hb)
         have n4_ := Aside0.mk (Kd.R_below (rp_ HO919.out) hb)
         have n5_ := Aside0.mk (Kd.R_below (rp_ HO922.out) hb)
         have n6_ := Aside0.mk (Kd.R_below (rp_ HO925.out) hb)
         have n7_ := Aside0.mk (Kd.R_below (rp_ HO934.out) hb)
         have n8_ := Aside0.mk (Kd.R_below (rp_ HO937.out) hb)
         have n9_ := Aside0.mk (Kd.R_below (rp_ HO942.out) hb)
         have n10_ := Aside0.mk (Kd.R_below (rp_ HO945.out) hb)
         have n11_ := Aside0.mk (Kd.R_below (rp_ HO951.out) hb)
         have n12_ := Aside0.mk (Kd.R_below (rp_ HO954.out) hb)
         have n13_ := Aside0.mk (bb_ BK898.out hb)
         have n14_ := Aside0.mk (bb_ BK908.out hb)
         have n15_ := Aside0.mk (bb_ BK915.out hb)
         have n16_ := Aside0.mk (bb_ BK930.out hb)
         have n17_ := Aside0.mk (bb_ BK931.out hb)
         have n18_ := Aside0.mk (below_step (by repeat (first | (with_reducible first | exact HB.out | apply ba_ | apply bn_ | apply bd_ | refine below_set ?_ GE898.out | refine below_set ?_ GE908.out | refine below_set ?_ GE915.out | refine below_set ?_ GE930.out | refine below_set ?_ GE931.out) | exact HB.out)) hb)
         clear HO895 HO901 HO904 HO911 HO919 HO922 HO925 HO934 HO937 HO942 HO945 HO951 HO954 BK898 BK908 BK915 BK930 BK931 HB
         have HO895 := n0_
         have HO901 := n1_
         have HO904 := n2_
         have HO911 := n3_
         have HO919 := n4_
         have HO922 := n5_
         have HO925 := n6_
         have HO934 := n7_
         have HO937 := n8_
         have HO942 := n9_
         have HO945 := n10_
         have HO951 := n11_
         have HO954 := n12_
         have BK898 := n13_
         have BK908 := n14_
         have BK915 := n15_
         have BK930 := n16_
         have BK931 := n17_
         have HB := n18_
         clear n0_ n1_ n2_ n3_ n4_ n5_ n6_ n7_ n8_ n9_ n10_ n11_ n12_ n13_ n14_ n15_ n16_ n17_ n18_
         (try clear hb)
         (try clear hb2)
         (try clear hk)
         (try clear hi)
         refine hK.out _ _ ⟨bx_ BK898.out 0, bx_ BK898.out 1, bx_ BK908.out 0, bx_ BK908.out 1, bx_ BK915.out 0, bx_ BK915.out 1, bx_ BK930.out 0, bx_ BK930.out 1, bx_ BK931.out 0, bx_ BK931.out 1⟩ (fun hHeld => ?_)
         clear hK K
         refine norm_ (a' := ?_) ?_ ?_
         rotate_left
         ·
          show Act.put _ (some 110) _ = _
          simp only [fr_]
          rfl
         refine pu_ 58 111 ?_ (b_ 59 17) rfl rfl HT_.out ?_ ?_ ?_ ?_; rotate_left; intro w'; go_simp; with_reducible rfl; rotate_left; simp only [fr_]; rfl
         refine pv_ 59 112 ?_ (b_ 60 16) rfl rfl HT_.out ?_ ?_; rotate_left; simp only [fr_]; rfl
         refine pv_ 60 113 ?_ (b_ 61 15) rfl rfl HT_.out ?_ ?_; rotate_left; simp only [fr_]; rfl
         refine pv_ 61 114 ?_ (b_ 62 14) rfl rfl HT_.out ?_ ?_; rotate_left; simp only [fr_]; rfl
         refine pu_ 62 115 ?_ (b_ 63 13) rfl rfl HT_.out ?_ ?_ ?_ ?_; rotate_left; intro w'; go_simp; with_reducible rfl; rotate_left; simp only [fr_]; rfl
         refine pu_ 63 116 ?_ (b_ 64 12) rfl rfl HT_.out ?_ ?_ ?_ ?_; rotate_left; intro w'; go_simp; with_reducible rfl; rotate_left; simp only [fr_]; rfl
         refine pu_ 64 117 ?_ (b_ 65 11) rfl rfl HT_.out ?_ ?_ ?_ ?_; rotate_left; intro w'; go_simp; with_reducible rfl; rotate_left; simp only [fr_]; rfl
         refine pu_ 65 118 ?_ (b_ 66 10) rfl rfl HT_.out ?_ ?_ ?_ ?_; rotate_left; intro w'; go_simp; with_reducible rfl; rotate_left; simp only [fr_]; rfl
         refine pu_ 66 119 ?_ (b_ 67 9) rfl rfl HT_.out ?_ ?_ ?_ ?_; rotate_left; intro w'; go_simp; with_reducible rfl; rotate_left; simp only [fr_]; rfl
         refine pu_ 70 123 ?_ #[t_,t_,t_,t_,t_,t_,t_,t_,t_,t_,t_,t_,t_,t_,t_,t_,t_,t_,t_,t_,t_,t_,t_,t_,t_,t_,t_,t_,t_,t_,t_,t_,t_,t_,t_,t_,t_,t_,t_,t_,t_,t_,t_,t_,t_,t_,t_,t_,t_,t_,t_,t_,t_,t_,t_,t_,t_,t_,t_,t_,t_,t_,t_,t_,t_,t_,t_,f_,f_,f_,t_,f_,f_,f_,f_,f_] rfl rfl HT_.out ?_ ?_ ?_ ?_; rotate_left; intro w'; go_simp; with_reducible rfl; rotate_left; simp only [fr_]; rfl
         refine pu_ 71 124 ?_ #[t_,t_,t_,t_,t_,t_,t_,t_,t_,t_,t_,t_,t_,t_,t_,t_,t_,t_,t_,t_,t_,t_,t_,t_,t_,t_,t_,t_,t_,t_,t_,t_,t_,t_,t_,t_,t_,t_,t_,t_,t_,t_,t_,t_,t_,t_,t_,t_,t_,t_,t_,t_,t_,t_,t_,t_,t_,t_,t_,t_,t_,t_,t_,t_,t_,t_,t_,f_,f_,f_,t_,t_,f_,f_,f_,f_] rfl rfl HT_.out ?_ ?_ ?_ ?_; rotate_left; intro w'; go_simp; with_reducible rfl; rotate_left; simp only [fr_]; rfl
         refine pu_ 72 125 ?_ #[t_,t_,t_,t_,t_,t_,t_,t_,t_,t_,t_,t_,t_,t_,t_,t_,t_,t_,t_,t_,t_,t_,t_,t_,t_,t_,t_,t_,t_,t_,t_,t_,t_,t_,t_,t_,t_,t_,t_,t_,t_,t_,t_,t_,t_,t_,t_,t_,t_,t_,t_,t_,t_,t_,t_,t_,t_,t_,t_,t_,t_,t_,t_,t_,t_,t_,t_,f_,f_,f_,t_,t_,t_,f_,f_,f_] rfl rfl HT_.out ?_ ?_ ?_ ?_; rotate_left; intro w'; go_simp; with_reducible rfl; rotate_left; simp only [fr_]; rfl
         refine take_ (i := 67) (N := some 120) (v := ?_) (a' := ?_) #[t_,t_,t_,t_,t_,t_,t_,t_,t_,t_,t_,t_,t_,t_,t_,t_,t_,t_,t_,t_,t_,t_,t_,t_,t_,t_,t_,t_,t_,t_,t_,t_,t_,t_,t_,t_,t_,t_,t_,t_,t_,t_,t_,t_,t_,t_,t_,t_,t_,t_,t_,t_,t_,t_,t_,t_,t_,t_,t_,t_,t_,t_,t_,t_,t_,t_,t_,t_,f_,f_,t_,t_,t_,f_,f_,f_] rfl rfl (take_ofW HT_.out HW_.out (by kernel_rfl)) (fun _ _ _ h => h) (Or.inl ⟨by rfl, ?_⟩) hHeld ?_ ?_
         rotate_left
         ·
          rintro w' ⟨s0, s1, s2, s3, s4, s5, s6, s7, s8, s9⟩
          go_simp
          with_reducible rfl
         rotate_left
         ·
          simp only [fr_]
          rfl
         refine one_ (i := 68) (N := some 121) #[t_,t_,t_,t_,t_,t_,t_,t_,t_,t_,t_,t_,t_,t_,t_,t_,t_,t_,t_,t_,t_,t_,t_,t_,t_,t_,t_,t_,t_,t_,t_,t_,t_,t_,t_,t_,t_,t_,t_,t_,t_,t_,t_,t_,t_,t_,t_,t_,t_,t_,t_,t_,t_,t_,t_,t_,t_,t_,t_,t_,t_,t_,t_,t_,t_,t_,t_,t_,t_,f_,t_,t_,t_,f_,f_,f_] rfl rfl (one_of HT_.out (by kernel_rfl)) (by decide) (fun K hK => ?_)
         refine goes_ Try.func23 (by kernel_rfl) rfl #[.slice Ao128 t893.length co128, .agg #[.int .i64 t896, .int .i64 t897]] (by rfl) rfl rfl (by (try simp only [mp_]); first | done | rfl | (simp only [List.length_drop, List.length_take]; rfl)) ?_
         with_reducible refine (impl_HeapPut.calls k _ _ t893 t896 t897 t963 _ ?side1 ?side2 A96.out).mono ?_
         (case side1 => repeat (first | exact (Kd.R_reads' HO895.out).2.2 | (with_reducible first | refine ca_ ?_ _ | refine cn_ ?_ _ | refine cd_ ?_)))
         (case side2 => exact (Kd.R_reads' HO895.out).2.1)
         rintro e w151 ⟨v964, rfl, ho0, hb⟩
         refine ⟨_, rfl, ?_⟩
         have n0_ := Aside0.mk (Kd.R_elder' (rp_ HO895.out) (Kd.R_base ho0) hb)
         have n1_ := Aside0.mk (Kd.R_elder' (rp_ HO901.out) (Kd.R_base ho0) hb)
         have n2_ := Aside0.mk (Kd.R_elder' (rp_ HO904.out) (Kd.R_base ho0) hb)
         have n3_ := Aside0.mk (Kd.R_elder' (rp_ HO911.out) (Kd.R_base ho0) hb)
         have n4_ := Aside0.mk (Kd.R_elder' (rp_ HO919.out) (Kd.R_base ho0) hb)
         have n5_ := Aside0.mk (Kd.R_elder' (rp_ HO922.out) (Kd.R_base ho0) hb)
         have n6_ := Aside0.mk (Kd.R_elder' (rp_ HO925.out) (Kd.R_base ho0) hb)
         have n7_ := Aside0.mk (Kd.R_elder' (rp_ HO934.out) (Kd.R_base ho0) hb)
         have n8_ := Aside0.mk (Kd.R_elder' (rp_ HO937.out) (Kd.R_base ho0) hb)
         have n9_ := Aside0.mk (Kd.R_elder' (rp_ HO942.out) (Kd.R_base ho0) hb)
         have n10_ := Aside0.mk (Kd.R_elder' (rp_ HO945.out) (Kd.R_base ho0) hb)
         have n11_ := Aside0.mk (Kd.R_elder' (rp_ HO951.out) (Kd.R_base ho0) hb)
         have n12_ := Aside0.mk (Kd.R_elder' (rp_ HO954.out) (Kd.R_base ho0) hb)
         have n13_ := Aside0.mk (Kd.R_lower (Kd.R_newB (Kd.R_newB (Kd.R_newB (Kd.R_newB (Kd.R_newB (Kd.R_new' (Kd.R_new' (Kd.R_new' (Kd.R_new' (Kd.R_new' (Kd.R_new' (Kd.R_new' (Kd.R_new' (Kd.R_new' (Kd.R_new' (Kd.R_new' (Kd.R_new' (Kd.R_new' ho0 (Kd.R_lt (rp_ HO895.out))) (Kd.R_lt (rp_ HO901.out))) (Kd.R_lt (rp_ HO904.out))) (Kd.R_lt (rp_ HO911.out))) (Kd.R_lt (rp_ HO919.out))) (Kd.R_lt (rp_ HO922.out))) (Kd.R_lt (rp_ HO925.out))) (Kd.R_lt (rp_ HO934.out))) (Kd.R_lt (rp_ HO937.out))) (Kd.R_lt (rp_ HO942.out))) (Kd.R_lt (rp_ HO945.out))) (Kd.R_lt (rp_ HO951.out))) (Kd.R_lt (rp_ HO954.out))) (g := gb898) (o := .cells #[.int .i64 t896, .int .i64 t897] 25 (0, 0)) (pb_ BK898.out)) (g := gb908) (o := .cells #[.int .i64 t905, .int .i64 t906] 25 (0, 0)) (pb_ BK908.out)) (g := gb915) (o := .cells #[.int .i64 t912, .int .i64 t913] 25 (0, 0)) (pb_ BK915.out)) (g := gb930) (o := .cells #[.int .i64 t926, .int .i64 t927] 25 (0, 0)) (pb_ BK930.out)) (g := gb931) (o := .cells #[.int .i64 t928, .int .i64 t929] 25 (0, 0)) (pb_ BK931.out)) (below_size (by repeat (first | (with_reducible first | exact HB.out | apply ba_ | apply bn_ | apply bd_ | refine below_set ?_ GE898.out | refine below_set ?_ GE908.out | refine below_set ?_ GE915.out | refine below_set ?_ GE930.out | refine below_set ?_ GE931.out) | exact HB.out))))
         have n14_ := Aside0.mk (bb_ BK898.out hb)
         have n15_ := Aside0.mk (bb_ BK908.out hb)
         have n16_ := Aside0.mk (bb_ BK915.out hb)
         have n17_ := Aside0.mk (bb_ BK930.out hb)
         have n18_ := Aside0.mk (bb_ BK931.out hb)
         have n19_ := Aside0.mk (below_step (by repeat (first | (with_reducible first | exact HB.out | apply ba_ | apply bn_ | apply bd_ | refine below_set ?_ GE898.out | refine below_set ?_ GE908.out | refine below_set ?_ GE915.out | refine below_set ?_ GE930.out | refine below_set ?_ GE931.out) | exact HB.out)) hb)
         clear HO895 HO901 HO904 HO911 HO919 HO922 HO925 HO934 HO937 HO942 HO945 HO951 HO954 BK898 BK908 BK915 BK930 BK931 HB
         have HO895 := n0_
         have HO901 := n1_
         have HO904 := n2_
         have HO911 := n3_
         have HO919 := n4_
         have HO922 := n5_
         have HO925 := n6_
         have HO934 := n7_
         have HO937 := n8_
         have HO942 := n9_
         have HO945 := n10_
         have HO951 := n11_
         have HO954 := n12_
         have HO965 := n13_
         have BK898 := n14_
         have BK908 := n15_
         have BK915 := n16_
         have BK930 := n17_
         have BK931 := n18_
         have HB := n19_
         clear n0_ n1_ n2_ n3_ n4_ n5_ n6_ n7_ n8_ n9_ n10_ n11_ n12_ n13_ n14_ n15_ n16_ n17_ n18_ n19_
         (try clear hb)
         (try clear hb2)
         (try clear hk)
         (try clear hi)
         (try clear ho0)
         obtain ⟨Ao152, co152, eo152⟩ := Kd.R_slice HO965.out
         (first | subst eo152 | (injection eo152 with f1_ f2_ f3_; have f4_ := f1_.symm; have f5_ := f3_.symm; clear f1_ f2_ f3_; subst f4_; subst f5_))
         refine hK.out _ _ ⟨bx_ BK898.out 0, bx_ BK898.out 1, bx_ BK908.out 0, bx_ BK908.out 1, bx_ BK915.out 0, bx_ BK915.out 1, bx_ BK930.out 0, bx_ BK930.out 1, bx_ BK931.out 0, bx_ BK931.out 1⟩ (fun hHeld => ?_)
         clear hK K
         refine norm_ (a' := ?_) ?_ ?_
         rotate_left
         ·
          show Act.put _ (some 121) _ = _
          simp only [fr_]
          rfl
         refine pu_ 69 122 ?_ (b_ 73 3) rfl rfl HT_.out ?_ ?_ ?_ ?_; rotate_left; intro w'; go_simp; with_reducible rfl; rotate_left; simp only [fr_]; rfl
         refine pu_ 73 126 ?_ (b_ 74 2) rfl rfl HT_.out ?_ ?_ ?_ ?_; rotate_left; intro w'; go_simp; with_reducible rfl; rotate_left; simp only [fr_]; rfl
         refine pu_ 74 127 ?_ (b_ 75 1) rfl rfl HT_.out ?_ ?_ ?_ ?_; rotate_left; intro w'; go_simp; with_reducible rfl; rotate_left; simp only [fr_]; rfl
         refine pu_ 75 2 ?_ (b_ 76 0) rfl rfl HT_.out ?_ ?_ ?_ ?_; rotate_left; intro w'; go_simp; with_reducible rfl; rotate_left; simp only [fr_]; rfl
         refine done_ (done_of HT_.out (by kernel_rfl)) ?_
         try go_wp2
         go_ret
         exact ⟨by first | rfl | (simp [errW_none, errW_some] <;> rfl) | (simp [*, errW_none, errW_some] <;> rfl), by repeat (first | (with_reducible first | exact HB.out | apply ba_ | apply bn_ | apply bd_ | refine below_set ?_ GE898.out | refine below_set ?_ GE908.out | refine below_set ?_ GE915.out | refine below_set ?_ GE930.out | refine below_set ?_ GE931.out) | exact HB.out)⟩
        rw [if_neg c33] at H
        have c33b0 : (t956 == t957) = false := by simpa using c33
        (try (have c33b1 : decide (t956 = t957) = false := by simpa using c33))
        (try (have c33b2 : (t956 == t957) = false := by simpa using c33))
        (try (have c33b3 : ¬ (t956 = t957) := by simpa using c33))
        clear c33
        exact absurd H (by simp)
       replace c30 := Bool.eq_false_iff.mpr c30
       subst c30
       rw [if_neg (show ¬ (false = true) by decide)] at H
       exact absurd H (by simp)
      rw [if_neg c26] at H
      have c26b0 : (t947 == t948) = false := by simpa using c26
      (try (have c26b1 : decide (t947 = t948) = false := by simpa using c26))
      (try (have c26b2 : (t947 == t948) = false := by simpa using c26))
      (try (have c26b3 : ¬ (t947 = t948) := by simpa using c26))
      clear c26
      exact absurd H (by simp)
     replace c23 := Bool.eq_false_iff.mpr c23
     subst c23
     rw [if_neg (show ¬ (false = true) by decide)] at H
     exact absurd H (by simp)
    rw [if_neg c19] at H
    have c19b0 : (t907 == t914) = false := by simpa using c19
    (try (have c19b1 : decide (t907 = t914) = false := by simpa using c19))
    (try (have c19b2 : (t907 == t914) = false := by simpa using c19))
    (try (have c19b3 : ¬ (t907 = t914) := by simpa using c19))
    clear c19
    exact absurd H (by simp)
   rw [if_neg c18] at H
   have c18b0 : (t905 == t912 && (t906 == t913)) = false := by simpa using c18
   (try (have c18b1 : decide (t905 = t912 && (t906 == t913)) = false := by simpa using c18))
   (try (have c18b2 : (t905 == t912 && (t906 == t913)) = false := by simpa using c18))
   (try (have c18b3 : ¬ (t905 = t912 && (t906 == t913)) := by simpa using c18))
   clear c18
   exact absurd H (by simp)
  replace c17 := Bool.eq_false_iff.mpr c17
  subst c17
  rw [if_neg (show ¬ (false = true) by decide)] at H
  exact absurd H (by simp)
 replace c15 := Bool.eq_false_iff.mpr c15
 subst c15
 rw [if_neg (show ¬ (false = true) by decide)] at H
 exact absurd H (by simp)

/-- THE ONE PURE STATEMENT of laws_FnHeapsBent: yours. -/
def laws_FnHeapsBent.Pure : Prop := ∀ (l0 : List Int), l0.length ≤ maxLen → l0.length * 1 ≤ 140737488351232 → (∀ x ∈ l0, (Lit.int .u8 x).wf = true) → ∃ k, laws_FnHeapsBent.f k l0 = some true
theorem laws_FnHeapsBent.walk (P : laws_FnHeapsBent.Pure) (a0 : Option Addr) (len0 cap0 : Nat) (z0 : List Int) (w : World) (w0 : (a0 = none ∧ len0 = 0 ∧ cap0 = 0 ∧ z0 = []) ∨ ∃ x, a0 = some x ∧ len0 ≤ cap0 ∧ cap0 ≤ maxLen ∧ z0.length = cap0 ∧ (∀ i, i < z0.length → w.cell? (x.add i) = some (.int .u8 (z0.getD i 0))) ∧ ∀ n ∈ z0, (Lit.int .u8 n).wf = true) (y0 : len0 * 1 ≤ 140737488351232) :
  Calls Try.prog 13 #[.slice a0 len0 cap0] w fun e w' => e = .returned (.bool true) ∧ Below w.heap.size w w' := by
 obtain ⟨l0, rfl, hr0, hm0, hw0, hc0⟩ := ReadsInt.ofRowC w0
 obtain ⟨k, h⟩ := P l0 hm0 y0 hw0
 refine (laws_FnHeapsBent.calls k _ _ l0 true w (Kd.C_of_reads (d := (0 : Int)) (h1 := fun _ => rfl) hr0) hc0 h).mono ?_
 rintro e w' ⟨rfl, hd⟩
 exact ⟨rfl, hd⟩
end Go.Proofs.Ytkjakmbmnbjpbaa.Print
end
