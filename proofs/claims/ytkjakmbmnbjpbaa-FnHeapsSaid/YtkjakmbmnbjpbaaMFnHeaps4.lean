import Derived.Test.YtkjakmbmnbjpbaaMFnHeaps1
import Derived.Test.YtkjakmbmnbjpbaaMFnHeaps2
import Derived.Test.YtkjakmbmnbjpbaaMFnHeaps3
section
namespace Go.Proofs.Ytkjakmbmnbjpbaa.Print
open Go.RowKit Go.Proofs.YtkjakmbmnbjpbaaV.PrintWords Go.Proofs.YtkjakmbmnbjpbaaV.PrintLast Go.Proofs.YtkjakmbmnbjpbaaV.PrintMore
attribute [local go_sem] max2_int min2_int max_two min_two max_three min_three max_four min_four
set_option linter.unusedVariables false
set_option linter.unusedSimpArgs false

attribute [local go_sem high] eqA25
set_option maxHeartbeats 8000000
set_option maxRecDepth 100000
mutual
def laws_FnHeaps.j0 : Nat → List (S25) → List (S25) → List (S25) → List (S25) → Bool → Int → Int → Option (Bool)
 | 0, _, _, _, _, _, _, _ => none
 | k + 1, x5, x6, x7, x10, x80, x553000, x553001 => if x80 = true then (none) else (laws_FnHeaps.l0 k x5 x6 x7 x10 0 0 x553000 x553001)
def laws_FnHeaps.l0 : Nat → List (S25) → List (S25) → List (S25) → List (S25) → Int → Int → Int → Int → Option (Bool)
 | 0, _, _, _, _, _, _, _, _ => none
 | k + 1, x5, x6, x7, x10, x11, x12, x553000, x553001 => if x12 < (x6.length : Int) then (if x12 > 0 then (if 0 ≤ x12 then (if 0 ≤ (wrap64 (x12 - 1)) then (if (wrap64 (x12 - 1)) < (x6.length : Int) then ((impl_Before.f ((rd_T25 x6 x12).f0) ((rd_T25 x6 x12).f1) ((rd_T25 x6 (wrap64 (x12 - 1))).f0) ((rd_T25 x6 (wrap64 (x12 - 1))).f1)).bind fun t584 => (laws_FnHeaps.j2 k x5 x6 x7 x10 x11 x12 t584 x553000 x553001)) else (none)) else (none)) else (none)) else (laws_FnHeaps.j2 k x5 x6 x7 x10 x11 x12 false x553000 x553001)) else (if (x10.length : Int) = (wrap64 ((x5.length : Int) - x11)) then ((impl_Sorted.f k x7).bind fun t574 => (if 1 ≤ (x6.length : Int) then ((laws_sameHeap.f k t574 (x6.drop 1)).bind fun t581 => (some t581)) else (none))) else (none))
def laws_FnHeaps.j2 : Nat → List (S25) → List (S25) → List (S25) → List (S25) → Int → Int → Bool → Int → Int → Option (Bool)
 | 0, _, _, _, _, _, _, _, _, _ => none
 | k + 1, x5, x6, x7, x10, x11, x12, x100, x553000, x553001 => if x100 = true then (none) else (if 0 ≤ x12 then (if x12 < (x6.length : Int) then (if ((rd_T25 x6 x12).f1) = x553001 then (laws_FnHeaps.j3 k x5 x6 x7 x10 (wrap64 (x11 + 1)) x12 x553000 x553001) else (laws_FnHeaps.j3 k x5 x6 x7 x10 x11 x12 x553000 x553001)) else (none)) else (none))
def laws_FnHeaps.j3 : Nat → List (S25) → List (S25) → List (S25) → List (S25) → Int → Int → Int → Int → Option (Bool)
 | 0, _, _, _, _, _, _, _, _ => none
 | k + 1, x5, x6, x7, x10, x11, x12, x553000, x553001 => laws_FnHeaps.l1 k x5 x6 x7 x10 x11 x12 0 0 x553000 x553001
def laws_FnHeaps.l1 : Nat → List (S25) → List (S25) → List (S25) → List (S25) → Int → Int → Int → Int → Int → Int → Option (Bool)
 | 0, _, _, _, _, _, _, _, _, _, _ => none
 | k + 1, x5, x6, x7, x10, x11, x12, x13, x14, x553000, x553001 => if x14 < (x6.length : Int) then (if 0 ≤ x14 then (if 0 ≤ x12 then (if x12 < (x6.length : Int) then (if (((rd_T25 x6 x14).f0) == ((rd_T25 x6 x12).f0) && (((rd_T25 x6 x14).f1) == ((rd_T25 x6 x12).f1))) = true then (if x14 < (x5.length : Int) then (if (((rd_T25 x5 x14).f0) == ((rd_T25 x6 x12).f0) && (((rd_T25 x5 x14).f1) == ((rd_T25 x6 x12).f1))) = true then (laws_FnHeaps.l1 k x5 x6 x7 x10 x11 x12 (wrap64 ((wrap64 (x13 + 1)) - 1)) (wrap64 (x14 + 1)) x553000 x553001) else (laws_FnHeaps.l1 k x5 x6 x7 x10 x11 x12 (wrap64 (x13 + 1)) (wrap64 (x14 + 1)) x553000 x553001)) else (none)) else (if x14 < (x5.length : Int) then (if (((rd_T25 x5 x14).f0) == ((rd_T25 x6 x12).f0) && (((rd_T25 x5 x14).f1) == ((rd_T25 x6 x12).f1))) = true then (laws_FnHeaps.l1 k x5 x6 x7 x10 x11 x12 (wrap64 (x13 - 1)) (wrap64 (x14 + 1)) x553000 x553001) else (laws_FnHeaps.l1 k x5 x6 x7 x10 x11 x12 x13 (wrap64 (x14 + 1)) x553000 x553001)) else (none))) else (none)) else (none)) else (none)) else (if x13 = 0 then (laws_FnHeaps.l0 k x5 x6 x7 x10 x11 (wrap64 (x12 + 1)) x553000 x553001) else (none))
end
def laws_FnHeaps.f (k : Nat) (l0 : List Int) : Option (Bool) := (laws_big.f l0).bind fun t546 => (if t546 = true then (some true) else ((spec_DrawHeap.f k l0).bind fun bt547 => ((impl_HeapPut.f k bt547.1 bt547.2.1 bt547.2.2).bind fun t553 => ((impl_Sorted.f k t553).bind fun t556 => ((impl_HeapTake.f k t553).bind fun bt559 => ((impl_HeapDrop.f k t553 bt547.2.2).bind fun t566 => ((impl_HeapOk.f k bt547.1).bind fun t569 => (if t569 = true then ((impl_HeapOk.f k t553).bind fun t570 => (if t570 = true then ((impl_HeapOk.f k bt559.1).bind fun t571 => (if t571 = true then ((impl_HeapOk.f k t566).bind fun t572 => (if t572 = true then (if bt559.2.2.2 = true then (if (t556.length : Int) = (wrap64 ((bt547.1.length : Int) + 1)) then (if (bt559.1.length : Int) = (bt547.1.length : Int) then (if 0 < (t556.length : Int) then (laws_FnHeaps.j0 k t553 t556 bt559.1 t566 (!(bt559.2.1 == ((rd_T25 t556 0).f0)) || (!(bt559.2.2.1 == ((rd_T25 t556 0).f1)))) bt547.2.1 bt547.2.2) else (none)) else (laws_FnHeaps.j0 k t553 t556 bt559.1 t566 true bt547.2.1 bt547.2.2)) else (laws_FnHeaps.j0 k t553 t556 bt559.1 t566 true bt547.2.1 bt547.2.2)) else (laws_FnHeaps.j0 k t553 t556 bt559.1 t566 true bt547.2.1 bt547.2.2)) else (laws_FnHeaps.j0 k t553 t556 bt559.1 t566 true bt547.2.1 bt547.2.2))) else (laws_FnHeaps.j0 k t553 t556 bt559.1 t566 true bt547.2.1 bt547.2.2))) else (laws_FnHeaps.j0 k t553 t556 bt559.1 t566 true bt547.2.1 bt547.2.2))) else (laws_FnHeaps.j0 k t553 t556 bt559.1 t566 true bt547.2.1 bt547.2.2)))))))))
theorem laws_FnHeaps.mono_l : ∀ k, (∀ y0 y1 y2 y3 y4 y5 y6, LeO (laws_FnHeaps.j0 k y0 y1 y2 y3 y4 y5 y6) (laws_FnHeaps.j0 (k + 1) y0 y1 y2 y3 y4 y5 y6)) ∧ (∀ y0 y1 y2 y3 y4 y5 y6 y7, LeO (laws_FnHeaps.l0 k y0 y1 y2 y3 y4 y5 y6 y7) (laws_FnHeaps.l0 (k + 1) y0 y1 y2 y3 y4 y5 y6 y7)) ∧ (∀ y0 y1 y2 y3 y4 y5 y6 y7 y8, LeO (laws_FnHeaps.j2 k y0 y1 y2 y3 y4 y5 y6 y7 y8) (laws_FnHeaps.j2 (k + 1) y0 y1 y2 y3 y4 y5 y6 y7 y8)) ∧ (∀ y0 y1 y2 y3 y4 y5 y6 y7, LeO (laws_FnHeaps.j3 k y0 y1 y2 y3 y4 y5 y6 y7) (laws_FnHeaps.j3 (k + 1) y0 y1 y2 y3 y4 y5 y6 y7)) ∧ (∀ y0 y1 y2 y3 y4 y5 y6 y7 y8 y9, LeO (laws_FnHeaps.l1 k y0 y1 y2 y3 y4 y5 y6 y7 y8 y9) (laws_FnHeaps.l1 (k + 1) y0 y1 y2 y3 y4 y5 y6 y7 y8 y9))
 | 0 => ⟨fun _ _ _ _ _ _ _ r h => by simp [laws_FnHeaps.j0] at h, fun _ _ _ _ _ _ _ _ r h => by simp [laws_FnHeaps.l0] at h, fun _ _ _ _ _ _ _ _ _ r h => by simp [laws_FnHeaps.j2] at h, fun _ _ _ _ _ _ _ _ r h => by simp [laws_FnHeaps.j3] at h, fun _ _ _ _ _ _ _ _ _ _ r h => by simp [laws_FnHeaps.l1] at h⟩
 | k + 1 => by
  obtain ⟨ih0, ih1, ih2, ih3, ih4⟩ := laws_FnHeaps.mono_l k
  refine ⟨?_, ?_, ?_, ?_, ?_⟩
  ·
   intro y0 y1 y2 y3 y4 y5 y6
   unfold laws_FnHeaps.j0
   repeat' first
   | (with_reducible exact ih0 _ _ _ _ _ _ _)
   | (with_reducible exact ih1 _ _ _ _ _ _ _ _)
   | (with_reducible exact ih2 _ _ _ _ _ _ _ _ _)
   | (with_reducible exact ih3 _ _ _ _ _ _ _ _)
   | (with_reducible exact ih4 _ _ _ _ _ _ _ _ _ _)
   | (with_reducible exact impl_HeapDrop.mono _ _ _)
   | (with_reducible exact impl_HeapOk.mono _ _)
   | (with_reducible exact impl_HeapPut.mono _ _ _ _)
   | (with_reducible exact impl_HeapTake.mono _ _)
   | (with_reducible exact impl_Sorted.mono _ _)
   | (with_reducible exact laws_sameHeap.mono _ _ _)
   | (with_reducible exact spec_DrawHeap.mono _ _)
   | (with_reducible exact LeO.refl _)
   | (with_reducible exact LeO.none _)
   | (with_reducible refine LeO.ite ?_ ?_)
   | (with_reducible refine LeO.bind ?_ (fun _ => ?_))
   | exact ih0 _ _ _ _ _ _ _
   | exact ih1 _ _ _ _ _ _ _ _
   | exact ih2 _ _ _ _ _ _ _ _ _
   | exact ih3 _ _ _ _ _ _ _ _
   | exact ih4 _ _ _ _ _ _ _ _ _ _
   | exact impl_HeapDrop.mono _ _ _
   | exact impl_HeapOk.mono _ _
   | exact impl_HeapPut.mono _ _ _ _
   | exact impl_HeapTake.mono _ _
   | exact impl_Sorted.mono _ _
   | exact laws_sameHeap.mono _ _ _
   | exact spec_DrawHeap.mono _ _
  ·
   intro y0 y1 y2 y3 y4 y5 y6 y7
   unfold laws_FnHeaps.l0
   repeat' first
   | (with_reducible exact ih0 _ _ _ _ _ _ _)
   | (with_reducible exact ih1 _ _ _ _ _ _ _ _)
   | (with_reducible exact ih2 _ _ _ _ _ _ _ _ _)
   | (with_reducible exact ih3 _ _ _ _ _ _ _ _)
   | (with_reducible exact ih4 _ _ _ _ _ _ _ _ _ _)
   | (with_reducible exact impl_HeapDrop.mono _ _ _)
   | (with_reducible exact impl_HeapOk.mono _ _)
   | (with_reducible exact impl_HeapPut.mono _ _ _ _)
   | (with_reducible exact impl_HeapTake.mono _ _)
   | (with_reducible exact impl_Sorted.mono _ _)
   | (with_reducible exact laws_sameHeap.mono _ _ _)
   | (with_reducible exact spec_DrawHeap.mono _ _)
   | (with_reducible exact LeO.refl _)
   | (with_reducible exact LeO.none _)
   | (with_reducible refine LeO.ite ?_ ?_)
   | (with_reducible refine LeO.bind ?_ (fun _ => ?_))
   | exact ih0 _ _ _ _ _ _ _
   | exact ih1 _ _ _ _ _ _ _ _
   | exact ih2 _ _ _ _ _ _ _ _ _
   | exact ih3 _ _ _ _ _ _ _ _
   | exact ih4 _ _ _ _ _ _ _ _ _ _
   | exact impl_HeapDrop.mono _ _ _
   | exact impl_HeapOk.mono _ _
   | exact impl_HeapPut.mono _ _ _ _
   | exact impl_HeapTake.mono _ _
   | exact impl_Sorted.mono _ _
   | exact laws_sameHeap.mono _ _ _
   | exact spec_DrawHeap.mono _ _
  ·
   intro y0 y1 y2 y3 y4 y5 y6 y7 y8
   unfold laws_FnHeaps.j2
   repeat' first
   | (with_reducible exact ih0 _ _ _ _ _ _ _)
   | (with_reducible exact ih1 _ _ _ _ _ _ _ _)
   | (with_reducible exact ih2 _ _ _ _ _ _ _ _ _)
   | (with_reducible exact ih3 _ _ _ _ _ _ _ _)
   | (with_reducible exact ih4 _ _ _ _ _ _ _ _ _ _)
   | (with_reducible exact impl_HeapDrop.mono _ _ _)
   | (with_reducible exact impl_HeapOk.mono _ _)
   | (with_reducible exact impl_HeapPut.mono _ _ _ _)
   | (with_reducible exact impl_HeapTake.mono _ _)
   | (with_reducible exact impl_Sorted.mono _ _)
   | (with_reducible exact laws_sameHeap.mono _ _ _)
   | (with_reducible exact spec_DrawHeap.mono _ _)
   | (with_reducible exact LeO.refl _)
   | (with_reducible exact LeO.none _)
   | (with_reducible refine LeO.ite ?_ ?_)
   | (with_reducible refine LeO.bind ?_ (fun _ => ?_))
   | exact ih0 _ _ _ _ _ _ _
   | exact ih1 _ _ _ _ _ _ _ _
   | exact ih2 _ _ _ _ _ _ _ _ _
   | exact ih3 _ _ _ _ _ _ _ _
   | exact ih4 _ _ _ _ _ _ _ _ _ _
   | exact impl_HeapDrop.mono _ _ _
   | exact impl_HeapOk.mono _ _
   | exact impl_HeapPut.mono _ _ _ _
   | exact impl_HeapTake.mono _ _
   | exact impl_Sorted.mono _ _
   | exact laws_sameHeap.mono _ _ _
   | exact spec_DrawHeap.mono _ _
  ·
   intro y0 y1 y2 y3 y4 y5 y6 y7
   unfold laws_FnHeaps.j3
   repeat' first
   | (with_reducible exact ih0 _ _ _ _ _ _ _)
   | (with_reducible exact ih1 _ _ _ _ _ _ _ _)
   | (with_reducible exact ih2 _ _ _ _ _ _ _ _ _)
   | (with_reducible exact ih3 _ _ _ _ _ _ _ _)
   | (with_reducible exact ih4 _ _ _ _ _ _ _ _ _ _)
   | (with_reducible exact impl_HeapDrop.mono _ _ _)
   | (with_reducible exact impl_HeapOk.mono _ _)
   | (with_reducible exact impl_HeapPut.mono _ _ _ _)
   | (with_reducible exact impl_HeapTake.mono _ _)
   | (with_reducible exact impl_Sorted.mono _ _)
   | (with_reducible exact laws_sameHeap.mono _ _ _)
   | (with_reducible exact spec_DrawHeap.mono _ _)
   | (with_reducible exact LeO.refl _)
   | (with_reducible exact LeO.none _)
   | (with_reducible refine LeO.ite ?_ ?_)
   | (with_reducible refine LeO.bind ?_ (fun _ => ?_))
   | exact ih0 _ _ _ _ _ _ _
   | exact ih1 _ _ _ _ _ _ _ _
   | exact ih2 _ _ _ _ _ _ _ _ _
   | exact ih3 _ _ _ _ _ _ _ _
   | exact ih4 _ _ _ _ _ _ _ _ _ _
   | exact impl_HeapDrop.mono _ _ _
   | exact impl_HeapOk.mono _ _
   | exact impl_HeapPut.mono _ _ _ _
   | exact impl_HeapTake.mono _ _
   | exact impl_Sorted.mono _ _
   | exact laws_sameHeap.mono _ _ _
   | exact spec_DrawHeap.mono _ _
  intro y0 y1 y2 y3 y4 y5 y6 y7 y8 y9
  unfold laws_FnHeaps.l1
  repeat' first
  | (with_reducible exact ih0 _ _ _ _ _ _ _)
  | (with_reducible exact ih1 _ _ _ _ _ _ _ _)
  | (with_reducible exact ih2 _ _ _ _ _ _ _ _ _)
  | (with_reducible exact ih3 _ _ _ _ _ _ _ _)
  | (with_reducible exact ih4 _ _ _ _ _ _ _ _ _ _)
  | (with_reducible exact impl_HeapDrop.mono _ _ _)
  | (with_reducible exact impl_HeapOk.mono _ _)
  | (with_reducible exact impl_HeapPut.mono _ _ _ _)
  | (with_reducible exact impl_HeapTake.mono _ _)
  | (with_reducible exact impl_Sorted.mono _ _)
  | (with_reducible exact laws_sameHeap.mono _ _ _)
  | (with_reducible exact spec_DrawHeap.mono _ _)
  | (with_reducible exact LeO.refl _)
  | (with_reducible exact LeO.none _)
  | (with_reducible refine LeO.ite ?_ ?_)
  | (with_reducible refine LeO.bind ?_ (fun _ => ?_))
  | exact ih0 _ _ _ _ _ _ _
  | exact ih1 _ _ _ _ _ _ _ _
  | exact ih2 _ _ _ _ _ _ _ _ _
  | exact ih3 _ _ _ _ _ _ _ _
  | exact ih4 _ _ _ _ _ _ _ _ _ _
  | exact impl_HeapDrop.mono _ _ _
  | exact impl_HeapOk.mono _ _
  | exact impl_HeapPut.mono _ _ _ _
  | exact impl_HeapTake.mono _ _
  | exact impl_Sorted.mono _ _
  | exact laws_sameHeap.mono _ _ _
  | exact spec_DrawHeap.mono _ _
theorem laws_FnHeaps.mono : ∀ a0 k, LeO (laws_FnHeaps.f k a0) (laws_FnHeaps.f (k + 1) a0) := by
 intro a0 k
 obtain ⟨ih0, ih1, ih2, ih3, ih4⟩ := laws_FnHeaps.mono_l k
 unfold laws_FnHeaps.f
 repeat' first
   | (with_reducible exact ih0 _ _ _ _ _ _ _)
   | (with_reducible exact ih1 _ _ _ _ _ _ _ _)
   | (with_reducible exact ih2 _ _ _ _ _ _ _ _ _)
   | (with_reducible exact ih3 _ _ _ _ _ _ _ _)
   | (with_reducible exact ih4 _ _ _ _ _ _ _ _ _ _)
   | (with_reducible exact impl_HeapDrop.mono _ _ _)
   | (with_reducible exact impl_HeapOk.mono _ _)
   | (with_reducible exact impl_HeapPut.mono _ _ _ _)
   | (with_reducible exact impl_HeapTake.mono _ _)
   | (with_reducible exact impl_Sorted.mono _ _)
   | (with_reducible exact laws_sameHeap.mono _ _ _)
   | (with_reducible exact spec_DrawHeap.mono _ _)
   | (with_reducible exact LeO.refl _)
   | (with_reducible exact LeO.none _)
   | (with_reducible refine LeO.ite ?_ ?_)
   | (with_reducible refine LeO.bind ?_ (fun _ => ?_))
   | exact ih0 _ _ _ _ _ _ _
   | exact ih1 _ _ _ _ _ _ _ _
   | exact ih2 _ _ _ _ _ _ _ _ _
   | exact ih3 _ _ _ _ _ _ _ _
   | exact ih4 _ _ _ _ _ _ _ _ _ _
   | exact impl_HeapDrop.mono _ _ _
   | exact impl_HeapOk.mono _ _
   | exact impl_HeapPut.mono _ _ _ _
   | exact impl_HeapTake.mono _ _
   | exact impl_Sorted.mono _ _
   | exact laws_sameHeap.mono _ _ _
   | exact spec_DrawHeap.mono _ _
def laws_FnHeaps.T8 : Bool × List (List Nat × List Nat) := (true, [([], []), ([0], [0]), ([1], [1]), ([2, 1], [2]), ([3], [3]), ([4, 3, 3], [3, 4]), ([5, 3], [3, 5]), ([3, 6], [3, 6]), ([7, 5], [7]), ([8], [8]), ([9, 8, 8], [8, 9]), ([10, 8], [8, 10]), ([8, 11], [8, 11]), ([12, 10], [12]), ([13], [13]), ([14, 13, 13], [13, 14]), ([15, 13], [13, 15]), ([13, 16], [13, 16]), ([17, 15], [17]), ([18], [18]), ([19, 18], [18, 19]), ([18, 20], [18, 20]), ([21, 18], [21]), ([22], [22]), ([23, 22], [22, 23]), ([22], [22]), ([25, 22], [22, 25]), ([26, 22], [22, 26]), ([24, 27, 22], [22, 24, 27]), ([22, 28], [22, 28]), ([29, 22], [29]), ([30], [30]), ([31, 30], [30, 31]), ([30], [30]), ([33, 30], [30, 33]), ([32, 34, 30], [30, 32, 34]), ([30, 35], [30, 35]), ([36, 30], [36]), ([37], [37]), ([37], [37]), ([39, 37], [37, 39]), ([40, 37], [37, 40]), ([38, 41, 37], [37, 38, 41]), ([37, 42], [37, 42])])
def laws_FnHeaps.B8 : List Nat := [0, 1, 3, 7, 15, 31, 63, 127, 255, 511, 1023, 2047, 4095, 8191, 16383, 32767, 65535, 131071, 262143, 524287, 1048575, 2097151, 4194303, 8388607, 16777215, 8388607, 41943039, 109051903, 268435455, 536870911, 1073741823, 2147483647, 4294967295, 2147483647, 10737418239, 34359738367, 68719476735, 137438953471, 274877906943, 274877906943, 824633720831, 1924145348607, 4398046511103, 8796093022207]
theorem laws_FnHeaps.tab8 : rtab .any (opsOf Try.f9 8) = laws_FnHeaps.T8 := by kernel_rfl
theorem laws_FnHeaps.bits8 : waitsOk laws_FnHeaps.T8.2 laws_FnHeaps.B8 = true := by kernel_rfl
def laws_FnHeaps.T14 : Bool × List (List Nat × List Nat) := (true, [([], []), ([0], [0]), ([1], [1]), ([2], [2]), ([2], [2]), ([3, 4, 2], [2, 3, 4]), ([5, 2], [2, 5]), ([2], [2]), ([2], [2]), ([8, 2], [2, 8]), ([7, 9, 2], [2, 7, 9]), ([10, 2], [2, 10]), ([6, 11, 2, 2], [2, 6, 11]), ([2, 12], [2, 12])])
def laws_FnHeaps.B14 : List Nat := [0, 1, 3, 7, 7, 31, 63, 7, 7, 263, 903, 1927, 4095, 8191]
theorem laws_FnHeaps.tab14 : rtab .any (opsOf Try.f9 14) = laws_FnHeaps.T14 := by kernel_rfl
theorem laws_FnHeaps.bits14 : waitsOk laws_FnHeaps.T14.2 laws_FnHeaps.B14 = true := by kernel_rfl
def laws_FnHeaps.T16 : Bool × List (List Nat × List Nat) := (true, [([], []), ([], []), ([0, 1], [0, 1]), ([2], [2]), ([3], [3]), ([], []), ([5], [5]), ([4, 6], [4, 6])])
def laws_FnHeaps.B16 : List Nat := [0, 0, 3, 7, 15, 0, 32, 127]
theorem laws_FnHeaps.tab16 : rtab .any (opsOf Try.f9 16) = laws_FnHeaps.T16 := by kernel_rfl
theorem laws_FnHeaps.bits16 : waitsOk laws_FnHeaps.T16.2 laws_FnHeaps.B16 = true := by kernel_rfl
def laws_FnHeaps.T22 : Bool × List (List Nat × List Nat) := (true, [([], []), ([], []), ([0, 1], [0, 1]), ([2], [2]), ([], []), ([], []), ([4, 5], [4, 5]), ([6], [6]), ([3, 7], [3, 7])])
def laws_FnHeaps.B22 : List Nat := [0, 0, 3, 7, 0, 0, 48, 112, 255]
theorem laws_FnHeaps.tab22 : rtab .any (opsOf Try.f9 22) = laws_FnHeaps.T22 := by kernel_rfl
theorem laws_FnHeaps.bits22 : waitsOk laws_FnHeaps.T22.2 laws_FnHeaps.B22 = true := by kernel_rfl
def laws_FnHeaps.T24 : Bool × List (List Nat × List Nat) := (true, [([], []), ([], []), ([0, 1], [0, 1]), ([2], [2]), ([], []), ([], []), ([4, 5], [4, 5]), ([6], [6]), ([3, 7], [3, 7])])
def laws_FnHeaps.B24 : List Nat := [0, 0, 3, 7, 0, 0, 48, 112, 255]
theorem laws_FnHeaps.tab24 : rtab .any (opsOf Try.f9 24) = laws_FnHeaps.T24 := by kernel_rfl
theorem laws_FnHeaps.bits24 : waitsOk laws_FnHeaps.T24.2 laws_FnHeaps.B24 = true := by kernel_rfl
def laws_FnHeaps.T28 : Bool × List (List Nat × List Nat) := (true, [([], []), ([0], [0]), ([], []), ([2], [2]), ([], []), ([3, 4], [3, 4]), ([1, 5], [1, 5]), ([6], [6]), ([7], [7]), ([8, 7, 7], [7, 8]), ([7], [7]), ([10, 7], [7, 10]), ([9, 11, 9, 7], [7, 9, 11]), ([7, 12], [7, 12]), ([13, 12, 0, 1, 2, 3, 4, 5, 6, 7, 8, 9, 10, 11, 12, 13], [13])])
def laws_FnHeaps.B28 : List Nat := [0, 1, 0, 4, 0, 28, 63, 127, 255, 511, 255, 1279, 4095, 8191, 16383]
theorem laws_FnHeaps.tab28 : rtab .any (opsOf Try.f9 28) = laws_FnHeaps.T28 := by kernel_rfl
theorem laws_FnHeaps.bits28 : waitsOk laws_FnHeaps.T28.2 laws_FnHeaps.B28 = true := by kernel_rfl
theorem laws_FnHeaps.calls (k : Nat) (A0 : Option Addr) (c0 : Nat) (l0 : List Int) (r : Bool) (w : World) (hr0 : Kd.C (Kd.int .u8) w A0 l0.length l0) (hc0 : l0.length ≤ c0) (h : laws_FnHeaps.f k l0 = some r) :
  Calls Try.prog 9 #[.slice A0 l0.length c0] w fun e w' => e = .returned (.bool r) ∧ Below w.heap.size w w' := by
 have hu25 := Try.underlying25
 have HR0 := Aside0.mk hr0
 have HC0 := Aside0.mk hc0
 clear hr0 hc0
 have HB := Aside0.mk (Below.refl w.heap.size w)
 have H : ((laws_big.f l0).bind fun t546 => (if t546 = true then (some true) else ((spec_DrawHeap.f k l0).bind fun bt547 => ((impl_HeapPut.f k bt547.1 bt547.2.1 bt547.2.2).bind fun t553 => ((impl_Sorted.f k t553).bind fun t556 => ((impl_HeapTake.f k t553).bind fun bt559 => ((impl_HeapDrop.f k t553 bt547.2.2).bind fun t566 => ((impl_HeapOk.f k bt547.1).bind fun t569 => (if t569 = true then ((impl_HeapOk.f k t553).bind fun t570 => (if t570 = true then ((impl_HeapOk.f k bt559.1).bind fun t571 => (if t571 = true then ((impl_HeapOk.f k t566).bind fun t572 => (if t572 = true then (if bt559.2.2.2 = true then (if (t556.length : Int) = (wrap64 ((bt547.1.length : Int) + 1)) then (if (bt559.1.length : Int) = (bt547.1.length : Int) then (if 0 < (t556.length : Int) then (laws_FnHeaps.j0 k t553 t556 bt559.1 t566 (!(bt559.2.1 == ((rd_T25 t556 0).f0)) || (!(bt559.2.2.1 == ((rd_T25 t556 0).f1)))) bt547.2.1 bt547.2.2) else (none)) else (laws_FnHeaps.j0 k t553 t556 bt559.1 t566 true bt547.2.1 bt547.2.2)) else (laws_FnHeaps.j0 k t553 t556 bt559.1 t566 true bt547.2.1 bt547.2.2)) else (laws_FnHeaps.j0 k t553 t556 bt559.1 t566 true bt547.2.1 bt547.2.2)) else (laws_FnHeaps.j0 k t553 t556 bt559.1 t566 true bt547.2.1 bt547.2.2))) else (laws_FnHeaps.j0 k t553 t556 bt559.1 t566 true bt547.2.1 bt547.2.2))) else (laws_FnHeaps.j0 k t553 t556 bt559.1 t566 true bt547.2.1 bt547.2.2))) else (laws_FnHeaps.j0 k t553 t556 bt559.1 t566 true bt547.2.1 bt547.2.2)))))))))) = some r := h
 clear h
 replace H := Option.bind_eq_some_iff.mp H
 obtain ⟨t546, A20, H⟩ := H
 have A2 := Aside0.mk A20
 clear A20
 by_cases c3 : t546 = true
 ·
  subst c3
  rw [if_pos rfl] at H
  obtain rfl := Option.some.inj H
  go_enter Try.func9, Try.ntmps9
  go_wp2_with (first | ((with_reducible refine gate_callee (f := 36) rfl ?_); refine goesL_ (some 16) rfl rfl Try.func36 (by kernel_rfl) rfl #[.slice A0 l0.length c0] rfl (by (try simp only [mp_]); first | done | rfl | (simp only [List.length_drop, List.length_take]; rfl)) ?_; (with_reducible refine (laws_big.calls _ _ l0 true _ ?side1 ?side2 A2.out).mono ?_); (case side1 => repeat (first | exact HR0.out | (with_reducible first | refine ca_ ?_ _ | refine cn_ ?_ _ | refine cd_ ?_))); (case side2 => exact HC0.out); rintro e w' ⟨rfl, ⟨nd, rfl⟩⟩; refine ⟨_, rfl, ?_⟩))
  go_ret
  exact ⟨by first | rfl | (simp [errW_none, errW_some] <;> rfl) | (simp [*, errW_none, errW_some] <;> rfl), by repeat (first | (with_reducible first | exact HB.out | apply ba_ | apply bn_ | apply bd_) | exact HB.out)⟩
 replace c3 := Bool.eq_false_iff.mpr c3
 subst c3
 rw [if_neg (show ¬ (false = true) by decide)] at H
 replace H := Option.bind_eq_some_iff.mp H
 obtain ⟨⟨t547, t550, t551⟩, A40, H⟩ := H
 have A4 := Aside0.mk A40
 clear A40
 replace H := Option.bind_eq_some_iff.mp H
 obtain ⟨t553, A50, H⟩ := H
 have A5 := Aside0.mk A50
 clear A50
 replace H := Option.bind_eq_some_iff.mp H
 obtain ⟨t556, A60, H⟩ := H
 have A6 := Aside0.mk A60
 clear A60
 replace H := Option.bind_eq_some_iff.mp H
 obtain ⟨⟨t559, t562, t563, t564⟩, A70, H⟩ := H
 have A7 := Aside0.mk A70
 clear A70
 replace H := Option.bind_eq_some_iff.mp H
 obtain ⟨t566, A80, H⟩ := H
 have A8 := Aside0.mk A80
 clear A80
 have HC9 := Aside0.mk H
 clear H
 go_enter Try.func9, Try.ntmps9
 go_upto_region 8 with (first | ((with_reducible refine gate_callee (f := 36) rfl ?_); refine goesL_ (some 16) rfl rfl Try.func36 (by kernel_rfl) rfl #[.slice A0 l0.length c0] rfl (by (try simp only [mp_]); first | done | rfl | (simp only [List.length_drop, List.length_take]; rfl)) ?_; (with_reducible refine (laws_big.calls _ _ l0 false _ ?side1 ?side2 A2.out).mono ?_); (case side1 => repeat (first | exact HR0.out | (with_reducible first | refine ca_ ?_ _ | refine cn_ ?_ _ | refine cd_ ?_))); (case side2 => exact HC0.out); rintro e w' ⟨rfl, ⟨nd, rfl⟩⟩; refine ⟨_, rfl, ?_⟩) | ((with_reducible refine gate_callee (f := 37) rfl ?_); refine goesL_ (some 19) rfl rfl Try.func37 (by kernel_rfl) rfl #[.slice A0 l0.length c0] rfl (by (try simp only [mp_]); first | done | rfl | (simp only [List.length_drop, List.length_take]; rfl)) ?_; (with_reducible refine (spec_DrawHeap.calls k _ _ l0 t547 t550 t551 _ ?side1 ?side2 A4.out).mono ?_); (case side1 => repeat (first | exact HR0.out | (with_reducible first | refine ca_ ?_ _ | refine cn_ ?_ _ | refine cd_ ?_))); (case side2 => exact HC0.out); rintro e w10 ⟨v548, rfl, ho0, hb⟩; refine ⟨_, rfl, ?_⟩; have HO549 := Aside0.mk (Kd.R_lower ho0 (below_size (by repeat (first | (with_reducible first | exact HB.out | apply ba_ | apply bn_ | apply bd_) | exact HB.out)))); have n1_ := Aside0.mk (below_step (by repeat (first | (with_reducible first | exact HB.out | apply ba_ | apply bn_ | apply bd_) | exact HB.out)) hb); clear HB; have HB := n1_; clear n1_; (try clear hb); (try clear hb2); (try clear hk); (try clear hi); (try clear ho0)) | ((with_reducible refine gate_dst (N := 4) rfl ?_); refine box_event ?hg (N := 4) ?hd (cs := #[.int .i64 0, .int .i64 0]) (t := 25) ?hr ?_; (case hd => rfl); (case hg => rfl); (case hr => first | (go_simp; done) | (go_simp; rfl)); intro gb552 hg w11 hbox hb; have n0_ := Aside0.mk (Kd.R_below (Kd.R_elderB (rp_ HO549.out) gb552 (Nat.le_of_eq hg.symm)) hb); have n1_ := Aside0.mk (below_step (by repeat (first | (with_reducible first | exact HB.out | apply ba_ | apply bn_ | apply bd_) | exact HB.out)) hb); have BK552 := Aside0.mk (hbox); have GW552 := Aside0.mk ((by rw [hg]; exact (below_size (by repeat (first | (with_reducible first | exact HB.out | apply ba_ | apply bn_ | apply bd_) | exact HB.out))) : w.heap.size ≤ gb552)); have GE552 := GW552; clear HO549 HB; have HO549 := n0_; have HB := n1_; clear n0_ n1_; clear hb hbox hg; obtain ⟨hcz12_0, hcz12_1, hfz12_0, hfz12_1⟩ := bc2_ BK552.out; obtain ⟨Ao13, co13, eo13⟩ := Kd.R_slice HO549.out; subst eo13) | ((with_reducible refine gate_callee (f := 23) rfl ?_); refine goesL_ (some 24) rfl rfl Try.func23 (by kernel_rfl) rfl #[.slice Ao13 t547.length co13, .agg #[.int .i64 t550, .int .i64 t551]] rfl (by (try simp only [mp_]); first | done | rfl | (simp only [List.length_drop, List.length_take]; rfl)) ?_; (with_reducible refine (impl_HeapPut.calls k _ _ t547 t550 t551 t553 _ ?side1 ?side2 A5.out).mono ?_); (case side1 => refine (Kd.R_reads' (e := 25) (base := w.heap.size) (ok := fun k_ => (True ∧ k_ ≠ gb552)) (n := t547.length) (c := co13) ?_).2.2; exact (by (with_reducible repeat (first | apply Kd.R_alloc | apply Kd.R_drewN | apply Kd.R_drew)); exact (Kd.R_mono (Kd.R_far (p := ⟨gb552, 1, none⟩) (Kd.R_far (p := ⟨gb552, 0, none⟩) (Kd.R_mono HO549.out (fun k_ hk => (⟨hk, hk.2⟩ : _ ∧ k_ ≠ gb552))) (fun _ hk => hk.2) (.int .i64 t550)) (fun _ hk => hk.2) (.int .i64 t551)) (fun _ h_ => h_.1)))); (case side2 => exact (Kd.R_reads' HO549.out).2.1); rintro e w14 ⟨v554, rfl, ho0, hb⟩; refine ⟨_, rfl, ?_⟩; have n0_ := Aside0.mk (Kd.R_elder' (by (with_reducible repeat (first | apply Kd.R_alloc | apply Kd.R_drewN | apply Kd.R_drew)); exact (Kd.R_mono (Kd.R_far (p := ⟨gb552, 1, none⟩) (Kd.R_far (p := ⟨gb552, 0, none⟩) (Kd.R_mono HO549.out (fun k_ hk => (⟨hk, hk.2⟩ : _ ∧ k_ ≠ gb552))) (fun _ hk => hk.2) (.int .i64 t550)) (fun _ hk => hk.2) (.int .i64 t551)) (fun _ h_ => h_.1))) (Kd.R_base ho0) hb); have n1_ := Aside0.mk (Kd.R_lower (Kd.R_newB (Kd.R_new' ho0 (Kd.R_lt (by (with_reducible repeat (first | apply Kd.R_alloc | apply Kd.R_drewN | apply Kd.R_drew)); exact (Kd.R_mono (Kd.R_far (p := ⟨gb552, 1, none⟩) (Kd.R_far (p := ⟨gb552, 0, none⟩) (Kd.R_mono HO549.out (fun k_ hk => (⟨hk, hk.2⟩ : _ ∧ k_ ≠ gb552))) (fun _ hk => hk.2) (.int .i64 t550)) (fun _ hk => hk.2) (.int .i64 t551)) (fun _ h_ => h_.1))))) (g := gb552) (o := .cells #[.int .i64 t550, .int .i64 t551] 25 (0, 0)) (by (with_reducible repeat (first | refine kn_ ?_ _ | refine kd_ ?_ | refine ka_ ?_ _)); refine blk_put (cs := #[.int .i64 t550, .int .i64 0]) ?_ 1 _ rfl; (with_reducible repeat (first | refine kn_ ?_ _ | refine kd_ ?_ | refine ka_ ?_ _)); refine blk_put (cs := #[.int .i64 0, .int .i64 0]) ?_ 0 _ rfl; (with_reducible repeat (first | refine kn_ ?_ _ | refine kd_ ?_ | refine ka_ ?_ _)); exact BK552.out)) (below_size (by repeat (first | (with_reducible first | exact HB.out | apply ba_ | apply bn_ | apply bd_ | refine below_set ?_ GE552.out) | exact HB.out)))); have n2_ := Aside0.mk (blk_below (g := gb552) (o := .cells #[.int .i64 t550, .int .i64 t551] 25 (0, 0)) (by (with_reducible repeat (first | refine kn_ ?_ _ | refine kd_ ?_ | refine ka_ ?_ _)); refine blk_put (cs := #[.int .i64 t550, .int .i64 0]) ?_ 1 _ rfl; (with_reducible repeat (first | refine kn_ ?_ _ | refine kd_ ?_ | refine ka_ ?_ _)); refine blk_put (cs := #[.int .i64 0, .int .i64 0]) ?_ 0 _ rfl; (with_reducible repeat (first | refine kn_ ?_ _ | refine kd_ ?_ | refine ka_ ?_ _)); exact BK552.out) hb); have n3_ := Aside0.mk (below_step (by repeat (first | (with_reducible first | exact HB.out | apply ba_ | apply bn_ | apply bd_ | refine below_set ?_ GE552.out) | exact HB.out)) hb); clear HO549 BK552 HB; have HO549 := n0_; have HO555 := n1_; have BK552 := n2_; have HB := n3_; clear n0_ n1_ n2_ n3_; (try clear hb); (try clear hb2); (try clear hk); (try clear hi); (try clear ho0); obtain ⟨Ao15, co15, eo15⟩ := Kd.R_slice HO555.out; subst eo15) | ((with_reducible refine gate_callee (f := 38) rfl ?_); refine goesL_ (some 26) rfl rfl Try.func38 (by kernel_rfl) rfl #[.slice Ao15 t553.length co15] rfl (by (try simp only [mp_]); first | done | rfl | (simp only [List.length_drop, List.length_take]; rfl)) ?_; (with_reducible refine (impl_Sorted.calls k (fun k_ => some k_ = (.slice Ao15 t553.length co15 : Value).ownBlock) _ _ t553 t556 _ ?side1 A6.out).mono ?_); (case side1 => exact Kd.R_V (Kd.R_tight rfl (HO555.out))); rintro e w16 ⟨v557, rfl, ho0, hb⟩; refine ⟨_, rfl, ?_⟩; have n0_ := Aside0.mk (Kd.R_elder' (rp_ HO549.out) (Kd.R_base ho0) hb); have n1_ := Aside0.mk (Kd.R_elder' (rp_ HO555.out) (Kd.R_base ho0) hb); have n2_ := Aside0.mk (Kd.R_lower (Kd.R_newB (Kd.R_new' (Kd.R_new' (Kd.R_mono (ok' := fun k_ => True) ho0 (fun _ hk_ => trivial)) (Kd.R_lt (rp_ HO549.out))) (Kd.R_lt (rp_ HO555.out))) (g := gb552) (o := .cells #[.int .i64 t550, .int .i64 t551] 25 (0, 0)) (pb_ BK552.out)) (below_size (by repeat (first | (with_reducible first | exact HB.out | apply ba_ | apply bn_ | apply bd_ | refine below_set ?_ GE552.out) | exact HB.out)))); have n3_ := Aside0.mk (bb_ BK552.out hb); have n4_ := Aside0.mk (below_step (by repeat (first | (with_reducible first | exact HB.out | apply ba_ | apply bn_ | apply bd_ | refine below_set ?_ GE552.out) | exact HB.out)) hb); clear HO549 HO555 BK552 HB; have HO549 := n0_; have HO555 := n1_; have HO558 := n2_; have BK552 := n3_; have HB := n4_; clear n0_ n1_ n2_ n3_ n4_; (try clear hb); (try clear hb2); (try clear hk); (try clear hi); (try clear ho0)) | ((with_reducible refine gate_callee (f := 34) rfl ?_); refine goesL_ (some 29) rfl rfl Try.func34 (by kernel_rfl) rfl #[.slice Ao15 t553.length co15] rfl (by (try simp only [mp_]); first | done | rfl | (simp only [List.length_drop, List.length_take]; rfl)) ?_; (with_reducible refine (impl_HeapTake.calls k _ _ t553 t559 t562 t563 t564 _ ?side1 ?side2 A7.out).mono ?_); (case side1 => repeat (first | exact (Kd.R_reads' HO555.out).2.2 | (with_reducible first | refine ca_ ?_ _ | refine cn_ ?_ _ | refine cd_ ?_))); (case side2 => exact (Kd.R_reads' HO555.out).2.1); rintro e w17 ⟨v560, rfl, ho0, hb⟩; refine ⟨_, rfl, ?_⟩; have n0_ := Aside0.mk (Kd.R_elder' (rp_ HO549.out) (Kd.R_base ho0) hb); have n1_ := Aside0.mk (Kd.R_elder' (rp_ HO555.out) (Kd.R_base ho0) hb); have n2_ := Aside0.mk (Kd.R_elder' (rp_ HO558.out) (Kd.R_base ho0) hb); have n3_ := Aside0.mk (Kd.R_lower (Kd.R_newB (Kd.R_new' (Kd.R_new' (Kd.R_new' ho0 (Kd.R_lt (rp_ HO549.out))) (Kd.R_lt (rp_ HO555.out))) (Kd.R_lt (rp_ HO558.out))) (g := gb552) (o := .cells #[.int .i64 t550, .int .i64 t551] 25 (0, 0)) (pb_ BK552.out)) (below_size (by repeat (first | (with_reducible first | exact HB.out | apply ba_ | apply bn_ | apply bd_ | refine below_set ?_ GE552.out) | exact HB.out)))); have n4_ := Aside0.mk (bb_ BK552.out hb); have n5_ := Aside0.mk (below_step (by repeat (first | (with_reducible first | exact HB.out | apply ba_ | apply bn_ | apply bd_ | refine below_set ?_ GE552.out) | exact HB.out)) hb); clear HO549 HO555 HO558 BK552 HB; have HO549 := n0_; have HO555 := n1_; have HO558 := n2_; have HO561 := n3_; have BK552 := n4_; have HB := n5_; clear n0_ n1_ n2_ n3_ n4_ n5_; (try clear hb); (try clear hb2); (try clear hk); (try clear hi); (try clear ho0)) | ((with_reducible refine gate_dst (N := 8) rfl ?_); refine box_event ?hg (N := 8) ?hd (cs := #[.int .i64 0, .int .i64 0]) (t := 25) ?hr ?_; (case hd => rfl); (case hg => rfl); (case hr => first | (go_simp; done) | (go_simp; rfl)); intro gb565 hg w18 hbox hb; have n0_ := Aside0.mk (Kd.R_below (Kd.R_elderB (rp_ HO549.out) gb565 (Nat.le_of_eq hg.symm)) hb); have n1_ := Aside0.mk (Kd.R_below (Kd.R_elderB (rp_ HO555.out) gb565 (Nat.le_of_eq hg.symm)) hb); have n2_ := Aside0.mk (Kd.R_below (Kd.R_elderB (rp_ HO558.out) gb565 (Nat.le_of_eq hg.symm)) hb); have n3_ := Aside0.mk (Kd.R_below (Kd.R_elderB (rp_ HO561.out) gb565 (Nat.le_of_eq hg.symm)) hb); have n4_ := Aside0.mk (bb_ BK552.out hb); have n5_ := Aside0.mk (below_step (by repeat (first | (with_reducible first | exact HB.out | apply ba_ | apply bn_ | apply bd_ | refine below_set ?_ GE552.out) | exact HB.out)) hb); have n6_ := Aside0.mk (hbox); have n7_ := Aside0.mk ((by rw [hg]; exact (below_size (by repeat (first | (with_reducible first | exact HB.out | apply ba_ | apply bn_ | apply bd_ | refine below_set ?_ GE552.out) | exact HB.out))) : w.heap.size ≤ gb565)); have n8_ := n7_; have n9_ := Aside0.mk (nl_ BK552.out hg); have n10_ := Aside0.mk (n9_.out.symm); clear HO549 HO555 HO558 HO561 BK552 HB; have HO549 := n0_; have HO555 := n1_; have HO558 := n2_; have HO561 := n3_; have BK552 := n4_; have HB := n5_; have BK565 := n6_; have GW565 := n7_; have GE565 := n8_; have NB552_565 := n9_; have NB565_552 := n10_; clear n0_ n1_ n2_ n3_ n4_ n5_ n6_ n7_ n8_ n9_ n10_; clear hb hbox hg; have hnb19 := NB565_552.out; have hnc19 := NB552_565.out; obtain ⟨hcz20_0, hcz20_1, hfz20_0, hfz20_1⟩ := bc2_ BK565.out; obtain ⟨hcz21_0, hcz21_1, hfz21_0, hfz21_1⟩ := bc2_ BK552.out) | ((with_reducible refine gate_callee (f := 32) rfl ?_); refine goesL_ (some 36) rfl rfl Try.func32 (by kernel_rfl) rfl #[.slice Ao15 t553.length co15, .int .i64 t551] rfl (by (try simp only [mp_]); first | done | rfl | (simp only [List.length_drop, List.length_take]; rfl)) ?_; (with_reducible refine (impl_HeapDrop.calls k _ _ t553 t551 t566 _ ?side1 ?side2 A8.out).mono ?_); (case side1 => refine (Kd.R_reads' (e := 25) (base := w.heap.size) (ok := fun k_ => (((((True ∧ some k_ ≠ (.slice Ao13 t547.length co13 : Value).ownBlock) ∧ k_ ≠ gb552) ∧ some k_ ≠ (v557 : Value).ownBlock) ∧ some k_ ≠ (v560 : Value).ownBlock) ∧ k_ ≠ gb565)) (n := t553.length) (c := co15) ?_).2.2; exact (by (with_reducible repeat (first | apply Kd.R_alloc | apply Kd.R_drewN | apply Kd.R_drew)); exact (Kd.R_mono (Kd.R_far (p := ⟨gb565, 1, none⟩) (Kd.R_far (p := ⟨gb565, 0, none⟩) (Kd.R_mono HO555.out (fun k_ hk => (⟨hk, hk.2⟩ : _ ∧ k_ ≠ gb565))) (fun _ hk => hk.2) (.int .i64 t562)) (fun _ hk => hk.2) (.int .i64 t563)) (fun _ h_ => h_.1)))); (case side2 => exact (Kd.R_reads' HO555.out).2.1); rintro e w22 ⟨v567, rfl, ho0, hb⟩; refine ⟨_, rfl, ?_⟩; have n0_ := Aside0.mk (Kd.R_elder' (by (with_reducible repeat (first | apply Kd.R_alloc | apply Kd.R_drewN | apply Kd.R_drew)); exact (Kd.R_mono (Kd.R_far (p := ⟨gb565, 1, none⟩) (Kd.R_far (p := ⟨gb565, 0, none⟩) (Kd.R_mono HO549.out (fun k_ hk => (⟨hk, hk.2⟩ : _ ∧ k_ ≠ gb565))) (fun _ hk => hk.2) (.int .i64 t562)) (fun _ hk => hk.2) (.int .i64 t563)) (fun _ h_ => h_.1))) (Kd.R_base ho0) hb); have n1_ := Aside0.mk (Kd.R_elder' (by (with_reducible repeat (first | apply Kd.R_alloc | apply Kd.R_drewN | apply Kd.R_drew)); exact (Kd.R_mono (Kd.R_far (p := ⟨gb565, 1, none⟩) (Kd.R_far (p := ⟨gb565, 0, none⟩) (Kd.R_mono HO555.out (fun k_ hk => (⟨hk, hk.2⟩ : _ ∧ k_ ≠ gb565))) (fun _ hk => hk.2) (.int .i64 t562)) (fun _ hk => hk.2) (.int .i64 t563)) (fun _ h_ => h_.1))) (Kd.R_base ho0) hb); have n2_ := Aside0.mk (Kd.R_elder' (by (with_reducible repeat (first | apply Kd.R_alloc | apply Kd.R_drewN | apply Kd.R_drew)); exact (Kd.R_mono (Kd.R_far (p := ⟨gb565, 1, none⟩) (Kd.R_far (p := ⟨gb565, 0, none⟩) (Kd.R_mono HO558.out (fun k_ hk => (⟨hk, hk.2⟩ : _ ∧ k_ ≠ gb565))) (fun _ hk => hk.2) (.int .i64 t562)) (fun _ hk => hk.2) (.int .i64 t563)) (fun _ h_ => h_.1))) (Kd.R_base ho0) hb); have n3_ := Aside0.mk (Kd.R_elder' (by (with_reducible repeat (first | apply Kd.R_alloc | apply Kd.R_drewN | apply Kd.R_drew)); exact (Kd.R_mono (Kd.R_far (p := ⟨gb565, 1, none⟩) (Kd.R_far (p := ⟨gb565, 0, none⟩) (Kd.R_mono HO561.out (fun k_ hk => (⟨hk, hk.2⟩ : _ ∧ k_ ≠ gb565))) (fun _ hk => hk.2) (.int .i64 t562)) (fun _ hk => hk.2) (.int .i64 t563)) (fun _ h_ => h_.1))) (Kd.R_base ho0) hb); have n4_ := Aside0.mk (Kd.R_lower (Kd.R_newB (Kd.R_newB (Kd.R_new' (Kd.R_new' (Kd.R_new' (Kd.R_new' ho0 (Kd.R_lt (by (with_reducible repeat (first | apply Kd.R_alloc | apply Kd.R_drewN | apply Kd.R_drew)); exact (Kd.R_mono (Kd.R_far (p := ⟨gb565, 1, none⟩) (Kd.R_far (p := ⟨gb565, 0, none⟩) (Kd.R_mono HO549.out (fun k_ hk => (⟨hk, hk.2⟩ : _ ∧ k_ ≠ gb565))) (fun _ hk => hk.2) (.int .i64 t562)) (fun _ hk => hk.2) (.int .i64 t563)) (fun _ h_ => h_.1))))) (Kd.R_lt (by (with_reducible repeat (first | apply Kd.R_alloc | apply Kd.R_drewN | apply Kd.R_drew)); exact (Kd.R_mono (Kd.R_far (p := ⟨gb565, 1, none⟩) (Kd.R_far (p := ⟨gb565, 0, none⟩) (Kd.R_mono HO555.out (fun k_ hk => (⟨hk, hk.2⟩ : _ ∧ k_ ≠ gb565))) (fun _ hk => hk.2) (.int .i64 t562)) (fun _ hk => hk.2) (.int .i64 t563)) (fun _ h_ => h_.1))))) (Kd.R_lt (by (with_reducible repeat (first | apply Kd.R_alloc | apply Kd.R_drewN | apply Kd.R_drew)); exact (Kd.R_mono (Kd.R_far (p := ⟨gb565, 1, none⟩) (Kd.R_far (p := ⟨gb565, 0, none⟩) (Kd.R_mono HO558.out (fun k_ hk => (⟨hk, hk.2⟩ : _ ∧ k_ ≠ gb565))) (fun _ hk => hk.2) (.int .i64 t562)) (fun _ hk => hk.2) (.int .i64 t563)) (fun _ h_ => h_.1))))) (Kd.R_lt (by (with_reducible repeat (first | apply Kd.R_alloc | apply Kd.R_drewN | apply Kd.R_drew)); exact (Kd.R_mono (Kd.R_far (p := ⟨gb565, 1, none⟩) (Kd.R_far (p := ⟨gb565, 0, none⟩) (Kd.R_mono HO561.out (fun k_ hk => (⟨hk, hk.2⟩ : _ ∧ k_ ≠ gb565))) (fun _ hk => hk.2) (.int .i64 t562)) (fun _ hk => hk.2) (.int .i64 t563)) (fun _ h_ => h_.1))))) (g := gb552) (o := .cells #[.int .i64 t550, .int .i64 t551] 25 (0, 0)) (by (with_reducible repeat (first | refine kn_ ?_ _ | refine kd_ ?_ | refine ka_ ?_ _)); refine blk_far ?_ NB552_565.out _; (with_reducible repeat (first | refine kn_ ?_ _ | refine kd_ ?_ | refine ka_ ?_ _)); refine blk_far ?_ NB552_565.out _; (with_reducible repeat (first | refine kn_ ?_ _ | refine kd_ ?_ | refine ka_ ?_ _)); exact BK552.out)) (g := gb565) (o := .cells #[.int .i64 t562, .int .i64 t563] 25 (0, 0)) (by (with_reducible repeat (first | refine kn_ ?_ _ | refine kd_ ?_ | refine ka_ ?_ _)); refine blk_put (cs := #[.int .i64 t562, .int .i64 0]) ?_ 1 _ rfl; (with_reducible repeat (first | refine kn_ ?_ _ | refine kd_ ?_ | refine ka_ ?_ _)); refine blk_put (cs := #[.int .i64 0, .int .i64 0]) ?_ 0 _ rfl; (with_reducible repeat (first | refine kn_ ?_ _ | refine kd_ ?_ | refine ka_ ?_ _)); exact BK565.out)) (below_size (by repeat (first | (with_reducible first | exact HB.out | apply ba_ | apply bn_ | apply bd_ | refine below_set ?_ GE552.out | refine below_set ?_ GE565.out) | exact HB.out)))); have n5_ := Aside0.mk (blk_below (g := gb552) (o := .cells #[.int .i64 t550, .int .i64 t551] 25 (0, 0)) (by (with_reducible repeat (first | refine kn_ ?_ _ | refine kd_ ?_ | refine ka_ ?_ _)); refine blk_far ?_ NB552_565.out _; (with_reducible repeat (first | refine kn_ ?_ _ | refine kd_ ?_ | refine ka_ ?_ _)); refine blk_far ?_ NB552_565.out _; (with_reducible repeat (first | refine kn_ ?_ _ | refine kd_ ?_ | refine ka_ ?_ _)); exact BK552.out) hb); have n6_ := Aside0.mk (blk_below (g := gb565) (o := .cells #[.int .i64 t562, .int .i64 t563] 25 (0, 0)) (by (with_reducible repeat (first | refine kn_ ?_ _ | refine kd_ ?_ | refine ka_ ?_ _)); refine blk_put (cs := #[.int .i64 t562, .int .i64 0]) ?_ 1 _ rfl; (with_reducible repeat (first | refine kn_ ?_ _ | refine kd_ ?_ | refine ka_ ?_ _)); refine blk_put (cs := #[.int .i64 0, .int .i64 0]) ?_ 0 _ rfl; (with_reducible repeat (first | refine kn_ ?_ _ | refine kd_ ?_ | refine ka_ ?_ _)); exact BK565.out) hb); have n7_ := Aside0.mk (below_step (by repeat (first | (with_reducible first | exact HB.out | apply ba_ | apply bn_ | apply bd_ | refine below_set ?_ GE552.out | refine below_set ?_ GE565.out) | exact HB.out)) hb); clear HO549 HO555 HO558 HO561 BK552 BK565 HB; have HO549 := n0_; have HO555 := n1_; have HO558 := n2_; have HO561 := n3_; have HO568 := n4_; have BK552 := n5_; have BK565 := n6_; have HB := n7_; clear n0_ n1_ n2_ n3_ n4_ n5_ n6_ n7_; (try clear hb); (try clear hb2); (try clear hk); (try clear hi); (try clear ho0)))
 (try simp only [Act.put, List.setIfInBounds_toArray, List.set_cons_zero, List.set_cons_succ])
 go_cut [80] (fun v80 wc => ∃ (kq : Nat) (x80_8 : Bool), v80 = .bool x80_8 ∧ Aside0 (laws_FnHeaps.j0 kq t553 t556 t559 t566 x80_8 t550 t551 = some r) ∧ Aside0 (kq ≤ k) ∧ Aside0 (Kd.R k25 25 wc w.heap.size (fun k_ => some k_ ≠ (v557 : Value).ownBlock ∧ some k_ ≠ (v560 : Value).ownBlock ∧ some k_ ≠ (v567 : Value).ownBlock ∧ k_ ≠ gb552 ∧ k_ ≠ gb565) (.slice Ao15 t553.length co15) t553) ∧ Aside0 (Kd.R k25 25 wc w.heap.size (fun k_ => some k_ ≠ ((.slice Ao15 t553.length co15) : Value).ownBlock ∧ some k_ ≠ (v560 : Value).ownBlock ∧ some k_ ≠ (v567 : Value).ownBlock ∧ k_ ≠ gb552 ∧ k_ ≠ gb565) v557 t556) ∧ Aside0 (Kd.R k25 25 wc w.heap.size (fun k_ => some k_ ≠ ((.slice Ao15 t553.length co15) : Value).ownBlock ∧ some k_ ≠ (v557 : Value).ownBlock ∧ some k_ ≠ (v567 : Value).ownBlock ∧ k_ ≠ gb552 ∧ k_ ≠ gb565) v560 t559) ∧ Aside0 (Kd.R k25 25 wc w.heap.size (fun k_ => some k_ ≠ ((.slice Ao15 t553.length co15) : Value).ownBlock ∧ some k_ ≠ (v557 : Value).ownBlock ∧ some k_ ≠ (v560 : Value).ownBlock ∧ k_ ≠ gb552 ∧ k_ ≠ gb565) v567 t566) ∧ Aside0 (wc.heap[gb552]? = some (.cells #[.int .i64 t550, .int .i64 t551] 25 (0, 0))) ∧ Aside0 (wc.heap[gb565]? = some (.cells #[.int .i64 t562, .int .i64 t563] 25 (0, 0))) ∧ Aside0 (Below w.heap.size w wc))
 case first =>
  have H := HC9.out
  clear HC9
  replace H := Option.bind_eq_some_iff.mp H
  obtain ⟨t569, A230, H⟩ := H
  have A23 := Aside0.mk A230
  clear A230
  by_cases c24 : t569 = true
  ·
   subst c24
   rw [if_pos rfl] at H
   replace H := Option.bind_eq_some_iff.mp H
   obtain ⟨t570, A250, H⟩ := H
   have A25 := Aside0.mk A250
   clear A250
   by_cases c26 : t570 = true
   ·
    subst c26
    rw [if_pos rfl] at H
    replace H := Option.bind_eq_some_iff.mp H
    obtain ⟨t571, A270, H⟩ := H
    have A27 := Aside0.mk A270
    clear A270
    by_cases c28 : t571 = true
    ·
     subst c28
     rw [if_pos rfl] at H
     replace H := Option.bind_eq_some_iff.mp H
     obtain ⟨t572, A290, H⟩ := H
     have A29 := Aside0.mk A290
     clear A290
     by_cases c30 : t572 = true
     ·
      subst c30
      rw [if_pos rfl] at H
      by_cases c31 : t564 = true
      ·
       subst c31
       rw [if_pos rfl] at H
       by_cases c32 : (t556.length : Int) = (wrap64 ((t547.length : Int) + 1))
       ·
        rw [if_pos c32] at H
        have c32b0 : ((t556.length : Int) == (wrap64 ((t547.length : Int) + 1))) = true := beq_iff_eq.mpr c32
        have c32b1 : ((t556.length : Int) != (wrap64 ((t547.length : Int) + 1))) = false := bne_eq_false_iff_eq.mpr c32
        clear c32
        (first | rw [c32b0] | (simp only [i64_w, i32_w]; rw [c32b0]) | skip)
        by_cases c33 : (t559.length : Int) = (t547.length : Int)
        ·
         rw [if_pos c33] at H
         have c33b0 : ((t559.length : Int) == (t547.length : Int)) = true := beq_iff_eq.mpr c33
         have c33b1 : ((t559.length : Int) != (t547.length : Int)) = false := bne_eq_false_iff_eq.mpr c33
         have c33b2 : (t559.length == t547.length) = true := by first | simpa using c33 | (simp at c33 ⊢; omega)
         clear c33
         by_cases c34 : 0 < (t556.length : Int)
         ·
          rw [if_pos c34] at H
          have c34b0 := decide_eq_true c34
          have c34b1 : decide (0 < t556.length) = true := decide_eq_true (by omega)
          clear c34
          have H' := Aside0.mk H
          clear H
          try go_wp2
          obtain ⟨Ao35, co35, eo35⟩ := Kd.R_slice HO558.out
          subst eo35
          have n0_ := Aside0.mk (Kd.R_drew HO549.out)
          have n1_ := Aside0.mk (Kd.R_drew HO555.out)
          have n2_ := Aside0.mk (Kd.R_drew HO558.out)
          have n3_ := Aside0.mk (Kd.R_drew HO561.out)
          have n4_ := Aside0.mk (Kd.R_drew HO568.out)
          have n5_ := Aside0.mk (blk_drew BK552.out)
          have n6_ := Aside0.mk (blk_drew BK565.out)
          have n7_ := Aside0.mk (bd_ HB.out)
          clear HO549 HO555 HO558 HO561 HO568 BK552 BK565 HB
          have HO549 := n0_
          have HO555 := n1_
          have HO558 := n2_
          have HO561 := n3_
          have HO568 := n4_
          have BK552 := n5_
          have BK565 := n6_
          have HB := n7_
          clear n0_ n1_ n2_ n3_ n4_ n5_ n6_ n7_
          have p573 : 0 ≤ (0 : Int) := (by omega)
          have q573 : 0 < (t556.length : Int) := of_decide_eq_true (by with_reducible assumption)
          obtain ⟨ad573, e573, hx573_0, hx573_1⟩ := at_T25 (Kd.R_reads' HO558.out).2.2 0 p573 q573
          cases e573
          have qi573 : (0 < t556.length) = True := eq_true (by omega)
          (try rw [show ((0 : Int)).toNat = 0 from rfl] at hx573_0)
          (try rw [show 0 * 2 = 0 from rfl] at hx573_0)
          (try rw [Addr.add_zero'] at hx573_0)
          (try rw [show ((0 : Int)).toNat = 0 from rfl] at hx573_1)
          (try rw [show 0 * 2 = 0 from rfl] at hx573_1)
          (try rw [Addr.add_zero'] at hx573_1)
          replace p573 := eq_true p573
          replace q573 := eq_true q573
          refine start_ (n := 44) (S := fun w' => w'.cell? ⟨gb565, 0, none⟩ = some (.int .i64 t562) ∧ w'.cell? ⟨gb565, 1, none⟩ = some (.int .i64 t563) ∧ w'.cell? ad573 = some (.int .i64 ((rd_T25 t556 0).f0)) ∧ w'.cell? ⟨ad573.block, ad573.off + 1, none⟩ = some (.int .i64 ((rd_T25 t556 0).f1))) (ds := []) #[f_,f_,f_,f_,f_,f_,f_,f_,f_,f_,f_,f_,f_,f_,f_,f_,f_,f_,f_,f_,f_,f_,f_,f_,f_,f_,f_,f_,f_,f_,f_,f_,f_,f_,f_,f_,f_,f_,f_,f_,f_,f_,f_,f_] (by kernel_rfl) rfl rfl ⟨bx_ BK565.out 0, bx_ BK565.out 1, hx573_0, hx573_1⟩ (fun hHeld => ?_); refine with_tabW laws_FnHeaps.tab8 laws_FnHeaps.bits8 (fun HT_ HW_ => ?_)
          generalize w22.drew = w36 at HO549 HO555 HO558 HO561 HO568 BK552 BK565 HB hx573_0 hx573_1 hHeld ⊢
          refine pu_ 0 37 ?_ (b_ 1 43) rfl rfl HT_.out ?_ ?_ ?_ ?_; rotate_left; intro w'; go_simp; with_reducible rfl; rotate_left; simp only [fr_]; rfl
          refine one_ (i := 1) (N := some 38) #[t_,t_,f_,f_,f_,f_,f_,f_,f_,f_,f_,f_,f_,f_,f_,f_,f_,f_,f_,f_,f_,f_,f_,f_,f_,f_,f_,f_,f_,f_,f_,f_,f_,f_,f_,f_,f_,f_,f_,f_,f_,f_,f_,f_] rfl rfl (one_of HT_.out (by kernel_rfl)) (by decide) (fun K hK => ?_)
          refine goes_ Try.func20 (by kernel_rfl) rfl #[.slice Ao13 t547.length co13] (by rfl) rfl rfl (by (try simp only [mp_]); first | done | rfl | (simp only [List.length_drop, List.length_take]; rfl)) ?_
          with_reducible refine (impl_HeapOk.calls k _ _ t547 true _ ?side1 ?side2 A23.out).mono ?_
          (case side1 => repeat (first | exact (Kd.R_reads' HO549.out).2.2 | (with_reducible first | refine ca_ ?_ _ | refine cn_ ?_ _ | refine cd_ ?_)))
          (case side2 => exact (Kd.R_reads' HO549.out).2.1)
          rintro e w37 ⟨rfl, hb⟩
          have HS2_ := (hb.cell (World.block_lt_of_cell? _ _ (hHeld.2.2.1))).trans (hHeld.2.2.1)
          have HS3_ := (hb.cell (World.block_lt_of_cell? _ _ (hHeld.2.2.2))).trans (hHeld.2.2.2)
          refine ⟨_, rfl, ?_⟩
          have n0_ := Aside0.mk (Kd.R_below (rp_ HO549.out) hb)
          have n1_ := Aside0.mk (Kd.R_below (rp_ HO555.out) hb)
          have n2_ := Aside0.mk (Kd.R_below (rp_ HO558.out) hb)
          have n3_ := Aside0.mk (Kd.R_below (rp_ HO561.out) hb)
          have n4_ := Aside0.mk (Kd.R_below (rp_ HO568.out) hb)
          have n5_ := Aside0.mk (bb_ BK552.out hb)
          have n6_ := Aside0.mk (bb_ BK565.out hb)
          have n7_ := Aside0.mk (below_step (by repeat (first | (with_reducible first | exact HB.out | apply ba_ | apply bn_ | apply bd_ | refine below_set ?_ GE552.out | refine below_set ?_ GE565.out) | exact HB.out)) hb)
          clear HO549 HO555 HO558 HO561 HO568 BK552 BK565 HB
          have HO549 := n0_
          have HO555 := n1_
          have HO558 := n2_
          have HO561 := n3_
          have HO568 := n4_
          have BK552 := n5_
          have BK565 := n6_
          have HB := n7_
          clear n0_ n1_ n2_ n3_ n4_ n5_ n6_ n7_
          (try clear hb)
          (try clear hb2)
          (try clear hk)
          (try clear hi)
          refine hK.out _ _ ⟨bx_ BK565.out 0, bx_ BK565.out 1, HS2_, HS3_⟩ (fun hHeld => ?_)
          clear hK K
          refine norm_ (a' := ?_) ?_ ?_
          rotate_left
          ·
           show Act.put _ (some 38) _ = _
           simp only [fr_]
           rfl
          refine pu_ 2 39 ?_ (b_ 3 41) rfl rfl HT_.out ?_ ?_ ?_ ?_; rotate_left; intro w'; go_simp; with_reducible rfl; rotate_left; simp only [fr_]; rfl
          refine pu_ 3 40 ?_ (b_ 4 40) rfl rfl HT_.out ?_ ?_ ?_ ?_; rotate_left; intro w'; go_simp; with_reducible rfl; rotate_left; simp only [fr_]; rfl
          refine pu_ 4 41 ?_ (b_ 5 39) rfl rfl HT_.out ?_ ?_ ?_ ?_; rotate_left; intro w'; go_simp; with_reducible rfl; rotate_left; simp only [fr_]; rfl
          refine one_ (i := 5) (N := some 42) #[t_,t_,t_,t_,t_,t_,f_,f_,f_,f_,f_,f_,f_,f_,f_,f_,f_,f_,f_,f_,f_,f_,f_,f_,f_,f_,f_,f_,f_,f_,f_,f_,f_,f_,f_,f_,f_,f_,f_,f_,f_,f_,f_,f_] rfl rfl (one_of HT_.out (by kernel_rfl)) (by decide) (fun K hK => ?_)
          refine goes_ Try.func20 (by kernel_rfl) rfl #[.slice Ao15 t553.length co15] (by rfl) rfl rfl (by (try simp only [mp_]); first | done | rfl | (simp only [List.length_drop, List.length_take]; rfl)) ?_
          with_reducible refine (impl_HeapOk.calls k _ _ t553 true _ ?side1 ?side2 A25.out).mono ?_
          (case side1 => repeat (first | exact (Kd.R_reads' HO555.out).2.2 | (with_reducible first | refine ca_ ?_ _ | refine cn_ ?_ _ | refine cd_ ?_)))
          (case side2 => exact (Kd.R_reads' HO555.out).2.1)
          rintro e w38 ⟨rfl, hb⟩
          have HS2_ := (hb.cell (World.block_lt_of_cell? _ _ (hHeld.2.2.1))).trans (hHeld.2.2.1)
          have HS3_ := (hb.cell (World.block_lt_of_cell? _ _ (hHeld.2.2.2))).trans (hHeld.2.2.2)
          refine ⟨_, rfl, ?_⟩
          have n0_ := Aside0.mk (Kd.R_below (rp_ HO549.out) hb)
          have n1_ := Aside0.mk (Kd.R_below (rp_ HO555.out) hb)
          have n2_ := Aside0.mk (Kd.R_below (rp_ HO558.out) hb)
          have n3_ := Aside0.mk (Kd.R_below (rp_ HO561.out) hb)
          have n4_ := Aside0.mk (Kd.R_below (rp_ HO568.out) hb)
          have n5_ := Aside0.mk (bb_ BK552.out hb)
          have n6_ := Aside0.mk (bb_ BK565.out hb)
          have n7_ := Aside0.mk (below_step (by repeat (first | (with_reducible first | exact HB.out | apply ba_ | apply bn_ | apply bd_ | refine below_set ?_ GE552.out | refine below_set ?_ GE565.out) | exact HB.out)) hb)
          clear HO549 HO555 HO558 HO561 HO568 BK552 BK565 HB
          have HO549 := n0_
          have HO555 := n1_
          have HO558 := n2_
          have HO561 := n3_
          have HO568 := n4_
          have BK552 := n5_
          have BK565 := n6_
          have HB := n7_
          clear n0_ n1_ n2_ n3_ n4_ n5_ n6_ n7_
          (try clear hb)
          (try clear hb2)
          (try clear hk)
          (try clear hi)
          obtain ⟨Ao39, co39, eo39⟩ := Kd.R_slice HO561.out
          (first | subst eo39 | (injection eo39 with f1_ f2_ f3_; have f4_ := f1_.symm; have f5_ := f3_.symm; clear f1_ f2_ f3_; subst f4_; subst f5_))
          refine hK.out _ _ ⟨bx_ BK565.out 0, bx_ BK565.out 1, HS2_, HS3_⟩ (fun hHeld => ?_)
          clear hK K
          refine norm_ (a' := ?_) ?_ ?_
          rotate_left
          ·
           show Act.put _ (some 42) _ = _
           simp only [fr_]
           rfl
          refine pu_ 6 43 ?_ (b_ 7 37) rfl rfl HT_.out ?_ ?_ ?_ ?_; rotate_left; intro w'; go_simp; with_reducible rfl; rotate_left; simp only [fr_]; rfl
          refine pu_ 7 44 ?_ (b_ 8 36) rfl rfl HT_.out ?_ ?_ ?_ ?_; rotate_left; intro w'; go_simp; with_reducible rfl; rotate_left; simp only [fr_]; rfl
          refine pu_ 8 45 ?_ (b_ 9 35) rfl rfl HT_.out ?_ ?_ ?_ ?_; rotate_left; intro w'; go_simp; with_reducible rfl; rotate_left; simp only [fr_]; rfl
          refine pu_ 9 46 ?_ (b_ 10 34) rfl rfl HT_.out ?_ ?_ ?_ ?_; rotate_left; intro w'; go_simp; with_reducible rfl; rotate_left; simp only [fr_]; rfl
          refine one_ (i := 10) (N := some 47) #[t_,t_,t_,t_,t_,t_,t_,t_,t_,t_,t_,f_,f_,f_,f_,f_,f_,f_,f_,f_,f_,f_,f_,f_,f_,f_,f_,f_,f_,f_,f_,f_,f_,f_,f_,f_,f_,f_,f_,f_,f_,f_,f_,f_] rfl rfl (one_of HT_.out (by kernel_rfl)) (by decide) (fun K hK => ?_)
          refine goes_ Try.func20 (by kernel_rfl) rfl #[.slice Ao39 t559.length co39] (by rfl) rfl rfl (by (try simp only [mp_]); first | done | rfl | (simp only [List.length_drop, List.length_take]; rfl)) ?_
          with_reducible refine (impl_HeapOk.calls k _ _ t559 true _ ?side1 ?side2 A27.out).mono ?_
          (case side1 => repeat (first | exact (Kd.R_reads' HO561.out).2.2 | (with_reducible first | refine ca_ ?_ _ | refine cn_ ?_ _ | refine cd_ ?_)))
          (case side2 => exact (Kd.R_reads' HO561.out).2.1)
          rintro e w40 ⟨rfl, hb⟩
          have HS2_ := (hb.cell (World.block_lt_of_cell? _ _ (hHeld.2.2.1))).trans (hHeld.2.2.1)
          have HS3_ := (hb.cell (World.block_lt_of_cell? _ _ (hHeld.2.2.2))).trans (hHeld.2.2.2)
          refine ⟨_, rfl, ?_⟩
          have n0_ := Aside0.mk (Kd.R_below (rp_ HO549.out) hb)
          have n1_ := Aside0.mk (Kd.R_below (rp_ HO555.out) hb)
          have n2_ := Aside0.mk (Kd.R_below (rp_ HO558.out) hb)
          have n3_ := Aside0.mk (Kd.R_below (rp_ HO561.out) hb)
          have n4_ := Aside0.mk (Kd.R_below (rp_ HO568.out) hb)
          have n5_ := Aside0.mk (bb_ BK552.out hb)
          have n6_ := Aside0.mk (bb_ BK565.out hb)
          have n7_ := Aside0.mk (below_step (by repeat (first | (with_reducible first | exact HB.out | apply ba_ | apply bn_ | apply bd_ | refine below_set ?_ GE552.out | refine below_set ?_ GE565.out) | exact HB.out)) hb)
          clear HO549 HO555 HO558 HO561 HO568 BK552 BK565 HB
          have HO549 := n0_
          have HO555 := n1_
          have HO558 := n2_
          have HO561 := n3_
          have HO568 := n4_
          have BK552 := n5_
          have BK565 := n6_
          have HB := n7_
          clear n0_ n1_ n2_ n3_ n4_ n5_ n6_ n7_
          (try clear hb)
          (try clear hb2)
          (try clear hk)
          (try clear hi)
          obtain ⟨Ao41, co41, eo41⟩ := Kd.R_slice HO568.out
          (first | subst eo41 | (injection eo41 with f1_ f2_ f3_; have f4_ := f1_.symm; have f5_ := f3_.symm; clear f1_ f2_ f3_; subst f4_; subst f5_))
          refine hK.out _ _ ⟨bx_ BK565.out 0, bx_ BK565.out 1, HS2_, HS3_⟩ (fun hHeld => ?_)
          clear hK K
          refine norm_ (a' := ?_) ?_ ?_
          rotate_left
          ·
           show Act.put _ (some 47) _ = _
           simp only [fr_]
           rfl
          refine pu_ 11 48 ?_ (b_ 12 32) rfl rfl HT_.out ?_ ?_ ?_ ?_; rotate_left; intro w'; go_simp; with_reducible rfl; rotate_left; simp only [fr_]; rfl
          refine pu_ 12 49 ?_ (b_ 13 31) rfl rfl HT_.out ?_ ?_ ?_ ?_; rotate_left; intro w'; go_simp; with_reducible rfl; rotate_left; simp only [fr_]; rfl
          refine pu_ 13 50 ?_ (b_ 14 30) rfl rfl HT_.out ?_ ?_ ?_ ?_; rotate_left; intro w'; go_simp; with_reducible rfl; rotate_left; simp only [fr_]; rfl
          refine pu_ 14 51 ?_ (b_ 15 29) rfl rfl HT_.out ?_ ?_ ?_ ?_; rotate_left; intro w'; go_simp; with_reducible rfl; rotate_left; simp only [fr_]; rfl
          refine one_ (i := 15) (N := some 52) #[t_,t_,t_,t_,t_,t_,t_,t_,t_,t_,t_,t_,t_,t_,t_,t_,f_,f_,f_,f_,f_,f_,f_,f_,f_,f_,f_,f_,f_,f_,f_,f_,f_,f_,f_,f_,f_,f_,f_,f_,f_,f_,f_,f_] rfl rfl (one_of HT_.out (by kernel_rfl)) (by decide) (fun K hK => ?_)
          refine goes_ Try.func20 (by kernel_rfl) rfl #[.slice Ao41 t566.length co41] (by rfl) rfl rfl (by (try simp only [mp_]); first | done | rfl | (simp only [List.length_drop, List.length_take]; rfl)) ?_
          with_reducible refine (impl_HeapOk.calls k _ _ t566 true _ ?side1 ?side2 A29.out).mono ?_
          (case side1 => repeat (first | exact (Kd.R_reads' HO568.out).2.2 | (with_reducible first | refine ca_ ?_ _ | refine cn_ ?_ _ | refine cd_ ?_)))
          (case side2 => exact (Kd.R_reads' HO568.out).2.1)
          rintro e w42 ⟨rfl, hb⟩
          have HS2_ := (hb.cell (World.block_lt_of_cell? _ _ (hHeld.2.2.1))).trans (hHeld.2.2.1)
          have HS3_ := (hb.cell (World.block_lt_of_cell? _ _ (hHeld.2.2.2))).trans (hHeld.2.2.2)
          refine ⟨_, rfl, ?_⟩
          have n0_ := Aside0.mk (Kd.R_below (rp_ HO549.out) hb)
          have n1_ := Aside0.mk (Kd.R_below (rp_ HO555.out) hb)
          have n2_ := Aside0.mk (Kd.R_below (rp_ HO558.out) hb)
          have n3_ := Aside0.mk (Kd.R_below (rp_ HO561.out) hb)
          have n4_ := Aside0.mk (Kd.R_below (rp_ HO568.out) hb)
          have n5_ := Aside0.mk (bb_ BK552.out hb)
          have n6_ := Aside0.mk (bb_ BK565.out hb)
          have n7_ := Aside0.mk (below_step (by repeat (first | (with_reducible first | exact HB.out | apply ba_ | apply bn_ | apply bd_ | refine below_set ?_ GE552.out | refine below_set ?_ GE565.out) | exact HB.out)) hb)
          clear HO549 HO555 HO558 HO561 HO568 BK552 BK565 HB
          have HO549 := n0_
          have HO555 := n1_
          have HO558 := n2_
          have HO561 := n3_
          have HO568 := n4_
          have BK552 := n5_
          have BK565 := n6_
          have HB := n7_
          clear n0_ n1_ n2_ n3_ n4_ n5_ n6_ n7_
          (try clear hb)
          (try clear hb2)
          (try clear hk)
          (try clear hi)
          refine hK.out _ _ ⟨bx_ BK565.out 0, bx_ BK565.out 1, HS2_, HS3_⟩ (fun hHeld => ?_)
          clear hK K
          refine norm_ (a' := ?_) ?_ ?_
          rotate_left
          ·
           show Act.put _ (some 52) _ = _
           simp only [fr_]
           rfl
          refine pu_ 16 53 ?_ (b_ 17 27) rfl rfl HT_.out ?_ ?_ ?_ ?_; rotate_left; intro w'; go_simp; with_reducible rfl; rotate_left; simp only [fr_]; rfl
          refine pu_ 17 54 ?_ (b_ 18 26) rfl rfl HT_.out ?_ ?_ ?_ ?_; rotate_left; intro w'; go_simp; with_reducible rfl; rotate_left; simp only [fr_]; rfl
          refine pu_ 18 55 ?_ (b_ 19 25) rfl rfl HT_.out ?_ ?_ ?_ ?_; rotate_left; intro w'; go_simp; with_reducible rfl; rotate_left; simp only [fr_]; rfl
          refine pu_ 19 56 ?_ (b_ 20 24) rfl rfl HT_.out ?_ ?_ ?_ ?_; rotate_left; intro w'; go_simp; with_reducible rfl; rotate_left; simp only [fr_]; rfl
          refine pu_ 20 57 ?_ (b_ 21 23) rfl rfl HT_.out ?_ ?_ ?_ ?_; rotate_left; intro w'; go_simp; with_reducible rfl; rotate_left; simp only [fr_]; rfl
          refine pu_ 21 58 ?_ (b_ 22 22) rfl rfl HT_.out ?_ ?_ ?_ ?_; rotate_left; intro w'; go_simp; with_reducible rfl; rotate_left; simp only [fr_]; rfl
          refine pu_ 22 59 ?_ (b_ 23 21) rfl rfl HT_.out ?_ ?_ ?_ ?_; rotate_left; intro w'; go_simp; with_reducible rfl; rotate_left; simp only [fr_]; rfl
          refine pu_ 23 60 ?_ (b_ 24 20) rfl rfl HT_.out ?_ ?_ ?_ ?_; rotate_left; intro w'; go_simp; with_reducible rfl; rotate_left; simp only [fr_]; rfl
          refine pu_ 24 61 ?_ (b_ 25 19) rfl rfl HT_.out ?_ ?_ ?_ ?_; rotate_left; intro w'; go_simp; with_reducible rfl; rotate_left; simp only [fr_]; rfl
          refine pu_ 25 62 ?_ (b_ 26 18) rfl rfl HT_.out ?_ ?_ ?_ ?_; rotate_left; intro w'; go_simp; with_reducible rfl; rotate_left; simp only [fr_]; rfl
          refine pu_ 26 63 ?_ (b_ 27 17) rfl rfl HT_.out ?_ ?_ ?_ ?_; rotate_left; intro w'; go_simp; with_reducible rfl; rotate_left; simp only [fr_]; rfl
          refine pu_ 27 64 ?_ (b_ 28 16) rfl rfl HT_.out ?_ ?_ ?_ ?_; rotate_left; intro w'; go_simp; with_reducible rfl; rotate_left; simp only [fr_]; rfl
          refine pu_ 28 65 ?_ (b_ 29 15) rfl rfl HT_.out ?_ ?_ ?_ ?_; rotate_left; intro w'; go_simp; with_reducible rfl; rotate_left; simp only [fr_]; rfl
          refine pu_ 29 66 ?_ (b_ 30 14) rfl rfl HT_.out ?_ ?_ ?_ ?_; rotate_left; intro w'; go_simp; with_reducible rfl; rotate_left; simp only [fr_]; rfl
          refine pu_ 30 67 ?_ (b_ 31 13) rfl rfl HT_.out ?_ ?_ ?_ ?_; rotate_left; intro w'; go_simp; with_reducible rfl; rotate_left; simp only [fr_]; rfl
          refine pu_ 31 68 ?_ (b_ 32 12) rfl rfl HT_.out ?_ ?_ ?_ ?_; rotate_left; intro w'; go_simp; with_reducible rfl; rotate_left; simp only [fr_]; rfl
          refine pu_ 32 69 ?_ (b_ 33 11) rfl rfl HT_.out ?_ ?_ ?_ ?_; rotate_left; intro w'; go_simp; with_reducible rfl; rotate_left; simp only [fr_]; rfl
          refine pu_ 33 70 ?_ (b_ 34 10) rfl rfl HT_.out ?_ ?_ ?_ ?_; rotate_left; intro w'; go_simp; with_reducible rfl; rotate_left; simp only [fr_]; rfl
          refine pu_ 34 71 ?_ (b_ 35 9) rfl rfl HT_.out ?_ ?_ ?_ ?_; rotate_left; intro w'; go_simp; with_reducible rfl; rotate_left; simp only [fr_]; rfl
          refine pu_ 35 72 ?_ (b_ 36 8) rfl rfl HT_.out ?_ ?_ ?_ ?_; rotate_left; intro w'; go_simp; with_reducible rfl; rotate_left; simp only [fr_]; rfl
          refine pu_ 36 73 ?_ (b_ 37 7) rfl rfl HT_.out ?_ ?_ ?_ ?_; rotate_left; intro w'; go_simp; with_reducible rfl; rotate_left; simp only [fr_]; rfl
          refine pu_ 37 74 ?_ (b_ 38 6) rfl rfl HT_.out ?_ ?_ ?_ ?_; rotate_left; intro w'; go_simp; with_reducible rfl; rotate_left; simp only [fr_]; rfl
          refine pu_ 39 76 ?_ #[t_,t_,t_,t_,t_,t_,t_,t_,t_,t_,t_,t_,t_,t_,t_,t_,t_,t_,t_,t_,t_,t_,t_,t_,t_,t_,t_,t_,t_,t_,t_,t_,t_,t_,t_,t_,t_,t_,f_,t_,f_,f_,f_,f_] rfl rfl HT_.out ?_ ?_ ?_ ?_; rotate_left; intro w'; go_simp; with_reducible rfl; rotate_left; simp only [fr_]; rfl
          refine pu_ 40 77 ?_ #[t_,t_,t_,t_,t_,t_,t_,t_,t_,t_,t_,t_,t_,t_,t_,t_,t_,t_,t_,t_,t_,t_,t_,t_,t_,t_,t_,t_,t_,t_,t_,t_,t_,t_,t_,t_,t_,t_,f_,t_,t_,f_,f_,f_] rfl rfl HT_.out ?_ ?_ ?_ ?_; rotate_left; intro w'; go_simp; with_reducible rfl; rotate_left; simp only [fr_]; rfl
          refine take_ (i := 38) (N := some 75) (v := ?_) (a' := ?_) #[t_,t_,t_,t_,t_,t_,t_,t_,t_,t_,t_,t_,t_,t_,t_,t_,t_,t_,t_,t_,t_,t_,t_,t_,t_,t_,t_,t_,t_,t_,t_,t_,t_,t_,t_,t_,t_,t_,t_,t_,t_,f_,f_,f_] rfl rfl (take_ofW HT_.out HW_.out (by kernel_rfl)) (fun _ _ _ h => h) (Or.inl ⟨by rfl, ?_⟩) hHeld ?_ ?_
          rotate_left
          ·
           rintro w' ⟨s0, s1, s2, s3⟩
           go_simp
           with_reducible rfl
          rotate_left
          ·
           simp only [fr_]
           rfl
          refine take_ (i := 41) (N := some 78) (v := ?_) (a' := ?_) #[t_,t_,t_,t_,t_,t_,t_,t_,t_,t_,t_,t_,t_,t_,t_,t_,t_,t_,t_,t_,t_,t_,t_,t_,t_,t_,t_,t_,t_,t_,t_,t_,t_,t_,t_,t_,t_,t_,t_,t_,t_,t_,f_,f_] rfl rfl (take_ofW HT_.out HW_.out (by kernel_rfl)) (fun _ _ _ h => h) (Or.inl ⟨by rfl, ?_⟩) hHeld ?_ ?_
          rotate_left
          ·
           rintro w' ⟨s0, s1, s2, s3⟩
           go_simp
           with_reducible rfl
          rotate_left
          ·
           simp only [fr_]
           rfl
          refine pu_ 42 79 ?_ (b_ 43 1) rfl rfl HT_.out ?_ ?_ ?_ ?_; rotate_left; intro w'; go_simp; with_reducible rfl; rotate_left; simp only [fr_]; rfl
          refine pu_ 43 80 ?_ (b_ 44 0) rfl rfl HT_.out ?_ ?_ ?_ ?_; rotate_left; intro w'; go_simp; with_reducible rfl; rotate_left; simp only [fr_]; rfl
          refine done_ (done_of HT_.out (by kernel_rfl)) ?_
          try go_wp2
          go_meet
          case rel => exact ⟨_, ((!(t562 == ((rd_T25 t556 0).f0)) || (!(t563 == ((rd_T25 t556 0).f1))))), (by first | rfl | (simp; done) | (simp [*]; done)), H', ⟨by first | omega | exact Nat.le_refl _⟩, ⟨by (with_reducible repeat (first | apply Kd.R_alloc | apply Kd.R_drewN | apply Kd.R_drew)); exact Kd.R_mono HO555.out (fun _ hk => ⟨hk.1.1.1.2, ⟨hk.1.1.2, ⟨hk.2, ⟨hk.1.1.1.1.2, hk.1.2⟩⟩⟩⟩)⟩, ⟨by (with_reducible repeat (first | apply Kd.R_alloc | apply Kd.R_drewN | apply Kd.R_drew)); exact Kd.R_mono HO558.out (fun _ hk => ⟨hk.1.1.1.1.2, ⟨hk.1.1.2, ⟨hk.2, ⟨hk.1.1.1.2, hk.1.2⟩⟩⟩⟩)⟩, ⟨by (with_reducible repeat (first | apply Kd.R_alloc | apply Kd.R_drewN | apply Kd.R_drew)); exact Kd.R_mono HO561.out (fun _ hk => ⟨hk.1.1.1.1.2, ⟨hk.1.1.1.2, ⟨hk.2, ⟨hk.1.1.2, hk.1.2⟩⟩⟩⟩)⟩, ⟨by (with_reducible repeat (first | apply Kd.R_alloc | apply Kd.R_drewN | apply Kd.R_drew)); exact Kd.R_mono HO568.out (fun _ hk => ⟨hk.1.1.1.1.2, ⟨hk.1.1.1.2, ⟨hk.1.1.2, ⟨hk.1.2, hk.2⟩⟩⟩⟩)⟩, ⟨by (with_reducible repeat (first | refine kn_ ?_ _ | refine kd_ ?_ | refine ka_ ?_ _)); exact BK552.out⟩, ⟨by (with_reducible repeat (first | refine kn_ ?_ _ | refine kd_ ?_ | refine ka_ ?_ _)); exact BK565.out⟩, ⟨by repeat (first | (with_reducible first | exact HB.out | apply ba_ | apply bn_ | apply bd_ | refine below_set ?_ GE552.out | refine below_set ?_ GE565.out) | exact HB.out)⟩⟩
         rw [if_neg c34] at H
         exact absurd H (by simp)
        rw [if_neg c33] at H
        have c33b0 : ((t559.length : Int) == (t547.length : Int)) = false := beq_eq_false_iff_ne.mpr c33
        have c33b1 : ((t559.length : Int) != (t547.length : Int)) = true := bne_iff_ne.mpr c33
        have c33b2 : (t559.length == t547.length) = false := by first | simpa using c33 | (simp at c33 ⊢; omega)
        have H' := Aside0.mk H
        clear H
        try go_wp2
        have n0_ := Aside0.mk (Kd.R_drew HO549.out)
        have n1_ := Aside0.mk (Kd.R_drew HO555.out)
        have n2_ := Aside0.mk (Kd.R_drew HO558.out)
        have n3_ := Aside0.mk (Kd.R_drew HO561.out)
        have n4_ := Aside0.mk (Kd.R_drew HO568.out)
        have n5_ := Aside0.mk (blk_drew BK552.out)
        have n6_ := Aside0.mk (blk_drew BK565.out)
        have n7_ := Aside0.mk (bd_ HB.out)
        clear HO549 HO555 HO558 HO561 HO568 BK552 BK565 HB
        have HO549 := n0_
        have HO555 := n1_
        have HO558 := n2_
        have HO561 := n3_
        have HO568 := n4_
        have BK552 := n5_
        have BK565 := n6_
        have HB := n7_
        clear n0_ n1_ n2_ n3_ n4_ n5_ n6_ n7_
        refine start_ (n := 44) (S := fun w' => True) (ds := []) #[f_,f_,f_,f_,f_,f_,f_,f_,f_,f_,f_,f_,f_,f_,f_,f_,f_,f_,f_,f_,f_,f_,f_,f_,f_,f_,f_,f_,f_,f_,f_,f_,f_,f_,f_,f_,f_,f_,f_,f_,f_,f_,f_,f_] (by kernel_rfl) rfl rfl trivial (fun hHeld => ?_); refine with_tabW laws_FnHeaps.tab8 laws_FnHeaps.bits8 (fun HT_ HW_ => ?_)
        generalize w22.drew = w43 at HO549 HO555 HO558 HO561 HO568 BK552 BK565 HB hHeld ⊢
        refine pu_ 0 37 ?_ (b_ 1 43) rfl rfl HT_.out ?_ ?_ ?_ ?_; rotate_left; intro w'; go_simp; with_reducible rfl; rotate_left; simp only [fr_]; rfl
        refine one_ (i := 1) (N := some 38) #[t_,t_,f_,f_,f_,f_,f_,f_,f_,f_,f_,f_,f_,f_,f_,f_,f_,f_,f_,f_,f_,f_,f_,f_,f_,f_,f_,f_,f_,f_,f_,f_,f_,f_,f_,f_,f_,f_,f_,f_,f_,f_,f_,f_] rfl rfl (one_of HT_.out (by kernel_rfl)) (by decide) (fun K hK => ?_)
        refine goes_ Try.func20 (by kernel_rfl) rfl #[.slice Ao13 t547.length co13] (by rfl) rfl rfl (by (try simp only [mp_]); first | done | rfl | (simp only [List.length_drop, List.length_take]; rfl)) ?_
        with_reducible refine (impl_HeapOk.calls k _ _ t547 true _ ?side1 ?side2 A23.out).mono ?_
        (case side1 => repeat (first | exact (Kd.R_reads' HO549.out).2.2 | (with_reducible first | refine ca_ ?_ _ | refine cn_ ?_ _ | refine cd_ ?_)))
        (case side2 => exact (Kd.R_reads' HO549.out).2.1)
        rintro e w44 ⟨rfl, hb⟩
        refine ⟨_, rfl, ?_⟩
        have n0_ := Aside0.mk (Kd.R_below (rp_ HO549.out) hb)
        have n1_ := Aside0.mk (Kd.R_below (rp_ HO555.out) hb)
        have n2_ := Aside0.mk (Kd.R_below (rp_ HO558.out) hb)
        have n3_ := Aside0.mk (Kd.R_below (rp_ HO561.out) hb)
        have n4_ := Aside0.mk (Kd.R_below (rp_ HO568.out) hb)
        have n5_ := Aside0.mk (bb_ BK552.out hb)
        have n6_ := Aside0.mk (bb_ BK565.out hb)
        have n7_ := Aside0.mk (below_step (by repeat (first | (with_reducible first | exact HB.out | apply ba_ | apply bn_ | apply bd_ | refine below_set ?_ GE552.out | refine below_set ?_ GE565.out) | exact HB.out)) hb)
        clear HO549 HO555 HO558 HO561 HO568 BK552 BK565 HB
        have HO549 := n0_
        have HO555 := n1_
        have HO558 := n2_
        have HO561 := n3_
        have HO568 := n4_
        have BK552 := n5_
        have BK565 := n6_
        have HB := n7_
        clear n0_ n1_ n2_ n3_ n4_ n5_ n6_ n7_
        (try clear hb)
        (try clear hb2)
        (try clear hk)
        (try clear hi)
        refine hK.out _ _ trivial (fun hHeld => ?_)
        clear hK K
        refine norm_ (a' := ?_) ?_ ?_
        rotate_left
        ·
         show Act.put _ (some 38) _ = _
         simp only [fr_]
         rfl
        refine pu_ 2 39 ?_ (b_ 3 41) rfl rfl HT_.out ?_ ?_ ?_ ?_; rotate_left; intro w'; go_simp; with_reducible rfl; rotate_left; simp only [fr_]; rfl
        refine pu_ 3 40 ?_ (b_ 4 40) rfl rfl HT_.out ?_ ?_ ?_ ?_; rotate_left; intro w'; go_simp; with_reducible rfl; rotate_left; simp only [fr_]; rfl
        refine pu_ 4 41 ?_ (b_ 5 39) rfl rfl HT_.out ?_ ?_ ?_ ?_; rotate_left; intro w'; go_simp; with_reducible rfl; rotate_left; simp only [fr_]; rfl
        refine one_ (i := 5) (N := some 42) #[t_,t_,t_,t_,t_,t_,f_,f_,f_,f_,f_,f_,f_,f_,f_,f_,f_,f_,f_,f_,f_,f_,f_,f_,f_,f_,f_,f_,f_,f_,f_,f_,f_,f_,f_,f_,f_,f_,f_,f_,f_,f_,f_,f_] rfl rfl (one_of HT_.out (by kernel_rfl)) (by decide) (fun K hK => ?_)
        refine goes_ Try.func20 (by kernel_rfl) rfl #[.slice Ao15 t553.length co15] (by rfl) rfl rfl (by (try simp only [mp_]); first | done | rfl | (simp only [List.length_drop, List.length_take]; rfl)) ?_
        with_reducible refine (impl_HeapOk.calls k _ _ t553 true _ ?side1 ?side2 A25.out).mono ?_
        (case side1 => repeat (first | exact (Kd.R_reads' HO555.out).2.2 | (with_reducible first | refine ca_ ?_ _ | refine cn_ ?_ _ | refine cd_ ?_)))
        (case side2 => exact (Kd.R_reads' HO555.out).2.1)
        rintro e w45 ⟨rfl, hb⟩
        refine ⟨_, rfl, ?_⟩
        have n0_ := Aside0.mk (Kd.R_below (rp_ HO549.out) hb)
        have n1_ := Aside0.mk (Kd.R_below (rp_ HO555.out) hb)
        have n2_ := Aside0.mk (Kd.R_below (rp_ HO558.out) hb)
        have n3_ := Aside0.mk (Kd.R_below (rp_ HO561.out) hb)
        have n4_ := Aside0.mk (Kd.R_below (rp_ HO568.out) hb)
        have n5_ := Aside0.mk (bb_ BK552.out hb)
        have n6_ := Aside0.mk (bb_ BK565.out hb)
        have n7_ := Aside0.mk (below_step (by repeat (first | (with_reducible first | exact HB.out | apply ba_ | apply bn_ | apply bd_ | refine below_set ?_ GE552.out | refine below_set ?_ GE565.out) | exact HB.out)) hb)
        clear HO549 HO555 HO558 HO561 HO568 BK552 BK565 HB
        have HO549 := n0_
        have HO555 := n1_
        have HO558 := n2_
        have HO561 := n3_
        have HO568 := n4_
        have BK552 := n5_
        have BK565 := n6_
        have HB := n7_
        clear n0_ n1_ n2_ n3_ n4_ n5_ n6_ n7_
        (try clear hb)
        (try clear hb2)
        (try clear hk)
        (try clear hi)
        obtain ⟨Ao46, co46, eo46⟩ := Kd.R_slice HO561.out
        (first | subst eo46 | (injection eo46 with f1_ f2_ f3_; have f4_ := f1_.symm; have f5_ := f3_.symm; clear f1_ f2_ f3_; subst f4_; subst f5_))
        refine hK.out _ _ trivial (fun hHeld => ?_)
        clear hK K
        refine norm_ (a' := ?_) ?_ ?_
        rotate_left
        ·
         show Act.put _ (some 42) _ = _
         simp only [fr_]
         rfl
        refine pu_ 6 43 ?_ (b_ 7 37) rfl rfl HT_.out ?_ ?_ ?_ ?_; rotate_left; intro w'; go_simp; with_reducible rfl; rotate_left; simp only [fr_]; rfl
        refine pu_ 7 44 ?_ (b_ 8 36) rfl rfl HT_.out ?_ ?_ ?_ ?_; rotate_left; intro w'; go_simp; with_reducible rfl; rotate_left; simp only [fr_]; rfl
        refine pu_ 8 45 ?_ (b_ 9 35) rfl rfl HT_.out ?_ ?_ ?_ ?_; rotate_left; intro w'; go_simp; with_reducible rfl; rotate_left; simp only [fr_]; rfl
        refine pu_ 9 46 ?_ (b_ 10 34) rfl rfl HT_.out ?_ ?_ ?_ ?_; rotate_left; intro w'; go_simp; with_reducible rfl; rotate_left; simp only [fr_]; rfl
        refine one_ (i := 10) (N := some 47) #[t_,t_,t_,t_,t_,t_,t_,t_,t_,t_,t_,f_,f_,f_,f_,f_,f_,f_,f_,f_,f_,f_,f_,f_,f_,f_,f_,f_,f_,f_,f_,f_,f_,f_,f_,f_,f_,f_,f_,f_,f_,f_,f_,f_] rfl rfl (one_of HT_.out (by kernel_rfl)) (by decide) (fun K hK => ?_)
        refine goes_ Try.func20 (by kernel_rfl) rfl #[.slice Ao46 t559.length co46] (by rfl) rfl rfl (by (try simp only [mp_]); first | done | rfl | (simp only [List.length_drop, List.length_take]; rfl)) ?_
        with_reducible refine (impl_HeapOk.calls k _ _ t559 true _ ?side1 ?side2 A27.out).mono ?_
        (case side1 => repeat (first | exact (Kd.R_reads' HO561.out).2.2 | (with_reducible first | refine ca_ ?_ _ | refine cn_ ?_ _ | refine cd_ ?_)))
        (case side2 => exact (Kd.R_reads' HO561.out).2.1)
        rintro e w47 ⟨rfl, hb⟩
        refine ⟨_, rfl, ?_⟩
        have n0_ := Aside0.mk (Kd.R_below (rp_ HO549.out) hb)
        have n1_ := Aside0.mk (Kd.R_below (rp_ HO555.out) hb)
        have n2_ := Aside0.mk (Kd.R_below (rp_ HO558.out) hb)
        have n3_ := Aside0.mk (Kd.R_below (rp_ HO561.out) hb)
        have n4_ := Aside0.mk (Kd.R_below (rp_ HO568.out) hb)
        have n5_ := Aside0.mk (bb_ BK552.out hb)
        have n6_ := Aside0.mk (bb_ BK565.out hb)
        have n7_ := Aside0.mk (below_step (by repeat (first | (with_reducible first | exact HB.out | apply ba_ | apply bn_ | apply bd_ | refine below_set ?_ GE552.out | refine below_set ?_ GE565.out) | exact HB.out)) hb)
        clear HO549 HO555 HO558 HO561 HO568 BK552 BK565 HB
        have HO549 := n0_
        have HO555 := n1_
        have HO558 := n2_
        have HO561 := n3_
        have HO568 := n4_
        have BK552 := n5_
        have BK565 := n6_
        have HB := n7_
        clear n0_ n1_ n2_ n3_ n4_ n5_ n6_ n7_
        (try clear hb)
        (try clear hb2)
        (try clear hk)
        (try clear hi)
        obtain ⟨Ao48, co48, eo48⟩ := Kd.R_slice HO568.out
        (first | subst eo48 | (injection eo48 with f1_ f2_ f3_; have f4_ := f1_.symm; have f5_ := f3_.symm; clear f1_ f2_ f3_; subst f4_; subst f5_))
        refine hK.out _ _ trivial (fun hHeld => ?_)
        clear hK K
        refine norm_ (a' := ?_) ?_ ?_
        rotate_left
        ·
         show Act.put _ (some 47) _ = _
         simp only [fr_]
         rfl
        refine pu_ 11 48 ?_ (b_ 12 32) rfl rfl HT_.out ?_ ?_ ?_ ?_; rotate_left; intro w'; go_simp; with_reducible rfl; rotate_left; simp only [fr_]; rfl
        refine pu_ 12 49 ?_ (b_ 13 31) rfl rfl HT_.out ?_ ?_ ?_ ?_; rotate_left; intro w'; go_simp; with_reducible rfl; rotate_left; simp only [fr_]; rfl
        refine pu_ 13 50 ?_ (b_ 14 30) rfl rfl HT_.out ?_ ?_ ?_ ?_; rotate_left; intro w'; go_simp; with_reducible rfl; rotate_left; simp only [fr_]; rfl
        refine pu_ 14 51 ?_ (b_ 15 29) rfl rfl HT_.out ?_ ?_ ?_ ?_; rotate_left; intro w'; go_simp; with_reducible rfl; rotate_left; simp only [fr_]; rfl
        refine one_ (i := 15) (N := some 52) #[t_,t_,t_,t_,t_,t_,t_,t_,t_,t_,t_,t_,t_,t_,t_,t_,f_,f_,f_,f_,f_,f_,f_,f_,f_,f_,f_,f_,f_,f_,f_,f_,f_,f_,f_,f_,f_,f_,f_,f_,f_,f_,f_,f_] rfl rfl (one_of HT_.out (by kernel_rfl)) (by decide) (fun K hK => ?_)
        refine goes_ Try.func20 (by kernel_rfl) rfl #[.slice Ao48 t566.length co48] (by rfl) rfl rfl (by (try simp only [mp_]); first | done | rfl | (simp only [List.length_drop, List.length_take]; rfl)) ?_
        with_reducible refine (impl_HeapOk.calls k _ _ t566 true _ ?side1 ?side2 A29.out).mono ?_
        (case side1 => repeat (first | exact (Kd.R_reads' HO568.out).2.2 | (with_reducible first | refine ca_ ?_ _ | refine cn_ ?_ _ | refine cd_ ?_)))
        (case side2 => exact (Kd.R_reads' HO568.out).2.1)
        rintro e w49 ⟨rfl, hb⟩
        refine ⟨_, rfl, ?_⟩
        have n0_ := Aside0.mk (Kd.R_below (rp_ HO549.out) hb)
        have n1_ := Aside0.mk (Kd.R_below (rp_ HO555.out) hb)
        have n2_ := Aside0.mk (Kd.R_below (rp_ HO558.out) hb)
        have n3_ := Aside0.mk (Kd.R_below (rp_ HO561.out) hb)
        have n4_ := Aside0.mk (Kd.R_below (rp_ HO568.out) hb)
        have n5_ := Aside0.mk (bb_ BK552.out hb)
        have n6_ := Aside0.mk (bb_ BK565.out hb)
        have n7_ := Aside0.mk (below_step (by repeat (first | (with_reducible first | exact HB.out | apply ba_ | apply bn_ | apply bd_ | refine below_set ?_ GE552.out | refine below_set ?_ GE565.out) | exact HB.out)) hb)
        clear HO549 HO555 HO558 HO561 HO568 BK552 BK565 HB
        have HO549 := n0_
        have HO555 := n1_
        have HO558 := n2_
        have HO561 := n3_
        have HO568 := n4_
        have BK552 := n5_
        have BK565 := n6_
        have HB := n7_
        clear n0_ n1_ n2_ n3_ n4_ n5_ n6_ n7_
        (try clear hb)
        (try clear hb2)
        (try clear hk)
        (try clear hi)
        obtain ⟨Ao50, co50, eo50⟩ := Kd.R_slice HO558.out
        (first | subst eo50 | (injection eo50 with f1_ f2_ f3_; have f4_ := f1_.symm; have f5_ := f3_.symm; clear f1_ f2_ f3_; subst f4_; subst f5_))
        refine hK.out _ _ trivial (fun hHeld => ?_)
        clear hK K
        refine norm_ (a' := ?_) ?_ ?_
        rotate_left
        ·
         show Act.put _ (some 52) _ = _
         simp only [fr_]
         rfl
        refine pu_ 16 53 ?_ (b_ 17 27) rfl rfl HT_.out ?_ ?_ ?_ ?_; rotate_left; intro w'; go_simp; with_reducible rfl; rotate_left; simp only [fr_]; rfl
        refine pu_ 17 54 ?_ (b_ 18 26) rfl rfl HT_.out ?_ ?_ ?_ ?_; rotate_left; intro w'; go_simp; with_reducible rfl; rotate_left; simp only [fr_]; rfl
        refine pu_ 18 55 ?_ (b_ 19 25) rfl rfl HT_.out ?_ ?_ ?_ ?_; rotate_left; intro w'; go_simp; with_reducible rfl; rotate_left; simp only [fr_]; rfl
        refine pu_ 19 56 ?_ (b_ 20 24) rfl rfl HT_.out ?_ ?_ ?_ ?_; rotate_left; intro w'; go_simp; with_reducible rfl; rotate_left; simp only [fr_]; rfl
        refine pu_ 20 57 ?_ (b_ 21 23) rfl rfl HT_.out ?_ ?_ ?_ ?_; rotate_left; intro w'; go_simp; with_reducible rfl; rotate_left; simp only [fr_]; rfl
        refine pu_ 21 58 ?_ (b_ 22 22) rfl rfl HT_.out ?_ ?_ ?_ ?_; rotate_left; intro w'; go_simp; with_reducible rfl; rotate_left; simp only [fr_]; rfl
        refine pu_ 22 59 ?_ (b_ 23 21) rfl rfl HT_.out ?_ ?_ ?_ ?_; rotate_left; intro w'; go_simp; with_reducible rfl; rotate_left; simp only [fr_]; rfl
        refine pu_ 23 60 ?_ (b_ 24 20) rfl rfl HT_.out ?_ ?_ ?_ ?_; rotate_left; intro w'; go_simp; with_reducible rfl; rotate_left; simp only [fr_]; rfl
        refine pu_ 24 61 ?_ (b_ 25 19) rfl rfl HT_.out ?_ ?_ ?_ ?_; rotate_left; intro w'; go_simp; with_reducible rfl; rotate_left; simp only [fr_]; rfl
        refine pu_ 25 62 ?_ (b_ 26 18) rfl rfl HT_.out ?_ ?_ ?_ ?_; rotate_left; intro w'; go_simp; with_reducible rfl; rotate_left; simp only [fr_]; rfl
        refine pu_ 26 63 ?_ (b_ 27 17) rfl rfl HT_.out ?_ ?_ ?_ ?_; rotate_left; intro w'; go_simp; with_reducible rfl; rotate_left; simp only [fr_]; rfl
        refine pu_ 27 64 ?_ (b_ 28 16) rfl rfl HT_.out ?_ ?_ ?_ ?_; rotate_left; intro w'; go_simp; with_reducible rfl; rotate_left; simp only [fr_]; rfl
        refine pu_ 28 65 ?_ (b_ 29 15) rfl rfl HT_.out ?_ ?_ ?_ ?_; rotate_left; intro w'; go_simp; with_reducible rfl; rotate_left; simp only [fr_]; rfl
        refine pu_ 29 66 ?_ (b_ 30 14) rfl rfl HT_.out ?_ ?_ ?_ ?_; rotate_left; intro w'; go_simp; with_reducible rfl; rotate_left; simp only [fr_]; rfl
        refine pu_ 30 67 ?_ (b_ 31 13) rfl rfl HT_.out ?_ ?_ ?_ ?_; rotate_left; intro w'; go_simp; with_reducible rfl; rotate_left; simp only [fr_]; rfl
        refine pu_ 31 68 ?_ (b_ 32 12) rfl rfl HT_.out ?_ ?_ ?_ ?_; rotate_left; intro w'; go_simp; with_reducible rfl; rotate_left; simp only [fr_]; rfl
        refine pu_ 32 69 ?_ (b_ 33 11) rfl rfl HT_.out ?_ ?_ ?_ ?_; rotate_left; intro w'; go_simp; with_reducible rfl; rotate_left; simp only [fr_]; rfl
        refine pu_ 33 70 ?_ (b_ 34 10) rfl rfl HT_.out ?_ ?_ ?_ ?_; rotate_left; intro w'; go_simp; with_reducible rfl; rotate_left; simp only [fr_]; rfl
        refine pu_ 34 71 ?_ (b_ 35 9) rfl rfl HT_.out ?_ ?_ ?_ ?_; rotate_left; intro w'; go_simp; with_reducible rfl; rotate_left; simp only [fr_]; rfl
        refine pu_ 35 72 ?_ (b_ 36 8) rfl rfl HT_.out ?_ ?_ ?_ ?_; rotate_left; intro w'; go_simp; with_reducible rfl; rotate_left; simp only [fr_]; rfl
        refine pu_ 36 73 ?_ (b_ 37 7) rfl rfl HT_.out ?_ ?_ ?_ ?_; rotate_left; intro w'; go_simp; with_reducible rfl; rotate_left; simp only [fr_]; rfl
        refine pu_ 37 74 ?_ (b_ 38 6) rfl rfl HT_.out ?_ ?_ ?_ ?_; rotate_left; intro w'; go_simp; with_reducible rfl; rotate_left; simp only [fr_]; rfl
        refine pv_ 38 75 ?_ (b_ 39 5) rfl rfl HT_.out ?_ ?_; rotate_left; simp only [fr_]; rfl
        refine pv_ 39 76 ?_ (b_ 40 4) rfl rfl HT_.out ?_ ?_; rotate_left; simp only [fr_]; rfl
        refine pv_ 40 77 ?_ (b_ 41 3) rfl rfl HT_.out ?_ ?_; rotate_left; simp only [fr_]; rfl
        refine pv_ 41 78 ?_ (b_ 42 2) rfl rfl HT_.out ?_ ?_; rotate_left; simp only [fr_]; rfl
        refine pv_ 42 79 ?_ (b_ 43 1) rfl rfl HT_.out ?_ ?_; rotate_left; simp only [fr_]; rfl
        refine pu_ 43 80 ?_ (b_ 44 0) rfl rfl HT_.out ?_ ?_ ?_ ?_; rotate_left; intro w'; go_simp; with_reducible rfl; rotate_left; simp only [fr_]; rfl
        refine done_ (done_of HT_.out (by kernel_rfl)) ?_
        try go_wp2
        go_meet
        case rel => exact ⟨_, (true), (by first | rfl | (simp; done) | (simp [*]; done)), H', ⟨by first | omega | exact Nat.le_refl _⟩, ⟨by (with_reducible repeat (first | apply Kd.R_alloc | apply Kd.R_drewN | apply Kd.R_drew)); exact Kd.R_mono HO555.out (fun _ hk => ⟨hk.1.1.1.2, ⟨hk.1.1.2, ⟨hk.2, ⟨hk.1.1.1.1.2, hk.1.2⟩⟩⟩⟩)⟩, ⟨by (with_reducible repeat (first | apply Kd.R_alloc | apply Kd.R_drewN | apply Kd.R_drew)); exact Kd.R_mono HO558.out (fun _ hk => ⟨hk.1.1.1.1.2, ⟨hk.1.1.2, ⟨hk.2, ⟨hk.1.1.1.2, hk.1.2⟩⟩⟩⟩)⟩, ⟨by (with_reducible repeat (first | apply Kd.R_alloc | apply Kd.R_drewN | apply Kd.R_drew)); exact Kd.R_mono HO561.out (fun _ hk => ⟨hk.1.1.1.1.2, ⟨hk.1.1.1.2, ⟨hk.2, ⟨hk.1.1.2, hk.1.2⟩⟩⟩⟩)⟩, ⟨by (with_reducible repeat (first | apply Kd.R_alloc | apply Kd.R_drewN | apply Kd.R_drew)); exact Kd.R_mono HO568.out (fun _ hk => ⟨hk.1.1.1.1.2, ⟨hk.1.1.1.2, ⟨hk.1.1.2, ⟨hk.1.2, hk.2⟩⟩⟩⟩)⟩, ⟨by (with_reducible repeat (first | refine kn_ ?_ _ | refine kd_ ?_ | refine ka_ ?_ _)); exact BK552.out⟩, ⟨by (with_reducible repeat (first | refine kn_ ?_ _ | refine kd_ ?_ | refine ka_ ?_ _)); exact BK565.out⟩, ⟨by repeat (first | (with_reducible first | exact HB.out | apply ba_ | apply bn_ | apply bd_ | refine below_set ?_ GE552.out | refine below_set ?_ GE565.out) | exact HB.out)⟩⟩
       rw [if_neg c32] at H
       have c32b0 : ((t556.length : Int) == (wrap64 ((t547.length : Int) + 1))) = false := beq_eq_false_iff_ne.mpr c32
       have c32b1 : ((t556.length : Int) != (wrap64 ((t547.length : Int) + 1))) = true := bne_iff_ne.mpr c32
       (first | rw [c32b0] | (simp only [i64_w, i32_w]; rw [c32b0]) | skip)
       have H' := Aside0.mk H
       clear H
       try go_wp2
       have n0_ := Aside0.mk (Kd.R_drew HO549.out)
       have n1_ := Aside0.mk (Kd.R_drew HO555.out)
       have n2_ := Aside0.mk (Kd.R_drew HO558.out)
       have n3_ := Aside0.mk (Kd.R_drew HO561.out)
       have n4_ := Aside0.mk (Kd.R_drew HO568.out)
       have n5_ := Aside0.mk (blk_drew BK552.out)
       have n6_ := Aside0.mk (blk_drew BK565.out)
       have n7_ := Aside0.mk (bd_ HB.out)
       clear HO549 HO555 HO558 HO561 HO568 BK552 BK565 HB
       have HO549 := n0_
       have HO555 := n1_
       have HO558 := n2_
       have HO561 := n3_
       have HO568 := n4_
       have BK552 := n5_
       have BK565 := n6_
       have HB := n7_
       clear n0_ n1_ n2_ n3_ n4_ n5_ n6_ n7_
       refine start_ (n := 44) (S := fun w' => True) (ds := []) #[f_,f_,f_,f_,f_,f_,f_,f_,f_,f_,f_,f_,f_,f_,f_,f_,f_,f_,f_,f_,f_,f_,f_,f_,f_,f_,f_,f_,f_,f_,f_,f_,f_,f_,f_,f_,f_,f_,f_,f_,f_,f_,f_,f_] (by kernel_rfl) rfl rfl trivial (fun hHeld => ?_); refine with_tabW laws_FnHeaps.tab8 laws_FnHeaps.bits8 (fun HT_ HW_ => ?_)
       generalize w22.drew = w51 at HO549 HO555 HO558 HO561 HO568 BK552 BK565 HB hHeld ⊢
       refine pu_ 0 37 ?_ (b_ 1 43) rfl rfl HT_.out ?_ ?_ ?_ ?_; rotate_left; intro w'; go_simp; with_reducible rfl; rotate_left; simp only [fr_]; rfl
       refine one_ (i := 1) (N := some 38) #[t_,t_,f_,f_,f_,f_,f_,f_,f_,f_,f_,f_,f_,f_,f_,f_,f_,f_,f_,f_,f_,f_,f_,f_,f_,f_,f_,f_,f_,f_,f_,f_,f_,f_,f_,f_,f_,f_,f_,f_,f_,f_,f_,f_] rfl rfl (one_of HT_.out (by kernel_rfl)) (by decide) (fun K hK => ?_)
       refine goes_ Try.func20 (by kernel_rfl) rfl #[.slice Ao13 t547.length co13] (by rfl) rfl rfl (by (try simp only [mp_]); first | done | rfl | (simp only [List.length_drop, List.length_take]; rfl)) ?_
       with_reducible refine (impl_HeapOk.calls k _ _ t547 true _ ?side1 ?side2 A23.out).mono ?_
       (case side1 => repeat (first | exact (Kd.R_reads' HO549.out).2.2 | (with_reducible first | refine ca_ ?_ _ | refine cn_ ?_ _ | refine cd_ ?_)))
       (case side2 => exact (Kd.R_reads' HO549.out).2.1)
       rintro e w52 ⟨rfl, hb⟩
       refine ⟨_, rfl, ?_⟩
       have n0_ := Aside0.mk (Kd.R_below (rp_ HO549.out) hb)
       have n1_ := Aside0.mk (Kd.R_below (rp_ HO555.out) hb)
       have n2_ := Aside0.mk (Kd.R_below (rp_ HO558.out) hb)
       have n3_ := Aside0.mk (Kd.R_below (rp_ HO561.out) hb)
       have n4_ := Aside0.mk (Kd.R_below (rp_ HO568.out) hb)
       have n5_ := Aside0.mk (bb_ BK552.out hb)
       have n6_ := Aside0.mk (bb_ BK565.out hb)
       have n7_ := Aside0.mk (below_step (by repeat (first | (with_reducible first | exact HB.out | apply ba_ | apply bn_ | apply bd_ | refine below_set ?_ GE552.out | refine below_set ?_ GE565.out) | exact HB.out)) hb)
       clear HO549 HO555 HO558 HO561 HO568 BK552 BK565 HB
       have HO549 := n0_
       have HO555 := n1_
       have HO558 := n2_
       have HO561 := n3_
       have HO568 := n4_
       have BK552 := n5_
       have BK565 := n6_
       have HB := n7_
       clear n0_ n1_ n2_ n3_ n4_ n5_ n6_ n7_
       (try clear hb)
       (try clear hb2)
       (try clear hk)
       (try clear hi)
       refine hK.out _ _ trivial (fun hHeld => ?_)
       clear hK K
       refine norm_ (a' := ?_) ?_ ?_
       rotate_left
       ·
        show Act.put _ (some 38) _ = _
        simp only [fr_]
        rfl
       refine pu_ 2 39 ?_ (b_ 3 41) rfl rfl HT_.out ?_ ?_ ?_ ?_; rotate_left; intro w'; go_simp; with_reducible rfl; rotate_left; simp only [fr_]; rfl
       refine pu_ 3 40 ?_ (b_ 4 40) rfl rfl HT_.out ?_ ?_ ?_ ?_; rotate_left; intro w'; go_simp; with_reducible rfl; rotate_left; simp only [fr_]; rfl
       refine pu_ 4 41 ?_ (b_ 5 39) rfl rfl HT_.out ?_ ?_ ?_ ?_; rotate_left; intro w'; go_simp; with_reducible rfl; rotate_left; simp only [fr_]; rfl
       refine one_ (i := 5) (N := some 42) #[t_,t_,t_,t_,t_,t_,f_,f_,f_,f_,f_,f_,f_,f_,f_,f_,f_,f_,f_,f_,f_,f_,f_,f_,f_,f_,f_,f_,f_,f_,f_,f_,f_,f_,f_,f_,f_,f_,f_,f_,f_,f_,f_,f_] rfl rfl (one_of HT_.out (by kernel_rfl)) (by decide) (fun K hK => ?_)
       refine goes_ Try.func20 (by kernel_rfl) rfl #[.slice Ao15 t553.length co15] (by rfl) rfl rfl (by (try simp only [mp_]); first | done | rfl | (simp only [List.length_drop, List.length_take]; rfl)) ?_
       with_reducible refine (impl_HeapOk.calls k _ _ t553 true _ ?side1 ?side2 A25.out).mono ?_
       (case side1 => repeat (first | exact (Kd.R_reads' HO555.out).2.2 | (with_reducible first | refine ca_ ?_ _ | refine cn_ ?_ _ | refine cd_ ?_)))
       (case side2 => exact (Kd.R_reads' HO555.out).2.1)
       rintro e w53 ⟨rfl, hb⟩
       refine ⟨_, rfl, ?_⟩
       have n0_ := Aside0.mk (Kd.R_below (rp_ HO549.out) hb)
       have n1_ := Aside0.mk (Kd.R_below (rp_ HO555.out) hb)
       have n2_ := Aside0.mk (Kd.R_below (rp_ HO558.out) hb)
       have n3_ := Aside0.mk (Kd.R_below (rp_ HO561.out) hb)
       have n4_ := Aside0.mk (Kd.R_below (rp_ HO568.out) hb)
       have n5_ := Aside0.mk (bb_ BK552.out hb)
       have n6_ := Aside0.mk (bb_ BK565.out hb)
       have n7_ := Aside0.mk (below_step (by repeat (first | (with_reducible first | exact HB.out | apply ba_ | apply bn_ | apply bd_ | refine below_set ?_ GE552.out | refine below_set ?_ GE565.out) | exact HB.out)) hb)
       clear HO549 HO555 HO558 HO561 HO568 BK552 BK565 HB
       have HO549 := n0_
       have HO555 := n1_
       have HO558 := n2_
       have HO561 := n3_
       have HO568 := n4_
       have BK552 := n5_
       have BK565 := n6_
       have HB := n7_
       clear n0_ n1_ n2_ n3_ n4_ n5_ n6_ n7_
       (try clear hb)
       (try clear hb2)
       (try clear hk)
       (try clear hi)
       obtain ⟨Ao54, co54, eo54⟩ := Kd.R_slice HO561.out
       (first | subst eo54 | (injection eo54 with f1_ f2_ f3_; have f4_ := f1_.symm; have f5_ := f3_.symm; clear f1_ f2_ f3_; subst f4_; subst f5_))
       refine hK.out _ _ trivial (fun hHeld => ?_)
       clear hK K
       refine norm_ (a' := ?_) ?_ ?_
       rotate_left
       ·
        show Act.put _ (some 42) _ = _
        simp only [fr_]
        rfl
       refine pu_ 6 43 ?_ (b_ 7 37) rfl rfl HT_.out ?_ ?_ ?_ ?_; rotate_left; intro w'; go_simp; with_reducible rfl; rotate_left; simp only [fr_]; rfl
       refine pu_ 7 44 ?_ (b_ 8 36) rfl rfl HT_.out ?_ ?_ ?_ ?_; rotate_left; intro w'; go_simp; with_reducible rfl; rotate_left; simp only [fr_]; rfl
       refine pu_ 8 45 ?_ (b_ 9 35) rfl rfl HT_.out ?_ ?_ ?_ ?_; rotate_left; intro w'; go_simp; with_reducible rfl; rotate_left; simp only [fr_]; rfl
       refine pu_ 9 46 ?_ (b_ 10 34) rfl rfl HT_.out ?_ ?_ ?_ ?_; rotate_left; intro w'; go_simp; with_reducible rfl; rotate_left; simp only [fr_]; rfl
       refine one_ (i := 10) (N := some 47) #[t_,t_,t_,t_,t_,t_,t_,t_,t_,t_,t_,f_,f_,f_,f_,f_,f_,f_,f_,f_,f_,f_,f_,f_,f_,f_,f_,f_,f_,f_,f_,f_,f_,f_,f_,f_,f_,f_,f_,f_,f_,f_,f_,f_] rfl rfl (one_of HT_.out (by kernel_rfl)) (by decide) (fun K hK => ?_)
       refine goes_ Try.func20 (by kernel_rfl) rfl #[.slice Ao54 t559.length co54] (by rfl) rfl rfl (by (try simp only [mp_]); first | done | rfl | (simp only [List.length_drop, List.length_take]; rfl)) ?_
       with_reducible refine (impl_HeapOk.calls k _ _ t559 true _ ?side1 ?side2 A27.out).mono ?_
       (case side1 => repeat (first | exact (Kd.R_reads' HO561.out).2.2 | (with_reducible first | refine ca_ ?_ _ | refine cn_ ?_ _ | refine cd_ ?_)))
       (case side2 => exact (Kd.R_reads' HO561.out).2.1)
       rintro e w55 ⟨rfl, hb⟩
       refine ⟨_, rfl, ?_⟩
       have n0_ := Aside0.mk (Kd.R_below (rp_ HO549.out) hb)
       have n1_ := Aside0.mk (Kd.R_below (rp_ HO555.out) hb)
       have n2_ := Aside0.mk (Kd.R_below (rp_ HO558.out) hb)
       have n3_ := Aside0.mk (Kd.R_below (rp_ HO561.out) hb)
       have n4_ := Aside0.mk (Kd.R_below (rp_ HO568.out) hb)
       have n5_ := Aside0.mk (bb_ BK552.out hb)
       have n6_ := Aside0.mk (bb_ BK565.out hb)
       have n7_ := Aside0.mk (below_step (by repeat (first | (with_reducible first | exact HB.out | apply ba_ | apply bn_ | apply bd_ | refine below_set ?_ GE552.out | refine below_set ?_ GE565.out) | exact HB.out)) hb)
       clear HO549 HO555 HO558 HO561 HO568 BK552 BK565 HB
       have HO549 := n0_
       have HO555 := n1_
       have HO558 := n2_
       have HO561 := n3_
       have HO568 := n4_
       have BK552 := n5_
       have BK565 := n6_
       have HB := n7_
       clear n0_ n1_ n2_ n3_ n4_ n5_ n6_ n7_
       (try clear hb)
       (try clear hb2)
       (try clear hk)
       (try clear hi)
       obtain ⟨Ao56, co56, eo56⟩ := Kd.R_slice HO568.out
       (first | subst eo56 | (injection eo56 with f1_ f2_ f3_; have f4_ := f1_.symm; have f5_ := f3_.symm; clear f1_ f2_ f3_; subst f4_; subst f5_))
       refine hK.out _ _ trivial (fun hHeld => ?_)
       clear hK K
       refine norm_ (a' := ?_) ?_ ?_
       rotate_left
       ·
        show Act.put _ (some 47) _ = _
        simp only [fr_]
        rfl
       refine pu_ 11 48 ?_ (b_ 12 32) rfl rfl HT_.out ?_ ?_ ?_ ?_; rotate_left; intro w'; go_simp; with_reducible rfl; rotate_left; simp only [fr_]; rfl
       refine pu_ 12 49 ?_ (b_ 13 31) rfl rfl HT_.out ?_ ?_ ?_ ?_; rotate_left; intro w'; go_simp; with_reducible rfl; rotate_left; simp only [fr_]; rfl
       refine pu_ 13 50 ?_ (b_ 14 30) rfl rfl HT_.out ?_ ?_ ?_ ?_; rotate_left; intro w'; go_simp; with_reducible rfl; rotate_left; simp only [fr_]; rfl
       refine pu_ 14 51 ?_ (b_ 15 29) rfl rfl HT_.out ?_ ?_ ?_ ?_; rotate_left; intro w'; go_simp; with_reducible rfl; rotate_left; simp only [fr_]; rfl
       refine one_ (i := 15) (N := some 52) #[t_,t_,t_,t_,t_,t_,t_,t_,t_,t_,t_,t_,t_,t_,t_,t_,f_,f_,f_,f_,f_,f_,f_,f_,f_,f_,f_,f_,f_,f_,f_,f_,f_,f_,f_,f_,f_,f_,f_,f_,f_,f_,f_,f_] rfl rfl (one_of HT_.out (by kernel_rfl)) (by decide) (fun K hK => ?_)
       refine goes_ Try.func20 (by kernel_rfl) rfl #[.slice Ao56 t566.length co56] (by rfl) rfl rfl (by (try simp only [mp_]); first | done | rfl | (simp only [List.length_drop, List.length_take]; rfl)) ?_
       with_reducible refine (impl_HeapOk.calls k _ _ t566 true _ ?side1 ?side2 A29.out).mono ?_
       (case side1 => repeat (first | exact (Kd.R_reads' HO568.out).2.2 | (with_reducible first | refine ca_ ?_ _ | refine cn_ ?_ _ | refine cd_ ?_)))
       (case side2 => exact (Kd.R_reads' HO568.out).2.1)
       rintro e w57 ⟨rfl, hb⟩
       refine ⟨_, rfl, ?_⟩
       have n0_ := Aside0.mk (Kd.R_below (rp_ HO549.out) hb)
       have n1_ := Aside0.mk (Kd.R_below (rp_ HO555.out) hb)
       have n2_ := Aside0.mk (Kd.R_below (rp_ HO558.out) hb)
       have n3_ := Aside0.mk (Kd.R_below (rp_ HO561.out) hb)
       have n4_ := Aside0.mk (Kd.R_below (rp_ HO568.out) hb)
       have n5_ := Aside0.mk (bb_ BK552.out hb)
       have n6_ := Aside0.mk (bb_ BK565.out hb)
       have n7_ := Aside0.mk (below_step (by repeat (first | (with_reducible first | exact HB.out | apply ba_ | apply bn_ | apply bd_ | refine below_set ?_ GE552.out | refine below_set ?_ GE565.out) | exact HB.out)) hb)
       clear HO549 HO555 HO558 HO561 HO568 BK552 BK565 HB
       have HO549 := n0_
       have HO555 := n1_
       have HO558 := n2_
       have HO561 := n3_
       have HO568 := n4_
       have BK552 := n5_
       have BK565 := n6_
       have HB := n7_
       clear n0_ n1_ n2_ n3_ n4_ n5_ n6_ n7_
       (try clear hb)
       (try clear hb2)
       (try clear hk)
       (try clear hi)
       obtain ⟨Ao58, co58, eo58⟩ := Kd.R_slice HO558.out
       (first | subst eo58 | (injection eo58 with f1_ f2_ f3_; have f4_ := f1_.symm; have f5_ := f3_.symm; clear f1_ f2_ f3_; subst f4_; subst f5_))
       refine hK.out _ _ trivial (fun hHeld => ?_)
       clear hK K
       refine norm_ (a' := ?_) ?_ ?_
       rotate_left
       ·
        show Act.put _ (some 52) _ = _
        simp only [fr_]
        rfl
       refine pu_ 16 53 ?_ (b_ 17 27) rfl rfl HT_.out ?_ ?_ ?_ ?_; rotate_left; intro w'; go_simp; with_reducible rfl; rotate_left; simp only [fr_]; rfl
       refine pu_ 17 54 ?_ (b_ 18 26) rfl rfl HT_.out ?_ ?_ ?_ ?_; rotate_left; intro w'; go_simp; with_reducible rfl; rotate_left; simp only [fr_]; rfl
       refine pu_ 18 55 ?_ (b_ 19 25) rfl rfl HT_.out ?_ ?_ ?_ ?_; rotate_left; intro w'; go_simp; with_reducible rfl; rotate_left; simp only [fr_]; rfl
       refine pu_ 19 56 ?_ (b_ 20 24) rfl rfl HT_.out ?_ ?_ ?_ ?_; rotate_left; intro w'; go_simp; with_reducible rfl; rotate_left; simp only [fr_]; rfl
       refine pu_ 20 57 ?_ (b_ 21 23) rfl rfl HT_.out ?_ ?_ ?_ ?_; rotate_left; intro w'; go_simp; with_reducible rfl; rotate_left; simp only [fr_]; rfl
       refine pu_ 21 58 ?_ (b_ 22 22) rfl rfl HT_.out ?_ ?_ ?_ ?_; rotate_left; intro w'; go_simp; with_reducible rfl; rotate_left; simp only [fr_]; rfl
       refine pu_ 22 59 ?_ (b_ 23 21) rfl rfl HT_.out ?_ ?_ ?_ ?_; rotate_left; intro w'; go_simp; with_reducible rfl; rotate_left; simp only [fr_]; rfl
       refine pu_ 23 60 ?_ (b_ 24 20) rfl rfl HT_.out ?_ ?_ ?_ ?_; rotate_left; intro w'; go_simp; with_reducible rfl; rotate_left; simp only [fr_]; rfl
       refine pu_ 24 61 ?_ (b_ 25 19) rfl rfl HT_.out ?_ ?_ ?_ ?_; rotate_left; intro w'; go_simp; with_reducible rfl; rotate_left; simp only [fr_]; rfl
       refine pu_ 25 62 ?_ (b_ 26 18) rfl rfl HT_.out ?_ ?_ ?_ ?_; rotate_left; intro w'; go_simp; with_reducible rfl; rotate_left; simp only [fr_]; rfl
       refine pu_ 26 63 ?_ (b_ 27 17) rfl rfl HT_.out ?_ ?_ ?_ ?_; rotate_left; intro w'; go_simp; with_reducible rfl; rotate_left; simp only [fr_]; rfl
       refine pu_ 27 64 ?_ (b_ 28 16) rfl rfl HT_.out ?_ ?_ ?_ ?_; rotate_left; intro w'; go_simp; with_reducible rfl; rotate_left; simp only [fr_]; rfl
       refine pu_ 28 65 ?_ (b_ 29 15) rfl rfl HT_.out ?_ ?_ ?_ ?_; rotate_left; intro w'; go_simp; with_reducible rfl; rotate_left; simp only [fr_]; rfl
       refine pu_ 29 66 ?_ (b_ 30 14) rfl rfl HT_.out ?_ ?_ ?_ ?_; rotate_left; intro w'; go_simp; with_reducible rfl; rotate_left; simp only [fr_]; rfl
       refine pu_ 30 67 ?_ (b_ 31 13) rfl rfl HT_.out ?_ ?_ ?_ ?_; rotate_left; intro w'; go_simp; with_reducible rfl; rotate_left; simp only [fr_]; rfl
       refine pv_ 31 68 ?_ (b_ 32 12) rfl rfl HT_.out ?_ ?_; rotate_left; simp only [fr_]; rfl
       refine pv_ 32 69 ?_ (b_ 33 11) rfl rfl HT_.out ?_ ?_; rotate_left; simp only [fr_]; rfl
       refine pv_ 33 70 ?_ (b_ 34 10) rfl rfl HT_.out ?_ ?_; rotate_left; simp only [fr_]; rfl
       refine pv_ 34 71 ?_ (b_ 35 9) rfl rfl HT_.out ?_ ?_; rotate_left; simp only [fr_]; rfl
       refine pv_ 35 72 ?_ (b_ 36 8) rfl rfl HT_.out ?_ ?_; rotate_left; simp only [fr_]; rfl
       refine pu_ 36 73 ?_ (b_ 37 7) rfl rfl HT_.out ?_ ?_ ?_ ?_; rotate_left; intro w'; go_simp; with_reducible rfl; rotate_left; simp only [fr_]; rfl
       refine pu_ 37 74 ?_ (b_ 38 6) rfl rfl HT_.out ?_ ?_ ?_ ?_; rotate_left; intro w'; go_simp; with_reducible rfl; rotate_left; simp only [fr_]; rfl
       refine pv_ 38 75 ?_ (b_ 39 5) rfl rfl HT_.out ?_ ?_; rotate_left; simp only [fr_]; rfl
       refine pv_ 39 76 ?_ (b_ 40 4) rfl rfl HT_.out ?_ ?_; rotate_left; simp only [fr_]; rfl
       refine pv_ 40 77 ?_ (b_ 41 3) rfl rfl HT_.out ?_ ?_; rotate_left; simp only [fr_]; rfl
       refine pv_ 41 78 ?_ (b_ 42 2) rfl rfl HT_.out ?_ ?_; rotate_left; simp only [fr_]; rfl
       refine pv_ 42 79 ?_ (b_ 43 1) rfl rfl HT_.out ?_ ?_; rotate_left; simp only [fr_]; rfl
       refine pu_ 43 80 ?_ (b_ 44 0) rfl rfl HT_.out ?_ ?_ ?_ ?_; rotate_left; intro w'; go_simp; with_reducible rfl; rotate_left; simp only [fr_]; rfl
       refine done_ (done_of HT_.out (by kernel_rfl)) ?_
       try go_wp2
       go_meet
       case rel => exact ⟨_, (true), (by first | rfl | (simp; done) | (simp [*]; done)), H', ⟨by first | omega | exact Nat.le_refl _⟩, ⟨by (with_reducible repeat (first | apply Kd.R_alloc | apply Kd.R_drewN | apply Kd.R_drew)); exact Kd.R_mono HO555.out (fun _ hk => ⟨hk.1.1.1.2, ⟨hk.1.1.2, ⟨hk.2, ⟨hk.1.1.1.1.2, hk.1.2⟩⟩⟩⟩)⟩, ⟨by (with_reducible repeat (first | apply Kd.R_alloc | apply Kd.R_drewN | apply Kd.R_drew)); exact Kd.R_mono HO558.out (fun _ hk => ⟨hk.1.1.1.1.2, ⟨hk.1.1.2, ⟨hk.2, ⟨hk.1.1.1.2, hk.1.2⟩⟩⟩⟩)⟩, ⟨by (with_reducible repeat (first | apply Kd.R_alloc | apply Kd.R_drewN | apply Kd.R_drew)); exact Kd.R_mono HO561.out (fun _ hk => ⟨hk.1.1.1.1.2, ⟨hk.1.1.1.2, ⟨hk.2, ⟨hk.1.1.2, hk.1.2⟩⟩⟩⟩)⟩, ⟨by (with_reducible repeat (first | apply Kd.R_alloc | apply Kd.R_drewN | apply Kd.R_drew)); exact Kd.R_mono HO568.out (fun _ hk => ⟨hk.1.1.1.1.2, ⟨hk.1.1.1.2, ⟨hk.1.1.2, ⟨hk.1.2, hk.2⟩⟩⟩⟩)⟩, ⟨by (with_reducible repeat (first | refine kn_ ?_ _ | refine kd_ ?_ | refine ka_ ?_ _)); exact BK552.out⟩, ⟨by (with_reducible repeat (first | refine kn_ ?_ _ | refine kd_ ?_ | refine ka_ ?_ _)); exact BK565.out⟩, ⟨by repeat (first | (with_reducible first | exact HB.out | apply ba_ | apply bn_ | apply bd_ | refine below_set ?_ GE552.out | refine below_set ?_ GE565.out) | exact HB.out)⟩⟩
      replace c31 := Bool.eq_false_iff.mpr c31
      subst c31
      rw [if_neg (show ¬ (false = true) by decide)] at H
      have H' := Aside0.mk H
      clear H
      try go_wp2
      have n0_ := Aside0.mk (Kd.R_drew HO549.out)
      have n1_ := Aside0.mk (Kd.R_drew HO555.out)
      have n2_ := Aside0.mk (Kd.R_drew HO558.out)
      have n3_ := Aside0.mk (Kd.R_drew HO561.out)
      have n4_ := Aside0.mk (Kd.R_drew HO568.out)
      have n5_ := Aside0.mk (blk_drew BK552.out)
      have n6_ := Aside0.mk (blk_drew BK565.out)
      have n7_ := Aside0.mk (bd_ HB.out)
      clear HO549 HO555 HO558 HO561 HO568 BK552 BK565 HB
      have HO549 := n0_
      have HO555 := n1_
      have HO558 := n2_
      have HO561 := n3_
      have HO568 := n4_
      have BK552 := n5_
      have BK565 := n6_
      have HB := n7_
      clear n0_ n1_ n2_ n3_ n4_ n5_ n6_ n7_
      refine start_ (n := 44) (S := fun w' => True) (ds := []) #[f_,f_,f_,f_,f_,f_,f_,f_,f_,f_,f_,f_,f_,f_,f_,f_,f_,f_,f_,f_,f_,f_,f_,f_,f_,f_,f_,f_,f_,f_,f_,f_,f_,f_,f_,f_,f_,f_,f_,f_,f_,f_,f_,f_] (by kernel_rfl) rfl rfl trivial (fun hHeld => ?_); refine with_tabW laws_FnHeaps.tab8 laws_FnHeaps.bits8 (fun HT_ HW_ => ?_)
      generalize w22.drew = w59 at HO549 HO555 HO558 HO561 HO568 BK552 BK565 HB hHeld ⊢
      refine pu_ 0 37 ?_ (b_ 1 43) rfl rfl HT_.out ?_ ?_ ?_ ?_; rotate_left; intro w'; go_simp; with_reducible rfl; rotate_left; simp only [fr_]; rfl
      refine one_ (i := 1) (N := some 38) #[t_,t_,f_,f_,f_,f_,f_,f_,f_,f_,f_,f_,f_,f_,f_,f_,f_,f_,f_,f_,f_,f_,f_,f_,f_,f_,f_,f_,f_,f_,f_,f_,f_,f_,f_,f_,f_,f_,f_,f_,f_,f_,f_,f_] rfl rfl (one_of HT_.out (by kernel_rfl)) (by decide) (fun K hK => ?_)
      refine goes_ Try.func20 (by kernel_rfl) rfl #[.slice Ao13 t547.length co13] (by rfl) rfl rfl (by (try simp only [mp_]); first | done | rfl | (simp only [List.length_drop, List.length_take]; rfl)) ?_
      with_reducible refine (impl_HeapOk.calls k _ _ t547 true _ ?side1 ?side2 A23.out).mono ?_
      (case side1 => repeat (first | exact (Kd.R_reads' HO549.out).2.2 | (with_reducible first | refine ca_ ?_ _ | refine cn_ ?_ _ | refine cd_ ?_)))
      (case side2 => exact (Kd.R_reads' HO549.out).2.1)
      rintro e w60 ⟨rfl, hb⟩
      refine ⟨_, rfl, ?_⟩
      have n0_ := Aside0.mk (Kd.R_below (rp_ HO549.out) hb)
      have n1_ := Aside0.mk (Kd.R_below (rp_ HO555.out) hb)
      have n2_ := Aside0.mk (Kd.R_below (rp_ HO558.out) hb)
      have n3_ := Aside0.mk (Kd.R_below (rp_ HO561.out) hb)
      have n4_ := Aside0.mk (Kd.R_below (rp_ HO568.out) hb)
      have n5_ := Aside0.mk (bb_ BK552.out hb)
      have n6_ := Aside0.mk (bb_ BK565.out hb)
      have n7_ := Aside0.mk (below_step (by repeat (first | (with_reducible first | exact HB.out | apply ba_ | apply bn_ | apply bd_ | refine below_set ?_ GE552.out | refine below_set ?_ GE565.out) | exact HB.out)) hb)
      clear HO549 HO555 HO558 HO561 HO568 BK552 BK565 HB
      have HO549 := n0_
      have HO555 := n1_
      have HO558 := n2_
      have HO561 := n3_
      have HO568 := n4_
      have BK552 := n5_
      have BK565 := n6_
      have HB := n7_
      clear n0_ n1_ n2_ n3_ n4_ n5_ n6_ n7_
      (try clear hb)
      (try clear hb2)
      (try clear hk)
      (try clear hi)
      refine hK.out _ _ trivial (fun hHeld => ?_)
      clear hK K
      refine norm_ (a' := ?_) ?_ ?_
      rotate_left
      ·
       show Act.put _ (some 38) _ = _
       simp only [fr_]
       rfl
      refine pu_ 2 39 ?_ (b_ 3 41) rfl rfl HT_.out ?_ ?_ ?_ ?_; rotate_left; intro w'; go_simp; with_reducible rfl; rotate_left; simp only [fr_]; rfl
      refine pu_ 3 40 ?_ (b_ 4 40) rfl rfl HT_.out ?_ ?_ ?_ ?_; rotate_left; intro w'; go_simp; with_reducible rfl; rotate_left; simp only [fr_]; rfl
      refine pu_ 4 41 ?_ (b_ 5 39) rfl rfl HT_.out ?_ ?_ ?_ ?_; rotate_left; intro w'; go_simp; with_reducible rfl; rotate_left; simp only [fr_]; rfl
      refine one_ (i := 5) (N := some 42) #[t_,t_,t_,t_,t_,t_,f_,f_,f_,f_,f_,f_,f_,f_,f_,f_,f_,f_,f_,f_,f_,f_,f_,f_,f_,f_,f_,f_,f_,f_,f_,f_,f_,f_,f_,f_,f_,f_,f_,f_,f_,f_,f_,f_] rfl rfl (one_of HT_.out (by kernel_rfl)) (by decide) (fun K hK => ?_)
      refine goes_ Try.func20 (by kernel_rfl) rfl #[.slice Ao15 t553.length co15] (by rfl) rfl rfl (by (try simp only [mp_]); first | done | rfl | (simp only [List.length_drop, List.length_take]; rfl)) ?_
      with_reducible refine (impl_HeapOk.calls k _ _ t553 true _ ?side1 ?side2 A25.out).mono ?_
      (case side1 => repeat (first | exact (Kd.R_reads' HO555.out).2.2 | (with_reducible first | refine ca_ ?_ _ | refine cn_ ?_ _ | refine cd_ ?_)))
      (case side2 => exact (Kd.R_reads' HO555.out).2.1)
      rintro e w61 ⟨rfl, hb⟩
      refine ⟨_, rfl, ?_⟩
      have n0_ := Aside0.mk (Kd.R_below (rp_ HO549.out) hb)
      have n1_ := Aside0.mk (Kd.R_below (rp_ HO555.out) hb)
      have n2_ := Aside0.mk (Kd.R_below (rp_ HO558.out) hb)
      have n3_ := Aside0.mk (Kd.R_below (rp_ HO561.out) hb)
      have n4_ := Aside0.mk (Kd.R_below (rp_ HO568.out) hb)
      have n5_ := Aside0.mk (bb_ BK552.out hb)
      have n6_ := Aside0.mk (bb_ BK565.out hb)
      have n7_ := Aside0.mk (below_step (by repeat (first | (with_reducible first | exact HB.out | apply ba_ | apply bn_ | apply bd_ | refine below_set ?_ GE552.out | refine below_set ?_ GE565.out) | exact HB.out)) hb)
      clear HO549 HO555 HO558 HO561 HO568 BK552 BK565 HB
      have HO549 := n0_
      have HO555 := n1_
      have HO558 := n2_
      have HO561 := n3_
      have HO568 := n4_
      have BK552 := n5_
      have BK565 := n6_
      have HB := n7_
      clear n0_ n1_ n2_ n3_ n4_ n5_ n6_ n7_
      (try clear hb)
      (try clear hb2)
      (try clear hk)
      (try clear hi)
      obtain ⟨Ao62, co62, eo62⟩ := Kd.R_slice HO561.out
      (first | subst eo62 | (injection eo62 with f1_ f2_ f3_; have f4_ := f1_.symm; have f5_ := f3_.symm; clear f1_ f2_ f3_; subst f4_; subst f5_))
      refine hK.out _ _ trivial (fun hHeld => ?_)
      clear hK K
      refine norm_ (a' := ?_) ?_ ?_
      rotate_left
      ·
       show Act.put _ (some 42) _ = _
       simp only [fr_]
       rfl
      refine pu_ 6 43 ?_ (b_ 7 37) rfl rfl HT_.out ?_ ?_ ?_ ?_; rotate_left; intro w'; go_simp; with_reducible rfl; rotate_left; simp only [fr_]; rfl
      refine pu_ 7 44 ?_ (b_ 8 36) rfl rfl HT_.out ?_ ?_ ?_ ?_; rotate_left; intro w'; go_simp; with_reducible rfl; rotate_left; simp only [fr_]; rfl
      refine pu_ 8 45 ?_ (b_ 9 35) rfl rfl HT_.out ?_ ?_ ?_ ?_; rotate_left; intro w'; go_simp; with_reducible rfl; rotate_left; simp only [fr_]; rfl
      refine pu_ 9 46 ?_ (b_ 10 34) rfl rfl HT_.out ?_ ?_ ?_ ?_; rotate_left; intro w'; go_simp; with_reducible rfl; rotate_left; simp only [fr_]; rfl
      refine one_ (i := 10) (N := some 47) #[t_,t_,t_,t_,t_,t_,t_,t_,t_,t_,t_,f_,f_,f_,f_,f_,f_,f_,f_,f_,f_,f_,f_,f_,f_,f_,f_,f_,f_,f_,f_,f_,f_,f_,f_,f_,f_,f_,f_,f_,f_,f_,f_,f_] rfl rfl (one_of HT_.out (by kernel_rfl)) (by decide) (fun K hK => ?_)
      refine goes_ Try.func20 (by kernel_rfl) rfl #[.slice Ao62 t559.length co62] (by rfl) rfl rfl (by (try simp only [mp_]); first | done | rfl | (simp only [List.length_drop, List.length_take]; rfl)) ?_
      with_reducible refine (impl_HeapOk.calls k _ _ t559 true _ ?side1 ?side2 A27.out).mono ?_
      (case side1 => repeat (first | exact (Kd.R_reads' HO561.out).2.2 | (with_reducible first | refine ca_ ?_ _ | refine cn_ ?_ _ | refine cd_ ?_)))
      (case side2 => exact (Kd.R_reads' HO561.out).2.1)
      rintro e w63 ⟨rfl, hb⟩
      refine ⟨_, rfl, ?_⟩
      have n0_ := Aside0.mk (Kd.R_below (rp_ HO549.out) hb)
      have n1_ := Aside0.mk (Kd.R_below (rp_ HO555.out) hb)
      have n2_ := Aside0.mk (Kd.R_below (rp_ HO558.out) hb)
      have n3_ := Aside0.mk (Kd.R_below (rp_ HO561.out) hb)
      have n4_ := Aside0.mk (Kd.R_below (rp_ HO568.out) hb)
      have n5_ := Aside0.mk (bb_ BK552.out hb)
      have n6_ := Aside0.mk (bb_ BK565.out hb)
      have n7_ := Aside0.mk (below_step (by repeat (first | (with_reducible first | exact HB.out | apply ba_ | apply bn_ | apply bd_ | refine below_set ?_ GE552.out | refine below_set ?_ GE565.out) | exact HB.out)) hb)
      clear HO549 HO555 HO558 HO561 HO568 BK552 BK565 HB
      have HO549 := n0_
      have HO555 := n1_
      have HO558 := n2_
      have HO561 := n3_
      have HO568 := n4_
      have BK552 := n5_
      have BK565 := n6_
      have HB := n7_
      clear n0_ n1_ n2_ n3_ n4_ n5_ n6_ n7_
      (try clear hb)
      (try clear hb2)
      (try clear hk)
      (try clear hi)
      obtain ⟨Ao64, co64, eo64⟩ := Kd.R_slice HO568.out
      (first | subst eo64 | (injection eo64 with f1_ f2_ f3_; have f4_ := f1_.symm; have f5_ := f3_.symm; clear f1_ f2_ f3_; subst f4_; subst f5_))
      refine hK.out _ _ trivial (fun hHeld => ?_)
      clear hK K
      refine norm_ (a' := ?_) ?_ ?_
      rotate_left
      ·
       show Act.put _ (some 47) _ = _
       simp only [fr_]
       rfl
      refine pu_ 11 48 ?_ (b_ 12 32) rfl rfl HT_.out ?_ ?_ ?_ ?_; rotate_left; intro w'; go_simp; with_reducible rfl; rotate_left; simp only [fr_]; rfl
      refine pu_ 12 49 ?_ (b_ 13 31) rfl rfl HT_.out ?_ ?_ ?_ ?_; rotate_left; intro w'; go_simp; with_reducible rfl; rotate_left; simp only [fr_]; rfl
      refine pu_ 13 50 ?_ (b_ 14 30) rfl rfl HT_.out ?_ ?_ ?_ ?_; rotate_left; intro w'; go_simp; with_reducible rfl; rotate_left; simp only [fr_]; rfl
      refine pu_ 14 51 ?_ (b_ 15 29) rfl rfl HT_.out ?_ ?_ ?_ ?_; rotate_left; intro w'; go_simp; with_reducible rfl; rotate_left; simp only [fr_]; rfl
      refine one_ (i := 15) (N := some 52) #[t_,t_,t_,t_,t_,t_,t_,t_,t_,t_,t_,t_,t_,t_,t_,t_,f_,f_,f_,f_,f_,f_,f_,f_,f_,f_,f_,f_,f_,f_,f_,f_,f_,f_,f_,f_,f_,f_,f_,f_,f_,f_,f_,f_] rfl rfl (one_of HT_.out (by kernel_rfl)) (by decide) (fun K hK => ?_)
      refine goes_ Try.func20 (by kernel_rfl) rfl #[.slice Ao64 t566.length co64] (by rfl) rfl rfl (by (try simp only [mp_]); first | done | rfl | (simp only [List.length_drop, List.length_take]; rfl)) ?_
      with_reducible refine (impl_HeapOk.calls k _ _ t566 true _ ?side1 ?side2 A29.out).mono ?_
      (case side1 => repeat (first | exact (Kd.R_reads' HO568.out).2.2 | (with_reducible first | refine ca_ ?_ _ | refine cn_ ?_ _ | refine cd_ ?_)))
      (case side2 => exact (Kd.R_reads' HO568.out).2.1)
      rintro e w65 ⟨rfl, hb⟩
      refine ⟨_, rfl, ?_⟩
      have n0_ := Aside0.mk (Kd.R_below (rp_ HO549.out) hb)
      have n1_ := Aside0.mk (Kd.R_below (rp_ HO555.out) hb)
      have n2_ := Aside0.mk (Kd.R_below (rp_ HO558.out) hb)
      have n3_ := Aside0.mk (Kd.R_below (rp_ HO561.out) hb)
      have n4_ := Aside0.mk (Kd.R_below (rp_ HO568.out) hb)
      have n5_ := Aside0.mk (bb_ BK552.out hb)
      have n6_ := Aside0.mk (bb_ BK565.out hb)
      have n7_ := Aside0.mk (below_step (by repeat (first | (with_reducible first | exact HB.out | apply ba_ | apply bn_ | apply bd_ | refine below_set ?_ GE552.out | refine below_set ?_ GE565.out) | exact HB.out)) hb)
      clear HO549 HO555 HO558 HO561 HO568 BK552 BK565 HB
      have HO549 := n0_
      have HO555 := n1_
      have HO558 := n2_
      have HO561 := n3_
      have HO568 := n4_
      have BK552 := n5_
      have BK565 := n6_
      have HB := n7_
      clear n0_ n1_ n2_ n3_ n4_ n5_ n6_ n7_
      (try clear hb)
      (try clear hb2)
      (try clear hk)
      (try clear hi)
      refine hK.out _ _ trivial (fun hHeld => ?_)
      clear hK K
      refine norm_ (a' := ?_) ?_ ?_
      rotate_left
      ·
       show Act.put _ (some 52) _ = _
       simp only [fr_]
       rfl
      refine pu_ 16 53 ?_ (b_ 17 27) rfl rfl HT_.out ?_ ?_ ?_ ?_; rotate_left; intro w'; go_simp; with_reducible rfl; rotate_left; simp only [fr_]; rfl
      refine pu_ 17 54 ?_ (b_ 18 26) rfl rfl HT_.out ?_ ?_ ?_ ?_; rotate_left; intro w'; go_simp; with_reducible rfl; rotate_left; simp only [fr_]; rfl
      refine pu_ 18 55 ?_ (b_ 19 25) rfl rfl HT_.out ?_ ?_ ?_ ?_; rotate_left; intro w'; go_simp; with_reducible rfl; rotate_left; simp only [fr_]; rfl
      refine pu_ 19 56 ?_ (b_ 20 24) rfl rfl HT_.out ?_ ?_ ?_ ?_; rotate_left; intro w'; go_simp; with_reducible rfl; rotate_left; simp only [fr_]; rfl
      refine pu_ 20 57 ?_ (b_ 21 23) rfl rfl HT_.out ?_ ?_ ?_ ?_; rotate_left; intro w'; go_simp; with_reducible rfl; rotate_left; simp only [fr_]; rfl
      refine pu_ 21 58 ?_ (b_ 22 22) rfl rfl HT_.out ?_ ?_ ?_ ?_; rotate_left; intro w'; go_simp; with_reducible rfl; rotate_left; simp only [fr_]; rfl
      refine pu_ 22 59 ?_ (b_ 23 21) rfl rfl HT_.out ?_ ?_ ?_ ?_; rotate_left; intro w'; go_simp; with_reducible rfl; rotate_left; simp only [fr_]; rfl
      refine pv_ 23 60 ?_ (b_ 24 20) rfl rfl HT_.out ?_ ?_; rotate_left; simp only [fr_]; rfl
      refine pv_ 24 61 ?_ (b_ 25 19) rfl rfl HT_.out ?_ ?_; rotate_left; simp only [fr_]; rfl
      refine pv_ 25 62 ?_ (b_ 26 18) rfl rfl HT_.out ?_ ?_; rotate_left; simp only [fr_]; rfl
      refine pv_ 26 63 ?_ (b_ 27 17) rfl rfl HT_.out ?_ ?_; rotate_left; simp only [fr_]; rfl
      refine pv_ 27 64 ?_ (b_ 28 16) rfl rfl HT_.out ?_ ?_; rotate_left; simp only [fr_]; rfl
      refine pv_ 28 65 ?_ (b_ 29 15) rfl rfl HT_.out ?_ ?_; rotate_left; simp only [fr_]; rfl
      refine pu_ 29 66 ?_ (b_ 30 14) rfl rfl HT_.out ?_ ?_ ?_ ?_; rotate_left; intro w'; go_simp; with_reducible rfl; rotate_left; simp only [fr_]; rfl
      refine pu_ 30 67 ?_ (b_ 31 13) rfl rfl HT_.out ?_ ?_ ?_ ?_; rotate_left; intro w'; go_simp; with_reducible rfl; rotate_left; simp only [fr_]; rfl
      refine pv_ 31 68 ?_ (b_ 32 12) rfl rfl HT_.out ?_ ?_; rotate_left; simp only [fr_]; rfl
      refine pv_ 32 69 ?_ (b_ 33 11) rfl rfl HT_.out ?_ ?_; rotate_left; simp only [fr_]; rfl
      refine pv_ 33 70 ?_ (b_ 34 10) rfl rfl HT_.out ?_ ?_; rotate_left; simp only [fr_]; rfl
      refine pv_ 34 71 ?_ (b_ 35 9) rfl rfl HT_.out ?_ ?_; rotate_left; simp only [fr_]; rfl
      refine pv_ 35 72 ?_ (b_ 36 8) rfl rfl HT_.out ?_ ?_; rotate_left; simp only [fr_]; rfl
      refine pu_ 36 73 ?_ (b_ 37 7) rfl rfl HT_.out ?_ ?_ ?_ ?_; rotate_left; intro w'; go_simp; with_reducible rfl; rotate_left; simp only [fr_]; rfl
      refine pu_ 37 74 ?_ (b_ 38 6) rfl rfl HT_.out ?_ ?_ ?_ ?_; rotate_left; intro w'; go_simp; with_reducible rfl; rotate_left; simp only [fr_]; rfl
      refine pv_ 38 75 ?_ (b_ 39 5) rfl rfl HT_.out ?_ ?_; rotate_left; simp only [fr_]; rfl
      refine pv_ 39 76 ?_ (b_ 40 4) rfl rfl HT_.out ?_ ?_; rotate_left; simp only [fr_]; rfl
      refine pv_ 40 77 ?_ (b_ 41 3) rfl rfl HT_.out ?_ ?_; rotate_left; simp only [fr_]; rfl
      refine pv_ 41 78 ?_ (b_ 42 2) rfl rfl HT_.out ?_ ?_; rotate_left; simp only [fr_]; rfl
      refine pv_ 42 79 ?_ (b_ 43 1) rfl rfl HT_.out ?_ ?_; rotate_left; simp only [fr_]; rfl
      refine pu_ 43 80 ?_ (b_ 44 0) rfl rfl HT_.out ?_ ?_ ?_ ?_; rotate_left; intro w'; go_simp; with_reducible rfl; rotate_left; simp only [fr_]; rfl
      refine done_ (done_of HT_.out (by kernel_rfl)) ?_
      try go_wp2
      go_meet
      case rel => exact ⟨_, (true), (by first | rfl | (simp; done) | (simp [*]; done)), H', ⟨by first | omega | exact Nat.le_refl _⟩, ⟨by (with_reducible repeat (first | apply Kd.R_alloc | apply Kd.R_drewN | apply Kd.R_drew)); exact Kd.R_mono HO555.out (fun _ hk => ⟨hk.1.1.1.2, ⟨hk.1.1.2, ⟨hk.2, ⟨hk.1.1.1.1.2, hk.1.2⟩⟩⟩⟩)⟩, ⟨by (with_reducible repeat (first | apply Kd.R_alloc | apply Kd.R_drewN | apply Kd.R_drew)); exact Kd.R_mono HO558.out (fun _ hk => ⟨hk.1.1.1.1.2, ⟨hk.1.1.2, ⟨hk.2, ⟨hk.1.1.1.2, hk.1.2⟩⟩⟩⟩)⟩, ⟨by (with_reducible repeat (first | apply Kd.R_alloc | apply Kd.R_drewN | apply Kd.R_drew)); exact Kd.R_mono HO561.out (fun _ hk => ⟨hk.1.1.1.1.2, ⟨hk.1.1.1.2, ⟨hk.2, ⟨hk.1.1.2, hk.1.2⟩⟩⟩⟩)⟩, ⟨by (with_reducible repeat (first | apply Kd.R_alloc | apply Kd.R_drewN | apply Kd.R_drew)); exact Kd.R_mono HO568.out (fun _ hk => ⟨hk.1.1.1.1.2, ⟨hk.1.1.1.2, ⟨hk.1.1.2, ⟨hk.1.2, hk.2⟩⟩⟩⟩)⟩, ⟨by (with_reducible repeat (first | refine kn_ ?_ _ | refine kd_ ?_ | refine ka_ ?_ _)); exact BK552.out⟩, ⟨by (with_reducible repeat (first | refine kn_ ?_ _ | refine kd_ ?_ | refine ka_ ?_ _)); exact BK565.out⟩, ⟨by repeat (first | (with_reducible first | exact HB.out | apply ba_ | apply bn_ | apply bd_ | refine below_set ?_ GE552.out | refine below_set ?_ GE565.out) | exact HB.out)⟩⟩
     replace c30 := Bool.eq_false_iff.mpr c30
     subst c30
     rw [if_neg (show ¬ (false = true) by decide)] at H
     have H' := Aside0.mk H
     clear H
     try go_wp2
     have n0_ := Aside0.mk (Kd.R_drew HO549.out)
     have n1_ := Aside0.mk (Kd.R_drew HO555.out)
     have n2_ := Aside0.mk (Kd.R_drew HO558.out)
     have n3_ := Aside0.mk (Kd.R_drew HO561.out)
     have n4_ := Aside0.mk (Kd.R_drew HO568.out)
     have n5_ := Aside0.mk (blk_drew BK552.out)
     have n6_ := Aside0.mk (blk_drew BK565.out)
     have n7_ := Aside0.mk (bd_ HB.out)
     clear HO549 HO555 HO558 HO561 HO568 BK552 BK565 HB
     have HO549 := n0_
     have HO555 := n1_
     have HO558 := n2_
     have HO561 := n3_
     have HO568 := n4_
     have BK552 := n5_
     have BK565 := n6_
     have HB := n7_
     clear n0_ n1_ n2_ n3_ n4_ n5_ n6_ n7_
     refine start_ (n := 44) (S := fun w' => True) (ds := []) #[f_,f_,f_,f_,f_,f_,f_,f_,f_,f_,f_,f_,f_,f_,f_,f_,f_,f_,f_,f_,f_,f_,f_,f_,f_,f_,f_,f_,f_,f_,f_,f_,f_,f_,f_,f_,f_,f_,f_,f_,f_,f_,f_,f_] (by kernel_rfl) rfl rfl trivial (fun hHeld => ?_); refine with_tabW laws_FnHeaps.tab8 laws_FnHeaps.bits8 (fun HT_ HW_ => ?_)
     generalize w22.drew = w66 at HO549 HO555 HO558 HO561 HO568 BK552 BK565 HB hHeld ⊢
     refine pu_ 0 37 ?_ (b_ 1 43) rfl rfl HT_.out ?_ ?_ ?_ ?_; rotate_left; intro w'; go_simp; with_reducible rfl; rotate_left; simp only [fr_]; rfl
     refine one_ (i := 1) (N := some 38) #[t_,t_,f_,f_,f_,f_,f_,f_,f_,f_,f_,f_,f_,f_,f_,f_,f_,f_,f_,f_,f_,f_,f_,f_,f_,f_,f_,f_,f_,f_,f_,f_,f_,f_,f_,f_,f_,f_,f_,f_,f_,f_,f_,f_] rfl rfl (one_of HT_.out (by kernel_rfl)) (by decide) (fun K hK => ?_)
     refine goes_ Try.func20 (by kernel_rfl) rfl #[.slice Ao13 t547.length co13] (by rfl) rfl rfl (by (try simp only [mp_]); first | done | rfl | (simp only [List.length_drop, List.length_take]; rfl)) ?_
     with_reducible refine (impl_HeapOk.calls k _ _ t547 true _ ?side1 ?side2 A23.out).mono ?_
     (case side1 => repeat (first | exact (Kd.R_reads' HO549.out).2.2 | (with_reducible first | refine ca_ ?_ _ | refine cn_ ?_ _ | refine cd_ ?_)))
     (case side2 => exact (Kd.R_reads' HO549.out).2.1)
     rintro e w67 ⟨rfl, hb⟩
     refine ⟨_, rfl, ?_⟩
     have n0_ := Aside0.mk (Kd.R_below (rp_ HO549.out) hb)
     have n1_ := Aside0.mk (Kd.R_below (rp_ HO555.out) hb)
     have n2_ := Aside0.mk (Kd.R_below (rp_ HO558.out) hb)
     have n3_ := Aside0.mk (Kd.R_below (rp_ HO561.out) hb)
     have n4_ := Aside0.mk (Kd.R_below (rp_ HO568.out) hb)
     have n5_ := Aside0.mk (bb_ BK552.out hb)
     have n6_ := Aside0.mk (bb_ BK565.out hb)
     have n7_ := Aside0.mk (below_step (by repeat (first | (with_reducible first | exact HB.out | apply ba_ | apply bn_ | apply bd_ | refine below_set ?_ GE552.out | refine below_set ?_ GE565.out) | exact HB.out)) hb)
     clear HO549 HO555 HO558 HO561 HO568 BK552 BK565 HB
     have HO549 := n0_
     have HO555 := n1_
     have HO558 := n2_
     have HO561 := n3_
     have HO568 := n4_
     have BK552 := n5_
     have BK565 := n6_
     have HB := n7_
     clear n0_ n1_ n2_ n3_ n4_ n5_ n6_ n7_
     (try clear hb)
     (try clear hb2)
     (try clear hk)
     (try clear hi)
     refine hK.out _ _ trivial (fun hHeld => ?_)
     clear hK K
     refine norm_ (a' := ?_) ?_ ?_
     rotate_left
     ·
      show Act.put _ (some 38) _ = _
      simp only [fr_]
      rfl
     refine pu_ 2 39 ?_ (b_ 3 41) rfl rfl HT_.out ?_ ?_ ?_ ?_; rotate_left; intro w'; go_simp; with_reducible rfl; rotate_left; simp only [fr_]; rfl
     refine pu_ 3 40 ?_ (b_ 4 40) rfl rfl HT_.out ?_ ?_ ?_ ?_; rotate_left; intro w'; go_simp; with_reducible rfl; rotate_left; simp only [fr_]; rfl
     refine pu_ 4 41 ?_ (b_ 5 39) rfl rfl HT_.out ?_ ?_ ?_ ?_; rotate_left; intro w'; go_simp; with_reducible rfl; rotate_left; simp only [fr_]; rfl
     refine one_ (i := 5) (N := some 42) #[t_,t_,t_,t_,t_,t_,f_,f_,f_,f_,f_,f_,f_,f_,f_,f_,f_,f_,f_,f_,f_,f_,f_,f_,f_,f_,f_,f_,f_,f_,f_,f_,f_,f_,f_,f_,f_,f_,f_,f_,f_,f_,f_,f_] rfl rfl (one_of HT_.out (by kernel_rfl)) (by decide) (fun K hK => ?_)
     refine goes_ Try.func20 (by kernel_rfl) rfl #[.slice Ao15 t553.length co15] (by rfl) rfl rfl (by (try simp only [mp_]); first | done | rfl | (simp only [List.length_drop, List.length_take]; rfl)) ?_
     with_reducible refine (impl_HeapOk.calls k _ _ t553 true _ ?side1 ?side2 A25.out).mono ?_
     (case side1 => repeat (first | exact (Kd.R_reads' HO555.out).2.2 | (with_reducible first | refine ca_ ?_ _ | refine cn_ ?_ _ | refine cd_ ?_)))
     (case side2 => exact (Kd.R_reads' HO555.out).2.1)
     rintro e w68 ⟨rfl, hb⟩
     refine ⟨_, rfl, ?_⟩
     have n0_ := Aside0.mk (Kd.R_below (rp_ HO549.out) hb)
     have n1_ := Aside0.mk (Kd.R_below (rp_ HO555.out) hb)
     have n2_ := Aside0.mk (Kd.R_below (rp_ HO558.out) hb)
     have n3_ := Aside0.mk (Kd.R_below (rp_ HO561.out) hb)
     have n4_ := Aside0.mk (Kd.R_below (rp_ HO568.out) hb)
     have n5_ := Aside0.mk (bb_ BK552.out hb)
     have n6_ := Aside0.mk (bb_ BK565.out hb)
     have n7_ := Aside0.mk (below_step (by repeat (first | (with_reducible first | exact HB.out | apply ba_ | apply bn_ | apply bd_ | refine below_set ?_ GE552.out | refine below_set ?_ GE565.out) | exact HB.out)) hb)
     clear HO549 HO555 HO558 HO561 HO568 BK552 BK565 HB
     have HO549 := n0_
     have HO555 := n1_
     have HO558 := n2_
     have HO561 := n3_
     have HO568 := n4_
     have BK552 := n5_
     have BK565 := n6_
     have HB := n7_
     clear n0_ n1_ n2_ n3_ n4_ n5_ n6_ n7_
     (try clear hb)
     (try clear hb2)
     (try clear hk)
     (try clear hi)
     obtain ⟨Ao69, co69, eo69⟩ := Kd.R_slice HO561.out
     (first | subst eo69 | (injection eo69 with f1_ f2_ f3_; have f4_ := f1_.symm; have f5_ := f3_.symm; clear f1_ f2_ f3_; subst f4_; subst f5_))
     refine hK.out _ _ trivial (fun hHeld => ?_)
     clear hK K
     refine norm_ (a' := ?_) ?_ ?_
     rotate_left
     ·
      show Act.put _ (some 42) _ = _
      simp only [fr_]
      rfl
     refine pu_ 6 43 ?_ (b_ 7 37) rfl rfl HT_.out ?_ ?_ ?_ ?_; rotate_left; intro w'; go_simp; with_reducible rfl; rotate_left; simp only [fr_]; rfl
     refine pu_ 7 44 ?_ (b_ 8 36) rfl rfl HT_.out ?_ ?_ ?_ ?_; rotate_left; intro w'; go_simp; with_reducible rfl; rotate_left; simp only [fr_]; rfl
     refine pu_ 8 45 ?_ (b_ 9 35) rfl rfl HT_.out ?_ ?_ ?_ ?_; rotate_left; intro w'; go_simp; with_reducible rfl; rotate_left; simp only [fr_]; rfl
     refine pu_ 9 46 ?_ (b_ 10 34) rfl rfl HT_.out ?_ ?_ ?_ ?_; rotate_left; intro w'; go_simp; with_reducible rfl; rotate_left; simp only [fr_]; rfl
     refine one_ (i := 10) (N := some 47) #[t_,t_,t_,t_,t_,t_,t_,t_,t_,t_,t_,f_,f_,f_,f_,f_,f_,f_,f_,f_,f_,f_,f_,f_,f_,f_,f_,f_,f_,f_,f_,f_,f_,f_,f_,f_,f_,f_,f_,f_,f_,f_,f_,f_] rfl rfl (one_of HT_.out (by kernel_rfl)) (by decide) (fun K hK => ?_)
     refine goes_ Try.func20 (by kernel_rfl) rfl #[.slice Ao69 t559.length co69] (by rfl) rfl rfl (by (try simp only [mp_]); first | done | rfl | (simp only [List.length_drop, List.length_take]; rfl)) ?_
     with_reducible refine (impl_HeapOk.calls k _ _ t559 true _ ?side1 ?side2 A27.out).mono ?_
     (case side1 => repeat (first | exact (Kd.R_reads' HO561.out).2.2 | (with_reducible first | refine ca_ ?_ _ | refine cn_ ?_ _ | refine cd_ ?_)))
     (case side2 => exact (Kd.R_reads' HO561.out).2.1)
     rintro e w70 ⟨rfl, hb⟩
     refine ⟨_, rfl, ?_⟩
     have n0_ := Aside0.mk (Kd.R_below (rp_ HO549.out) hb)
     have n1_ := Aside0.mk (Kd.R_below (rp_ HO555.out) hb)
     have n2_ := Aside0.mk (Kd.R_below (rp_ HO558.out) hb)
     have n3_ := Aside0.mk (Kd.R_below (rp_ HO561.out) hb)
     have n4_ := Aside0.mk (Kd.R_below (rp_ HO568.out) hb)
     have n5_ := Aside0.mk (bb_ BK552.out hb)
     have n6_ := Aside0.mk (bb_ BK565.out hb)
     have n7_ := Aside0.mk (below_step (by repeat (first | (with_reducible first | exact HB.out | apply ba_ | apply bn_ | apply bd_ | refine below_set ?_ GE552.out | refine below_set ?_ GE565.out) | exact HB.out)) hb)
     clear HO549 HO555 HO558 HO561 HO568 BK552 BK565 HB
     have HO549 := n0_
     have HO555 := n1_
     have HO558 := n2_
     have HO561 := n3_
     have HO568 := n4_
     have BK552 := n5_
     have BK565 := n6_
     have HB := n7_
     clear n0_ n1_ n2_ n3_ n4_ n5_ n6_ n7_
     (try clear hb)
     (try clear hb2)
     (try clear hk)
     (try clear hi)
     obtain ⟨Ao71, co71, eo71⟩ := Kd.R_slice HO568.out
     (first | subst eo71 | (injection eo71 with f1_ f2_ f3_; have f4_ := f1_.symm; have f5_ := f3_.symm; clear f1_ f2_ f3_; subst f4_; subst f5_))
     refine hK.out _ _ trivial (fun hHeld => ?_)
     clear hK K
     refine norm_ (a' := ?_) ?_ ?_
     rotate_left
     ·
      show Act.put _ (some 47) _ = _
      simp only [fr_]
      rfl
     refine pu_ 11 48 ?_ (b_ 12 32) rfl rfl HT_.out ?_ ?_ ?_ ?_; rotate_left; intro w'; go_simp; with_reducible rfl; rotate_left; simp only [fr_]; rfl
     refine pu_ 12 49 ?_ (b_ 13 31) rfl rfl HT_.out ?_ ?_ ?_ ?_; rotate_left; intro w'; go_simp; with_reducible rfl; rotate_left; simp only [fr_]; rfl
     refine pu_ 13 50 ?_ (b_ 14 30) rfl rfl HT_.out ?_ ?_ ?_ ?_; rotate_left; intro w'; go_simp; with_reducible rfl; rotate_left; simp only [fr_]; rfl
     refine pu_ 14 51 ?_ (b_ 15 29) rfl rfl HT_.out ?_ ?_ ?_ ?_; rotate_left; intro w'; go_simp; with_reducible rfl; rotate_left; simp only [fr_]; rfl
     refine one_ (i := 15) (N := some 52) #[t_,t_,t_,t_,t_,t_,t_,t_,t_,t_,t_,t_,t_,t_,t_,t_,f_,f_,f_,f_,f_,f_,f_,f_,f_,f_,f_,f_,f_,f_,f_,f_,f_,f_,f_,f_,f_,f_,f_,f_,f_,f_,f_,f_] rfl rfl (one_of HT_.out (by kernel_rfl)) (by decide) (fun K hK => ?_)
     refine goes_ Try.func20 (by kernel_rfl) rfl #[.slice Ao71 t566.length co71] (by rfl) rfl rfl (by (try simp only [mp_]); first | done | rfl | (simp only [List.length_drop, List.length_take]; rfl)) ?_
     with_reducible refine (impl_HeapOk.calls k _ _ t566 false _ ?side1 ?side2 A29.out).mono ?_
     (case side1 => repeat (first | exact (Kd.R_reads' HO568.out).2.2 | (with_reducible first | refine ca_ ?_ _ | refine cn_ ?_ _ | refine cd_ ?_)))
     (case side2 => exact (Kd.R_reads' HO568.out).2.1)
     rintro e w72 ⟨rfl, hb⟩
     refine ⟨_, rfl, ?_⟩
     have n0_ := Aside0.mk (Kd.R_below (rp_ HO549.out) hb)
     have n1_ := Aside0.mk (Kd.R_below (rp_ HO555.out) hb)
     have n2_ := Aside0.mk (Kd.R_below (rp_ HO558.out) hb)
     have n3_ := Aside0.mk (Kd.R_below (rp_ HO561.out) hb)
     have n4_ := Aside0.mk (Kd.R_below (rp_ HO568.out) hb)
     have n5_ := Aside0.mk (bb_ BK552.out hb)
     have n6_ := Aside0.mk (bb_ BK565.out hb)
     have n7_ := Aside0.mk (below_step (by repeat (first | (with_reducible first | exact HB.out | apply ba_ | apply bn_ | apply bd_ | refine below_set ?_ GE552.out | refine below_set ?_ GE565.out) | exact HB.out)) hb)
     clear HO549 HO555 HO558 HO561 HO568 BK552 BK565 HB
     have HO549 := n0_
     have HO555 := n1_
     have HO558 := n2_
     have HO561 := n3_
     have HO568 := n4_
     have BK552 := n5_
     have BK565 := n6_
     have HB := n7_
     clear n0_ n1_ n2_ n3_ n4_ n5_ n6_ n7_
     (try clear hb)
     (try clear hb2)
     (try clear hk)
     (try clear hi)
     refine hK.out _ _ trivial (fun hHeld => ?_)
     clear hK K
     refine norm_ (a' := ?_) ?_ ?_
     rotate_left
     ·
      show Act.put _ (some 52) _ = _
      simp only [fr_]
      rfl
     refine pu_ 16 53 ?_ (b_ 17 27) rfl rfl HT_.out ?_ ?_ ?_ ?_; rotate_left; intro w'; go_simp; with_reducible rfl; rotate_left; simp only [fr_]; rfl
     refine pu_ 17 54 ?_ (b_ 18 26) rfl rfl HT_.out ?_ ?_ ?_ ?_; rotate_left; intro w'; go_simp; with_reducible rfl; rotate_left; simp only [fr_]; rfl
     refine pu_ 18 55 ?_ (b_ 19 25) rfl rfl HT_.out ?_ ?_ ?_ ?_; rotate_left; intro w'; go_simp; with_reducible rfl; rotate_left; simp only [fr_]; rfl
     refine pv_ 19 56 ?_ (b_ 20 24) rfl rfl HT_.out ?_ ?_; rotate_left; simp only [fr_]; rfl
     refine pv_ 20 57 ?_ (b_ 21 23) rfl rfl HT_.out ?_ ?_; rotate_left; simp only [fr_]; rfl
     refine pu_ 21 58 ?_ (b_ 22 22) rfl rfl HT_.out ?_ ?_ ?_ ?_; rotate_left; intro w'; go_simp; with_reducible rfl; rotate_left; simp only [fr_]; rfl
     refine pu_ 22 59 ?_ (b_ 23 21) rfl rfl HT_.out ?_ ?_ ?_ ?_; rotate_left; intro w'; go_simp; with_reducible rfl; rotate_left; simp only [fr_]; rfl
     refine pv_ 23 60 ?_ (b_ 24 20) rfl rfl HT_.out ?_ ?_; rotate_left; simp only [fr_]; rfl
     refine pv_ 24 61 ?_ (b_ 25 19) rfl rfl HT_.out ?_ ?_; rotate_left; simp only [fr_]; rfl
     refine pv_ 25 62 ?_ (b_ 26 18) rfl rfl HT_.out ?_ ?_; rotate_left; simp only [fr_]; rfl
     refine pv_ 26 63 ?_ (b_ 27 17) rfl rfl HT_.out ?_ ?_; rotate_left; simp only [fr_]; rfl
     refine pv_ 27 64 ?_ (b_ 28 16) rfl rfl HT_.out ?_ ?_; rotate_left; simp only [fr_]; rfl
     refine pv_ 28 65 ?_ (b_ 29 15) rfl rfl HT_.out ?_ ?_; rotate_left; simp only [fr_]; rfl
     refine pu_ 29 66 ?_ (b_ 30 14) rfl rfl HT_.out ?_ ?_ ?_ ?_; rotate_left; intro w'; go_simp; with_reducible rfl; rotate_left; simp only [fr_]; rfl
     refine pu_ 30 67 ?_ (b_ 31 13) rfl rfl HT_.out ?_ ?_ ?_ ?_; rotate_left; intro w'; go_simp; with_reducible rfl; rotate_left; simp only [fr_]; rfl
     refine pv_ 31 68 ?_ (b_ 32 12) rfl rfl HT_.out ?_ ?_; rotate_left; simp only [fr_]; rfl
     refine pv_ 32 69 ?_ (b_ 33 11) rfl rfl HT_.out ?_ ?_; rotate_left; simp only [fr_]; rfl
     refine pv_ 33 70 ?_ (b_ 34 10) rfl rfl HT_.out ?_ ?_; rotate_left; simp only [fr_]; rfl
     refine pv_ 34 71 ?_ (b_ 35 9) rfl rfl HT_.out ?_ ?_; rotate_left; simp only [fr_]; rfl
     refine pv_ 35 72 ?_ (b_ 36 8) rfl rfl HT_.out ?_ ?_; rotate_left; simp only [fr_]; rfl
     refine pu_ 36 73 ?_ (b_ 37 7) rfl rfl HT_.out ?_ ?_ ?_ ?_; rotate_left; intro w'; go_simp; with_reducible rfl; rotate_left; simp only [fr_]; rfl
     refine pu_ 37 74 ?_ (b_ 38 6) rfl rfl HT_.out ?_ ?_ ?_ ?_; rotate_left; intro w'; go_simp; with_reducible rfl; rotate_left; simp only [fr_]; rfl
     refine pv_ 38 75 ?_ (b_ 39 5) rfl rfl HT_.out ?_ ?_; rotate_left; simp only [fr_]; rfl
     refine pv_ 39 76 ?_ (b_ 40 4) rfl rfl HT_.out ?_ ?_; rotate_left; simp only [fr_]; rfl
     refine pv_ 40 77 ?_ (b_ 41 3) rfl rfl HT_.out ?_ ?_; rotate_left; simp only [fr_]; rfl
     refine pv_ 41 78 ?_ (b_ 42 2) rfl rfl HT_.out ?_ ?_; rotate_left; simp only [fr_]; rfl
     refine pv_ 42 79 ?_ (b_ 43 1) rfl rfl HT_.out ?_ ?_; rotate_left; simp only [fr_]; rfl
     refine pu_ 43 80 ?_ (b_ 44 0) rfl rfl HT_.out ?_ ?_ ?_ ?_; rotate_left; intro w'; go_simp; with_reducible rfl; rotate_left; simp only [fr_]; rfl
     refine done_ (done_of HT_.out (by kernel_rfl)) ?_
     try go_wp2
     go_meet
     case rel => exact ⟨_, (true), (by first | rfl | (simp; done) | (simp [*]; done)), H', ⟨by first | omega | exact Nat.le_refl _⟩, ⟨by (with_reducible repeat (first | apply Kd.R_alloc | apply Kd.R_drewN | apply Kd.R_drew)); exact Kd.R_mono HO555.out (fun _ hk => ⟨hk.1.1.1.2, ⟨hk.1.1.2, ⟨hk.2, ⟨hk.1.1.1.1.2, hk.1.2⟩⟩⟩⟩)⟩, ⟨by (with_reducible repeat (first | apply Kd.R_alloc | apply Kd.R_drewN | apply Kd.R_drew)); exact Kd.R_mono HO558.out (fun _ hk => ⟨hk.1.1.1.1.2, ⟨hk.1.1.2, ⟨hk.2, ⟨hk.1.1.1.2, hk.1.2⟩⟩⟩⟩)⟩, ⟨by (with_reducible repeat (first | apply Kd.R_alloc | apply Kd.R_drewN | apply Kd.R_drew)); exact Kd.R_mono HO561.out (fun _ hk => ⟨hk.1.1.1.1.2, ⟨hk.1.1.1.2, ⟨hk.2, ⟨hk.1.1.2, hk.1.2⟩⟩⟩⟩)⟩, ⟨by (with_reducible repeat (first | apply Kd.R_alloc | apply Kd.R_drewN | apply Kd.R_drew)); exact Kd.R_mono HO568.out (fun _ hk => ⟨hk.1.1.1.1.2, ⟨hk.1.1.1.2, ⟨hk.1.1.2, ⟨hk.1.2, hk.2⟩⟩⟩⟩)⟩, ⟨by (with_reducible repeat (first | refine kn_ ?_ _ | refine kd_ ?_ | refine ka_ ?_ _)); exact BK552.out⟩, ⟨by (with_reducible repeat (first | refine kn_ ?_ _ | refine kd_ ?_ | refine ka_ ?_ _)); exact BK565.out⟩, ⟨by repeat (first | (with_reducible first | exact HB.out | apply ba_ | apply bn_ | apply bd_ | refine below_set ?_ GE552.out | refine below_set ?_ GE565.out) | exact HB.out)⟩⟩
    replace c28 := Bool.eq_false_iff.mpr c28
    subst c28
    rw [if_neg (show ¬ (false = true) by decide)] at H
    have H' := Aside0.mk H
    clear H
    try go_wp2
    have n0_ := Aside0.mk (Kd.R_drew HO549.out)
    have n1_ := Aside0.mk (Kd.R_drew HO555.out)
    have n2_ := Aside0.mk (Kd.R_drew HO558.out)
    have n3_ := Aside0.mk (Kd.R_drew HO561.out)
    have n4_ := Aside0.mk (Kd.R_drew HO568.out)
    have n5_ := Aside0.mk (blk_drew BK552.out)
    have n6_ := Aside0.mk (blk_drew BK565.out)
    have n7_ := Aside0.mk (bd_ HB.out)
    clear HO549 HO555 HO558 HO561 HO568 BK552 BK565 HB
    have HO549 := n0_
    have HO555 := n1_
    have HO558 := n2_
    have HO561 := n3_
    have HO568 := n4_
    have BK552 := n5_
    have BK565 := n6_
    have HB := n7_
    clear n0_ n1_ n2_ n3_ n4_ n5_ n6_ n7_
    refine start_ (n := 44) (S := fun w' => True) (ds := []) #[f_,f_,f_,f_,f_,f_,f_,f_,f_,f_,f_,f_,f_,f_,f_,f_,f_,f_,f_,f_,f_,f_,f_,f_,f_,f_,f_,f_,f_,f_,f_,f_,f_,f_,f_,f_,f_,f_,f_,f_,f_,f_,f_,f_] (by kernel_rfl) rfl rfl trivial (fun hHeld => ?_); refine with_tabW laws_FnHeaps.tab8 laws_FnHeaps.bits8 (fun HT_ HW_ => ?_)
    generalize w22.drew = w73 at HO549 HO555 HO558 HO561 HO568 BK552 BK565 HB hHeld ⊢
    refine pu_ 0 37 ?_ (b_ 1 43) rfl rfl HT_.out ?_ ?_ ?_ ?_; rotate_left; intro w'; go_simp; with_reducible rfl; rotate_left; simp only [fr_]; rfl
    refine one_ (i := 1) (N := some 38) #[t_,t_,f_,f_,f_,f_,f_,f_,f_,f_,f_,f_,f_,f_,f_,f_,f_,f_,f_,f_,f_,f_,f_,f_,f_,f_,f_,f_,f_,f_,f_,f_,f_,f_,f_,f_,f_,f_,f_,f_,f_,f_,f_,f_] rfl rfl (one_of HT_.out (by kernel_rfl)) (by decide) (fun K hK => ?_)
    refine goes_ Try.func20 (by kernel_rfl) rfl #[.slice Ao13 t547.length co13] (by rfl) rfl rfl (by (try simp only [mp_]); first | done | rfl | (simp only [List.length_drop, List.length_take]; rfl)) ?_
    with_reducible refine (impl_HeapOk.calls k _ _ t547 true _ ?side1 ?side2 A23.out).mono ?_
    (case side1 => repeat (first | exact (Kd.R_reads' HO549.out).2.2 | (with_reducible first | refine ca_ ?_ _ | refine cn_ ?_ _ | refine cd_ ?_)))
    (case side2 => exact (Kd.R_reads' HO549.out).2.1)
    rintro e w74 ⟨rfl, hb⟩
    refine ⟨_, rfl, ?_⟩
    have n0_ := Aside0.mk (Kd.R_below (rp_ HO549.out) hb)
    have n1_ := Aside0.mk (Kd.R_below (rp_ HO555.out) hb)
    have n2_ := Aside0.mk (Kd.R_below (rp_ HO558.out) hb)
    have n3_ := Aside0.mk (Kd.R_below (rp_ HO561.out) hb)
    have n4_ := Aside0.mk (Kd.R_below (rp_ HO568.out) hb)
    have n5_ := Aside0.mk (bb_ BK552.out hb)
    have n6_ := Aside0.mk (bb_ BK565.out hb)
    have n7_ := Aside0.mk (below_step (by repeat (first | (with_reducible first | exact HB.out | apply ba_ | apply bn_ | apply bd_ | refine below_set ?_ GE552.out | refine below_set ?_ GE565.out) | exact HB.out)) hb)
    clear HO549 HO555 HO558 HO561 HO568 BK552 BK565 HB
    have HO549 := n0_
    have HO555 := n1_
    have HO558 := n2_
    have HO561 := n3_
    have HO568 := n4_
    have BK552 := n5_
    have BK565 := n6_
    have HB := n7_
    clear n0_ n1_ n2_ n3_ n4_ n5_ n6_ n7_
    (try clear hb)
    (try clear hb2)
    (try clear hk)
    (try clear hi)
    refine hK.out _ _ trivial (fun hHeld => ?_)
    clear hK K
    refine norm_ (a' := ?_) ?_ ?_
    rotate_left
    ·
     show Act.put _ (some 38) _ = _
     simp only [fr_]
     rfl
    refine pu_ 2 39 ?_ (b_ 3 41) rfl rfl HT_.out ?_ ?_ ?_ ?_; rotate_left; intro w'; go_simp; with_reducible rfl; rotate_left; simp only [fr_]; rfl
    refine pu_ 3 40 ?_ (b_ 4 40) rfl rfl HT_.out ?_ ?_ ?_ ?_; rotate_left; intro w'; go_simp; with_reducible rfl; rotate_left; simp only [fr_]; rfl
    refine pu_ 4 41 ?_ (b_ 5 39) rfl rfl HT_.out ?_ ?_ ?_ ?_; rotate_left; intro w'; go_simp; with_reducible rfl; rotate_left; simp only [fr_]; rfl
    refine one_ (i := 5) (N := some 42) #[t_,t_,t_,t_,t_,t_,f_,f_,f_,f_,f_,f_,f_,f_,f_,f_,f_,f_,f_,f_,f_,f_,f_,f_,f_,f_,f_,f_,f_,f_,f_,f_,f_,f_,f_,f_,f_,f_,f_,f_,f_,f_,f_,f_] rfl rfl (one_of HT_.out (by kernel_rfl)) (by decide) (fun K hK => ?_)
    refine goes_ Try.func20 (by kernel_rfl) rfl #[.slice Ao15 t553.length co15] (by rfl) rfl rfl (by (try simp only [mp_]); first | done | rfl | (simp only [List.length_drop, List.length_take]; rfl)) ?_
    with_reducible refine (impl_HeapOk.calls k _ _ t553 true _ ?side1 ?side2 A25.out).mono ?_
    (case side1 => repeat (first | exact (Kd.R_reads' HO555.out).2.2 | (with_reducible first | refine ca_ ?_ _ | refine cn_ ?_ _ | refine cd_ ?_)))
    (case side2 => exact (Kd.R_reads' HO555.out).2.1)
    rintro e w75 ⟨rfl, hb⟩
    refine ⟨_, rfl, ?_⟩
    have n0_ := Aside0.mk (Kd.R_below (rp_ HO549.out) hb)
    have n1_ := Aside0.mk (Kd.R_below (rp_ HO555.out) hb)
    have n2_ := Aside0.mk (Kd.R_below (rp_ HO558.out) hb)
    have n3_ := Aside0.mk (Kd.R_below (rp_ HO561.out) hb)
    have n4_ := Aside0.mk (Kd.R_below (rp_ HO568.out) hb)
    have n5_ := Aside0.mk (bb_ BK552.out hb)
    have n6_ := Aside0.mk (bb_ BK565.out hb)
    have n7_ := Aside0.mk (below_step (by repeat (first | (with_reducible first | exact HB.out | apply ba_ | apply bn_ | apply bd_ | refine below_set ?_ GE552.out | refine below_set ?_ GE565.out) | exact HB.out)) hb)
    clear HO549 HO555 HO558 HO561 HO568 BK552 BK565 HB
    have HO549 := n0_
    have HO555 := n1_
    have HO558 := n2_
    have HO561 := n3_
    have HO568 := n4_
    have BK552 := n5_
    have BK565 := n6_
    have HB := n7_
    clear n0_ n1_ n2_ n3_ n4_ n5_ n6_ n7_
    (try clear hb)
    (try clear hb2)
    (try clear hk)
    (try clear hi)
    obtain ⟨Ao76, co76, eo76⟩ := Kd.R_slice HO561.out
    (first | subst eo76 | (injection eo76 with f1_ f2_ f3_; have f4_ := f1_.symm; have f5_ := f3_.symm; clear f1_ f2_ f3_; subst f4_; subst f5_))
    refine hK.out _ _ trivial (fun hHeld => ?_)
    clear hK K
    refine norm_ (a' := ?_) ?_ ?_
    rotate_left
    ·
     show Act.put _ (some 42) _ = _
     simp only [fr_]
     rfl
    refine pu_ 6 43 ?_ (b_ 7 37) rfl rfl HT_.out ?_ ?_ ?_ ?_; rotate_left; intro w'; go_simp; with_reducible rfl; rotate_left; simp only [fr_]; rfl
    refine pu_ 7 44 ?_ (b_ 8 36) rfl rfl HT_.out ?_ ?_ ?_ ?_; rotate_left; intro w'; go_simp; with_reducible rfl; rotate_left; simp only [fr_]; rfl
    refine pu_ 8 45 ?_ (b_ 9 35) rfl rfl HT_.out ?_ ?_ ?_ ?_; rotate_left; intro w'; go_simp; with_reducible rfl; rotate_left; simp only [fr_]; rfl
    refine pu_ 9 46 ?_ (b_ 10 34) rfl rfl HT_.out ?_ ?_ ?_ ?_; rotate_left; intro w'; go_simp; with_reducible rfl; rotate_left; simp only [fr_]; rfl
    refine one_ (i := 10) (N := some 47) #[t_,t_,t_,t_,t_,t_,t_,t_,t_,t_,t_,f_,f_,f_,f_,f_,f_,f_,f_,f_,f_,f_,f_,f_,f_,f_,f_,f_,f_,f_,f_,f_,f_,f_,f_,f_,f_,f_,f_,f_,f_,f_,f_,f_] rfl rfl (one_of HT_.out (by kernel_rfl)) (by decide) (fun K hK => ?_)
    refine goes_ Try.func20 (by kernel_rfl) rfl #[.slice Ao76 t559.length co76] (by rfl) rfl rfl (by (try simp only [mp_]); first | done | rfl | (simp only [List.length_drop, List.length_take]; rfl)) ?_
    with_reducible refine (impl_HeapOk.calls k _ _ t559 false _ ?side1 ?side2 A27.out).mono ?_
    (case side1 => repeat (first | exact (Kd.R_reads' HO561.out).2.2 | (with_reducible first | refine ca_ ?_ _ | refine cn_ ?_ _ | refine cd_ ?_)))
    (case side2 => exact (Kd.R_reads' HO561.out).2.1)
    rintro e w77 ⟨rfl, hb⟩
    refine ⟨_, rfl, ?_⟩
    have n0_ := Aside0.mk (Kd.R_below (rp_ HO549.out) hb)
    have n1_ := Aside0.mk (Kd.R_below (rp_ HO555.out) hb)
    have n2_ := Aside0.mk (Kd.R_below (rp_ HO558.out) hb)
    have n3_ := Aside0.mk (Kd.R_below (rp_ HO561.out) hb)
    have n4_ := Aside0.mk (Kd.R_below (rp_ HO568.out) hb)
    have n5_ := Aside0.mk (bb_ BK552.out hb)
    have n6_ := Aside0.mk (bb_ BK565.out hb)
    have n7_ := Aside0.mk (below_step (by repeat (first | (with_reducible first | exact HB.out | apply ba_ | apply bn_ | apply bd_ | refine below_set ?_ GE552.out | refine below_set ?_ GE565.out) | exact HB.out)) hb)
    clear HO549 HO555 HO558 HO561 HO568 BK552 BK565 HB
    have HO549 := n0_
    have HO555 := n1_
    have HO558 := n2_
    have HO561 := n3_
    have HO568 := n4_
    have BK552 := n5_
    have BK565 := n6_
    have HB := n7_
    clear n0_ n1_ n2_ n3_ n4_ n5_ n6_ n7_
    (try clear hb)
    (try clear hb2)
    (try clear hk)
    (try clear hi)
    refine hK.out _ _ trivial (fun hHeld => ?_)
    clear hK K
    refine norm_ (a' := ?_) ?_ ?_
    rotate_left
    ·
     show Act.put _ (some 47) _ = _
     simp only [fr_]
     rfl
    refine pu_ 11 48 ?_ (b_ 12 32) rfl rfl HT_.out ?_ ?_ ?_ ?_; rotate_left; intro w'; go_simp; with_reducible rfl; rotate_left; simp only [fr_]; rfl
    refine pu_ 12 49 ?_ (b_ 13 31) rfl rfl HT_.out ?_ ?_ ?_ ?_; rotate_left; intro w'; go_simp; with_reducible rfl; rotate_left; simp only [fr_]; rfl
    refine pu_ 13 50 ?_ (b_ 14 30) rfl rfl HT_.out ?_ ?_ ?_ ?_; rotate_left; intro w'; go_simp; with_reducible rfl; rotate_left; simp only [fr_]; rfl
    refine pv_ 14 51 ?_ (b_ 15 29) rfl rfl HT_.out ?_ ?_; rotate_left; simp only [fr_]; rfl
    refine pv_ 15 52 ?_ (b_ 16 28) rfl rfl HT_.out ?_ ?_; rotate_left; simp only [fr_]; rfl
    refine pv_ 16 53 ?_ (b_ 17 27) rfl rfl HT_.out ?_ ?_; rotate_left; simp only [fr_]; rfl
    refine pu_ 17 54 ?_ (b_ 18 26) rfl rfl HT_.out ?_ ?_ ?_ ?_; rotate_left; intro w'; go_simp; with_reducible rfl; rotate_left; simp only [fr_]; rfl
    refine pu_ 18 55 ?_ (b_ 19 25) rfl rfl HT_.out ?_ ?_ ?_ ?_; rotate_left; intro w'; go_simp; with_reducible rfl; rotate_left; simp only [fr_]; rfl
    refine pv_ 19 56 ?_ (b_ 20 24) rfl rfl HT_.out ?_ ?_; rotate_left; simp only [fr_]; rfl
    refine pv_ 20 57 ?_ (b_ 21 23) rfl rfl HT_.out ?_ ?_; rotate_left; simp only [fr_]; rfl
    refine pu_ 21 58 ?_ (b_ 22 22) rfl rfl HT_.out ?_ ?_ ?_ ?_; rotate_left; intro w'; go_simp; with_reducible rfl; rotate_left; simp only [fr_]; rfl
    refine pu_ 22 59 ?_ (b_ 23 21) rfl rfl HT_.out ?_ ?_ ?_ ?_; rotate_left; intro w'; go_simp; with_reducible rfl; rotate_left; simp only [fr_]; rfl
    refine pv_ 23 60 ?_ (b_ 24 20) rfl rfl HT_.out ?_ ?_; rotate_left; simp only [fr_]; rfl
    refine pv_ 24 61 ?_ (b_ 25 19) rfl rfl HT_.out ?_ ?_; rotate_left; simp only [fr_]; rfl
    refine pv_ 25 62 ?_ (b_ 26 18) rfl rfl HT_.out ?_ ?_; rotate_left; simp only [fr_]; rfl
    refine pv_ 26 63 ?_ (b_ 27 17) rfl rfl HT_.out ?_ ?_; rotate_left; simp only [fr_]; rfl
    refine pv_ 27 64 ?_ (b_ 28 16) rfl rfl HT_.out ?_ ?_; rotate_left; simp only [fr_]; rfl
    refine pv_ 28 65 ?_ (b_ 29 15) rfl rfl HT_.out ?_ ?_; rotate_left; simp only [fr_]; rfl
    refine pu_ 29 66 ?_ (b_ 30 14) rfl rfl HT_.out ?_ ?_ ?_ ?_; rotate_left; intro w'; go_simp; with_reducible rfl; rotate_left; simp only [fr_]; rfl
    refine pu_ 30 67 ?_ (b_ 31 13) rfl rfl HT_.out ?_ ?_ ?_ ?_; rotate_left; intro w'; go_simp; with_reducible rfl; rotate_left; simp only [fr_]; rfl
    refine pv_ 31 68 ?_ (b_ 32 12) rfl rfl HT_.out ?_ ?_; rotate_left; simp only [fr_]; rfl
    refine pv_ 32 69 ?_ (b_ 33 11) rfl rfl HT_.out ?_ ?_; rotate_left; simp only [fr_]; rfl
    refine pv_ 33 70 ?_ (b_ 34 10) rfl rfl HT_.out ?_ ?_; rotate_left; simp only [fr_]; rfl
    refine pv_ 34 71 ?_ (b_ 35 9) rfl rfl HT_.out ?_ ?_; rotate_left; simp only [fr_]; rfl
    refine pv_ 35 72 ?_ (b_ 36 8) rfl rfl HT_.out ?_ ?_; rotate_left; simp only [fr_]; rfl
    refine pu_ 36 73 ?_ (b_ 37 7) rfl rfl HT_.out ?_ ?_ ?_ ?_; rotate_left; intro w'; go_simp; with_reducible rfl; rotate_left; simp only [fr_]; rfl
    refine pu_ 37 74 ?_ (b_ 38 6) rfl rfl HT_.out ?_ ?_ ?_ ?_; rotate_left; intro w'; go_simp; with_reducible rfl; rotate_left; simp only [fr_]; rfl
    refine pv_ 38 75 ?_ (b_ 39 5) rfl rfl HT_.out ?_ ?_; rotate_left; simp only [fr_]; rfl
    refine pv_ 39 76 ?_ (b_ 40 4) rfl rfl HT_.out ?_ ?_; rotate_left; simp only [fr_]; rfl
    refine pv_ 40 77 ?_ (b_ 41 3) rfl rfl HT_.out ?_ ?_; rotate_left; simp only [fr_]; rfl
    refine pv_ 41 78 ?_ (b_ 42 2) rfl rfl HT_.out ?_ ?_; rotate_left; simp only [fr_]; rfl
    refine pv_ 42 79 ?_ (b_ 43 1) rfl rfl HT_.out ?_ ?_; rotate_left; simp only [fr_]; rfl
    refine pu_ 43 80 ?_ (b_ 44 0) rfl rfl HT_.out ?_ ?_ ?_ ?_; rotate_left; intro w'; go_simp; with_reducible rfl; rotate_left; simp only [fr_]; rfl
    refine done_ (done_of HT_.out (by kernel_rfl)) ?_
    try go_wp2
    go_meet
    case rel => exact ⟨_, (true), (by first | rfl | (simp; done) | (simp [*]; done)), H', ⟨by first | omega | exact Nat.le_refl _⟩, ⟨by (with_reducible repeat (first | apply Kd.R_alloc | apply Kd.R_drewN | apply Kd.R_drew)); exact Kd.R_mono HO555.out (fun _ hk => ⟨hk.1.1.1.2, ⟨hk.1.1.2, ⟨hk.2, ⟨hk.1.1.1.1.2, hk.1.2⟩⟩⟩⟩)⟩, ⟨by (with_reducible repeat (first | apply Kd.R_alloc | apply Kd.R_drewN | apply Kd.R_drew)); exact Kd.R_mono HO558.out (fun _ hk => ⟨hk.1.1.1.1.2, ⟨hk.1.1.2, ⟨hk.2, ⟨hk.1.1.1.2, hk.1.2⟩⟩⟩⟩)⟩, ⟨by (with_reducible repeat (first | apply Kd.R_alloc | apply Kd.R_drewN | apply Kd.R_drew)); exact Kd.R_mono HO561.out (fun _ hk => ⟨hk.1.1.1.1.2, ⟨hk.1.1.1.2, ⟨hk.2, ⟨hk.1.1.2, hk.1.2⟩⟩⟩⟩)⟩, ⟨by (with_reducible repeat (first | apply Kd.R_alloc | apply Kd.R_drewN | apply Kd.R_drew)); exact Kd.R_mono HO568.out (fun _ hk => ⟨hk.1.1.1.1.2, ⟨hk.1.1.1.2, ⟨hk.1.1.2, ⟨hk.1.2, hk.2⟩⟩⟩⟩)⟩, ⟨by (with_reducible repeat (first | refine kn_ ?_ _ | refine kd_ ?_ | refine ka_ ?_ _)); exact BK552.out⟩, ⟨by (with_reducible repeat (first | refine kn_ ?_ _ | refine kd_ ?_ | refine ka_ ?_ _)); exact BK565.out⟩, ⟨by repeat (first | (with_reducible first | exact HB.out | apply ba_ | apply bn_ | apply bd_ | refine below_set ?_ GE552.out | refine below_set ?_ GE565.out) | exact HB.out)⟩⟩
   replace c26 := Bool.eq_false_iff.mpr c26
   subst c26
   rw [if_neg (show ¬ (false = true) by decide)] at H
   have H' := Aside0.mk H
   clear H
   try go_wp2
   have n0_ := Aside0.mk (Kd.R_drew HO549.out)
   have n1_ := Aside0.mk (Kd.R_drew HO555.out)
   have n2_ := Aside0.mk (Kd.R_drew HO558.out)
   have n3_ := Aside0.mk (Kd.R_drew HO561.out)
   have n4_ := Aside0.mk (Kd.R_drew HO568.out)
   have n5_ := Aside0.mk (blk_drew BK552.out)
   have n6_ := Aside0.mk (blk_drew BK565.out)
   have n7_ := Aside0.mk (bd_ HB.out)
   clear HO549 HO555 HO558 HO561 HO568 BK552 BK565 HB
   have HO549 := n0_
   have HO555 := n1_
   have HO558 := n2_
   have HO561 := n3_
   have HO568 := n4_
   have BK552 := n5_
   have BK565 := n6_
   have HB := n7_
   clear n0_ n1_ n2_ n3_ n4_ n5_ n6_ n7_
   refine start_ (n := 44) (S := fun w' => True) (ds := []) #[f_,f_,f_,f_,f_,f_,f_,f_,f_,f_,f_,f_,f_,f_,f_,f_,f_,f_,f_,f_,f_,f_,f_,f_,f_,f_,f_,f_,f_,f_,f_,f_,f_,f_,f_,f_,f_,f_,f_,f_,f_,f_,f_,f_] (by kernel_rfl) rfl rfl trivial (fun hHeld => ?_); refine with_tabW laws_FnHeaps.tab8 laws_FnHeaps.bits8 (fun HT_ HW_ => ?_)
   generalize w22.drew = w78 at HO549 HO555 HO558 HO561 HO568 BK552 BK565 HB hHeld ⊢
   refine pu_ 0 37 ?_ (b_ 1 43) rfl rfl HT_.out ?_ ?_ ?_ ?_; rotate_left; intro w'; go_simp; with_reducible rfl; rotate_left; simp only [fr_]; rfl
   refine one_ (i := 1) (N := some 38) #[t_,t_,f_,f_,f_,f_,f_,f_,f_,f_,f_,f_,f_,f_,f_,f_,f_,f_,f_,f_,f_,f_,f_,f_,f_,f_,f_,f_,f_,f_,f_,f_,f_,f_,f_,f_,f_,f_,f_,f_,f_,f_,f_,f_] rfl rfl (one_of HT_.out (by kernel_rfl)) (by decide) (fun K hK => ?_)
   refine goes_ Try.func20 (by kernel_rfl) rfl #[.slice Ao13 t547.length co13] (by rfl) rfl rfl (by (try simp only [mp_]); first | done | rfl | (simp only [List.length_drop, List.length_take]; rfl)) ?_
   with_reducible refine (impl_HeapOk.calls k _ _ t547 true _ ?side1 ?side2 A23.out).mono ?_
   (case side1 => repeat (first | exact (Kd.R_reads' HO549.out).2.2 | (with_reducible first | refine ca_ ?_ _ | refine cn_ ?_ _ | refine cd_ ?_)))
   (case side2 => exact (Kd.R_reads' HO549.out).2.1)
   rintro e w79 ⟨rfl, hb⟩
   refine ⟨_, rfl, ?_⟩
   have n0_ := Aside0.mk (Kd.R_below (rp_ HO549.out) hb)
   have n1_ := Aside0.mk (Kd.R_below (rp_ HO555.out) hb)
   have n2_ := Aside0.mk (Kd.R_below (rp_ HO558.out) hb)
   have n3_ := Aside0.mk (Kd.R_below (rp_ HO561.out) hb)
   have n4_ := Aside0.mk (Kd.R_below (rp_ HO568.out) hb)
   have n5_ := Aside0.mk (bb_ BK552.out hb)
   have n6_ := Aside0.mk (bb_ BK565.out hb)
   have n7_ := Aside0.mk (below_step (by repeat (first | (with_reducible first | exact HB.out | apply ba_ | apply bn_ | apply bd_ | refine below_set ?_ GE552.out | refine below_set ?_ GE565.out) | exact HB.out)) hb)
   clear HO549 HO555 HO558 HO561 HO568 BK552 BK565 HB
   have HO549 := n0_
   have HO555 := n1_
   have HO558 := n2_
   have HO561 := n3_
   have HO568 := n4_
   have BK552 := n5_
   have BK565 := n6_
   have HB := n7_
   clear n0_ n1_ n2_ n3_ n4_ n5_ n6_ n7_
   (try clear hb)
   (try clear hb2)
   (try clear hk)
   (try clear hi)
   refine hK.out _ _ trivial (fun hHeld => ?_)
   clear hK K
   refine norm_ (a' := ?_) ?_ ?_
   rotate_left
   ·
    show Act.put _ (some 38) _ = _
    simp only [fr_]
    rfl
   refine pu_ 2 39 ?_ (b_ 3 41) rfl rfl HT_.out ?_ ?_ ?_ ?_; rotate_left; intro w'; go_simp; with_reducible rfl; rotate_left; simp only [fr_]; rfl
   refine pu_ 3 40 ?_ (b_ 4 40) rfl rfl HT_.out ?_ ?_ ?_ ?_; rotate_left; intro w'; go_simp; with_reducible rfl; rotate_left; simp only [fr_]; rfl
   refine pu_ 4 41 ?_ (b_ 5 39) rfl rfl HT_.out ?_ ?_ ?_ ?_; rotate_left; intro w'; go_simp; with_reducible rfl; rotate_left; simp only [fr_]; rfl
   refine one_ (i := 5) (N := some 42) #[t_,t_,t_,t_,t_,t_,f_,f_,f_,f_,f_,f_,f_,f_,f_,f_,f_,f_,f_,f_,f_,f_,f_,f_,f_,f_,f_,f_,f_,f_,f_,f_,f_,f_,f_,f_,f_,f_,f_,f_,f_,f_,f_,f_] rfl rfl (one_of HT_.out (by kernel_rfl)) (by decide) (fun K hK => ?_)
   refine goes_ Try.func20 (by kernel_rfl) rfl #[.slice Ao15 t553.length co15] (by rfl) rfl rfl (by (try simp only [mp_]); first | done | rfl | (simp only [List.length_drop, List.length_take]; rfl)) ?_
   with_reducible refine (impl_HeapOk.calls k _ _ t553 false _ ?side1 ?side2 A25.out).mono ?_
   (case side1 => repeat (first | exact (Kd.R_reads' HO555.out).2.2 | (with_reducible first | refine ca_ ?_ _ | refine cn_ ?_ _ | refine cd_ ?_)))
   (case side2 => exact (Kd.R_reads' HO555.out).2.1)
   rintro e w80 ⟨rfl, hb⟩
   refine ⟨_, rfl, ?_⟩
   have n0_ := Aside0.mk (Kd.R_below (rp_ HO549.out) hb)
   have n1_ := Aside0.mk (Kd.R_below (rp_ HO555.out) hb)
   have n2_ := Aside0.mk (Kd.R_below (rp_ HO558.out) hb)
   have n3_ := Aside0.mk (Kd.R_below (rp_ HO561.out) hb)
   have n4_ := Aside0.mk (Kd.R_below (rp_ HO568.out) hb)
   have n5_ := Aside0.mk (bb_ BK552.out hb)
   have n6_ := Aside0.mk (bb_ BK565.out hb)
   have n7_ := Aside0.mk (below_step (by repeat (first | (with_reducible first | exact HB.out | apply ba_ | apply bn_ | apply bd_ | refine below_set ?_ GE552.out | refine below_set ?_ GE565.out) | exact HB.out)) hb)
   clear HO549 HO555 HO558 HO561 HO568 BK552 BK565 HB
   have HO549 := n0_
   have HO555 := n1_
   have HO558 := n2_
   have HO561 := n3_
   have HO568 := n4_
   have BK552 := n5_
   have BK565 := n6_
   have HB := n7_
   clear n0_ n1_ n2_ n3_ n4_ n5_ n6_ n7_
   (try clear hb)
   (try clear hb2)
   (try clear hk)
   (try clear hi)
   refine hK.out _ _ trivial (fun hHeld => ?_)
   clear hK K
   refine norm_ (a' := ?_) ?_ ?_
   rotate_left
   ·
    show Act.put _ (some 42) _ = _
    simp only [fr_]
    rfl
   refine pu_ 6 43 ?_ (b_ 7 37) rfl rfl HT_.out ?_ ?_ ?_ ?_; rotate_left; intro w'; go_simp; with_reducible rfl; rotate_left; simp only [fr_]; rfl
   refine pu_ 7 44 ?_ (b_ 8 36) rfl rfl HT_.out ?_ ?_ ?_ ?_; rotate_left; intro w'; go_simp; with_reducible rfl; rotate_left; simp only [fr_]; rfl
   refine pu_ 8 45 ?_ (b_ 9 35) rfl rfl HT_.out ?_ ?_ ?_ ?_; rotate_left; intro w'; go_simp; with_reducible rfl; rotate_left; simp only [fr_]; rfl
   refine pv_ 9 46 ?_ (b_ 10 34) rfl rfl HT_.out ?_ ?_; rotate_left; simp only [fr_]; rfl
   refine pv_ 10 47 ?_ (b_ 11 33) rfl rfl HT_.out ?_ ?_; rotate_left; simp only [fr_]; rfl
   refine pv_ 11 48 ?_ (b_ 12 32) rfl rfl HT_.out ?_ ?_; rotate_left; simp only [fr_]; rfl
   refine pu_ 12 49 ?_ (b_ 13 31) rfl rfl HT_.out ?_ ?_ ?_ ?_; rotate_left; intro w'; go_simp; with_reducible rfl; rotate_left; simp only [fr_]; rfl
   refine pu_ 13 50 ?_ (b_ 14 30) rfl rfl HT_.out ?_ ?_ ?_ ?_; rotate_left; intro w'; go_simp; with_reducible rfl; rotate_left; simp only [fr_]; rfl
   refine pv_ 14 51 ?_ (b_ 15 29) rfl rfl HT_.out ?_ ?_; rotate_left; simp only [fr_]; rfl
   refine pv_ 15 52 ?_ (b_ 16 28) rfl rfl HT_.out ?_ ?_; rotate_left; simp only [fr_]; rfl
   refine pv_ 16 53 ?_ (b_ 17 27) rfl rfl HT_.out ?_ ?_; rotate_left; simp only [fr_]; rfl
   refine pu_ 17 54 ?_ (b_ 18 26) rfl rfl HT_.out ?_ ?_ ?_ ?_; rotate_left; intro w'; go_simp; with_reducible rfl; rotate_left; simp only [fr_]; rfl
   refine pu_ 18 55 ?_ (b_ 19 25) rfl rfl HT_.out ?_ ?_ ?_ ?_; rotate_left; intro w'; go_simp; with_reducible rfl; rotate_left; simp only [fr_]; rfl
   refine pv_ 19 56 ?_ (b_ 20 24) rfl rfl HT_.out ?_ ?_; rotate_left; simp only [fr_]; rfl
   refine pv_ 20 57 ?_ (b_ 21 23) rfl rfl HT_.out ?_ ?_; rotate_left; simp only [fr_]; rfl
   refine pu_ 21 58 ?_ (b_ 22 22) rfl rfl HT_.out ?_ ?_ ?_ ?_; rotate_left; intro w'; go_simp; with_reducible rfl; rotate_left; simp only [fr_]; rfl
   refine pu_ 22 59 ?_ (b_ 23 21) rfl rfl HT_.out ?_ ?_ ?_ ?_; rotate_left; intro w'; go_simp; with_reducible rfl; rotate_left; simp only [fr_]; rfl
   refine pv_ 23 60 ?_ (b_ 24 20) rfl rfl HT_.out ?_ ?_; rotate_left; simp only [fr_]; rfl
   refine pv_ 24 61 ?_ (b_ 25 19) rfl rfl HT_.out ?_ ?_; rotate_left; simp only [fr_]; rfl
   refine pv_ 25 62 ?_ (b_ 26 18) rfl rfl HT_.out ?_ ?_; rotate_left; simp only [fr_]; rfl
   refine pv_ 26 63 ?_ (b_ 27 17) rfl rfl HT_.out ?_ ?_; rotate_left; simp only [fr_]; rfl
   refine pv_ 27 64 ?_ (b_ 28 16) rfl rfl HT_.out ?_ ?_; rotate_left; simp only [fr_]; rfl
   refine pv_ 28 65 ?_ (b_ 29 15) rfl rfl HT_.out ?_ ?_; rotate_left; simp only [fr_]; rfl
   refine pu_ 29 66 ?_ (b_ 30 14) rfl rfl HT_.out ?_ ?_ ?_ ?_; rotate_left; intro w'; go_simp; with_reducible rfl; rotate_left; simp only [fr_]; rfl
   refine pu_ 30 67 ?_ (b_ 31 13) rfl rfl HT_.out ?_ ?_ ?_ ?_; rotate_left; intro w'; go_simp; with_reducible rfl; rotate_left; simp only [fr_]; rfl
   refine pv_ 31 68 ?_ (b_ 32 12) rfl rfl HT_.out ?_ ?_; rotate_left; simp only [fr_]; rfl
   refine pv_ 32 69 ?_ (b_ 33 11) rfl rfl HT_.out ?_ ?_; rotate_left; simp only [fr_]; rfl
   refine pv_ 33 70 ?_ (b_ 34 10) rfl rfl HT_.out ?_ ?_; rotate_left; simp only [fr_]; rfl
   refine pv_ 34 71 ?_ (b_ 35 9) rfl rfl HT_.out ?_ ?_; rotate_left; simp only [fr_]; rfl
   refine pv_ 35 72 ?_ (b_ 36 8) rfl rfl HT_.out ?_ ?_; rotate_left; simp only [fr_]; rfl
   refine pu_ 36 73 ?_ (b_ 37 7) rfl rfl HT_.out ?_ ?_ ?_ ?_; rotate_left; intro w'; go_simp; with_reducible rfl; rotate_left; simp only [fr_]; rfl
   refine pu_ 37 74 ?_ (b_ 38 6) rfl rfl HT_.out ?_ ?_ ?_ ?_; rotate_left; intro w'; go_simp; with_reducible rfl; rotate_left; simp only [fr_]; rfl
   refine pv_ 38 75 ?_ (b_ 39 5) rfl rfl HT_.out ?_ ?_; rotate_left; simp only [fr_]; rfl
   refine pv_ 39 76 ?_ (b_ 40 4) rfl rfl HT_.out ?_ ?_; rotate_left; simp only [fr_]; rfl
   refine pv_ 40 77 ?_ (b_ 41 3) rfl rfl HT_.out ?_ ?_; rotate_left; simp only [fr_]; rfl
   refine pv_ 41 78 ?_ (b_ 42 2) rfl rfl HT_.out ?_ ?_; rotate_left; simp only [fr_]; rfl
   refine pv_ 42 79 ?_ (b_ 43 1) rfl rfl HT_.out ?_ ?_; rotate_left; simp only [fr_]; rfl
   refine pu_ 43 80 ?_ (b_ 44 0) rfl rfl HT_.out ?_ ?_ ?_ ?_; rotate_left; intro w'; go_simp; with_reducible rfl; rotate_left; simp only [fr_]; rfl
   refine done_ (done_of HT_.out (by kernel_rfl)) ?_
   try go_wp2
   go_meet
   case rel => exact ⟨_, (true), (by first | rfl | (simp; done) | (simp [*]; done)), H', ⟨by first | omega | exact Nat.le_refl _⟩, ⟨by (with_reducible repeat (first | apply Kd.R_alloc | apply Kd.R_drewN | apply Kd.R_drew)); exact Kd.R_mono HO555.out (fun _ hk => ⟨hk.1.1.1.2, ⟨hk.1.1.2, ⟨hk.2, ⟨hk.1.1.1.1.2, hk.1.2⟩⟩⟩⟩)⟩, ⟨by (with_reducible repeat (first | apply Kd.R_alloc | apply Kd.R_drewN | apply Kd.R_drew)); exact Kd.R_mono HO558.out (fun _ hk => ⟨hk.1.1.1.1.2, ⟨hk.1.1.2, ⟨hk.2, ⟨hk.1.1.1.2, hk.1.2⟩⟩⟩⟩)⟩, ⟨by (with_reducible repeat (first | apply Kd.R_alloc | apply Kd.R_drewN | apply Kd.R_drew)); exact Kd.R_mono HO561.out (fun _ hk => ⟨hk.1.1.1.1.2, ⟨hk.1.1.1.2, ⟨hk.2, ⟨hk.1.1.2, hk.1.2⟩⟩⟩⟩)⟩, ⟨by (with_reducible repeat (first | apply Kd.R_alloc | apply Kd.R_drewN | apply Kd.R_drew)); exact Kd.R_mono HO568.out (fun _ hk => ⟨hk.1.1.1.1.2, ⟨hk.1.1.1.2, ⟨hk.1.1.2, ⟨hk.1.2, hk.2⟩⟩⟩⟩)⟩, ⟨by (with_reducible repeat (first | refine kn_ ?_ _ | refine kd_ ?_ | refine ka_ ?_ _)); exact BK552.out⟩, ⟨by (with_reducible repeat (first | refine kn_ ?_ _ | refine kd_ ?_ | refine ka_ ?_ _)); exact BK565.out⟩, ⟨by repeat (first | (with_reducible first | exact HB.out | apply ba_ | apply bn_ | apply bd_ | refine below_set ?_ GE552.out | refine below_set ?_ GE565.out) | exact HB.out)⟩⟩
  replace c24 := Bool.eq_false_iff.mpr c24
  subst c24
  rw [if_neg (show ¬ (false = true) by decide)] at H
  have H' := Aside0.mk H
  clear H
  try go_wp2
  have n0_ := Aside0.mk (Kd.R_drew HO549.out)
  have n1_ := Aside0.mk (Kd.R_drew HO555.out)
  have n2_ := Aside0.mk (Kd.R_drew HO558.out)
  have n3_ := Aside0.mk (Kd.R_drew HO561.out)
  have n4_ := Aside0.mk (Kd.R_drew HO568.out)
  have n5_ := Aside0.mk (blk_drew BK552.out)
  have n6_ := Aside0.mk (blk_drew BK565.out)
  have n7_ := Aside0.mk (bd_ HB.out)
  clear HO549 HO555 HO558 HO561 HO568 BK552 BK565 HB
  have HO549 := n0_
  have HO555 := n1_
  have HO558 := n2_
  have HO561 := n3_
  have HO568 := n4_
  have BK552 := n5_
  have BK565 := n6_
  have HB := n7_
  clear n0_ n1_ n2_ n3_ n4_ n5_ n6_ n7_
  refine start_ (n := 44) (S := fun w' => True) (ds := []) #[f_,f_,f_,f_,f_,f_,f_,f_,f_,f_,f_,f_,f_,f_,f_,f_,f_,f_,f_,f_,f_,f_,f_,f_,f_,f_,f_,f_,f_,f_,f_,f_,f_,f_,f_,f_,f_,f_,f_,f_,f_,f_,f_,f_] (by kernel_rfl) rfl rfl trivial (fun hHeld => ?_); refine with_tabW laws_FnHeaps.tab8 laws_FnHeaps.bits8 (fun HT_ HW_ => ?_)
  generalize w22.drew = w81 at HO549 HO555 HO558 HO561 HO568 BK552 BK565 HB hHeld ⊢
  refine pu_ 0 37 ?_ (b_ 1 43) rfl rfl HT_.out ?_ ?_ ?_ ?_; rotate_left; intro w'; go_simp; with_reducible rfl; rotate_left; simp only [fr_]; rfl
  refine one_ (i := 1) (N := some 38) #[t_,t_,f_,f_,f_,f_,f_,f_,f_,f_,f_,f_,f_,f_,f_,f_,f_,f_,f_,f_,f_,f_,f_,f_,f_,f_,f_,f_,f_,f_,f_,f_,f_,f_,f_,f_,f_,f_,f_,f_,f_,f_,f_,f_] rfl rfl (one_of HT_.out (by kernel_rfl)) (by decide) (fun K hK => ?_)
  refine goes_ Try.func20 (by kernel_rfl) rfl #[.slice Ao13 t547.length co13] (by rfl) rfl rfl (by (try simp only [mp_]); first | done | rfl | (simp only [List.length_drop, List.length_take]; rfl)) ?_
  with_reducible refine (impl_HeapOk.calls k _ _ t547 false _ ?side1 ?side2 A23.out).mono ?_
  (case side1 => repeat (first | exact (Kd.R_reads' HO549.out).2.2 | (with_reducible first | refine ca_ ?_ _ | refine cn_ ?_ _ | refine cd_ ?_)))
  (case side2 => exact (Kd.R_reads' HO549.out).2.1)
  rintro e w82 ⟨rfl, hb⟩
  refine ⟨_, rfl, ?_⟩
  have n0_ := Aside0.mk (Kd.R_below (rp_ HO549.out) hb)
  have n1_ := Aside0.mk (Kd.R_below (rp_ HO555.out) hb)
  have n2_ := Aside0.mk (Kd.R_below (rp_ HO558.out) hb)
  have n3_ := Aside0.mk (Kd.R_below (rp_ HO561.out) hb)
  have n4_ := Aside0.mk (Kd.R_below (rp_ HO568.out) hb)
  have n5_ := Aside0.mk (bb_ BK552.out hb)
  have n6_ := Aside0.mk (bb_ BK565.out hb)
  have n7_ := Aside0.mk (below_step (by repeat (first | (with_reducible first | exact HB.out | apply ba_ | apply bn_ | apply bd_ | refine below_set ?_ GE552.out | refine below_set ?_ GE565.out) | exact HB.out)) hb)
  clear HO549 HO555 HO558 HO561 HO568 BK552 BK565 HB
  have HO549 := n0_
  have HO555 := n1_
  have HO558 := n2_
  have HO561 := n3_
  have HO568 := n4_
  have BK552 := n5_
  have BK565 := n6_
  have HB := n7_
  clear n0_ n1_ n2_ n3_ n4_ n5_ n6_ n7_
  (try clear hb)
  (try clear hb2)
  (try clear hk)
  (try clear hi)
  refine hK.out _ _ trivial (fun hHeld => ?_)
  clear hK K
  refine norm_ (a' := ?_) ?_ ?_
  rotate_left
  ·
   show Act.put _ (some 38) _ = _
   simp only [fr_]
   rfl
  refine pu_ 2 39 ?_ (b_ 3 41) rfl rfl HT_.out ?_ ?_ ?_ ?_; rotate_left; intro w'; go_simp; with_reducible rfl; rotate_left; simp only [fr_]; rfl
  refine pu_ 3 40 ?_ (b_ 4 40) rfl rfl HT_.out ?_ ?_ ?_ ?_; rotate_left; intro w'; go_simp; with_reducible rfl; rotate_left; simp only [fr_]; rfl
  refine pv_ 4 41 ?_ (b_ 5 39) rfl rfl HT_.out ?_ ?_; rotate_left; simp only [fr_]; rfl
  refine pv_ 5 42 ?_ (b_ 6 38) rfl rfl HT_.out ?_ ?_; rotate_left; simp only [fr_]; rfl
  refine pv_ 6 43 ?_ (b_ 7 37) rfl rfl HT_.out ?_ ?_; rotate_left; simp only [fr_]; rfl
  refine pu_ 7 44 ?_ (b_ 8 36) rfl rfl HT_.out ?_ ?_ ?_ ?_; rotate_left; intro w'; go_simp; with_reducible rfl; rotate_left; simp only [fr_]; rfl
  refine pu_ 8 45 ?_ (b_ 9 35) rfl rfl HT_.out ?_ ?_ ?_ ?_; rotate_left; intro w'; go_simp; with_reducible rfl; rotate_left; simp only [fr_]; rfl
  refine pv_ 9 46 ?_ (b_ 10 34) rfl rfl HT_.out ?_ ?_; rotate_left; simp only [fr_]; rfl
  refine pv_ 10 47 ?_ (b_ 11 33) rfl rfl HT_.out ?_ ?_; rotate_left; simp only [fr_]; rfl
  refine pv_ 11 48 ?_ (b_ 12 32) rfl rfl HT_.out ?_ ?_; rotate_left; simp only [fr_]; rfl
  refine pu_ 12 49 ?_ (b_ 13 31) rfl rfl HT_.out ?_ ?_ ?_ ?_; rotate_left; intro w'; go_simp; with_reducible rfl; rotate_left; simp only [fr_]; rfl
  refine pu_ 13 50 ?_ (b_ 14 30) rfl rfl HT_.out ?_ ?_ ?_ ?_; rotate_left; intro w'; go_simp; with_reducible rfl; rotate_left; simp only [fr_]; rfl
  refine pv_ 14 51 ?_ (b_ 15 29) rfl rfl HT_.out ?_ ?_; rotate_left; simp only [fr_]; rfl
  refine pv_ 15 52 ?_ (b_ 16 28) rfl rfl HT_.out ?_ ?_; rotate_left; simp only [fr_]; rfl
  refine pv_ 16 53 ?_ (b_ 17 27) rfl rfl HT_.out ?_ ?_; rotate_left; simp only [fr_]; rfl
  refine pu_ 17 54 ?_ (b_ 18 26) rfl rfl HT_.out ?_ ?_ ?_ ?_; rotate_left; intro w'; go_simp; with_reducible rfl; rotate_left; simp only [fr_]; rfl
  refine pu_ 18 55 ?_ (b_ 19 25) rfl rfl HT_.out ?_ ?_ ?_ ?_; rotate_left; intro w'; go_simp; with_reducible rfl; rotate_left; simp only [fr_]; rfl
  refine pv_ 19 56 ?_ (b_ 20 24) rfl rfl HT_.out ?_ ?_; rotate_left; simp only [fr_]; rfl
  refine pv_ 20 57 ?_ (b_ 21 23) rfl rfl HT_.out ?_ ?_; rotate_left; simp only [fr_]; rfl
  refine pu_ 21 58 ?_ (b_ 22 22) rfl rfl HT_.out ?_ ?_ ?_ ?_; rotate_left; intro w'; go_simp; with_reducible rfl; rotate_left; simp only [fr_]; rfl
  refine pu_ 22 59 ?_ (b_ 23 21) rfl rfl HT_.out ?_ ?_ ?_ ?_; rotate_left; intro w'; go_simp; with_reducible rfl; rotate_left; simp only [fr_]; rfl
  refine pv_ 23 60 ?_ (b_ 24 20) rfl rfl HT_.out ?_ ?_; rotate_left; simp only [fr_]; rfl
  refine pv_ 24 61 ?_ (b_ 25 19) rfl rfl HT_.out ?_ ?_; rotate_left; simp only [fr_]; rfl
  refine pv_ 25 62 ?_ (b_ 26 18) rfl rfl HT_.out ?_ ?_; rotate_left; simp only [fr_]; rfl
  refine pv_ 26 63 ?_ (b_ 27 17) rfl rfl HT_.out ?_ ?_; rotate_left; simp only [fr_]; rfl
  refine pv_ 27 64 ?_ (b_ 28 16) rfl rfl HT_.out ?_ ?_; rotate_left; simp only [fr_]; rfl
  refine pv_ 28 65 ?_ (b_ 29 15) rfl rfl HT_.out ?_ ?_; rotate_left; simp only [fr_]; rfl
  refine pu_ 29 66 ?_ (b_ 30 14) rfl rfl HT_.out ?_ ?_ ?_ ?_; rotate_left; intro w'; go_simp; with_reducible rfl; rotate_left; simp only [fr_]; rfl
  refine pu_ 30 67 ?_ (b_ 31 13) rfl rfl HT_.out ?_ ?_ ?_ ?_; rotate_left; intro w'; go_simp; with_reducible rfl; rotate_left; simp only [fr_]; rfl
  refine pv_ 31 68 ?_ (b_ 32 12) rfl rfl HT_.out ?_ ?_; rotate_left; simp only [fr_]; rfl
  refine pv_ 32 69 ?_ (b_ 33 11) rfl rfl HT_.out ?_ ?_; rotate_left; simp only [fr_]; rfl
  refine pv_ 33 70 ?_ (b_ 34 10) rfl rfl HT_.out ?_ ?_; rotate_left; simp only [fr_]; rfl
  refine pv_ 34 71 ?_ (b_ 35 9) rfl rfl HT_.out ?_ ?_; rotate_left; simp only [fr_]; rfl
  refine pv_ 35 72 ?_ (b_ 36 8) rfl rfl HT_.out ?_ ?_; rotate_left; simp only [fr_]; rfl
  refine pu_ 36 73 ?_ (b_ 37 7) rfl rfl HT_.out ?_ ?_ ?_ ?_; rotate_left; intro w'; go_simp; with_reducible rfl; rotate_left; simp only [fr_]; rfl
  refine pu_ 37 74 ?_ (b_ 38 6) rfl rfl HT_.out ?_ ?_ ?_ ?_; rotate_left; intro w'; go_simp; with_reducible rfl; rotate_left; simp only [fr_]; rfl
  refine pv_ 38 75 ?_ (b_ 39 5) rfl rfl HT_.out ?_ ?_; rotate_left; simp only [fr_]; rfl
  refine pv_ 39 76 ?_ (b_ 40 4) rfl rfl HT_.out ?_ ?_; rotate_left; simp only [fr_]; rfl
  refine pv_ 40 77 ?_ (b_ 41 3) rfl rfl HT_.out ?_ ?_; rotate_left; simp only [fr_]; rfl
  refine pv_ 41 78 ?_ (b_ 42 2) rfl rfl HT_.out ?_ ?_; rotate_left; simp only [fr_]; rfl
  refine pv_ 42 79 ?_ (b_ 43 1) rfl rfl HT_.out ?_ ?_; rotate_left; simp only [fr_]; rfl
  refine pu_ 43 80 ?_ (b_ 44 0) rfl rfl HT_.out ?_ ?_ ?_ ?_; rotate_left; intro w'; go_simp; with_reducible rfl; rotate_left; simp only [fr_]; rfl
  refine done_ (done_of HT_.out (by kernel_rfl)) ?_
  try go_wp2
  go_meet
  case rel => exact ⟨_, (true), (by first | rfl | (simp; done) | (simp [*]; done)), H', ⟨by first | omega | exact Nat.le_refl _⟩, ⟨by (with_reducible repeat (first | apply Kd.R_alloc | apply Kd.R_drewN | apply Kd.R_drew)); exact Kd.R_mono HO555.out (fun _ hk => ⟨hk.1.1.1.2, ⟨hk.1.1.2, ⟨hk.2, ⟨hk.1.1.1.1.2, hk.1.2⟩⟩⟩⟩)⟩, ⟨by (with_reducible repeat (first | apply Kd.R_alloc | apply Kd.R_drewN | apply Kd.R_drew)); exact Kd.R_mono HO558.out (fun _ hk => ⟨hk.1.1.1.1.2, ⟨hk.1.1.2, ⟨hk.2, ⟨hk.1.1.1.2, hk.1.2⟩⟩⟩⟩)⟩, ⟨by (with_reducible repeat (first | apply Kd.R_alloc | apply Kd.R_drewN | apply Kd.R_drew)); exact Kd.R_mono HO561.out (fun _ hk => ⟨hk.1.1.1.1.2, ⟨hk.1.1.1.2, ⟨hk.2, ⟨hk.1.1.2, hk.1.2⟩⟩⟩⟩)⟩, ⟨by (with_reducible repeat (first | apply Kd.R_alloc | apply Kd.R_drewN | apply Kd.R_drew)); exact Kd.R_mono HO568.out (fun _ hk => ⟨hk.1.1.1.1.2, ⟨hk.1.1.1.2, ⟨hk.1.1.2, ⟨hk.1.2, hk.2⟩⟩⟩⟩)⟩, ⟨by (with_reducible repeat (first | refine kn_ ?_ _ | refine kd_ ?_ | refine ka_ ?_ _)); exact BK552.out⟩, ⟨by (with_reducible repeat (first | refine kn_ ?_ _ | refine kd_ ?_ | refine ka_ ?_ _)); exact BK565.out⟩, ⟨by repeat (first | (with_reducible first | exact HB.out | apply ba_ | apply bn_ | apply bd_ | refine below_set ?_ GE552.out | refine below_set ?_ GE565.out) | exact HB.out)⟩⟩
 case rest =>
  clear HC9
  try clear c2
  try clear p2
  try clear c20
  try clear c24
  obtain ⟨kq, x80_8, rfl, HA, HJ8, HO_5, HO_6, HO_7, HO_10, BK552, BK565, HB⟩ := hcut
  cases kq with
  | zero => exact absurd HA.out (by simp [laws_FnHeaps.j0])
  | succ kj8 =>
   have H := HA.out
   clear HA
   simp only [laws_FnHeaps.j0] at H
   by_cases c83 : x80_8 = true
   ·
    subst c83
    rw [if_pos rfl] at H
    exact absurd H (by simp)
   replace c83 := Bool.eq_false_iff.mpr c83
   subst c83
   rw [if_neg (show ¬ (false = true) by decide)] at H
   have H' := Aside0.mk H
   clear H
   go_wp2
   go_loopg [11, 12] kj8 (fun kq v11 v12 w' => ∃ (x11_2 : Int) (x12_2 : Int), v11 = .int .i64 x11_2 ∧ v12 = .int .i64 x12_2 ∧ Aside0 (laws_FnHeaps.l0 kq t553 t556 t559 t566 x11_2 x12_2 t550 t551 = some r) ∧ Aside0 (kq ≤ kj8) ∧ Aside0 (Kd.R k25 25 w' w.heap.size (fun k_ => some k_ ≠ (v557 : Value).ownBlock ∧ some k_ ≠ (v560 : Value).ownBlock ∧ some k_ ≠ (v567 : Value).ownBlock ∧ k_ ≠ gb552 ∧ k_ ≠ gb565) (.slice Ao15 t553.length co15) t553) ∧ Aside0 (Kd.R k25 25 w' w.heap.size (fun k_ => some k_ ≠ ((.slice Ao15 t553.length co15) : Value).ownBlock ∧ some k_ ≠ (v560 : Value).ownBlock ∧ some k_ ≠ (v567 : Value).ownBlock ∧ k_ ≠ gb552 ∧ k_ ≠ gb565) v557 t556) ∧ Aside0 (Kd.R k25 25 w' w.heap.size (fun k_ => some k_ ≠ ((.slice Ao15 t553.length co15) : Value).ownBlock ∧ some k_ ≠ (v557 : Value).ownBlock ∧ some k_ ≠ (v567 : Value).ownBlock ∧ k_ ≠ gb552 ∧ k_ ≠ gb565) v560 t559) ∧ Aside0 (Kd.R k25 25 w' w.heap.size (fun k_ => some k_ ≠ ((.slice Ao15 t553.length co15) : Value).ownBlock ∧ some k_ ≠ (v557 : Value).ownBlock ∧ some k_ ≠ (v560 : Value).ownBlock ∧ k_ ≠ gb552 ∧ k_ ≠ gb565) v567 t566) ∧ Aside0 (w'.heap[gb552]? = some (.cells #[.int .i64 t550, .int .i64 t551] 25 (0, 0))) ∧ Aside0 (w'.heap[gb565]? = some (.cells #[.int .i64 t562, .int .i64 t563] 25 (0, 0))) ∧ Aside0 (Below w.heap.size w w'))
   case atStart => exact ⟨(0), (0), (by first | rfl | (simp; done) | (simp [*]; done)), (by first | rfl | (simp; done) | (simp [*]; done)), H', ⟨Nat.le_refl _⟩, ⟨by (with_reducible repeat (first | apply Kd.R_alloc | apply Kd.R_drewN | apply Kd.R_drew)); exact HO_5.out⟩, ⟨by (with_reducible repeat (first | apply Kd.R_alloc | apply Kd.R_drewN | apply Kd.R_drew)); exact HO_6.out⟩, ⟨by (with_reducible repeat (first | apply Kd.R_alloc | apply Kd.R_drewN | apply Kd.R_drew)); exact HO_7.out⟩, ⟨by (with_reducible repeat (first | apply Kd.R_alloc | apply Kd.R_drewN | apply Kd.R_drew)); exact HO_10.out⟩, ⟨by (with_reducible repeat (first | refine kn_ ?_ _ | refine kd_ ?_ | refine ka_ ?_ _)); exact BK552.out⟩, ⟨by (with_reducible repeat (first | refine kn_ ?_ _ | refine kd_ ?_ | refine ka_ ?_ _)); exact BK565.out⟩, ⟨by repeat (first | (with_reducible first | exact HB.out | apply ba_ | apply bn_ | apply bd_ | refine below_set ?_ GE552.out | refine below_set ?_ GE565.out) | exact HB.out)⟩⟩
   case round =>
    clear H'
    try clear c2
    try clear p2
    try clear c8
    try clear c20
    try clear c24
    try clear c83
    try clear p2
    obtain ⟨x11_2, x12_2, rfl, rfl, HA, HK2, HO_5, HO_6, HO_7, HO_10, BK552, BK565, HB⟩ := hrel
    cases gk with
    | zero => exact absurd HA.out (by simp [laws_FnHeaps.l0])
    | succ k2 =>
     have H := HA.out
     clear HA
     simp only [laws_FnHeaps.l0] at H
     by_cases c84 : x12_2 < (t556.length : Int)
     ·
      rw [if_pos c84] at H
      have c84b0 := decide_eq_true c84
      clear c84
      have HC85 := Aside0.mk H
      clear H
      obtain ⟨Ao86, co86, eo86⟩ := Kd.R_slice HO_6.out
      subst eo86
      go_upto_region 14 with (fail)
      go_cut [100] (fun v100 wc => ∃ (kq : Nat) (x100_84 : Bool), v100 = .bool x100_84 ∧ Aside0 (laws_FnHeaps.j2 kq t553 t556 t559 t566 x11_2 x12_2 x100_84 t550 t551 = some r) ∧ Aside0 (kq ≤ k2) ∧ Aside0 (Kd.R k25 25 wc w.heap.size (fun k_ => some k_ ≠ ((.slice Ao86 t556.length co86) : Value).ownBlock ∧ some k_ ≠ (v560 : Value).ownBlock ∧ some k_ ≠ (v567 : Value).ownBlock ∧ k_ ≠ gb552 ∧ k_ ≠ gb565) (.slice Ao15 t553.length co15) t553) ∧ Aside0 (Kd.R k25 25 wc w.heap.size (fun k_ => some k_ ≠ ((.slice Ao15 t553.length co15) : Value).ownBlock ∧ some k_ ≠ (v560 : Value).ownBlock ∧ some k_ ≠ (v567 : Value).ownBlock ∧ k_ ≠ gb552 ∧ k_ ≠ gb565) (.slice Ao86 t556.length co86) t556) ∧ Aside0 (Kd.R k25 25 wc w.heap.size (fun k_ => some k_ ≠ ((.slice Ao15 t553.length co15) : Value).ownBlock ∧ some k_ ≠ ((.slice Ao86 t556.length co86) : Value).ownBlock ∧ some k_ ≠ (v567 : Value).ownBlock ∧ k_ ≠ gb552 ∧ k_ ≠ gb565) v560 t559) ∧ Aside0 (Kd.R k25 25 wc w.heap.size (fun k_ => some k_ ≠ ((.slice Ao15 t553.length co15) : Value).ownBlock ∧ some k_ ≠ ((.slice Ao86 t556.length co86) : Value).ownBlock ∧ some k_ ≠ (v560 : Value).ownBlock ∧ k_ ≠ gb552 ∧ k_ ≠ gb565) v567 t566) ∧ Aside0 (wc.heap[gb552]? = some (.cells #[.int .i64 t550, .int .i64 t551] 25 (0, 0))) ∧ Aside0 (wc.heap[gb565]? = some (.cells #[.int .i64 t562, .int .i64 t563] 25 (0, 0))) ∧ Aside0 (Below w.heap.size w wc))
      case first =>
       have H := HC85.out
       clear HC85
       by_cases c87 : x12_2 > 0
       ·
        rw [if_pos c87] at H
        have c87b0 : decide (0 < x12_2) = true := decide_eq_true c87
        clear c87
        (first | rw [c87b0] | (simp only [i64_w, i32_w]; rw [c87b0]) | skip)
        by_cases c88 : 0 ≤ x12_2
        ·
         rw [if_pos c88] at H
         have c88b0 := decide_eq_true c88
         clear c88
         obtain ⟨ji89, hji89⟩ : ∃ j_ : Int, (wrap64 (x12_2 - 1)) = j_ := ⟨_, rfl⟩
         replace H : (if 0 ≤ (ji89) then (if (ji89) < (t556.length : Int) then ((impl_Before.f ((rd_T25 t556 x12_2).f0) ((rd_T25 t556 x12_2).f1) ((rd_T25 t556 (ji89)).f0) ((rd_T25 t556 (ji89)).f1)).bind fun t584 => (laws_FnHeaps.j2 k2 t553 t556 t559 t566 x11_2 x12_2 t584 t550 t551)) else (none)) else (none)) = some r := by first | (rw [hji89] at H; exact H) | (simp only [hji89] at H ⊢; exact H)
         have hji89w : (IntKind.i64.wrap (x12_2 - 1)) = ji89 := (i64_w _).trans hji89
         by_cases c90 : 0 ≤ (ji89)
         ·
          rw [if_pos c90] at H
          have c90b0 := decide_eq_true c90
          clear c90
          by_cases c91 : (ji89) < (t556.length : Int)
          ·
           rw [if_pos c91] at H
           have c91b0 := decide_eq_true c91
           clear c91
           replace H := Option.bind_eq_some_iff.mp H
           obtain ⟨t584, A920, H⟩ := H
           have A92 := Aside0.mk A920
           clear A920
           have H' := Aside0.mk H
           clear H
           try go_wp2
           have n0_ := Aside0.mk (Kd.R_drew HO_5.out)
           have n1_ := Aside0.mk (Kd.R_drew HO_6.out)
           have n2_ := Aside0.mk (Kd.R_drew HO_7.out)
           have n3_ := Aside0.mk (Kd.R_drew HO_10.out)
           have n4_ := Aside0.mk (blk_drew BK552.out)
           have n5_ := Aside0.mk (blk_drew BK565.out)
           have n6_ := Aside0.mk (bd_ HB.out)
           clear HO_5 HO_6 HO_7 HO_10 BK552 BK565 HB
           have HO_5 := n0_
           have HO_6 := n1_
           have HO_7 := n2_
           have HO_10 := n3_
           have BK552 := n4_
           have BK565 := n5_
           have HB := n6_
           clear n0_ n1_ n2_ n3_ n4_ n5_ n6_
           have p582 : 0 ≤ (x12_2 : Int) := of_decide_eq_true (by with_reducible assumption)
           have q582 : x12_2 < (t556.length : Int) := of_decide_eq_true (by with_reducible assumption)
           obtain ⟨ad582, e582, hx582_0, hx582_1⟩ := at_T25 (Kd.R_reads' HO_6.out).2.2 x12_2 p582 q582
           cases e582
           replace p582 := eq_true p582
           replace q582 := eq_true q582
           have p583 : 0 ≤ ((ji89) : Int) := of_decide_eq_true (by with_reducible assumption)
           have q583 : (ji89) < (t556.length : Int) := of_decide_eq_true (by with_reducible assumption)
           obtain ⟨ad583, e583, hx583_0, hx583_1⟩ := at_T25 (Kd.R_reads' HO_6.out).2.2 (ji89) p583 q583
           obtain rfl : ad582 = ad583 := (by injection e583)
           replace p583 := eq_true p583
           replace q583 := eq_true q583
           refine start_ (n := 14) (S := fun w' => w'.cell? (ad582.add ((x12_2).toNat * 2)) = some (.int .i64 ((rd_T25 t556 x12_2).f0)) ∧ w'.cell? ⟨(ad582.add ((x12_2).toNat * 2)).block, (ad582.add ((x12_2).toNat * 2)).off + 1, none⟩ = some (.int .i64 ((rd_T25 t556 x12_2).f1)) ∧ w'.cell? (ad582.add (((ji89)).toNat * 2)) = some (.int .i64 ((rd_T25 t556 (ji89)).f0)) ∧ w'.cell? ⟨(ad582.add (((ji89)).toNat * 2)).block, (ad582.add (((ji89)).toNat * 2)).off + 1, none⟩ = some (.int .i64 ((rd_T25 t556 (ji89)).f1))) (ds := []) #[f_,f_,f_,f_,f_,f_,f_,f_,f_,f_,f_,f_,f_,f_] (by kernel_rfl) rfl rfl ⟨hx582_0, hx582_1, hx583_0, hx583_1⟩ (fun hHeld => ?_); refine with_tabW laws_FnHeaps.tab14 laws_FnHeaps.bits14 (fun HT_ HW_ => ?_)
           generalize wr.drew = w93 at HO_5 HO_6 HO_7 HO_10 BK552 BK565 HB hx582_0 hx582_1 hx583_0 hx583_1 hHeld ⊢
           refine pu_ 0 87 ?_ (b_ 1 13) rfl rfl HT_.out ?_ ?_ ?_ ?_; rotate_left; intro w'; go_simp; with_reducible rfl; rotate_left; simp only [fr_]; rfl
           refine pu_ 1 88 ?_ (b_ 2 12) rfl rfl HT_.out ?_ ?_ ?_ ?_; rotate_left; intro w'; go_simp; with_reducible rfl; rotate_left; simp only [fr_]; rfl
           refine pu_ 2 89 ?_ (b_ 3 11) rfl rfl HT_.out ?_ ?_ ?_ ?_; rotate_left; intro w'; go_simp; with_reducible rfl; rotate_left; simp only [fr_]; rfl
           refine pu_ 3 90 ?_ (b_ 4 10) rfl rfl HT_.out ?_ ?_ ?_ ?_; rotate_left; intro w'; go_simp; with_reducible rfl; rotate_left; simp only [fr_]; rfl
           refine pu_ 4 91 ?_ (b_ 5 9) rfl rfl HT_.out ?_ ?_ ?_ ?_; rotate_left; intro w'; go_simp; with_reducible rfl; rotate_left; simp only [fr_]; rfl
           refine pu_ 5 92 ?_ (b_ 6 8) rfl rfl HT_.out ?_ ?_ ?_ ?_; rotate_left; intro w'; go_simp; with_reducible rfl; rotate_left; simp only [fr_]; rfl
           refine pu_ 7 94 ?_ #[t_,t_,t_,t_,t_,t_,f_,t_,f_,f_,f_,f_,f_,f_] rfl rfl HT_.out ?_ ?_ ?_ ?_; rotate_left; intro w'; go_simp; with_reducible rfl; rotate_left; simp only [fr_]; rfl
           refine pu_ 8 95 ?_ #[t_,t_,t_,t_,t_,t_,f_,t_,t_,f_,f_,f_,f_,f_] rfl rfl HT_.out ?_ ?_ ?_ ?_; rotate_left; intro w'; go_simp; with_reducible rfl; rotate_left; simp only [fr_]; rfl
           refine pu_ 9 96 ?_ #[t_,t_,t_,t_,t_,t_,f_,t_,t_,t_,f_,f_,f_,f_] rfl rfl HT_.out ?_ ?_ ?_ ?_; rotate_left; intro w'; go_simp; with_reducible rfl; rotate_left; simp only [fr_]; rfl
           refine pu_ 10 97 ?_ #[t_,t_,t_,t_,t_,t_,f_,t_,t_,t_,t_,f_,f_,f_] rfl rfl HT_.out ?_ ?_ ?_ ?_; rotate_left; intro w'; go_simp; with_reducible rfl; rotate_left; simp only [fr_]; rfl
           refine take_ (i := 6) (N := some 93) (v := ?_) (a' := ?_) #[t_,t_,t_,t_,t_,t_,t_,t_,t_,t_,t_,f_,f_,f_] rfl rfl (take_ofW HT_.out HW_.out (by kernel_rfl)) (fun _ _ _ h => h) (Or.inl ⟨by rfl, ?_⟩) hHeld ?_ ?_
           rotate_left
           ·
            rintro w' ⟨s0, s1, s2, s3⟩
            go_simp
            with_reducible rfl
           rotate_left
           ·
            simp only [fr_]
            rfl
           refine take_ (i := 11) (N := some 98) (v := ?_) (a' := ?_) #[t_,t_,t_,t_,t_,t_,t_,t_,t_,t_,t_,t_,f_,f_] rfl rfl (take_ofW HT_.out HW_.out (by kernel_rfl)) (fun _ _ _ h => h) (Or.inl ⟨by rfl, ?_⟩) hHeld ?_ ?_
           rotate_left
           ·
            rintro w' ⟨s0, s1, s2, s3⟩
            go_simp
            with_reducible rfl
           rotate_left
           ·
            simp only [fr_]
            rfl
           refine one_ (i := 12) (N := some 99) #[t_,t_,t_,t_,t_,t_,t_,t_,t_,t_,t_,t_,t_,f_] rfl rfl (one_of HT_.out (by kernel_rfl)) (by decide) (fun K hK => ?_)
           refine goes_ Try.func16 (by kernel_rfl) rfl #[.agg #[.int .i64 ((rd_T25 t556 x12_2).f0), .int .i64 ((rd_T25 t556 x12_2).f1)], .agg #[.int .i64 ((rd_T25 t556 (ji89)).f0), .int .i64 ((rd_T25 t556 (ji89)).f1)]] (by rfl) rfl rfl (by (try simp only [mp_]); first | done | (simp only [hji89]; rfl) | rfl | (simp only [List.length_drop, List.length_take]; rfl)) ?_
           with_reducible refine (impl_Before.calls ((rd_T25 t556 x12_2).f0) ((rd_T25 t556 x12_2).f1) ((rd_T25 t556 (ji89)).f0) ((rd_T25 t556 (ji89)).f1) t584 _ A92.out).mono ?_
           rintro e w94 ⟨rfl, hb⟩
           have HS0_ := (hb.cell (World.block_lt_of_cell? _ _ (hHeld.1))).trans (hHeld.1)
           have HS1_ := (hb.cell (World.block_lt_of_cell? _ _ (hHeld.2.1))).trans (hHeld.2.1)
           have HS2_ := (hb.cell (World.block_lt_of_cell? _ _ (hHeld.2.2.1))).trans (hHeld.2.2.1)
           have HS3_ := (hb.cell (World.block_lt_of_cell? _ _ (hHeld.2.2.2))).trans (hHeld.2.2.2)
           refine ⟨_, rfl, ?_⟩
           have n0_ := Aside0.mk (Kd.R_below (rp_ HO_5.out) hb)
           have n1_ := Aside0.mk (Kd.R_below (rp_ HO_6.out) hb)
           have n2_ := Aside0.mk (Kd.R_below (rp_ HO_7.out) hb)
           have n3_ := Aside0.mk (Kd.R_below (rp_ HO_10.out) hb)
           have n4_ := Aside0.mk (bb_ BK552.out hb)
           have n5_ := Aside0.mk (bb_ BK565.out hb)
           have n6_ := Aside0.mk (below_step (by repeat (first | (with_reducible first | exact HB.out | apply ba_ | apply bn_ | apply bd_ | refine below_set ?_ GE552.out | refine below_set ?_ GE565.out) | exact HB.out)) hb)
           clear HO_5 HO_6 HO_7 HO_10 BK552 BK565 HB
           have HO_5 := n0_
           have HO_6 := n1_
           have HO_7 := n2_
           have HO_10 := n3_
           have BK552 := n4_
           have BK565 := n5_
           have HB := n6_
           clear n0_ n1_ n2_ n3_ n4_ n5_ n6_
           (try clear hb)
           (try clear hb2)
           (try clear hk)
           (try clear hi)
           refine hK.out _ _ ⟨HS0_, HS1_, HS2_, HS3_⟩ (fun hHeld => ?_)
           clear hK K
           refine norm_ (a' := ?_) ?_ ?_
           rotate_left
           ·
            show Act.put _ (some 99) _ = _
            simp only [fr_]
            rfl
           refine pu_ 13 100 ?_ (b_ 14 0) rfl rfl HT_.out ?_ ?_ ?_ ?_; rotate_left; intro w'; go_simp; with_reducible rfl; rotate_left; simp only [fr_]; rfl
           refine done_ (done_of HT_.out (by kernel_rfl)) ?_
           try go_wp2
           go_meet
           case rel => exact ⟨_, (t584), (by first | rfl | (simp; done) | (simp [*]; done)), H', ⟨by have := HJ8.out; have := HK2.out; first | omega | exact Nat.le_refl _⟩, ⟨by (with_reducible repeat (first | apply Kd.R_alloc | apply Kd.R_drewN | apply Kd.R_drew)); exact HO_5.out⟩, ⟨by (with_reducible repeat (first | apply Kd.R_alloc | apply Kd.R_drewN | apply Kd.R_drew)); exact HO_6.out⟩, ⟨by (with_reducible repeat (first | apply Kd.R_alloc | apply Kd.R_drewN | apply Kd.R_drew)); exact HO_7.out⟩, ⟨by (with_reducible repeat (first | apply Kd.R_alloc | apply Kd.R_drewN | apply Kd.R_drew)); exact HO_10.out⟩, ⟨by (with_reducible repeat (first | refine kn_ ?_ _ | refine kd_ ?_ | refine ka_ ?_ _)); exact BK552.out⟩, ⟨by (with_reducible repeat (first | refine kn_ ?_ _ | refine kd_ ?_ | refine ka_ ?_ _)); exact BK565.out⟩, ⟨by repeat (first | (with_reducible first | exact HB.out | apply ba_ | apply bn_ | apply bd_ | refine below_set ?_ GE552.out | refine below_set ?_ GE565.out) | exact HB.out)⟩⟩
          rw [if_neg c91] at H
          exact absurd H (by simp)
         rw [if_neg c90] at H
         exact absurd H (by simp)
        rw [if_neg c88] at H
        exact absurd H (by simp)
       rw [if_neg c87] at H
       have c87b0 : decide (0 < x12_2) = false := decide_eq_false c87
       clear c87
       (first | rw [c87b0] | (simp only [i64_w, i32_w]; rw [c87b0]) | skip)
       have H' := Aside0.mk H
       clear H
       try go_wp2
       have n0_ := Aside0.mk (Kd.R_drew HO_5.out)
       have n1_ := Aside0.mk (Kd.R_drew HO_6.out)
       have n2_ := Aside0.mk (Kd.R_drew HO_7.out)
       have n3_ := Aside0.mk (Kd.R_drew HO_10.out)
       have n4_ := Aside0.mk (blk_drew BK552.out)
       have n5_ := Aside0.mk (blk_drew BK565.out)
       have n6_ := Aside0.mk (bd_ HB.out)
       clear HO_5 HO_6 HO_7 HO_10 BK552 BK565 HB
       have HO_5 := n0_
       have HO_6 := n1_
       have HO_7 := n2_
       have HO_10 := n3_
       have BK552 := n4_
       have BK565 := n5_
       have HB := n6_
       clear n0_ n1_ n2_ n3_ n4_ n5_ n6_
       refine start_ (n := 14) (S := fun w' => True) (ds := []) #[f_,f_,f_,f_,f_,f_,f_,f_,f_,f_,f_,f_,f_,f_] (by kernel_rfl) rfl rfl trivial (fun hHeld => ?_); refine with_tabW laws_FnHeaps.tab14 laws_FnHeaps.bits14 (fun HT_ HW_ => ?_)
       generalize wr.drew = w95 at HO_5 HO_6 HO_7 HO_10 BK552 BK565 HB hHeld ⊢
       refine pu_ 0 87 ?_ (b_ 1 13) rfl rfl HT_.out ?_ ?_ ?_ ?_; rotate_left; intro w'; go_simp; with_reducible rfl; rotate_left; simp only [fr_]; rfl
       refine pu_ 1 88 ?_ (b_ 2 12) rfl rfl HT_.out ?_ ?_ ?_ ?_; rotate_left; intro w'; go_simp; with_reducible rfl; rotate_left; simp only [fr_]; rfl
       refine pu_ 2 89 ?_ (b_ 3 11) rfl rfl HT_.out ?_ ?_ ?_ ?_; rotate_left; intro w'; go_simp; with_reducible rfl; rotate_left; simp only [fr_]; rfl
       refine pv_ 3 90 ?_ (b_ 4 10) rfl rfl HT_.out ?_ ?_; rotate_left; simp only [fr_]; rfl
       refine pv_ 4 91 ?_ (b_ 5 9) rfl rfl HT_.out ?_ ?_; rotate_left; simp only [fr_]; rfl
       refine pv_ 5 92 ?_ (b_ 6 8) rfl rfl HT_.out ?_ ?_; rotate_left; simp only [fr_]; rfl
       refine pv_ 6 93 ?_ (b_ 7 7) rfl rfl HT_.out ?_ ?_; rotate_left; simp only [fr_]; rfl
       refine pv_ 7 94 ?_ (b_ 8 6) rfl rfl HT_.out ?_ ?_; rotate_left; simp only [fr_]; rfl
       refine pv_ 8 95 ?_ (b_ 9 5) rfl rfl HT_.out ?_ ?_; rotate_left; simp only [fr_]; rfl
       refine pv_ 9 96 ?_ (b_ 10 4) rfl rfl HT_.out ?_ ?_; rotate_left; simp only [fr_]; rfl
       refine pv_ 10 97 ?_ (b_ 11 3) rfl rfl HT_.out ?_ ?_; rotate_left; simp only [fr_]; rfl
       refine pv_ 11 98 ?_ (b_ 12 2) rfl rfl HT_.out ?_ ?_; rotate_left; simp only [fr_]; rfl
       refine pv_ 12 99 ?_ (b_ 13 1) rfl rfl HT_.out ?_ ?_; rotate_left; simp only [fr_]; rfl
       refine pu_ 13 100 ?_ (b_ 14 0) rfl rfl HT_.out ?_ ?_ ?_ ?_; rotate_left; intro w'; go_simp; with_reducible rfl; rotate_left; simp only [fr_]; rfl
       refine done_ (done_of HT_.out (by kernel_rfl)) ?_
       try go_wp2
       go_meet
       case rel => exact ⟨_, (false), (by first | rfl | (simp; done) | (simp [*]; done)), H', ⟨by have := HJ8.out; have := HK2.out; first | omega | exact Nat.le_refl _⟩, ⟨by (with_reducible repeat (first | apply Kd.R_alloc | apply Kd.R_drewN | apply Kd.R_drew)); exact HO_5.out⟩, ⟨by (with_reducible repeat (first | apply Kd.R_alloc | apply Kd.R_drewN | apply Kd.R_drew)); exact HO_6.out⟩, ⟨by (with_reducible repeat (first | apply Kd.R_alloc | apply Kd.R_drewN | apply Kd.R_drew)); exact HO_7.out⟩, ⟨by (with_reducible repeat (first | apply Kd.R_alloc | apply Kd.R_drewN | apply Kd.R_drew)); exact HO_10.out⟩, ⟨by (with_reducible repeat (first | refine kn_ ?_ _ | refine kd_ ?_ | refine ka_ ?_ _)); exact BK552.out⟩, ⟨by (with_reducible repeat (first | refine kn_ ?_ _ | refine kd_ ?_ | refine ka_ ?_ _)); exact BK565.out⟩, ⟨by repeat (first | (with_reducible first | exact HB.out | apply ba_ | apply bn_ | apply bd_ | refine below_set ?_ GE552.out | refine below_set ?_ GE565.out) | exact HB.out)⟩⟩
      case rest =>
       clear HC85
       try clear c1
       try clear c2
       try clear p2
       try clear p5
       try clear q5
       try clear hx5
       try clear p6
       try clear c8
       try clear c9
       try clear c16
       try clear c20
       try clear c24
       try clear p58
       try clear q58
       try clear hx58
       try clear p64
       try clear c83
       try clear c84
       try clear c84b0
       try clear c87
       try clear c87b0
       try clear c88
       try clear c88b0
       try clear c90
       try clear c90b0
       try clear c91
       try clear c91b0
       try clear hx582_0
       try clear hx582_1
       try clear hx583_0
       try clear hx583_1
       try clear p2
       try clear p582
       try clear p583
       try clear q582
       try clear q583
       obtain ⟨kq, x100_84, rfl, HA, HJ84, HO_5, HO_6, HO_7, HO_10, BK552, BK565, HB⟩ := hcut
       cases kq with
       | zero => exact absurd HA.out (by simp [laws_FnHeaps.j2])
       | succ kj84 =>
        have H := HA.out
        clear HA
        simp only [laws_FnHeaps.j2] at H
        by_cases c96 : x100_84 = true
        ·
         subst c96
         rw [if_pos rfl] at H
         exact absurd H (by simp)
        replace c96 := Bool.eq_false_iff.mpr c96
        subst c96
        rw [if_neg (show ¬ (false = true) by decide)] at H
        by_cases c97 : 0 ≤ x12_2
        ·
         rw [if_pos c97] at H
         have c97b0 := decide_eq_true c97
         clear c97
         by_cases c98 : x12_2 < (t556.length : Int)
         ·
          rw [if_pos c98] at H
          have c98b0 := decide_eq_true c98
          clear c98
          have HC99 := Aside0.mk H
          clear H
          try go_wp2
          have n0_ := Aside0.mk (Kd.R_drew HO_5.out)
          have n1_ := Aside0.mk (Kd.R_drew HO_6.out)
          have n2_ := Aside0.mk (Kd.R_drew HO_7.out)
          have n3_ := Aside0.mk (Kd.R_drew HO_10.out)
          have n4_ := Aside0.mk (blk_drew BK552.out)
          have n5_ := Aside0.mk (blk_drew BK565.out)
          have n6_ := Aside0.mk (bd_ HB.out)
          clear HO_5 HO_6 HO_7 HO_10 BK552 BK565 HB
          have HO_5 := n0_
          have HO_6 := n1_
          have HO_7 := n2_
          have HO_10 := n3_
          have BK552 := n4_
          have BK565 := n5_
          have HB := n6_
          clear n0_ n1_ n2_ n3_ n4_ n5_ n6_
          have p585 : 0 ≤ (x12_2 : Int) := of_decide_eq_true (by with_reducible assumption)
          have q585 : x12_2 < (t556.length : Int) := of_decide_eq_true (by with_reducible assumption)
          obtain ⟨ad585, e585, hx585_0, hx585_1⟩ := at_T25 (Kd.R_reads' HO_6.out).2.2 x12_2 p585 q585
          cases e585
          replace p585 := eq_true p585
          replace q585 := eq_true q585
          refine start_ (n := 8) (S := fun w' => w'.cell? ⟨gb552, 0, none⟩ = some (.int .i64 t550) ∧ w'.cell? ⟨gb552, 1, none⟩ = some (.int .i64 t551) ∧ w'.cell? (ad585.add ((x12_2).toNat * 2)) = some (.int .i64 ((rd_T25 t556 x12_2).f0)) ∧ w'.cell? ⟨(ad585.add ((x12_2).toNat * 2)).block, (ad585.add ((x12_2).toNat * 2)).off + 1, none⟩ = some (.int .i64 ((rd_T25 t556 x12_2).f1))) (ds := []) #[f_,f_,f_,f_,f_,f_,f_,f_] (by kernel_rfl) rfl rfl ⟨bx_ BK552.out 0, bx_ BK552.out 1, hx585_0, hx585_1⟩ (fun hHeld => ?_); refine with_tabW laws_FnHeaps.tab16 laws_FnHeaps.bits16 (fun HT_ HW_ => ?_)
          generalize wc.drew = w100 at HO_5 HO_6 HO_7 HO_10 BK552 BK565 HB hx585_0 hx585_1 hHeld ⊢
          refine pu_ 0 101 ?_ (b_ 1 7) rfl rfl HT_.out ?_ ?_ ?_ ?_; rotate_left; intro w'; go_simp; with_reducible rfl; rotate_left; simp only [fr_]; rfl
          refine pu_ 1 102 ?_ (b_ 2 6) rfl rfl HT_.out ?_ ?_ ?_ ?_; rotate_left; intro w'; go_simp; with_reducible rfl; rotate_left; simp only [fr_]; rfl
          refine pu_ 2 103 ?_ (b_ 3 5) rfl rfl HT_.out ?_ ?_ ?_ ?_; rotate_left; intro w'; go_simp; with_reducible rfl; rotate_left; simp only [fr_]; rfl
          refine pu_ 3 104 ?_ (b_ 4 4) rfl rfl HT_.out ?_ ?_ ?_ ?_; rotate_left; intro w'; go_simp; with_reducible rfl; rotate_left; simp only [fr_]; rfl
          refine pu_ 5 106 ?_ #[t_,t_,t_,t_,f_,t_,f_,f_] rfl rfl HT_.out ?_ ?_ ?_ ?_; rotate_left; intro w'; go_simp; with_reducible rfl; rotate_left; simp only [fr_]; rfl
          refine take_ (i := 4) (N := some 105) (v := ?_) (a' := ?_) #[t_,t_,t_,t_,t_,t_,f_,f_] rfl rfl (take_ofW HT_.out HW_.out (by kernel_rfl)) (fun _ _ _ h => h) (Or.inl ⟨by rfl, ?_⟩) hHeld ?_ ?_
          rotate_left
          ·
           rintro w' ⟨s0, s1, s2, s3⟩
           go_simp
           with_reducible rfl
          rotate_left
          ·
           simp only [fr_]
           rfl
          refine take_ (i := 6) (N := some 107) (v := ?_) (a' := ?_) #[t_,t_,t_,t_,t_,t_,t_,f_] rfl rfl (take_ofW HT_.out HW_.out (by kernel_rfl)) (fun _ _ _ h => h) (Or.inl ⟨by rfl, ?_⟩) hHeld ?_ ?_
          rotate_left
          ·
           rintro w' ⟨s0, s1, s2, s3⟩
           go_simp
           with_reducible rfl
          rotate_left
          ·
           simp only [fr_]
           rfl
          refine pu_ 7 108 ?_ (b_ 8 0) rfl rfl HT_.out ?_ ?_ ?_ ?_; rotate_left; intro w'; go_simp; with_reducible rfl; rotate_left; simp only [fr_]; rfl
          refine done_ (done_of HT_.out (by kernel_rfl)) ?_
          go_upto_if 108 with (fail)
          go_cut [11] (fun v11 wc => ∃ (kq : Nat) (x11_98 : Int), v11 = .int .i64 x11_98 ∧ Aside0 (laws_FnHeaps.j3 kq t553 t556 t559 t566 x11_98 x12_2 t550 t551 = some r) ∧ Aside0 (kq ≤ kj84) ∧ Aside0 (Kd.R k25 25 wc w.heap.size (fun k_ => some k_ ≠ ((.slice (some ad585) t556.length co86) : Value).ownBlock ∧ some k_ ≠ (v560 : Value).ownBlock ∧ some k_ ≠ (v567 : Value).ownBlock ∧ k_ ≠ gb552 ∧ k_ ≠ gb565) (.slice Ao15 t553.length co15) t553) ∧ Aside0 (Kd.R k25 25 wc w.heap.size (fun k_ => some k_ ≠ ((.slice Ao15 t553.length co15) : Value).ownBlock ∧ some k_ ≠ (v560 : Value).ownBlock ∧ some k_ ≠ (v567 : Value).ownBlock ∧ k_ ≠ gb552 ∧ k_ ≠ gb565) (.slice (some ad585) t556.length co86) t556) ∧ Aside0 (Kd.R k25 25 wc w.heap.size (fun k_ => some k_ ≠ ((.slice Ao15 t553.length co15) : Value).ownBlock ∧ some k_ ≠ ((.slice (some ad585) t556.length co86) : Value).ownBlock ∧ some k_ ≠ (v567 : Value).ownBlock ∧ k_ ≠ gb552 ∧ k_ ≠ gb565) v560 t559) ∧ Aside0 (Kd.R k25 25 wc w.heap.size (fun k_ => some k_ ≠ ((.slice Ao15 t553.length co15) : Value).ownBlock ∧ some k_ ≠ ((.slice (some ad585) t556.length co86) : Value).ownBlock ∧ some k_ ≠ (v560 : Value).ownBlock ∧ k_ ≠ gb552 ∧ k_ ≠ gb565) v567 t566) ∧ Aside0 (wc.heap[gb552]? = some (.cells #[.int .i64 t550, .int .i64 t551] 25 (0, 0))) ∧ Aside0 (wc.heap[gb565]? = some (.cells #[.int .i64 t562, .int .i64 t563] 25 (0, 0))) ∧ Aside0 (Below w.heap.size w wc))
          case first =>
           have H := HC99.out
           clear HC99
           by_cases c101 : ((rd_T25 t556 x12_2).f1) = t551
           ·
            rw [if_pos c101] at H
            have c101b0 : (((rd_T25 t556 x12_2).f1) == t551) = true := beq_iff_eq.mpr c101
            have c101b1 : (((rd_T25 t556 x12_2).f1) != t551) = false := bne_eq_false_iff_eq.mpr c101
            clear c101
            (first | rw [c101b0] | (simp only [i64_w, i32_w]; rw [c101b0]) | skip)
            have H' := Aside0.mk H
            clear H
            go_wp2
            go_meet
            case rel => exact ⟨_, (wrap64 (x11_2 + 1)), (by first | rfl | (simp; done) | (simp [*]; done)), H', ⟨by have := HJ8.out; have := HK2.out; have := HJ84.out; first | omega | exact Nat.le_refl _⟩, ⟨by (with_reducible repeat (first | apply Kd.R_alloc | apply Kd.R_drewN | apply Kd.R_drew)); exact HO_5.out⟩, ⟨by (with_reducible repeat (first | apply Kd.R_alloc | apply Kd.R_drewN | apply Kd.R_drew)); exact HO_6.out⟩, ⟨by (with_reducible repeat (first | apply Kd.R_alloc | apply Kd.R_drewN | apply Kd.R_drew)); exact HO_7.out⟩, ⟨by (with_reducible repeat (first | apply Kd.R_alloc | apply Kd.R_drewN | apply Kd.R_drew)); exact HO_10.out⟩, ⟨by (with_reducible repeat (first | refine kn_ ?_ _ | refine kd_ ?_ | refine ka_ ?_ _)); exact BK552.out⟩, ⟨by (with_reducible repeat (first | refine kn_ ?_ _ | refine kd_ ?_ | refine ka_ ?_ _)); exact BK565.out⟩, ⟨by repeat (first | (with_reducible first | exact HB.out | apply ba_ | apply bn_ | apply bd_ | refine below_set ?_ GE552.out | refine below_set ?_ GE565.out) | exact HB.out)⟩⟩
           rw [if_neg c101] at H
           have c101b0 : (((rd_T25 t556 x12_2).f1) == t551) = false := beq_eq_false_iff_ne.mpr c101
           have c101b1 : (((rd_T25 t556 x12_2).f1) != t551) = true := bne_iff_ne.mpr c101
           (first | rw [c101b0] | (simp only [i64_w, i32_w]; rw [c101b0]) | skip)
           have H' := Aside0.mk H
           clear H
           go_wp2
           go_meet
           case rel => exact ⟨_, (x11_2), (by first | rfl | (simp; done) | (simp [*]; done)), H', ⟨by have := HJ8.out; have := HK2.out; have := HJ84.out; first | omega | exact Nat.le_refl _⟩, ⟨by (with_reducible repeat (first | apply Kd.R_alloc | apply Kd.R_drewN | apply Kd.R_drew)); exact HO_5.out⟩, ⟨by (with_reducible repeat (first | apply Kd.R_alloc | apply Kd.R_drewN | apply Kd.R_drew)); exact HO_6.out⟩, ⟨by (with_reducible repeat (first | apply Kd.R_alloc | apply Kd.R_drewN | apply Kd.R_drew)); exact HO_7.out⟩, ⟨by (with_reducible repeat (first | apply Kd.R_alloc | apply Kd.R_drewN | apply Kd.R_drew)); exact HO_10.out⟩, ⟨by (with_reducible repeat (first | refine kn_ ?_ _ | refine kd_ ?_ | refine ka_ ?_ _)); exact BK552.out⟩, ⟨by (with_reducible repeat (first | refine kn_ ?_ _ | refine kd_ ?_ | refine ka_ ?_ _)); exact BK565.out⟩, ⟨by repeat (first | (with_reducible first | exact HB.out | apply ba_ | apply bn_ | apply bd_ | refine below_set ?_ GE552.out | refine below_set ?_ GE565.out) | exact HB.out)⟩⟩
          case rest =>
           clear HC99
           try clear c1
           try clear c2
           try clear p2
           try clear p5
           try clear q5
           try clear hx5
           try clear p6
           try clear c8
           try clear c9
           try clear c10
           try clear c16
           try clear c20
           try clear c24
           try clear p58
           try clear q58
           try clear hx58
           try clear p64
           try clear c83
           try clear c84
           try clear c84b0
           try clear c87
           try clear c87b0
           try clear c88
           try clear c88b0
           try clear c90
           try clear c90b0
           try clear c91
           try clear c91b0
           try clear c96
           try clear c97
           try clear c97b0
           try clear c98
           try clear c98b0
           try clear c101
           try clear c101b0
           try clear c101b1
           try clear hx582_0
           try clear hx582_1
           try clear hx583_0
           try clear hx583_1
           try clear hx585_0
           try clear hx585_1
           try clear p2
           try clear p5
           try clear p58
           try clear p582
           try clear p583
           try clear p585
           try clear p6
           try clear p64
           try clear q5
           try clear q58
           try clear q582
           try clear q583
           try clear q585
           obtain ⟨kq, x11_98, rfl, HA, HJ98, HO_5, HO_6, HO_7, HO_10, BK552, BK565, HB⟩ := hcut
           cases kq with
           | zero => exact absurd HA.out (by simp [laws_FnHeaps.j3])
           | succ kj98 =>
            have H := HA.out
            clear HA
            simp only [laws_FnHeaps.j3] at H
            have H' := Aside0.mk H
            clear H
            go_wp2
            go_loopg [13, 14] kj98 (fun kq v13 v14 w' => ∃ (x13_5 : Int) (x14_5 : Int), v13 = .int .i64 x13_5 ∧ v14 = .int .i64 x14_5 ∧ Aside0 (laws_FnHeaps.l1 kq t553 t556 t559 t566 x11_98 x12_2 x13_5 x14_5 t550 t551 = some r) ∧ Aside0 (kq ≤ kj98) ∧ Aside0 (Kd.R k25 25 w' w.heap.size (fun k_ => some k_ ≠ ((.slice (some ad585) t556.length co86) : Value).ownBlock ∧ some k_ ≠ (v560 : Value).ownBlock ∧ some k_ ≠ (v567 : Value).ownBlock ∧ k_ ≠ gb552 ∧ k_ ≠ gb565) (.slice Ao15 t553.length co15) t553) ∧ Aside0 (Kd.R k25 25 w' w.heap.size (fun k_ => some k_ ≠ ((.slice Ao15 t553.length co15) : Value).ownBlock ∧ some k_ ≠ (v560 : Value).ownBlock ∧ some k_ ≠ (v567 : Value).ownBlock ∧ k_ ≠ gb552 ∧ k_ ≠ gb565) (.slice (some ad585) t556.length co86) t556) ∧ Aside0 (Kd.R k25 25 w' w.heap.size (fun k_ => some k_ ≠ ((.slice Ao15 t553.length co15) : Value).ownBlock ∧ some k_ ≠ ((.slice (some ad585) t556.length co86) : Value).ownBlock ∧ some k_ ≠ (v567 : Value).ownBlock ∧ k_ ≠ gb552 ∧ k_ ≠ gb565) v560 t559) ∧ Aside0 (Kd.R k25 25 w' w.heap.size (fun k_ => some k_ ≠ ((.slice Ao15 t553.length co15) : Value).ownBlock ∧ some k_ ≠ ((.slice (some ad585) t556.length co86) : Value).ownBlock ∧ some k_ ≠ (v560 : Value).ownBlock ∧ k_ ≠ gb552 ∧ k_ ≠ gb565) v567 t566) ∧ Aside0 (w'.heap[gb552]? = some (.cells #[.int .i64 t550, .int .i64 t551] 25 (0, 0))) ∧ Aside0 (w'.heap[gb565]? = some (.cells #[.int .i64 t562, .int .i64 t563] 25 (0, 0))) ∧ Aside0 (Below w.heap.size w w'))
            case atStart => exact ⟨(0), (0), (by first | rfl | (simp; done) | (simp [*]; done)), (by first | rfl | (simp; done) | (simp [*]; done)), H', ⟨Nat.le_refl _⟩, ⟨by (with_reducible repeat (first | apply Kd.R_alloc | apply Kd.R_drewN | apply Kd.R_drew)); exact HO_5.out⟩, ⟨by (with_reducible repeat (first | apply Kd.R_alloc | apply Kd.R_drewN | apply Kd.R_drew)); exact HO_6.out⟩, ⟨by (with_reducible repeat (first | apply Kd.R_alloc | apply Kd.R_drewN | apply Kd.R_drew)); exact HO_7.out⟩, ⟨by (with_reducible repeat (first | apply Kd.R_alloc | apply Kd.R_drewN | apply Kd.R_drew)); exact HO_10.out⟩, ⟨by (with_reducible repeat (first | refine kn_ ?_ _ | refine kd_ ?_ | refine ka_ ?_ _)); exact BK552.out⟩, ⟨by (with_reducible repeat (first | refine kn_ ?_ _ | refine kd_ ?_ | refine ka_ ?_ _)); exact BK565.out⟩, ⟨by repeat (first | (with_reducible first | exact HB.out | apply ba_ | apply bn_ | apply bd_ | refine below_set ?_ GE552.out | refine below_set ?_ GE565.out) | exact HB.out)⟩⟩
            case round =>
             clear H'
             try clear c1
             try clear c2
             try clear p2
             try clear p5
             try clear q5
             try clear hx5
             try clear p6
             try clear c8
             try clear c9
             try clear c10
             try clear c16
             try clear c20
             try clear c24
             try clear p58
             try clear q58
             try clear hx58
             try clear p64
             try clear c83
             try clear c84
             try clear c84b0
             try clear c87
             try clear c87b0
             try clear c88
             try clear c88b0
             try clear c90
             try clear c90b0
             try clear c91
             try clear c91b0
             try clear c96
             try clear c97
             try clear c97b0
             try clear c98
             try clear c98b0
             try clear c101
             try clear c101b0
             try clear c101b1
             try clear hx582_0
             try clear hx582_1
             try clear hx583_0
             try clear hx583_1
             try clear hx585_0
             try clear hx585_1
             try clear p2
             try clear p5
             try clear p58
             try clear p582
             try clear p583
             try clear p585
             try clear p6
             try clear p64
             try clear q5
             try clear q58
             try clear q582
             try clear q583
             try clear q585
             obtain ⟨x13_5, x14_5, rfl, rfl, HA, HK5, HO_5, HO_6, HO_7, HO_10, BK552, BK565, HB⟩ := hrel
             cases gk with
             | zero => exact absurd HA.out (by simp [laws_FnHeaps.l1])
             | succ k5 =>
              have H := HA.out
              clear HA
              simp only [laws_FnHeaps.l1] at H
              by_cases c102 : x14_5 < (t556.length : Int)
              ·
               rw [if_pos c102] at H
               have c102b0 := decide_eq_true c102
               clear c102
               by_cases c103 : 0 ≤ x14_5
               ·
                rw [if_pos c103] at H
                have c103b0 := decide_eq_true c103
                clear c103
                by_cases c104 : 0 ≤ x12_2
                ·
                 rw [if_pos c104] at H
                 have c104b0 := decide_eq_true c104
                 clear c104
                 by_cases c105 : x12_2 < (t556.length : Int)
                 ·
                  rw [if_pos c105] at H
                  have c105b0 := decide_eq_true c105
                  clear c105
                  by_cases c106 : (((rd_T25 t556 x14_5).f0) == ((rd_T25 t556 x12_2).f0) && (((rd_T25 t556 x14_5).f1) == ((rd_T25 t556 x12_2).f1))) = true
                  ·
                   rw [if_pos c106] at H
                   have c106b0 : (((rd_T25 t556 x14_5).f0) == ((rd_T25 t556 x12_2).f0) && (((rd_T25 t556 x14_5).f1) == ((rd_T25 t556 x12_2).f1))) = true := c106
                   (try (have c106b1 : decide (((rd_T25 t556 x14_5).f0) = ((rd_T25 t556 x12_2).f0) && (((rd_T25 t556 x14_5).f1) == ((rd_T25 t556 x12_2).f1))) = true := by simpa using c106))
                   (try (have c106b2 : (((rd_T25 t556 x14_5).f0) == ((rd_T25 t556 x12_2).f0) && (((rd_T25 t556 x14_5).f1) == ((rd_T25 t556 x12_2).f1))) = true := by simpa using c106))
                   clear c106
                   by_cases c107 : x14_5 < (t553.length : Int)
                   ·
                    rw [if_pos c107] at H
                    have c107b0 := decide_eq_true c107
                    clear c107
                    by_cases c108 : (((rd_T25 t553 x14_5).f0) == ((rd_T25 t556 x12_2).f0) && (((rd_T25 t553 x14_5).f1) == ((rd_T25 t556 x12_2).f1))) = true
                    ·
                     rw [if_pos c108] at H
                     have c108b0 : (((rd_T25 t553 x14_5).f0) == ((rd_T25 t556 x12_2).f0) && (((rd_T25 t553 x14_5).f1) == ((rd_T25 t556 x12_2).f1))) = true := c108
                     (try (have c108b1 : decide (((rd_T25 t553 x14_5).f0) = ((rd_T25 t556 x12_2).f0) && (((rd_T25 t553 x14_5).f1) == ((rd_T25 t556 x12_2).f1))) = true := by simpa using c108))
                     (try (have c108b2 : (((rd_T25 t553 x14_5).f0) == ((rd_T25 t556 x12_2).f0) && (((rd_T25 t553 x14_5).f1) == ((rd_T25 t556 x12_2).f1))) = true := by simpa using c108))
                     clear c108
                     have H' := Aside0.mk H
                     clear H
                     try go_wp2
                     have n0_ := Aside0.mk (Kd.R_drew HO_5.out)
                     have n1_ := Aside0.mk (Kd.R_drew HO_6.out)
                     have n2_ := Aside0.mk (Kd.R_drew HO_7.out)
                     have n3_ := Aside0.mk (Kd.R_drew HO_10.out)
                     have n4_ := Aside0.mk (blk_drew BK552.out)
                     have n5_ := Aside0.mk (blk_drew BK565.out)
                     have n6_ := Aside0.mk (bd_ HB.out)
                     clear HO_5 HO_6 HO_7 HO_10 BK552 BK565 HB
                     have HO_5 := n0_
                     have HO_6 := n1_
                     have HO_7 := n2_
                     have HO_10 := n3_
                     have BK552 := n4_
                     have BK565 := n5_
                     have HB := n6_
                     clear n0_ n1_ n2_ n3_ n4_ n5_ n6_
                     have p586 : 0 ≤ (x14_5 : Int) := of_decide_eq_true (by with_reducible assumption)
                     have q586 : x14_5 < (t556.length : Int) := of_decide_eq_true (by with_reducible assumption)
                     obtain ⟨ad586, e586, hx586_0, hx586_1⟩ := at_T25 (Kd.R_reads' HO_6.out).2.2 x14_5 p586 q586
                     obtain rfl : ad585 = ad586 := (by injection e586)
                     replace p586 := eq_true p586
                     replace q586 := eq_true q586
                     have p587 : 0 ≤ (x12_2 : Int) := of_decide_eq_true (by with_reducible assumption)
                     have q587 : x12_2 < (t556.length : Int) := of_decide_eq_true (by with_reducible assumption)
                     obtain ⟨ad587, e587, hx587_0, hx587_1⟩ := at_T25 (Kd.R_reads' HO_6.out).2.2 x12_2 p587 q587
                     obtain rfl : ad585 = ad587 := (by injection e587)
                     replace p587 := eq_true p587
                     replace q587 := eq_true q587
                     refine start_ (n := 9) (S := fun w' => w'.cell? (ad585.add ((x14_5).toNat * 2)) = some (.int .i64 ((rd_T25 t556 x14_5).f0)) ∧ w'.cell? ⟨(ad585.add ((x14_5).toNat * 2)).block, (ad585.add ((x14_5).toNat * 2)).off + 1, none⟩ = some (.int .i64 ((rd_T25 t556 x14_5).f1)) ∧ w'.cell? (ad585.add ((x12_2).toNat * 2)) = some (.int .i64 ((rd_T25 t556 x12_2).f0)) ∧ w'.cell? ⟨(ad585.add ((x12_2).toNat * 2)).block, (ad585.add ((x12_2).toNat * 2)).off + 1, none⟩ = some (.int .i64 ((rd_T25 t556 x12_2).f1))) (ds := []) #[f_,f_,f_,f_,f_,f_,f_,f_,f_] (by kernel_rfl) rfl rfl ⟨hx586_0, hx586_1, hx587_0, hx587_1⟩ (fun hHeld => ?_); refine with_tabW laws_FnHeaps.tab22 laws_FnHeaps.bits22 (fun HT_ HW_ => ?_)
                     generalize wr.drew = w109 at HO_5 HO_6 HO_7 HO_10 BK552 BK565 HB hx586_0 hx586_1 hx587_0 hx587_1 hHeld ⊢
                     refine pu_ 0 117 ?_ (b_ 1 8) rfl rfl HT_.out ?_ ?_ ?_ ?_; rotate_left; intro w'; go_simp; with_reducible rfl; rotate_left; simp only [fr_]; rfl
                     refine pu_ 1 118 ?_ (b_ 2 7) rfl rfl HT_.out ?_ ?_ ?_ ?_; rotate_left; intro w'; go_simp; with_reducible rfl; rotate_left; simp only [fr_]; rfl
                     refine pu_ 2 119 ?_ (b_ 3 6) rfl rfl HT_.out ?_ ?_ ?_ ?_; rotate_left; intro w'; go_simp; with_reducible rfl; rotate_left; simp only [fr_]; rfl
                     refine pu_ 4 121 ?_ #[t_,t_,t_,f_,t_,f_,f_,f_,f_] rfl rfl HT_.out ?_ ?_ ?_ ?_; rotate_left; intro w'; go_simp; with_reducible rfl; rotate_left; simp only [fr_]; rfl
                     refine pu_ 5 122 ?_ #[t_,t_,t_,f_,t_,t_,f_,f_,f_] rfl rfl HT_.out ?_ ?_ ?_ ?_; rotate_left; intro w'; go_simp; with_reducible rfl; rotate_left; simp only [fr_]; rfl
                     refine pu_ 6 123 ?_ #[t_,t_,t_,f_,t_,t_,t_,f_,f_] rfl rfl HT_.out ?_ ?_ ?_ ?_; rotate_left; intro w'; go_simp; with_reducible rfl; rotate_left; simp only [fr_]; rfl
                     refine take_ (i := 3) (N := some 120) (v := ?_) (a' := ?_) #[t_,t_,t_,t_,t_,t_,t_,f_,f_] rfl rfl (take_ofW HT_.out HW_.out (by kernel_rfl)) (fun _ _ _ h => h) (Or.inl ⟨by rfl, ?_⟩) hHeld ?_ ?_
                     rotate_left
                     ·
                      rintro w' ⟨s0, s1, s2, s3⟩
                      go_simp
                      with_reducible rfl
                     rotate_left
                     ·
                      simp only [fr_]
                      rfl
                     refine take_ (i := 7) (N := some 124) (v := ?_) (a' := ?_) #[t_,t_,t_,t_,t_,t_,t_,t_,f_] rfl rfl (take_ofW HT_.out HW_.out (by kernel_rfl)) (fun _ _ _ h => h) (Or.inl ⟨by rfl, ?_⟩) hHeld ?_ ?_
                     rotate_left
                     ·
                      rintro w' ⟨s0, s1, s2, s3⟩
                      go_simp
                      with_reducible rfl
                     rotate_left
                     ·
                      simp only [fr_]
                      rfl
                     refine pu_ 8 125 ?_ (b_ 9 0) rfl rfl HT_.out ?_ ?_ ?_ ?_; rotate_left; intro w'; go_simp; with_reducible rfl; rotate_left; simp only [fr_]; rfl
                     refine done_ (done_of HT_.out (by kernel_rfl)) ?_
                     try go_wp2
                     have n0_ := Aside0.mk (Kd.R_drew HO_5.out)
                     have n1_ := Aside0.mk (Kd.R_drew HO_6.out)
                     have n2_ := Aside0.mk (Kd.R_drew HO_7.out)
                     have n3_ := Aside0.mk (Kd.R_drew HO_10.out)
                     have n4_ := Aside0.mk (blk_drew BK552.out)
                     have n5_ := Aside0.mk (blk_drew BK565.out)
                     have n6_ := Aside0.mk (bd_ HB.out)
                     clear HO_5 HO_6 HO_7 HO_10 BK552 BK565 HB
                     have HO_5 := n0_
                     have HO_6 := n1_
                     have HO_7 := n2_
                     have HO_10 := n3_
                     have BK552 := n4_
                     have BK565 := n5_
                     have HB := n6_
                     clear n0_ n1_ n2_ n3_ n4_ n5_ n6_
                     have p588 : 0 ≤ (x14_5 : Int) := of_decide_eq_true (by with_reducible assumption)
                     have q588 : x14_5 < (t553.length : Int) := of_decide_eq_true (by with_reducible assumption)
                     obtain ⟨ad588, e588, hx588_0, hx588_1⟩ := at_T25 (Kd.R_reads' HO_5.out).2.2 x14_5 p588 q588
                     cases e588
                     replace p588 := eq_true p588
                     replace q588 := eq_true q588
                     have p589 : 0 ≤ (x12_2 : Int) := of_decide_eq_true (by with_reducible assumption)
                     have q589 : x12_2 < (t556.length : Int) := of_decide_eq_true (by with_reducible assumption)
                     obtain ⟨ad589, e589, hx589_0, hx589_1⟩ := at_T25 (Kd.R_reads' HO_6.out).2.2 x12_2 p589 q589
                     obtain rfl : ad585 = ad589 := (by injection e589)
                     replace p589 := eq_true p589
                     replace q589 := eq_true q589
                     refine start_ (n := 9) (S := fun w' => w'.cell? (ad588.add ((x14_5).toNat * 2)) = some (.int .i64 ((rd_T25 t553 x14_5).f0)) ∧ w'.cell? ⟨(ad588.add ((x14_5).toNat * 2)).block, (ad588.add ((x14_5).toNat * 2)).off + 1, none⟩ = some (.int .i64 ((rd_T25 t553 x14_5).f1)) ∧ w'.cell? (ad585.add ((x12_2).toNat * 2)) = some (.int .i64 ((rd_T25 t556 x12_2).f0)) ∧ w'.cell? ⟨(ad585.add ((x12_2).toNat * 2)).block, (ad585.add ((x12_2).toNat * 2)).off + 1, none⟩ = some (.int .i64 ((rd_T25 t556 x12_2).f1))) (ds := []) #[f_,f_,f_,f_,f_,f_,f_,f_,f_] (by kernel_rfl) rfl rfl ⟨hx588_0, hx588_1, hx589_0, hx589_1⟩ (fun hHeld => ?_); refine with_tabW laws_FnHeaps.tab24 laws_FnHeaps.bits24 (fun HT_ HW_ => ?_)
                     generalize w109.drew = w110 at HO_5 HO_6 HO_7 HO_10 BK552 BK565 HB hx588_0 hx588_1 hx589_0 hx589_1 hHeld ⊢
                     refine pu_ 0 128 ?_ (b_ 1 8) rfl rfl HT_.out ?_ ?_ ?_ ?_; rotate_left; intro w'; go_simp; with_reducible rfl; rotate_left; simp only [fr_]; rfl
                     refine pu_ 1 129 ?_ (b_ 2 7) rfl rfl HT_.out ?_ ?_ ?_ ?_; rotate_left; intro w'; go_simp; with_reducible rfl; rotate_left; simp only [fr_]; rfl
                     refine pu_ 2 130 ?_ (b_ 3 6) rfl rfl HT_.out ?_ ?_ ?_ ?_; rotate_left; intro w'; go_simp; with_reducible rfl; rotate_left; simp only [fr_]; rfl
                     refine pu_ 4 132 ?_ #[t_,t_,t_,f_,t_,f_,f_,f_,f_] rfl rfl HT_.out ?_ ?_ ?_ ?_; rotate_left; intro w'; go_simp; with_reducible rfl; rotate_left; simp only [fr_]; rfl
                     refine pu_ 5 133 ?_ #[t_,t_,t_,f_,t_,t_,f_,f_,f_] rfl rfl HT_.out ?_ ?_ ?_ ?_; rotate_left; intro w'; go_simp; with_reducible rfl; rotate_left; simp only [fr_]; rfl
                     refine pu_ 6 134 ?_ #[t_,t_,t_,f_,t_,t_,t_,f_,f_] rfl rfl HT_.out ?_ ?_ ?_ ?_; rotate_left; intro w'; go_simp; with_reducible rfl; rotate_left; simp only [fr_]; rfl
                     refine take_ (i := 3) (N := some 131) (v := ?_) (a' := ?_) #[t_,t_,t_,t_,t_,t_,t_,f_,f_] rfl rfl (take_ofW HT_.out HW_.out (by kernel_rfl)) (fun _ _ _ h => h) (Or.inl ⟨by rfl, ?_⟩) hHeld ?_ ?_
                     rotate_left
                     ·
                      rintro w' ⟨s0, s1, s2, s3⟩
                      go_simp
                      with_reducible rfl
                     rotate_left
                     ·
                      simp only [fr_]
                      rfl
                     refine take_ (i := 7) (N := some 135) (v := ?_) (a' := ?_) #[t_,t_,t_,t_,t_,t_,t_,t_,f_] rfl rfl (take_ofW HT_.out HW_.out (by kernel_rfl)) (fun _ _ _ h => h) (Or.inl ⟨by rfl, ?_⟩) hHeld ?_ ?_
                     rotate_left
                     ·
                      rintro w' ⟨s0, s1, s2, s3⟩
                      go_simp
                      with_reducible rfl
                     rotate_left
                     ·
                      simp only [fr_]
                      rfl
                     refine pu_ 8 136 ?_ (b_ 9 0) rfl rfl HT_.out ?_ ?_ ?_ ?_; rotate_left; intro w'; go_simp; with_reducible rfl; rotate_left; simp only [fr_]; rfl
                     refine done_ (done_of HT_.out (by kernel_rfl)) ?_
                     try go_wp2
                     go_roundg k5
                     case measure => have := HJ8.out; have := HK2.out; have := HJ84.out; have := HJ98.out; have := HK5.out; omega
                     case rel => exact ⟨(wrap64 ((wrap64 (x13_5 + 1)) - 1)), (wrap64 (x14_5 + 1)), (by first | rfl | (simp; done) | (simp [*]; done)), (by first | rfl | (simp; done) | (simp [*]; done)), H', ⟨by have := HJ8.out; have := HK2.out; have := HJ84.out; have := HJ98.out; have := HK5.out; omega⟩, ⟨by (with_reducible repeat (first | apply Kd.R_alloc | apply Kd.R_drewN | apply Kd.R_drew)); exact HO_5.out⟩, ⟨by (with_reducible repeat (first | apply Kd.R_alloc | apply Kd.R_drewN | apply Kd.R_drew)); exact HO_6.out⟩, ⟨by (with_reducible repeat (first | apply Kd.R_alloc | apply Kd.R_drewN | apply Kd.R_drew)); exact HO_7.out⟩, ⟨by (with_reducible repeat (first | apply Kd.R_alloc | apply Kd.R_drewN | apply Kd.R_drew)); exact HO_10.out⟩, ⟨by (with_reducible repeat (first | refine kn_ ?_ _ | refine kd_ ?_ | refine ka_ ?_ _)); exact BK552.out⟩, ⟨by (with_reducible repeat (first | refine kn_ ?_ _ | refine kd_ ?_ | refine ka_ ?_ _)); exact BK565.out⟩, ⟨by repeat (first | (with_reducible first | exact HB.out | apply ba_ | apply bn_ | apply bd_ | refine below_set ?_ GE552.out | refine below_set ?_ GE565.out) | exact HB.out)⟩⟩
                    rw [if_neg c108] at H
                    have c108b0 : (((rd_T25 t553 x14_5).f0) == ((rd_T25 t556 x12_2).f0) && (((rd_T25 t553 x14_5).f1) == ((rd_T25 t556 x12_2).f1))) = false := by simpa using c108
                    (try (have c108b1 : decide (((rd_T25 t553 x14_5).f0) = ((rd_T25 t556 x12_2).f0) && (((rd_T25 t553 x14_5).f1) == ((rd_T25 t556 x12_2).f1))) = false := by simpa using c108))
                    (try (have c108b2 : (((rd_T25 t553 x14_5).f0) == ((rd_T25 t556 x12_2).f0) && (((rd_T25 t553 x14_5).f1) == ((rd_T25 t556 x12_2).f1))) = false := by simpa using c108))
                    (try (have c108b3 : ¬ (((rd_T25 t553 x14_5).f0) = ((rd_T25 t556 x12_2).f0) && (((rd_T25 t553 x14_5).f1) == ((rd_T25 t556 x12_2).f1))) := by simpa using c108))
                    clear c108
                    have H' := Aside0.mk H
                    clear H
                    try go_wp2
                    have n0_ := Aside0.mk (Kd.R_drew HO_5.out)
                    have n1_ := Aside0.mk (Kd.R_drew HO_6.out)
                    have n2_ := Aside0.mk (Kd.R_drew HO_7.out)
                    have n3_ := Aside0.mk (Kd.R_drew HO_10.out)
                    have n4_ := Aside0.mk (blk_drew BK552.out)
                    have n5_ := Aside0.mk (blk_drew BK565.out)
                    have n6_ := Aside0.mk (bd_ HB.out)
                    clear HO_5 HO_6 HO_7 HO_10 BK552 BK565 HB
                    have HO_5 := n0_
                    have HO_6 := n1_
                    have HO_7 := n2_
                    have HO_10 := n3_
                    have BK552 := n4_
                    have BK565 := n5_
                    have HB := n6_
                    clear n0_ n1_ n2_ n3_ n4_ n5_ n6_
                    have p586 : 0 ≤ (x14_5 : Int) := of_decide_eq_true (by with_reducible assumption)
                    have q586 : x14_5 < (t556.length : Int) := of_decide_eq_true (by with_reducible assumption)
                    obtain ⟨ad586, e586, hx586_0, hx586_1⟩ := at_T25 (Kd.R_reads' HO_6.out).2.2 x14_5 p586 q586
                    obtain rfl : ad585 = ad586 := (by injection e586)
                    replace p586 := eq_true p586
                    replace q586 := eq_true q586
                    have p587 : 0 ≤ (x12_2 : Int) := of_decide_eq_true (by with_reducible assumption)
                    have q587 : x12_2 < (t556.length : Int) := of_decide_eq_true (by with_reducible assumption)
                    obtain ⟨ad587, e587, hx587_0, hx587_1⟩ := at_T25 (Kd.R_reads' HO_6.out).2.2 x12_2 p587 q587
                    obtain rfl : ad585 = ad587 := (by injection e587)
                    replace p587 := eq_true p587
                    replace q587 := eq_true q587
                    refine start_ (n := 9) (S := fun w' => w'.cell? (ad585.add ((x14_5).toNat * 2)) = some (.int .i64 ((rd_T25 t556 x14_5).f0)) ∧ w'.cell? ⟨(ad585.add ((x14_5).toNat * 2)).block, (ad585.add ((x14_5).toNat * 2)).off + 1, none⟩ = some (.int .i64 ((rd_T25 t556 x14_5).f1)) ∧ w'.cell? (ad585.add ((x12_2).toNat * 2)) = some (.int .i64 ((rd_T25 t556 x12_2).f0)) ∧ w'.cell? ⟨(ad585.add ((x12_2).toNat * 2)).block, (ad585.add ((x12_2).toNat * 2)).off + 1, none⟩ = some (.int .i64 ((rd_T25 t556 x12_2).f1))) (ds := []) #[f_,f_,f_,f_,f_,f_,f_,f_,f_] (by kernel_rfl) rfl rfl ⟨hx586_0, hx586_1, hx587_0, hx587_1⟩ (fun hHeld => ?_); refine with_tabW laws_FnHeaps.tab22 laws_FnHeaps.bits22 (fun HT_ HW_ => ?_)
                    generalize wr.drew = w111 at HO_5 HO_6 HO_7 HO_10 BK552 BK565 HB hx586_0 hx586_1 hx587_0 hx587_1 hHeld ⊢
                    refine pu_ 0 117 ?_ (b_ 1 8) rfl rfl HT_.out ?_ ?_ ?_ ?_; rotate_left; intro w'; go_simp; with_reducible rfl; rotate_left; simp only [fr_]; rfl
                    refine pu_ 1 118 ?_ (b_ 2 7) rfl rfl HT_.out ?_ ?_ ?_ ?_; rotate_left; intro w'; go_simp; with_reducible rfl; rotate_left; simp only [fr_]; rfl
                    refine pu_ 2 119 ?_ (b_ 3 6) rfl rfl HT_.out ?_ ?_ ?_ ?_; rotate_left; intro w'; go_simp; with_reducible rfl; rotate_left; simp only [fr_]; rfl
                    refine pu_ 4 121 ?_ #[t_,t_,t_,f_,t_,f_,f_,f_,f_] rfl rfl HT_.out ?_ ?_ ?_ ?_; rotate_left; intro w'; go_simp; with_reducible rfl; rotate_left; simp only [fr_]; rfl
                    refine pu_ 5 122 ?_ #[t_,t_,t_,f_,t_,t_,f_,f_,f_] rfl rfl HT_.out ?_ ?_ ?_ ?_; rotate_left; intro w'; go_simp; with_reducible rfl; rotate_left; simp only [fr_]; rfl
                    refine pu_ 6 123 ?_ #[t_,t_,t_,f_,t_,t_,t_,f_,f_] rfl rfl HT_.out ?_ ?_ ?_ ?_; rotate_left; intro w'; go_simp; with_reducible rfl; rotate_left; simp only [fr_]; rfl
                    refine take_ (i := 3) (N := some 120) (v := ?_) (a' := ?_) #[t_,t_,t_,t_,t_,t_,t_,f_,f_] rfl rfl (take_ofW HT_.out HW_.out (by kernel_rfl)) (fun _ _ _ h => h) (Or.inl ⟨by rfl, ?_⟩) hHeld ?_ ?_
                    rotate_left
                    ·
                     rintro w' ⟨s0, s1, s2, s3⟩
                     go_simp
                     with_reducible rfl
                    rotate_left
                    ·
                     simp only [fr_]
                     rfl
                    refine take_ (i := 7) (N := some 124) (v := ?_) (a' := ?_) #[t_,t_,t_,t_,t_,t_,t_,t_,f_] rfl rfl (take_ofW HT_.out HW_.out (by kernel_rfl)) (fun _ _ _ h => h) (Or.inl ⟨by rfl, ?_⟩) hHeld ?_ ?_
                    rotate_left
                    ·
                     rintro w' ⟨s0, s1, s2, s3⟩
                     go_simp
                     with_reducible rfl
                    rotate_left
                    ·
                     simp only [fr_]
                     rfl
                    refine pu_ 8 125 ?_ (b_ 9 0) rfl rfl HT_.out ?_ ?_ ?_ ?_; rotate_left; intro w'; go_simp; with_reducible rfl; rotate_left; simp only [fr_]; rfl
                    refine done_ (done_of HT_.out (by kernel_rfl)) ?_
                    try go_wp2
                    have n0_ := Aside0.mk (Kd.R_drew HO_5.out)
                    have n1_ := Aside0.mk (Kd.R_drew HO_6.out)
                    have n2_ := Aside0.mk (Kd.R_drew HO_7.out)
                    have n3_ := Aside0.mk (Kd.R_drew HO_10.out)
                    have n4_ := Aside0.mk (blk_drew BK552.out)
                    have n5_ := Aside0.mk (blk_drew BK565.out)
                    have n6_ := Aside0.mk (bd_ HB.out)
                    clear HO_5 HO_6 HO_7 HO_10 BK552 BK565 HB
                    have HO_5 := n0_
                    have HO_6 := n1_
                    have HO_7 := n2_
                    have HO_10 := n3_
                    have BK552 := n4_
                    have BK565 := n5_
                    have HB := n6_
                    clear n0_ n1_ n2_ n3_ n4_ n5_ n6_
                    have p588 : 0 ≤ (x14_5 : Int) := of_decide_eq_true (by with_reducible assumption)
                    have q588 : x14_5 < (t553.length : Int) := of_decide_eq_true (by with_reducible assumption)
                    obtain ⟨ad588, e588, hx588_0, hx588_1⟩ := at_T25 (Kd.R_reads' HO_5.out).2.2 x14_5 p588 q588
                    cases e588
                    replace p588 := eq_true p588
                    replace q588 := eq_true q588
                    have p589 : 0 ≤ (x12_2 : Int) := of_decide_eq_true (by with_reducible assumption)
                    have q589 : x12_2 < (t556.length : Int) := of_decide_eq_true (by with_reducible assumption)
                    obtain ⟨ad589, e589, hx589_0, hx589_1⟩ := at_T25 (Kd.R_reads' HO_6.out).2.2 x12_2 p589 q589
                    obtain rfl : ad585 = ad589 := (by injection e589)
                    replace p589 := eq_true p589
                    replace q589 := eq_true q589
                    refine start_ (n := 9) (S := fun w' => w'.cell? (ad588.add ((x14_5).toNat * 2)) = some (.int .i64 ((rd_T25 t553 x14_5).f0)) ∧ w'.cell? ⟨(ad588.add ((x14_5).toNat * 2)).block, (ad588.add ((x14_5).toNat * 2)).off + 1, none⟩ = some (.int .i64 ((rd_T25 t553 x14_5).f1)) ∧ w'.cell? (ad585.add ((x12_2).toNat * 2)) = some (.int .i64 ((rd_T25 t556 x12_2).f0)) ∧ w'.cell? ⟨(ad585.add ((x12_2).toNat * 2)).block, (ad585.add ((x12_2).toNat * 2)).off + 1, none⟩ = some (.int .i64 ((rd_T25 t556 x12_2).f1))) (ds := []) #[f_,f_,f_,f_,f_,f_,f_,f_,f_] (by kernel_rfl) rfl rfl ⟨hx588_0, hx588_1, hx589_0, hx589_1⟩ (fun hHeld => ?_); refine with_tabW laws_FnHeaps.tab24 laws_FnHeaps.bits24 (fun HT_ HW_ => ?_)
                    generalize w111.drew = w112 at HO_5 HO_6 HO_7 HO_10 BK552 BK565 HB hx588_0 hx588_1 hx589_0 hx589_1 hHeld ⊢
                    refine pu_ 0 128 ?_ (b_ 1 8) rfl rfl HT_.out ?_ ?_ ?_ ?_; rotate_left; intro w'; go_simp; with_reducible rfl; rotate_left; simp only [fr_]; rfl
                    refine pu_ 1 129 ?_ (b_ 2 7) rfl rfl HT_.out ?_ ?_ ?_ ?_; rotate_left; intro w'; go_simp; with_reducible rfl; rotate_left; simp only [fr_]; rfl
                    refine pu_ 2 130 ?_ (b_ 3 6) rfl rfl HT_.out ?_ ?_ ?_ ?_; rotate_left; intro w'; go_simp; with_reducible rfl; rotate_left; simp only [fr_]; rfl
                    refine pu_ 4 132 ?_ #[t_,t_,t_,f_,t_,f_,f_,f_,f_] rfl rfl HT_.out ?_ ?_ ?_ ?_; rotate_left; intro w'; go_simp; with_reducible rfl; rotate_left; simp only [fr_]; rfl
                    refine pu_ 5 133 ?_ #[t_,t_,t_,f_,t_,t_,f_,f_,f_] rfl rfl HT_.out ?_ ?_ ?_ ?_; rotate_left; intro w'; go_simp; with_reducible rfl; rotate_left; simp only [fr_]; rfl
                    refine pu_ 6 134 ?_ #[t_,t_,t_,f_,t_,t_,t_,f_,f_] rfl rfl HT_.out ?_ ?_ ?_ ?_; rotate_left; intro w'; go_simp; with_reducible rfl; rotate_left; simp only [fr_]; rfl
                    refine take_ (i := 3) (N := some 131) (v := ?_) (a' := ?_) #[t_,t_,t_,t_,t_,t_,t_,f_,f_] rfl rfl (take_ofW HT_.out HW_.out (by kernel_rfl)) (fun _ _ _ h => h) (Or.inl ⟨by rfl, ?_⟩) hHeld ?_ ?_
                    rotate_left
                    ·
                     rintro w' ⟨s0, s1, s2, s3⟩
                     go_simp
                     with_reducible rfl
                    rotate_left
                    ·
                     simp only [fr_]
                     rfl
                    refine take_ (i := 7) (N := some 135) (v := ?_) (a' := ?_) #[t_,t_,t_,t_,t_,t_,t_,t_,f_] rfl rfl (take_ofW HT_.out HW_.out (by kernel_rfl)) (fun _ _ _ h => h) (Or.inl ⟨by rfl, ?_⟩) hHeld ?_ ?_
                    rotate_left
                    ·
                     rintro w' ⟨s0, s1, s2, s3⟩
                     go_simp
                     with_reducible rfl
                    rotate_left
                    ·
                     simp only [fr_]
                     rfl
                    refine pu_ 8 136 ?_ (b_ 9 0) rfl rfl HT_.out ?_ ?_ ?_ ?_; rotate_left; intro w'; go_simp; with_reducible rfl; rotate_left; simp only [fr_]; rfl
                    refine done_ (done_of HT_.out (by kernel_rfl)) ?_
                    try go_wp2
                    go_roundg k5
                    case measure => have := HJ8.out; have := HK2.out; have := HJ84.out; have := HJ98.out; have := HK5.out; omega
                    case rel => exact ⟨(wrap64 (x13_5 + 1)), (wrap64 (x14_5 + 1)), (by first | rfl | (simp; done) | (simp [*]; done)), (by first | rfl | (simp; done) | (simp [*]; done)), H', ⟨by have := HJ8.out; have := HK2.out; have := HJ84.out; have := HJ98.out; have := HK5.out; omega⟩, ⟨by (with_reducible repeat (first | apply Kd.R_alloc | apply Kd.R_drewN | apply Kd.R_drew)); exact HO_5.out⟩, ⟨by (with_reducible repeat (first | apply Kd.R_alloc | apply Kd.R_drewN | apply Kd.R_drew)); exact HO_6.out⟩, ⟨by (with_reducible repeat (first | apply Kd.R_alloc | apply Kd.R_drewN | apply Kd.R_drew)); exact HO_7.out⟩, ⟨by (with_reducible repeat (first | apply Kd.R_alloc | apply Kd.R_drewN | apply Kd.R_drew)); exact HO_10.out⟩, ⟨by (with_reducible repeat (first | refine kn_ ?_ _ | refine kd_ ?_ | refine ka_ ?_ _)); exact BK552.out⟩, ⟨by (with_reducible repeat (first | refine kn_ ?_ _ | refine kd_ ?_ | refine ka_ ?_ _)); exact BK565.out⟩, ⟨by repeat (first | (with_reducible first | exact HB.out | apply ba_ | apply bn_ | apply bd_ | refine below_set ?_ GE552.out | refine below_set ?_ GE565.out) | exact HB.out)⟩⟩
                   rw [if_neg c107] at H
                   exact absurd H (by simp)
                  rw [if_neg c106] at H
                  have c106b0 : (((rd_T25 t556 x14_5).f0) == ((rd_T25 t556 x12_2).f0) && (((rd_T25 t556 x14_5).f1) == ((rd_T25 t556 x12_2).f1))) = false := by simpa using c106
                  (try (have c106b1 : decide (((rd_T25 t556 x14_5).f0) = ((rd_T25 t556 x12_2).f0) && (((rd_T25 t556 x14_5).f1) == ((rd_T25 t556 x12_2).f1))) = false := by simpa using c106))
                  (try (have c106b2 : (((rd_T25 t556 x14_5).f0) == ((rd_T25 t556 x12_2).f0) && (((rd_T25 t556 x14_5).f1) == ((rd_T25 t556 x12_2).f1))) = false := by simpa using c106))
                  (try (have c106b3 : ¬ (((rd_T25 t556 x14_5).f0) = ((rd_T25 t556 x12_2).f0) && (((rd_T25 t556 x14_5).f1) == ((rd_T25 t556 x12_2).f1))) := by simpa using c106))
                  clear c106
                  by_cases c113 : x14_5 < (t553.length : Int)
                  ·
                   rw [if_pos c113] at H
                   have c113b0 := decide_eq_true c113
                   clear c113
                   by_cases c114 : (((rd_T25 t553 x14_5).f0) == ((rd_T25 t556 x12_2).f0) && (((rd_T25 t553 x14_5).f1) == ((rd_T25 t556 x12_2).f1))) = true
                   ·
                    rw [if_pos c114] at H
                    have c114b0 : (((rd_T25 t553 x14_5).f0) == ((rd_T25 t556 x12_2).f0) && (((rd_T25 t553 x14_5).f1) == ((rd_T25 t556 x12_2).f1))) = true := c114
                    (try (have c114b1 : decide (((rd_T25 t553 x14_5).f0) = ((rd_T25 t556 x12_2).f0) && (((rd_T25 t553 x14_5).f1) == ((rd_T25 t556 x12_2).f1))) = true := by simpa using c114))
                    (try (have c114b2 : (((rd_T25 t553 x14_5).f0) == ((rd_T25 t556 x12_2).f0) && (((rd_T25 t553 x14_5).f1) == ((rd_T25 t556 x12_2).f1))) = true := by simpa using c114))
                    clear c114
                    have H' := Aside0.mk H
                    clear H
                    try go_wp2
                    have n0_ := Aside0.mk (Kd.R_drew HO_5.out)
                    have n1_ := Aside0.mk (Kd.R_drew HO_6.out)
                    have n2_ := Aside0.mk (Kd.R_drew HO_7.out)
                    have n3_ := Aside0.mk (Kd.R_drew HO_10.out)
                    have n4_ := Aside0.mk (blk_drew BK552.out)
                    have n5_ := Aside0.mk (blk_drew BK565.out)
                    have n6_ := Aside0.mk (bd_ HB.out)
                    clear HO_5 HO_6 HO_7 HO_10 BK552 BK565 HB
                    have HO_5 := n0_
                    have HO_6 := n1_
                    have HO_7 := n2_
                    have HO_10 := n3_
                    have BK552 := n4_
                    have BK565 := n5_
                    have HB := n6_
                    clear n0_ n1_ n2_ n3_ n4_ n5_ n6_
                    have p586 : 0 ≤ (x14_5 : Int) := of_decide_eq_true (by with_reducible assumption)
                    have q586 : x14_5 < (t556.length : Int) := of_decide_eq_true (by with_reducible assumption)
                    obtain ⟨ad586, e586, hx586_0, hx586_1⟩ := at_T25 (Kd.R_reads' HO_6.out).2.2 x14_5 p586 q586
                    obtain rfl : ad585 = ad586 := (by injection e586)
                    replace p586 := eq_true p586
                    replace q586 := eq_true q586
                    have p587 : 0 ≤ (x12_2 : Int) := of_decide_eq_true (by with_reducible assumption)
                    have q587 : x12_2 < (t556.length : Int) := of_decide_eq_true (by with_reducible assumption)
                    obtain ⟨ad587, e587, hx587_0, hx587_1⟩ := at_T25 (Kd.R_reads' HO_6.out).2.2 x12_2 p587 q587
                    obtain rfl : ad585 = ad587 := (by injection e587)
                    replace p587 := eq_true p587
                    replace q587 := eq_true q587
                    refine start_ (n := 9) (S := fun w' => w'.cell? (ad585.add ((x14_5).toNat * 2)) = some (.int .i64 ((rd_T25 t556 x14_5).f0)) ∧ w'.cell? ⟨(ad585.add ((x14_5).toNat * 2)).block, (ad585.add ((x14_5).toNat * 2)).off + 1, none⟩ = some (.int .i64 ((rd_T25 t556 x14_5).f1)) ∧ w'.cell? (ad585.add ((x12_2).toNat * 2)) = some (.int .i64 ((rd_T25 t556 x12_2).f0)) ∧ w'.cell? ⟨(ad585.add ((x12_2).toNat * 2)).block, (ad585.add ((x12_2).toNat * 2)).off + 1, none⟩ = some (.int .i64 ((rd_T25 t556 x12_2).f1))) (ds := []) #[f_,f_,f_,f_,f_,f_,f_,f_,f_] (by kernel_rfl) rfl rfl ⟨hx586_0, hx586_1, hx587_0, hx587_1⟩ (fun hHeld => ?_); refine with_tabW laws_FnHeaps.tab22 laws_FnHeaps.bits22 (fun HT_ HW_ => ?_)
                    generalize wr.drew = w115 at HO_5 HO_6 HO_7 HO_10 BK552 BK565 HB hx586_0 hx586_1 hx587_0 hx587_1 hHeld ⊢
                    refine pu_ 0 117 ?_ (b_ 1 8) rfl rfl HT_.out ?_ ?_ ?_ ?_; rotate_left; intro w'; go_simp; with_reducible rfl; rotate_left; simp only [fr_]; rfl
                    refine pu_ 1 118 ?_ (b_ 2 7) rfl rfl HT_.out ?_ ?_ ?_ ?_; rotate_left; intro w'; go_simp; with_reducible rfl; rotate_left; simp only [fr_]; rfl
                    refine pu_ 2 119 ?_ (b_ 3 6) rfl rfl HT_.out ?_ ?_ ?_ ?_; rotate_left; intro w'; go_simp; with_reducible rfl; rotate_left; simp only [fr_]; rfl
                    refine pu_ 4 121 ?_ #[t_,t_,t_,f_,t_,f_,f_,f_,f_] rfl rfl HT_.out ?_ ?_ ?_ ?_; rotate_left; intro w'; go_simp; with_reducible rfl; rotate_left; simp only [fr_]; rfl
                    refine pu_ 5 122 ?_ #[t_,t_,t_,f_,t_,t_,f_,f_,f_] rfl rfl HT_.out ?_ ?_ ?_ ?_; rotate_left; intro w'; go_simp; with_reducible rfl; rotate_left; simp only [fr_]; rfl
                    refine pu_ 6 123 ?_ #[t_,t_,t_,f_,t_,t_,t_,f_,f_] rfl rfl HT_.out ?_ ?_ ?_ ?_; rotate_left; intro w'; go_simp; with_reducible rfl; rotate_left; simp only [fr_]; rfl
                    refine take_ (i := 3) (N := some 120) (v := ?_) (a' := ?_) #[t_,t_,t_,t_,t_,t_,t_,f_,f_] rfl rfl (take_ofW HT_.out HW_.out (by kernel_rfl)) (fun _ _ _ h => h) (Or.inl ⟨by rfl, ?_⟩) hHeld ?_ ?_
                    rotate_left
                    ·
                     rintro w' ⟨s0, s1, s2, s3⟩
                     go_simp
                     with_reducible rfl
                    rotate_left
                    ·
                     simp only [fr_]
                     rfl
                    refine take_ (i := 7) (N := some 124) (v := ?_) (a' := ?_) #[t_,t_,t_,t_,t_,t_,t_,t_,f_] rfl rfl (take_ofW HT_.out HW_.out (by kernel_rfl)) (fun _ _ _ h => h) (Or.inl ⟨by rfl, ?_⟩) hHeld ?_ ?_
                    rotate_left
                    ·
                     rintro w' ⟨s0, s1, s2, s3⟩
                     go_simp
                     with_reducible rfl
                    rotate_left
                    ·
                     simp only [fr_]
                     rfl
                    refine pu_ 8 125 ?_ (b_ 9 0) rfl rfl HT_.out ?_ ?_ ?_ ?_; rotate_left; intro w'; go_simp; with_reducible rfl; rotate_left; simp only [fr_]; rfl
                    refine done_ (done_of HT_.out (by kernel_rfl)) ?_
                    try go_wp2
                    have n0_ := Aside0.mk (Kd.R_drew HO_5.out)
                    have n1_ := Aside0.mk (Kd.R_drew HO_6.out)
                    have n2_ := Aside0.mk (Kd.R_drew HO_7.out)
                    have n3_ := Aside0.mk (Kd.R_drew HO_10.out)
                    have n4_ := Aside0.mk (blk_drew BK552.out)
                    have n5_ := Aside0.mk (blk_drew BK565.out)
                    have n6_ := Aside0.mk (bd_ HB.out)
                    clear HO_5 HO_6 HO_7 HO_10 BK552 BK565 HB
                    have HO_5 := n0_
                    have HO_6 := n1_
                    have HO_7 := n2_
                    have HO_10 := n3_
                    have BK552 := n4_
                    have BK565 := n5_
                    have HB := n6_
                    clear n0_ n1_ n2_ n3_ n4_ n5_ n6_
                    have p590 : 0 ≤ (x14_5 : Int) := of_decide_eq_true (by with_reducible assumption)
                    have q590 : x14_5 < (t553.length : Int) := of_decide_eq_true (by with_reducible assumption)
                    obtain ⟨ad590, e590, hx590_0, hx590_1⟩ := at_T25 (Kd.R_reads' HO_5.out).2.2 x14_5 p590 q590
                    cases e590
                    replace p590 := eq_true p590
                    replace q590 := eq_true q590
                    have p591 : 0 ≤ (x12_2 : Int) := of_decide_eq_true (by with_reducible assumption)
                    have q591 : x12_2 < (t556.length : Int) := of_decide_eq_true (by with_reducible assumption)
                    obtain ⟨ad591, e591, hx591_0, hx591_1⟩ := at_T25 (Kd.R_reads' HO_6.out).2.2 x12_2 p591 q591
                    obtain rfl : ad585 = ad591 := (by injection e591)
                    replace p591 := eq_true p591
                    replace q591 := eq_true q591
                    refine start_ (n := 9) (S := fun w' => w'.cell? (ad590.add ((x14_5).toNat * 2)) = some (.int .i64 ((rd_T25 t553 x14_5).f0)) ∧ w'.cell? ⟨(ad590.add ((x14_5).toNat * 2)).block, (ad590.add ((x14_5).toNat * 2)).off + 1, none⟩ = some (.int .i64 ((rd_T25 t553 x14_5).f1)) ∧ w'.cell? (ad585.add ((x12_2).toNat * 2)) = some (.int .i64 ((rd_T25 t556 x12_2).f0)) ∧ w'.cell? ⟨(ad585.add ((x12_2).toNat * 2)).block, (ad585.add ((x12_2).toNat * 2)).off + 1, none⟩ = some (.int .i64 ((rd_T25 t556 x12_2).f1))) (ds := []) #[f_,f_,f_,f_,f_,f_,f_,f_,f_] (by kernel_rfl) rfl rfl ⟨hx590_0, hx590_1, hx591_0, hx591_1⟩ (fun hHeld => ?_); refine with_tabW laws_FnHeaps.tab24 laws_FnHeaps.bits24 (fun HT_ HW_ => ?_)
                    generalize w115.drew = w116 at HO_5 HO_6 HO_7 HO_10 BK552 BK565 HB hx590_0 hx590_1 hx591_0 hx591_1 hHeld ⊢
                    refine pu_ 0 128 ?_ (b_ 1 8) rfl rfl HT_.out ?_ ?_ ?_ ?_; rotate_left; intro w'; go_simp; with_reducible rfl; rotate_left; simp only [fr_]; rfl
                    refine pu_ 1 129 ?_ (b_ 2 7) rfl rfl HT_.out ?_ ?_ ?_ ?_; rotate_left; intro w'; go_simp; with_reducible rfl; rotate_left; simp only [fr_]; rfl
                    refine pu_ 2 130 ?_ (b_ 3 6) rfl rfl HT_.out ?_ ?_ ?_ ?_; rotate_left; intro w'; go_simp; with_reducible rfl; rotate_left; simp only [fr_]; rfl
                    refine pu_ 4 132 ?_ #[t_,t_,t_,f_,t_,f_,f_,f_,f_] rfl rfl HT_.out ?_ ?_ ?_ ?_; rotate_left; intro w'; go_simp; with_reducible rfl; rotate_left; simp only [fr_]; rfl
                    refine pu_ 5 133 ?_ #[t_,t_,t_,f_,t_,t_,f_,f_,f_] rfl rfl HT_.out ?_ ?_ ?_ ?_; rotate_left; intro w'; go_simp; with_reducible rfl; rotate_left; simp only [fr_]; rfl
                    refine pu_ 6 134 ?_ #[t_,t_,t_,f_,t_,t_,t_,f_,f_] rfl rfl HT_.out ?_ ?_ ?_ ?_; rotate_left; intro w'; go_simp; with_reducible rfl; rotate_left; simp only [fr_]; rfl
                    refine take_ (i := 3) (N := some 131) (v := ?_) (a' := ?_) #[t_,t_,t_,t_,t_,t_,t_,f_,f_] rfl rfl (take_ofW HT_.out HW_.out (by kernel_rfl)) (fun _ _ _ h => h) (Or.inl ⟨by rfl, ?_⟩) hHeld ?_ ?_
                    rotate_left
                    ·
                     rintro w' ⟨s0, s1, s2, s3⟩
                     go_simp
                     with_reducible rfl
                    rotate_left
                    ·
                     simp only [fr_]
                     rfl
                    refine take_ (i := 7) (N := some 135) (v := ?_) (a' := ?_) #[t_,t_,t_,t_,t_,t_,t_,t_,f_] rfl rfl (take_ofW HT_.out HW_.out (by kernel_rfl)) (fun _ _ _ h => h) (Or.inl ⟨by rfl, ?_⟩) hHeld ?_ ?_
                    rotate_left
                    ·
                     rintro w' ⟨s0, s1, s2, s3⟩
                     go_simp
                     with_reducible rfl
                    rotate_left
                    ·
                     simp only [fr_]
                     rfl
                    refine pu_ 8 136 ?_ (b_ 9 0) rfl rfl HT_.out ?_ ?_ ?_ ?_; rotate_left; intro w'; go_simp; with_reducible rfl; rotate_left; simp only [fr_]; rfl
                    refine done_ (done_of HT_.out (by kernel_rfl)) ?_
                    try go_wp2
                    go_roundg k5
                    case measure => have := HJ8.out; have := HK2.out; have := HJ84.out; have := HJ98.out; have := HK5.out; omega
                    case rel => exact ⟨(wrap64 (x13_5 - 1)), (wrap64 (x14_5 + 1)), (by first | rfl | (simp; done) | (simp [*]; done)), (by first | rfl | (simp; done) | (simp [*]; done)), H', ⟨by have := HJ8.out; have := HK2.out; have := HJ84.out; have := HJ98.out; have := HK5.out; omega⟩, ⟨by (with_reducible repeat (first | apply Kd.R_alloc | apply Kd.R_drewN | apply Kd.R_drew)); exact HO_5.out⟩, ⟨by (with_reducible repeat (first | apply Kd.R_alloc | apply Kd.R_drewN | apply Kd.R_drew)); exact HO_6.out⟩, ⟨by (with_reducible repeat (first | apply Kd.R_alloc | apply Kd.R_drewN | apply Kd.R_drew)); exact HO_7.out⟩, ⟨by (with_reducible repeat (first | apply Kd.R_alloc | apply Kd.R_drewN | apply Kd.R_drew)); exact HO_10.out⟩, ⟨by (with_reducible repeat (first | refine kn_ ?_ _ | refine kd_ ?_ | refine ka_ ?_ _)); exact BK552.out⟩, ⟨by (with_reducible repeat (first | refine kn_ ?_ _ | refine kd_ ?_ | refine ka_ ?_ _)); exact BK565.out⟩, ⟨by repeat (first | (with_reducible first | exact HB.out | apply ba_ | apply bn_ | apply bd_ | refine below_set ?_ GE552.out | refine below_set ?_ GE565.out) | exact HB.out)⟩⟩
                   rw [if_neg c114] at H
                   have c114b0 : (((rd_T25 t553 x14_5).f0) == ((rd_T25 t556 x12_2).f0) && (((rd_T25 t553 x14_5).f1) == ((rd_T25 t556 x12_2).f1))) = false := by simpa using c114
                   (try (have c114b1 : decide (((rd_T25 t553 x14_5).f0) = ((rd_T25 t556 x12_2).f0) && (((rd_T25 t553 x14_5).f1) == ((rd_T25 t556 x12_2).f1))) = false := by simpa using c114))
                   (try (have c114b2 : (((rd_T25 t553 x14_5).f0) == ((rd_T25 t556 x12_2).f0) && (((rd_T25 t553 x14_5).f1) == ((rd_T25 t556 x12_2).f1))) = false := by simpa using c114))
                   (try (have c114b3 : ¬ (((rd_T25 t553 x14_5).f0) = ((rd_T25 t556 x12_2).f0) && (((rd_T25 t553 x14_5).f1) == ((rd_T25 t556 x12_2).f1))) := by simpa using c114))
                   clear c114
                   have H' := Aside0.mk H
                   clear H
                   try go_wp2
                   have n0_ := Aside0.mk (Kd.R_drew HO_5.out)
                   have n1_ := Aside0.mk (Kd.R_drew HO_6.out)
                   have n2_ := Aside0.mk (Kd.R_drew HO_7.out)
                   have n3_ := Aside0.mk (Kd.R_drew HO_10.out)
                   have n4_ := Aside0.mk (blk_drew BK552.out)
                   have n5_ := Aside0.mk (blk_drew BK565.out)
                   have n6_ := Aside0.mk (bd_ HB.out)
                   clear HO_5 HO_6 HO_7 HO_10 BK552 BK565 HB
                   have HO_5 := n0_
                   have HO_6 := n1_
                   have HO_7 := n2_
                   have HO_10 := n3_
                   have BK552 := n4_
                   have BK565 := n5_
                   have HB := n6_
                   clear n0_ n1_ n2_ n3_ n4_ n5_ n6_
                   have p586 : 0 ≤ (x14_5 : Int) := of_decide_eq_true (by with_reducible assumption)
                   have q586 : x14_5 < (t556.length : Int) := of_decide_eq_true (by with_reducible assumption)
                   obtain ⟨ad586, e586, hx586_0, hx586_1⟩ := at_T25 (Kd.R_reads' HO_6.out).2.2 x14_5 p586 q586
                   obtain rfl : ad585 = ad586 := (by injection e586)
                   replace p586 := eq_true p586
                   replace q586 := eq_true q586
                   have p587 : 0 ≤ (x12_2 : Int) := of_decide_eq_true (by with_reducible assumption)
                   have q587 : x12_2 < (t556.length : Int) := of_decide_eq_true (by with_reducible assumption)
                   obtain ⟨ad587, e587, hx587_0, hx587_1⟩ := at_T25 (Kd.R_reads' HO_6.out).2.2 x12_2 p587 q587
                   obtain rfl : ad585 = ad587 := (by injection e587)
                   replace p587 := eq_true p587
                   replace q587 := eq_true q587
                   refine start_ (n := 9) (S := fun w' => w'.cell? (ad585.add ((x14_5).toNat * 2)) = some (.int .i64 ((rd_T25 t556 x14_5).f0)) ∧ w'.cell? ⟨(ad585.add ((x14_5).toNat * 2)).block, (ad585.add ((x14_5).toNat * 2)).off + 1, none⟩ = some (.int .i64 ((rd_T25 t556 x14_5).f1)) ∧ w'.cell? (ad585.add ((x12_2).toNat * 2)) = some (.int .i64 ((rd_T25 t556 x12_2).f0)) ∧ w'.cell? ⟨(ad585.add ((x12_2).toNat * 2)).block, (ad585.add ((x12_2).toNat * 2)).off + 1, none⟩ = some (.int .i64 ((rd_T25 t556 x12_2).f1))) (ds := []) #[f_,f_,f_,f_,f_,f_,f_,f_,f_] (by kernel_rfl) rfl rfl ⟨hx586_0, hx586_1, hx587_0, hx587_1⟩ (fun hHeld => ?_); refine with_tabW laws_FnHeaps.tab22 laws_FnHeaps.bits22 (fun HT_ HW_ => ?_)
                   generalize wr.drew = w117 at HO_5 HO_6 HO_7 HO_10 BK552 BK565 HB hx586_0 hx586_1 hx587_0 hx587_1 hHeld ⊢
                   refine pu_ 0 117 ?_ (b_ 1 8) rfl rfl HT_.out ?_ ?_ ?_ ?_; rotate_left; intro w'; go_simp; with_reducible rfl; rotate_left; simp only [fr_]; rfl
                   refine pu_ 1 118 ?_ (b_ 2 7) rfl rfl HT_.out ?_ ?_ ?_ ?_; rotate_left; intro w'; go_simp; with_reducible rfl; rotate_left; simp only [fr_]; rfl
                   refine pu_ 2 119 ?_ (b_ 3 6) rfl rfl HT_.out ?_ ?_ ?_ ?_; rotate_left; intro w'; go_simp; with_reducible rfl; rotate_left; simp only [fr_]; rfl
                   refine pu_ 4 121 ?_ #[t_,t_,t_,f_,t_,f_,f_,f_,f_] rfl rfl HT_.out ?_ ?_ ?_ ?_; rotate_left; intro w'; go_simp; with_reducible rfl; rotate_left; simp only [fr_]; rfl
                   refine pu_ 5 122 ?_ #[t_,t_,t_,f_,t_,t_,f_,f_,f_] rfl rfl HT_.out ?_ ?_ ?_ ?_; rotate_left; intro w'; go_simp; with_reducible rfl; rotate_left; simp only [fr_]; rfl
                   refine pu_ 6 123 ?_ #[t_,t_,t_,f_,t_,t_,t_,f_,f_] rfl rfl HT_.out ?_ ?_ ?_ ?_; rotate_left; intro w'; go_simp; with_reducible rfl; rotate_left; simp only [fr_]; rfl
                   refine take_ (i := 3) (N := some 120) (v := ?_) (a' := ?_) #[t_,t_,t_,t_,t_,t_,t_,f_,f_] rfl rfl (take_ofW HT_.out HW_.out (by kernel_rfl)) (fun _ _ _ h => h) (Or.inl ⟨by rfl, ?_⟩) hHeld ?_ ?_
                   rotate_left
                   ·
                    rintro w' ⟨s0, s1, s2, s3⟩
                    go_simp
                    with_reducible rfl
                   rotate_left
                   ·
                    simp only [fr_]
                    rfl
                   refine take_ (i := 7) (N := some 124) (v := ?_) (a' := ?_) #[t_,t_,t_,t_,t_,t_,t_,t_,f_] rfl rfl (take_ofW HT_.out HW_.out (by kernel_rfl)) (fun _ _ _ h => h) (Or.inl ⟨by rfl, ?_⟩) hHeld ?_ ?_
                   rotate_left
                   ·
                    rintro w' ⟨s0, s1, s2, s3⟩
                    go_simp
                    with_reducible rfl
                   rotate_left
                   ·
                    simp only [fr_]
                    rfl
                   refine pu_ 8 125 ?_ (b_ 9 0) rfl rfl HT_.out ?_ ?_ ?_ ?_; rotate_left; intro w'; go_simp; with_reducible rfl; rotate_left; simp only [fr_]; rfl
                   refine done_ (done_of HT_.out (by kernel_rfl)) ?_
                   try go_wp2
                   have n0_ := Aside0.mk (Kd.R_drew HO_5.out)
                   have n1_ := Aside0.mk (Kd.R_drew HO_6.out)
                   have n2_ := Aside0.mk (Kd.R_drew HO_7.out)
                   have n3_ := Aside0.mk (Kd.R_drew HO_10.out)
                   have n4_ := Aside0.mk (blk_drew BK552.out)
                   have n5_ := Aside0.mk (blk_drew BK565.out)
                   have n6_ := Aside0.mk (bd_ HB.out)
                   clear HO_5 HO_6 HO_7 HO_10 BK552 BK565 HB
                   have HO_5 := n0_
                   have HO_6 := n1_
                   have HO_7 := n2_
                   have HO_10 := n3_
                   have BK552 := n4_
                   have BK565 := n5_
                   have HB := n6_
                   clear n0_ n1_ n2_ n3_ n4_ n5_ n6_
                   have p590 : 0 ≤ (x14_5 : Int) := of_decide_eq_true (by with_reducible assumption)
                   have q590 : x14_5 < (t553.length : Int) := of_decide_eq_true (by with_reducible assumption)
                   obtain ⟨ad590, e590, hx590_0, hx590_1⟩ := at_T25 (Kd.R_reads' HO_5.out).2.2 x14_5 p590 q590
                   cases e590
                   replace p590 := eq_true p590
                   replace q590 := eq_true q590
                   have p591 : 0 ≤ (x12_2 : Int) := of_decide_eq_true (by with_reducible assumption)
                   have q591 : x12_2 < (t556.length : Int) := of_decide_eq_true (by with_reducible assumption)
                   obtain ⟨ad591, e591, hx591_0, hx591_1⟩ := at_T25 (Kd.R_reads' HO_6.out).2.2 x12_2 p591 q591
                   obtain rfl : ad585 = ad591 := (by injection e591)
                   replace p591 := eq_true p591
                   replace q591 := eq_true q591
                   refine start_ (n := 9) (S := fun w' => w'.cell? (ad590.add ((x14_5).toNat * 2)) = some (.int .i64 ((rd_T25 t553 x14_5).f0)) ∧ w'.cell? ⟨(ad590.add ((x14_5).toNat * 2)).block, (ad590.add ((x14_5).toNat * 2)).off + 1, none⟩ = some (.int .i64 ((rd_T25 t553 x14_5).f1)) ∧ w'.cell? (ad585.add ((x12_2).toNat * 2)) = some (.int .i64 ((rd_T25 t556 x12_2).f0)) ∧ w'.cell? ⟨(ad585.add ((x12_2).toNat * 2)).block, (ad585.add ((x12_2).toNat * 2)).off + 1, none⟩ = some (.int .i64 ((rd_T25 t556 x12_2).f1))) (ds := []) #[f_,f_,f_,f_,f_,f_,f_,f_,f_] (by kernel_rfl) rfl rfl ⟨hx590_0, hx590_1, hx591_0, hx591_1⟩ (fun hHeld => ?_); refine with_tabW laws_FnHeaps.tab24 laws_FnHeaps.bits24 (fun HT_ HW_ => ?_)
                   generalize w117.drew = w118 at HO_5 HO_6 HO_7 HO_10 BK552 BK565 HB hx590_0 hx590_1 hx591_0 hx591_1 hHeld ⊢
                   refine pu_ 0 128 ?_ (b_ 1 8) rfl rfl HT_.out ?_ ?_ ?_ ?_; rotate_left; intro w'; go_simp; with_reducible rfl; rotate_left; simp only [fr_]; rfl
                   refine pu_ 1 129 ?_ (b_ 2 7) rfl rfl HT_.out ?_ ?_ ?_ ?_; rotate_left; intro w'; go_simp; with_reducible rfl; rotate_left; simp only [fr_]; rfl
                   refine pu_ 2 130 ?_ (b_ 3 6) rfl rfl HT_.out ?_ ?_ ?_ ?_; rotate_left; intro w'; go_simp; with_reducible rfl; rotate_left; simp only [fr_]; rfl
                   refine pu_ 4 132 ?_ #[t_,t_,t_,f_,t_,f_,f_,f_,f_] rfl rfl HT_.out ?_ ?_ ?_ ?_; rotate_left; intro w'; go_simp; with_reducible rfl; rotate_left; simp only [fr_]; rfl
                   refine pu_ 5 133 ?_ #[t_,t_,t_,f_,t_,t_,f_,f_,f_] rfl rfl HT_.out ?_ ?_ ?_ ?_; rotate_left; intro w'; go_simp; with_reducible rfl; rotate_left; simp only [fr_]; rfl
                   refine pu_ 6 134 ?_ #[t_,t_,t_,f_,t_,t_,t_,f_,f_] rfl rfl HT_.out ?_ ?_ ?_ ?_; rotate_left; intro w'; go_simp; with_reducible rfl; rotate_left; simp only [fr_]; rfl
                   refine take_ (i := 3) (N := some 131) (v := ?_) (a' := ?_) #[t_,t_,t_,t_,t_,t_,t_,f_,f_] rfl rfl (take_ofW HT_.out HW_.out (by kernel_rfl)) (fun _ _ _ h => h) (Or.inl ⟨by rfl, ?_⟩) hHeld ?_ ?_
                   rotate_left
                   ·
                    rintro w' ⟨s0, s1, s2, s3⟩
                    go_simp
                    with_reducible rfl
                   rotate_left
                   ·
                    simp only [fr_]
                    rfl
                   refine take_ (i := 7) (N := some 135) (v := ?_) (a' := ?_) #[t_,t_,t_,t_,t_,t_,t_,t_,f_] rfl rfl (take_ofW HT_.out HW_.out (by kernel_rfl)) (fun _ _ _ h => h) (Or.inl ⟨by rfl, ?_⟩) hHeld ?_ ?_
                   rotate_left
                   ·
                    rintro w' ⟨s0, s1, s2, s3⟩
                    go_simp
                    with_reducible rfl
                   rotate_left
                   ·
                    simp only [fr_]
                    rfl
                   refine pu_ 8 136 ?_ (b_ 9 0) rfl rfl HT_.out ?_ ?_ ?_ ?_; rotate_left; intro w'; go_simp; with_reducible rfl; rotate_left; simp only [fr_]; rfl
                   refine done_ (done_of HT_.out (by kernel_rfl)) ?_
                   try go_wp2
                   go_roundg k5
                   case measure => have := HJ8.out; have := HK2.out; have := HJ84.out; have := HJ98.out; have := HK5.out; omega
                   case rel => exact ⟨(x13_5), (wrap64 (x14_5 + 1)), (by first | rfl | (simp; done) | (simp [*]; done)), (by first | rfl | (simp; done) | (simp [*]; done)), H', ⟨by have := HJ8.out; have := HK2.out; have := HJ84.out; have := HJ98.out; have := HK5.out; omega⟩, ⟨by (with_reducible repeat (first | apply Kd.R_alloc | apply Kd.R_drewN | apply Kd.R_drew)); exact HO_5.out⟩, ⟨by (with_reducible repeat (first | apply Kd.R_alloc | apply Kd.R_drewN | apply Kd.R_drew)); exact HO_6.out⟩, ⟨by (with_reducible repeat (first | apply Kd.R_alloc | apply Kd.R_drewN | apply Kd.R_drew)); exact HO_7.out⟩, ⟨by (with_reducible repeat (first | apply Kd.R_alloc | apply Kd.R_drewN | apply Kd.R_drew)); exact HO_10.out⟩, ⟨by (with_reducible repeat (first | refine kn_ ?_ _ | refine kd_ ?_ | refine ka_ ?_ _)); exact BK552.out⟩, ⟨by (with_reducible repeat (first | refine kn_ ?_ _ | refine kd_ ?_ | refine ka_ ?_ _)); exact BK565.out⟩, ⟨by repeat (first | (with_reducible first | exact HB.out | apply ba_ | apply bn_ | apply bd_ | refine below_set ?_ GE552.out | refine below_set ?_ GE565.out) | exact HB.out)⟩⟩
                  rw [if_neg c113] at H
                  exact absurd H (by simp)
                 rw [if_neg c105] at H
                 exact absurd H (by simp)
                rw [if_neg c104] at H
                exact absurd H (by simp)
               rw [if_neg c103] at H
               exact absurd H (by simp)
              rw [if_neg c102] at H
              have c102b0 : decide (x14_5 < (t556.length : Int)) = false := decide_eq_false c102
              clear c102
              by_cases c119 : x13_5 = 0
              ·
               rw [if_pos c119] at H
               have c119b0 : (x13_5 == 0) = true := beq_iff_eq.mpr c119
               have c119b1 : (x13_5 != 0) = false := bne_eq_false_iff_eq.mpr c119
               clear c119
               have H' := Aside0.mk H
               clear H
               go_wp2
               go_roundg k5
               case measure => have := HJ8.out; have := HK2.out; have := HJ84.out; have := HJ98.out; have := HK5.out; omega
               case rel => exact ⟨(x11_98), (wrap64 (x12_2 + 1)), (by first | rfl | (simp; done) | (simp [*]; done)), (by first | rfl | (simp; done) | (simp [*]; done)), H', ⟨by have := HJ8.out; have := HK2.out; have := HJ84.out; have := HJ98.out; have := HK5.out; omega⟩, ⟨by (with_reducible repeat (first | apply Kd.R_alloc | apply Kd.R_drewN | apply Kd.R_drew)); exact HO_5.out⟩, ⟨by (with_reducible repeat (first | apply Kd.R_alloc | apply Kd.R_drewN | apply Kd.R_drew)); exact HO_6.out⟩, ⟨by (with_reducible repeat (first | apply Kd.R_alloc | apply Kd.R_drewN | apply Kd.R_drew)); exact HO_7.out⟩, ⟨by (with_reducible repeat (first | apply Kd.R_alloc | apply Kd.R_drewN | apply Kd.R_drew)); exact HO_10.out⟩, ⟨by (with_reducible repeat (first | refine kn_ ?_ _ | refine kd_ ?_ | refine ka_ ?_ _)); exact BK552.out⟩, ⟨by (with_reducible repeat (first | refine kn_ ?_ _ | refine kd_ ?_ | refine ka_ ?_ _)); exact BK565.out⟩, ⟨by repeat (first | (with_reducible first | exact HB.out | apply ba_ | apply bn_ | apply bd_ | refine below_set ?_ GE552.out | refine below_set ?_ GE565.out) | exact HB.out)⟩⟩
              rw [if_neg c119] at H
              exact absurd H (by simp)
         rw [if_neg c98] at H
         exact absurd H (by simp)
        rw [if_neg c97] at H
        exact absurd H (by simp)
     rw [if_neg c84] at H
     have c84b0 : decide (x12_2 < (t556.length : Int)) = false := decide_eq_false c84
     clear c84
     by_cases c120 : (t566.length : Int) = (wrap64 ((t553.length : Int) - x11_2))
     ·
      rw [if_pos c120] at H
      have c120b0 : ((t566.length : Int) == (wrap64 ((t553.length : Int) - x11_2))) = true := beq_iff_eq.mpr c120
      have c120b1 : ((t566.length : Int) != (wrap64 ((t553.length : Int) - x11_2))) = false := bne_eq_false_iff_eq.mpr c120
      clear c120
      replace H := Option.bind_eq_some_iff.mp H
      obtain ⟨t574, A1210, H⟩ := H
      have A121 := Aside0.mk A1210
      clear A1210
      by_cases c122 : 1 ≤ (t556.length : Int)
      ·
       rw [if_pos c122] at H
       have c122b0 := eq_true c122
       have c122b1 := decide_eq_true c122
       clear c122
       obtain ⟨y577, hy577⟩ : ∃ y_ : List (S25), y_ = (t556.drop 1) := ⟨_, rfl⟩
       replace H : ((laws_sameHeap.f k2 t574 y577).bind fun t581 => (some t581)) = some r := by first | (rw [hy577]; with_reducible exact H) | (have H2_ := (Option.bind_some _ _).symm.trans H; rw [hy577]; with_reducible exact H2_) | (have H2_ := (Option.bind_some _ _).symm.trans H; with_reducible exact H2_) | with_reducible exact H | (rw [hy577]; exact H) | exact H
       have Ny577 := Aside0.mk hy577
       clear hy577
       replace H := Option.bind_eq_some_iff.mp H
       obtain ⟨t581, A1230, H⟩ := H
       have A123 := Aside0.mk A1230
       clear A1230
       obtain rfl := Option.some.inj H
       obtain ⟨Ao124, co124, eo124⟩ := Kd.R_slice HO_6.out
       subst eo124
       try go_wp2
       have n0_ := Aside0.mk (Kd.R_drew HO_5.out)
       have n1_ := Aside0.mk (Kd.R_drew HO_6.out)
       have n2_ := Aside0.mk (Kd.R_drew HO_7.out)
       have n3_ := Aside0.mk (Kd.R_drew HO_10.out)
       have n4_ := Aside0.mk (blk_drew BK552.out)
       have n5_ := Aside0.mk (blk_drew BK565.out)
       have n6_ := Aside0.mk (bd_ HB.out)
       clear HO_5 HO_6 HO_7 HO_10 BK552 BK565 HB
       have HO_5 := n0_
       have HO_6 := n1_
       have HO_7 := n2_
       have HO_10 := n3_
       have BK552 := n4_
       have BK565 := n5_
       have HB := n6_
       clear n0_ n1_ n2_ n3_ n4_ n5_ n6_
       obtain ⟨Ao126, co126, eo126⟩ := Kd.R_slice HO_10.out
       (first | subst eo126 | (injection eo126 with f1_ f2_ f3_; have f4_ := f1_.symm; have f5_ := f3_.symm; clear f1_ f2_ f3_; subst f4_; subst f5_))
       have q127 : (1 : Int) ≤ ((t556.length : Int) : Int) := of_decide_eq_true (by with_reducible assumption)
       obtain ⟨i0127, hi0127, _, hsz127, _⟩ := info_parts info25
       have hroom127 : t556.length ≤ co124 := (Kd.R_reads' HO_6.out).2.1
       have hC127 : Kd.C k25 _ Ao124 t556.length t556 := (Kd.R_reads' HO_6.out).2.2
       have hcut127 := cut_from (P := Try.prog) 31 25 .i64 Try.underlying31 hi0127 2 hsz127 Ao124 t556.length co124 1 (by omega) q127
       have hr127 := Kd.C_drop (m := (1 : Int).toNat) (c := co124) hC127 (by omega) hroom127
       obtain ⟨A127, hA127⟩ : ∃ A1, A1 = (if co124 = (1 : Int).toNat then Ao124 else (Ao124 : Option Addr).map (·.add ((1 : Int).toNat * 2))) := ⟨_, rfl⟩
       obtain ⟨c127, hc127⟩ : ∃ c1, c1 = co124 - (1 : Int).toNat := ⟨_, rfl⟩
       have hy127 : y577.length = t556.length - (1 : Int).toNat := (by rw [Ny577.out, List.length_drop] <;> omega)
       rw [show (t556).drop (1 : Int).toNat = y577 from Ny577.out.symm] at hr127
       replace hr127 : Kd.C k25 _ A127 y577.length y577 := (by rw [hA127]; exact hr127)
       rw [← hy127, ← hA127, ← hc127] at hcut127
       have HR580 := Aside0.mk hr127
       have HC580 := Aside0.mk (show y577.length ≤ c127 from by rw [hy127, hc127]; exact Nat.sub_le_sub_right hroom127 _)
       clear hr127 hC127 hroom127 hi0127 hsz127 hc127
       have KY127 := Aside0.mk hy127
       have KA127 := Aside0.mk hA127
       clear hy127 hA127
       have KL127 := Aside0.mk (show 1 ≤ t556.length from by omega)
       replace q127 := eq_true q127
       obtain ⟨Ao128, co128, eo128⟩ := Kd.R_slice HO_7.out
       (first | subst eo128 | (injection eo128 with f1_ f2_ f3_; have f4_ := f1_.symm; have f5_ := f3_.symm; clear f1_ f2_ f3_; subst f4_; subst f5_))
       refine start_ (n := 15) (S := fun w' => True) (ds := []) #[f_,f_,f_,f_,f_,f_,f_,f_,f_,f_,f_,f_,f_,f_,f_] (by kernel_rfl) rfl rfl trivial (fun hHeld => ?_); refine with_tabW laws_FnHeaps.tab28 laws_FnHeaps.bits28 (fun HT_ HW_ => ?_)
       generalize wr.drew = w125 at HO_5 HO_6 HO_7 HO_10 BK552 BK565 HB HR580 hHeld ⊢
       refine pu_ 0 141 ?_ (b_ 1 14) rfl rfl HT_.out ?_ ?_ ?_ ?_; rotate_left; intro w'; go_simp; with_reducible rfl; rotate_left; simp only [fr_]; rfl
       refine pu_ 1 142 ?_ (b_ 2 13) rfl rfl HT_.out ?_ ?_ ?_ ?_; rotate_left; intro w'; go_simp; with_reducible rfl; rotate_left; simp only [fr_]; rfl
       refine pu_ 2 143 ?_ (b_ 3 12) rfl rfl HT_.out ?_ ?_ ?_ ?_; rotate_left; intro w'; go_simp; with_reducible rfl; rotate_left; simp only [fr_]; rfl
       refine pu_ 3 144 ?_ (b_ 4 11) rfl rfl HT_.out ?_ ?_ ?_ ?_; rotate_left; intro w'; go_simp; with_reducible rfl; rotate_left; simp only [fr_]; rfl
       refine pu_ 4 145 ?_ (b_ 5 10) rfl rfl HT_.out ?_ ?_ ?_ ?_; rotate_left; intro w'; go_simp; with_reducible rfl; rotate_left; simp only [fr_]; rfl
       refine pu_ 5 146 ?_ (b_ 6 9) rfl rfl HT_.out ?_ ?_ ?_ ?_; rotate_left; intro w'; go_simp; with_reducible rfl; rotate_left; simp only [fr_]; rfl
       refine pu_ 6 147 ?_ (b_ 7 8) rfl rfl HT_.out ?_ ?_ ?_ ?_; rotate_left; intro w'; go_simp; with_reducible rfl; rotate_left; simp only [fr_]; rfl
       refine pu_ 7 148 ?_ (b_ 8 7) rfl rfl HT_.out ?_ ?_ ?_ ?_; rotate_left; intro w'; go_simp; with_reducible rfl; rotate_left; simp only [fr_]; rfl
       refine pu_ 8 149 ?_ (b_ 9 6) rfl rfl HT_.out ?_ ?_ ?_ ?_; rotate_left; intro w'; go_simp; with_reducible rfl; rotate_left; simp only [fr_]; rfl
       refine pu_ 10 151 ?_ #[t_,t_,t_,t_,t_,t_,t_,t_,t_,f_,t_,f_,f_,f_,f_] rfl rfl HT_.out ?_ ?_ ?_ ?_; rotate_left; intro w'; go_simp; with_reducible rfl; rotate_left; simp only [fr_]; rfl
       refine pu_ 11 152 ?_ #[t_,t_,t_,t_,t_,t_,t_,t_,t_,f_,t_,t_,f_,f_,f_] rfl rfl HT_.out ?_ ?_ ?_ ?_; rotate_left; intro w'; go_simp; with_reducible rfl; rotate_left; simp only [fr_]; rfl
       refine one_ (i := 9) (N := some 150) #[t_,t_,t_,t_,t_,t_,t_,t_,t_,t_,t_,t_,f_,f_,f_] rfl rfl (one_of HT_.out (by kernel_rfl)) (by decide) (fun K hK => ?_)
       refine goes_ Try.func38 (by kernel_rfl) rfl #[.slice Ao128 t559.length co128] (by rfl) rfl rfl (by (try simp only [mp_]); first | done | rfl | (simp only [List.length_drop, List.length_take]; rfl)) ?_
       with_reducible refine (impl_Sorted.calls k2 (fun k_ => some k_ = (.slice Ao128 t559.length co128 : Value).ownBlock) _ _ t559 t574 _ ?side1 A121.out).mono ?_
       (case side1 => exact Kd.R_V (Kd.R_tight rfl (HO_7.out)))
       rintro e w129 ⟨v575, rfl, ho0, hb⟩
       refine ⟨_, rfl, ?_⟩
       have n0_ := Aside0.mk (Kd.R_elder' (rp_ HO_5.out) (Kd.R_base ho0) hb)
       have n1_ := Aside0.mk (Kd.R_elder' (rp_ HO_6.out) (Kd.R_base ho0) hb)
       have n2_ := Aside0.mk (Kd.R_elder' (rp_ HO_7.out) (Kd.R_base ho0) hb)
       have n3_ := Aside0.mk (Kd.R_elder' (rp_ HO_10.out) (Kd.R_base ho0) hb)
       have n4_ := Aside0.mk (Kd.R_lower (Kd.R_newB (Kd.R_newB (Kd.R_new' (Kd.R_new' (Kd.R_new' (Kd.R_new' (Kd.R_mono (ok' := fun k_ => True) ho0 (fun _ hk_ => trivial)) (Kd.R_lt (rp_ HO_5.out))) (Kd.R_lt (rp_ HO_6.out))) (Kd.R_lt (rp_ HO_7.out))) (Kd.R_lt (rp_ HO_10.out))) (g := gb552) (o := .cells #[.int .i64 t550, .int .i64 t551] 25 (0, 0)) (pb_ BK552.out)) (g := gb565) (o := .cells #[.int .i64 t562, .int .i64 t563] 25 (0, 0)) (pb_ BK565.out)) (below_size (by repeat (first | (with_reducible first | exact HB.out | apply ba_ | apply bn_ | apply bd_ | refine below_set ?_ GE552.out | refine below_set ?_ GE565.out) | exact HB.out))))
       have n5_ := Aside0.mk (bb_ BK552.out hb)
       have n6_ := Aside0.mk (bb_ BK565.out hb)
       have n7_ := Aside0.mk (Kd.C_below (by repeat (first | (with_reducible exact HR580.out) | (with_reducible first | refine ca_ ?_ _ | refine cn_ ?_ _ | refine cd_ ?_) | exact HR580.out)) hb)
       have n8_ := Aside0.mk (below_step (by repeat (first | (with_reducible first | exact HB.out | apply ba_ | apply bn_ | apply bd_ | refine below_set ?_ GE552.out | refine below_set ?_ GE565.out) | exact HB.out)) hb)
       clear HO_5 HO_6 HO_7 HO_10 BK552 BK565 HR580 HB
       have HO_5 := n0_
       have HO_6 := n1_
       have HO_7 := n2_
       have HO_10 := n3_
       have HO576 := n4_
       have BK552 := n5_
       have BK565 := n6_
       have HR580 := n7_
       have HB := n8_
       clear n0_ n1_ n2_ n3_ n4_ n5_ n6_ n7_ n8_
       (try clear hb)
       (try clear hb2)
       (try clear hk)
       (try clear hi)
       (try clear ho0)
       obtain ⟨Ao130, co130, eo130⟩ := Kd.R_slice HO576.out
       (first | subst eo130 | (injection eo130 with f1_ f2_ f3_; have f4_ := f1_.symm; have f5_ := f3_.symm; clear f1_ f2_ f3_; subst f4_; subst f5_))
       refine hK.out _ _ trivial (fun hHeld => ?_)
       clear hK K
       refine norm_ (a' := ?_) ?_ ?_
       rotate_left
       ·
        show Act.put _ (some 150) _ = _
        simp only [fr_]
        rfl
       refine one_ (i := 12) (N := some 153) #[t_,t_,t_,t_,t_,t_,t_,t_,t_,t_,t_,t_,t_,f_,f_] rfl rfl (one_of HT_.out (by kernel_rfl)) (by decide) (fun K hK => ?_)
       refine goes_ Try.func39 (by kernel_rfl) rfl #[.slice Ao130 t574.length co130, .slice A127 y577.length c127] (by rfl) rfl rfl (by (try simp only [mp_]); first | done | rfl | (simp only [List.length_drop, List.length_take]; rfl)) ?_
       with_reducible refine (laws_sameHeap.calls k2 _ _ t574 _ _ y577 t581 _ ?side1 ?side2 ?side3 ?side4 A123.out).mono ?_
       (case side1 => repeat (first | exact (Kd.R_reads' HO576.out).2.2 | (with_reducible first | refine ca_ ?_ _ | refine cn_ ?_ _ | refine cd_ ?_)))
       (case side2 => exact (Kd.R_reads' HO576.out).2.1)
       (case side3 => repeat (first | exact (by repeat (first | (with_reducible exact HR580.out) | (with_reducible first | refine ca_ ?_ _ | refine cn_ ?_ _ | refine cd_ ?_) | exact HR580.out)) | (with_reducible first | refine ca_ ?_ _ | refine cn_ ?_ _ | refine cd_ ?_)))
       (case side4 => exact HC580.out)
       rintro e w' ⟨rfl, ⟨nd, rfl⟩⟩
       refine ⟨_, rfl, ?_⟩
       refine hK.out _ _ trivial (fun hHeld => ?_)
       clear hK K
       refine norm_ (a' := ?_) ?_ ?_
       rotate_left
       ·
        show Act.put _ (some 153) _ = _
        simp only [fr_]
        rfl
       refine pu_ 13 154 ?_ (b_ 14 1) rfl rfl HT_.out ?_ ?_ ?_ ?_; rotate_left; intro w'; go_simp; with_reducible rfl; rotate_left; simp only [fr_]; rfl
       refine pu_ 14 2 ?_ (b_ 15 0) rfl rfl HT_.out ?_ ?_ ?_ ?_; rotate_left; intro w'; go_simp; with_reducible rfl; rotate_left; simp only [fr_]; rfl
       refine done_ (done_of HT_.out (by kernel_rfl)) ?_
       try go_wp2
       go_ret
       exact ⟨by first | rfl | (simp [errW_none, errW_some] <;> rfl) | (simp [*, errW_none, errW_some] <;> rfl), by repeat (first | (with_reducible first | exact HB.out | apply ba_ | apply bn_ | apply bd_ | refine below_set ?_ GE552.out | refine below_set ?_ GE565.out) | exact HB.out)⟩
      rw [if_neg c122] at H
      exact absurd H (by simp)
     rw [if_neg c120] at H
     have c120b0 : ((t566.length : Int) == (wrap64 ((t553.length : Int) - x11_2))) = false := beq_eq_false_iff_ne.mpr c120
     have c120b1 : ((t566.length : Int) != (wrap64 ((t553.length : Int) - x11_2))) = true := bne_iff_ne.mpr c120
     exact absurd H (by simp)

/-- THE ONE PURE STATEMENT of laws_FnHeaps: yours. -/
def laws_FnHeaps.Pure : Prop := ∀ (l0 : List Int), l0.length ≤ maxLen → l0.length * 1 ≤ 140737488351232 → (∀ x ∈ l0, (Lit.int .u8 x).wf = true) → ∃ k, laws_FnHeaps.f k l0 = some true
theorem laws_FnHeaps.walk (P : laws_FnHeaps.Pure) (a0 : Option Addr) (len0 cap0 : Nat) (z0 : List Int) (w : World) (w0 : (a0 = none ∧ len0 = 0 ∧ cap0 = 0 ∧ z0 = []) ∨ ∃ x, a0 = some x ∧ len0 ≤ cap0 ∧ cap0 ≤ maxLen ∧ z0.length = cap0 ∧ (∀ i, i < z0.length → w.cell? (x.add i) = some (.int .u8 (z0.getD i 0))) ∧ ∀ n ∈ z0, (Lit.int .u8 n).wf = true) (y0 : len0 * 1 ≤ 140737488351232) :
  Calls Try.prog 9 #[.slice a0 len0 cap0] w fun e w' => e = .returned (.bool true) ∧ Below w.heap.size w w' := by
 obtain ⟨l0, rfl, hr0, hm0, hw0, hc0⟩ := ReadsInt.ofRowC w0
 obtain ⟨k, h⟩ := P l0 hm0 y0 hw0
 refine (laws_FnHeaps.calls k _ _ l0 true w (Kd.C_of_reads (d := (0 : Int)) (h1 := fun _ => rfl) hr0) hc0 h).mono ?_
 rintro e w' ⟨rfl, hd⟩
 exact ⟨rfl, hd⟩
end Go.Proofs.Ytkjakmbmnbjpbaa.Print
end
section
namespace Go.Proofs.Ytkjakmbmnbjpbaa.Print
open Go.RowKit Go.Proofs.YtkjakmbmnbjpbaaV.PrintWords Go.Proofs.YtkjakmbmnbjpbaaV.PrintLast Go.Proofs.YtkjakmbmnbjpbaaV.PrintMore
set_option linter.unusedVariables false
set_option linter.unusedSimpArgs false
theorem wrap_id {x : Int} (h1 : -9223372036854775808 ≤ x) (h2 : x ≤ 9223372036854775807) : wrap64 x = x := by unfold wrap64; omega
theorem wrap_up (n : Nat) (h : n < 9223372036854775807) : wrap64 ((n : Int) + 1) = ((n + 1 : Nat) : Int) := by unfold wrap64; omega
theorem lt_mid {α : Type} (pre suf : List α) (y : α) : (pre.length : Int) < ((pre ++ y :: suf).length : Int) := by simp only [List.length_append, List.length_cons]; omega
theorem not_lt_end {α : Type} (pre : List α) : ¬ ((pre.length : Int) < ((pre ++ []).length : Int)) := by simp
theorem nn (n : Nat) : (0 : Int) ≤ (n : Int) := by omega
theorem and_top (x : Int) (m : Nat) (hm : m < 9223372036854775808) : 0 ≤ Go.bits .and .i64 x (m : Int) ∧ Go.bits .and .i64 x (m : Int) ≤ m := by
  have h1 : (BitVec.ofInt 64 x &&& BitVec.ofInt 64 (m : Int)).toNat ≤ m := by
    rw [BitVec.toNat_and]
    refine Nat.le_trans Nat.and_le_right ?_
    rw [BitVec.ofInt_natCast, BitVec.toNat_ofNat]
    exact Nat.mod_le _ _
  have h2 : Go.bits .and .i64 x (m : Int) = ((BitVec.ofInt 64 x &&& BitVec.ofInt 64 (m : Int)).toNat : Int) := by
    show IntKind.i64.wrap ((BitVec.ofInt 64 x &&& BitVec.ofInt 64 (m : Int)).toNat : Int) = _
    rw [IntKind.wrap_i64]
    omega
  rw [h2]; omega
theorem dNew_l0 (l : List Int) (hl : l.length ≤ 1048576) : ∀ (n i : Nat) (h : Int), l.length ≤ i + n → ∃ s, Ev (fun k => spec_l1New.l0 k l h (i : Int)) (l, 0, s)
  | 0, i, h, hn => ⟨h, 1, fun k hk => by
    obtain ⟨k, rfl⟩ : ∃ m, k = m + 1 := ⟨k - 1, by omega⟩
    simp only [spec_l1New.l0]; rw [if_neg (by omega)]⟩
  | n + 1, i, h, hn => by
    by_cases c : (i : Int) < (l.length : Int)
    · by_cases c2 : (i : Int) < 4000
      · obtain ⟨s, K, g⟩ := dNew_l0 l hl n (i + 1) (Go.bits .and .i64 (wrap64 ((wrap64 ((wrap64 (h * 137)) + (wrap64 (rd l (i : Int))))) + 11)) 1073741823) (by omega)
        refine ⟨s, K + 1, fun k hk => ?_⟩
        obtain ⟨k, rfl⟩ : ∃ m, k = m + 1 := ⟨k - 1, by omega⟩
        have e := g k (by omega)
        simp only at e
        simp only [spec_l1New.l0]
        rw [if_pos c, if_pos c2, if_pos (by omega), wrap_up i (by omega), e]
      · refine ⟨h, 1, fun k hk => ?_⟩
        obtain ⟨k, rfl⟩ : ∃ m, k = m + 1 := ⟨k - 1, by omega⟩
        simp only [spec_l1New.l0]; rw [if_pos c, if_neg c2]
    · refine ⟨h, 1, fun k hk => ?_⟩
      obtain ⟨k, rfl⟩ : ∃ m, k = m + 1 := ⟨k - 1, by omega⟩
      simp only [spec_l1New.l0]; rw [if_neg c]
theorem dNew (l : List Int) (hl : l.length ≤ 1048576) : ∃ s, Ev (fun k => spec_l1New.f k l) (l, 0, s) := by
  obtain ⟨s, g⟩ := dNew_l0 l hl l.length 0 (wrap64 (140873 + (l.length : Int))) (by omega)
  exact ⟨s, g⟩
section
variable (l : List Int) (hl : l.length ≤ 1048576)
include hl
theorem dByte (p s : Int) (hp : 0 ≤ p) : ∃ v p' s', spec_l1Byte.f l p s = some (v, p', s') ∧ 0 ≤ p' ∧ 0 ≤ v ∧ v < 256 := by
  unfold spec_l1Byte.f
  have a1 := fun x => and_top x 255 (by decide)
  by_cases c : p < (l.length : Int)
  · rw [if_pos c, if_pos hp]
    refine ⟨_, _, _, rfl, by rw [wrap_id (by omega) (by omega)]; omega, (a1 _).1, by have := (a1 (wrap64 ((Go.bits .and .i64 (Go.bits .xor .i64 ((wrap64 ((wrap64 (s * 6364136223846793005)) + 1442695040888963407)) / 8589934592) ((wrap64 ((wrap64 (s * 6364136223846793005)) + 1442695040888963407)) / 140737488355328)) 255) + (wrap64 (rd l p))))).2; exact Int.lt_of_le_of_lt this (by decide)⟩
  · rw [if_neg c]
    exact ⟨_, _, _, rfl, hp, (a1 _).1, Int.lt_of_le_of_lt (a1 _).2 (by decide)⟩
theorem dBelow (p s a : Int) (hp : 0 ≤ p) (h0 : 0 < a) (h1 : a ≤ 256) : ∃ v p' s', spec_l1Below.f l p s a = some (v, p', s') ∧ 0 ≤ p' ∧ 0 ≤ v ∧ v < a := by
  obtain ⟨v, p', s', e, q, v0, _⟩ := dByte l hl p s hp
  refine ⟨Int.tmod v a, p', s', ?_, q, Int.tmod_nonneg _ v0, Int.tmod_lt_of_pos _ h0⟩
  simp only [spec_l1Below.f]
  rw [if_neg (by omega), if_pos h1, e, Option.bind_some, if_neg (by omega)]
end
end Go.Proofs.Ytkjakmbmnbjpbaa.Print
end
