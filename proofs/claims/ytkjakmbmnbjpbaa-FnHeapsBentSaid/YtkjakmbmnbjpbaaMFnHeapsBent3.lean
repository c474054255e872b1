import Derived.Test.YtkjakmbmnbjpbaaMFnHeapsBent1
import Derived.Test.YtkjakmbmnbjpbaaMFnHeapsBent2
section
namespace Go.Proofs.Ytkjakmbmnbjpbaa.Print
open Go.RowKit Go.Proofs.YtkjakmbmnbjpbaaV.PrintWords Go.Proofs.YtkjakmbmnbjpbaaV.PrintLast Go.Proofs.YtkjakmbmnbjpbaaV.PrintMore
attribute [local go_sem] max2_int min2_int max_two min_two max_three min_three max_four min_four
set_option linter.unusedVariables false
set_option linter.unusedSimpArgs false
set_option maxHeartbeats 8000000
set_option maxRecDepth 100000
mutual
def impl_HeapTake.l0 : Nat → Int → List (S25) → Int → Int → Int → Option ((List (S25)) × Int × Int × Bool)
 | 0, _, _, _, _, _ => none
 | k + 1, x6, x7, x8, x411000, x411001 => if (wrap64 ((wrap64 ((wrap64 (2 * x8)) + 1)) + 1)) < x6 then (if 0 ≤ (wrap64 ((wrap64 ((wrap64 (2 * x8)) + 1)) + 1)) then (if (wrap64 ((wrap64 ((wrap64 (2 * x8)) + 1)) + 1)) < (x7.length : Int) then (if 0 ≤ (wrap64 ((wrap64 (2 * x8)) + 1)) then (if (wrap64 ((wrap64 (2 * x8)) + 1)) < (x7.length : Int) then ((impl_Before.f ((rd_T25 x7 (wrap64 ((wrap64 ((wrap64 (2 * x8)) + 1)) + 1))).f0) ((rd_T25 x7 (wrap64 ((wrap64 ((wrap64 (2 * x8)) + 1)) + 1))).f1) ((rd_T25 x7 (wrap64 ((wrap64 (2 * x8)) + 1))).f0) ((rd_T25 x7 (wrap64 ((wrap64 (2 * x8)) + 1))).f1)).bind fun t422 => (impl_HeapTake.j1 k x6 x7 x8 (wrap64 ((wrap64 (2 * x8)) + 1)) t422 x411000 x411001)) else (none)) else (none)) else (none)) else (none)) else (impl_HeapTake.j1 k x6 x7 x8 (wrap64 ((wrap64 (2 * x8)) + 1)) false x411000 x411001)
def impl_HeapTake.j1 : Nat → Int → List (S25) → Int → Int → Bool → Int → Int → Option ((List (S25)) × Int × Int × Bool)
 | 0, _, _, _, _, _, _, _ => none
 | k + 1, x6, x7, x8, x9, x52, x411000, x411001 => if x52 = true then (if (wrap64 (x9 + 1)) ≥ x6 then (some (x7, x411000, x411001, true)) else (if 0 ≤ (wrap64 (x9 + 1)) then (if (wrap64 (x9 + 1)) < (x7.length : Int) then (if 0 ≤ x8 then (if x8 < (x7.length : Int) then ((impl_Before.f ((rd_T25 x7 (wrap64 (x9 + 1))).f0) ((rd_T25 x7 (wrap64 (x9 + 1))).f1) ((rd_T25 x7 x8).f0) ((rd_T25 x7 x8).f1)).bind fun t425 => (if t425 = true then (impl_HeapTake.l0 k x6 ((x7.set (x8 : Int).toNat (⟨(rd_T25 x7 (wrap64 (x9 + 1))).f0, (rd_T25 x7 (wrap64 (x9 + 1))).f1⟩ : S25)).set ((wrap64 (x9 + 1)) : Int).toNat (⟨(rd_T25 x7 x8).f0, (rd_T25 x7 x8).f1⟩ : S25)) (wrap64 (x9 + 1)) x411000 x411001) else (some (x7, x411000, x411001, true)))) else (none)) else (none)) else (none)) else (none))) else (if x9 ≥ x6 then (some (x7, x411000, x411001, true)) else (if 0 ≤ x9 then (if x9 < (x7.length : Int) then (if 0 ≤ x8 then (if x8 < (x7.length : Int) then ((impl_Before.f ((rd_T25 x7 x9).f0) ((rd_T25 x7 x9).f1) ((rd_T25 x7 x8).f0) ((rd_T25 x7 x8).f1)).bind fun t432 => (if t432 = true then (impl_HeapTake.l0 k x6 ((x7.set (x8 : Int).toNat (⟨(rd_T25 x7 x9).f0, (rd_T25 x7 x9).f1⟩ : S25)).set (x9 : Int).toNat (⟨(rd_T25 x7 x8).f0, (rd_T25 x7 x8).f1⟩ : S25)) x9 x411000 x411001) else (some (x7, x411000, x411001, true)))) else (none)) else (none)) else (none)) else (none)))
end
def impl_HeapTake.f (k : Nat) (l0 : List (S25)) : Option ((List (S25)) × Int × Int × Bool) := if (l0.length : Int) = 0 then (some (([] : List (S25)), 0, 0, false)) else (if 0 < (l0.length : Int) then (if 0 ≤ (wrap64 ((l0.length : Int) - 1)) then (if (wrap64 ((l0.length : Int) - 1)) ≤ (l0.length : Int) then ((impl_copyTimers.f (l0.take ((wrap64 ((l0.length : Int) - 1)) : Int).toNat)).bind fun t415 => (if (wrap64 ((l0.length : Int) - 1)) = 0 then (some (t415, (rd_T25 l0 0).f0, (rd_T25 l0 0).f1, true)) else (if (wrap64 ((l0.length : Int) - 1)) < (l0.length : Int) then (if 0 < (t415.length : Int) then (impl_HeapTake.l0 k (wrap64 ((l0.length : Int) - 1)) (t415.set (0 : Int).toNat (⟨(rd_T25 l0 (wrap64 ((l0.length : Int) - 1))).f0, (rd_T25 l0 (wrap64 ((l0.length : Int) - 1))).f1⟩ : S25)) 0 ((rd_T25 l0 0).f0) ((rd_T25 l0 0).f1)) else (none)) else (none)))) else (none)) else (none)) else (none))
theorem impl_HeapTake.mono_l : ∀ k, (∀ y0 y1 y2 y3 y4, LeO (impl_HeapTake.l0 k y0 y1 y2 y3 y4) (impl_HeapTake.l0 (k + 1) y0 y1 y2 y3 y4)) ∧ (∀ y0 y1 y2 y3 y4 y5 y6, LeO (impl_HeapTake.j1 k y0 y1 y2 y3 y4 y5 y6) (impl_HeapTake.j1 (k + 1) y0 y1 y2 y3 y4 y5 y6))
 | 0 => ⟨fun _ _ _ _ _ r h => by simp [impl_HeapTake.l0] at h, fun _ _ _ _ _ _ _ r h => by simp [impl_HeapTake.j1] at h⟩
 | k + 1 => by
  obtain ⟨ih0, ih1⟩ := impl_HeapTake.mono_l k
  refine ⟨?_, ?_⟩
  ·
   intro y0 y1 y2 y3 y4
   unfold impl_HeapTake.l0
   repeat' first
   | (with_reducible exact ih0 _ _ _ _ _)
   | (with_reducible exact ih1 _ _ _ _ _ _ _)
   | (with_reducible exact LeO.refl _)
   | (with_reducible exact LeO.none _)
   | (with_reducible refine LeO.ite ?_ ?_)
   | (with_reducible refine LeO.bind ?_ (fun _ => ?_))
   | exact ih0 _ _ _ _ _
   | exact ih1 _ _ _ _ _ _ _
  intro y0 y1 y2 y3 y4 y5 y6
  unfold impl_HeapTake.j1
  repeat' first
  | (with_reducible exact ih0 _ _ _ _ _)
  | (with_reducible exact ih1 _ _ _ _ _ _ _)
  | (with_reducible exact LeO.refl _)
  | (with_reducible exact LeO.none _)
  | (with_reducible refine LeO.ite ?_ ?_)
  | (with_reducible refine LeO.bind ?_ (fun _ => ?_))
  | exact ih0 _ _ _ _ _
  | exact ih1 _ _ _ _ _ _ _
theorem impl_HeapTake.mono : ∀ a0 k, LeO (impl_HeapTake.f k a0) (impl_HeapTake.f (k + 1) a0) := by
 intro a0 k
 obtain ⟨ih0, ih1⟩ := impl_HeapTake.mono_l k
 unfold impl_HeapTake.f
 repeat' first
   | (with_reducible exact ih0 _ _ _ _ _)
   | (with_reducible exact ih1 _ _ _ _ _ _ _)
   | (with_reducible exact LeO.refl _)
   | (with_reducible exact LeO.none _)
   | (with_reducible refine LeO.ite ?_ ?_)
   | (with_reducible refine LeO.bind ?_ (fun _ => ?_))
   | exact ih0 _ _ _ _ _
   | exact ih1 _ _ _ _ _ _ _
def impl_HeapTake.T11 : Bool × List (List Nat × List Nat) := (true, [([], []), ([0], [0]), ([], []), ([1, 2], [1, 2]), ([3], [3]), ([4], [4]), ([4], [4]), ([6, 4], [4, 6]), ([5, 7, 4], [4, 5, 7]), ([8, 4], [4, 8]), ([4], [4]), ([4], [4]), ([10, 11, 4], [4, 10, 11]), ([12, 4], [4, 12]), ([9, 13, 4, 4], [4, 9, 13]), ([4, 14], [4, 14])])
def impl_HeapTake.B11 : List Nat := [0, 1, 0, 7, 15, 31, 31, 95, 255, 511, 31, 31, 3103, 7199, 16383, 32767]
theorem impl_HeapTake.tab11 : rtab .any (opsOf Try.f34 11) = impl_HeapTake.T11 := by kernel_rfl
theorem impl_HeapTake.bits11 : waitsOk impl_HeapTake.T11.2 impl_HeapTake.B11 = true := by kernel_rfl
def impl_HeapTake.T13 : Bool × List (List Nat × List Nat) := (true, [([], []), ([], []), ([0, 1], [0, 1]), ([2], [2]), ([3], [3]), ([3], [3]), ([4, 5, 3], [3, 4, 5]), ([6, 3], [3, 6]), ([3], [3]), ([3], [3]), ([8, 9, 3], [3, 8, 9]), ([10, 3], [3, 10]), ([7, 11, 3, 3], [3, 7, 11]), ([12, 3], [3, 12]), ([3, 13], [3, 13])])
def impl_HeapTake.B13 : List Nat := [0, 0, 3, 7, 15, 15, 63, 127, 15, 15, 783, 1807, 4095, 8191, 16383]
theorem impl_HeapTake.tab13 : rtab .any (opsOf Try.f34 13) = impl_HeapTake.T13 := by kernel_rfl
theorem impl_HeapTake.bits13 : waitsOk impl_HeapTake.T13.2 impl_HeapTake.B13 = true := by kernel_rfl
def impl_HeapTake.T15 : Bool × List (List Nat × List Nat) := (true, [([], []), ([], []), ([], []), ([], []), ([], []), ([], []), ([4, 5], [4, 5]), ([6], [6]), ([], []), ([], []), ([8, 9], [8, 9]), ([10], [10]), ([0, 1, 0, 1, 4, 5, 6, 7, 11], [0, 1]), ([12, 7, 0, 1, 4, 5, 6, 7, 11], [7, 12]), ([2, 3, 0, 1, 2, 3, 4, 5, 6, 7, 8, 9, 10, 11, 12, 13], [2, 3]), ([14, 11, 13, 0, 1, 2, 3, 4, 5, 6, 7, 8, 9, 10, 11, 12, 13], [11, 14])])
def impl_HeapTake.B15 : List Nat := [0, 0, 0, 0, 0, 0, 48, 112, 0, 0, 768, 1792, 4083, 8179, 16383, 32767]
theorem impl_HeapTake.tab15 : rtab .any (opsOf Try.f34 15) = impl_HeapTake.T15 := by kernel_rfl
theorem impl_HeapTake.bits15 : waitsOk impl_HeapTake.T15.2 impl_HeapTake.B15 = true := by kernel_rfl
theorem impl_HeapTake.calls (k : Nat) (A0 : Option Addr) (c0 : Nat) (l0 : List (S25)) (r1 : List (S25)) (r2 : Int) (r3 : Int) (r4 : Bool) (w : World) (hr0 : Kd.C k25 w A0 l0.length l0) (hc0 : l0.length ≤ c0) (h : impl_HeapTake.f k l0 = some (r1, r2, r3, r4)) :
  Calls Try.prog 34 #[.slice A0 l0.length c0] w fun e w' => ∃ v0_ : Value, e = .returned (.tuple #[v0_, .agg #[.int .i64 r2, .int .i64 r3], .bool r4]) ∧ Kd.R k25 25 w' w.heap.size (fun _ => True) v0_ r1 ∧ Below w.heap.size w w' := by
 have hu25 := Try.underlying25
 have HR0 := Aside0.mk hr0
 have HC0 := Aside0.mk hc0
 clear hr0 hc0
 have HB := Aside0.mk (Below.refl w.heap.size w)
 have H : (if (l0.length : Int) = 0 then (some (([] : List (S25)), 0, 0, false)) else (if 0 < (l0.length : Int) then (if 0 ≤ (wrap64 ((l0.length : Int) - 1)) then (if (wrap64 ((l0.length : Int) - 1)) ≤ (l0.length : Int) then ((impl_copyTimers.f (l0.take ((wrap64 ((l0.length : Int) - 1)) : Int).toNat)).bind fun t415 => (if (wrap64 ((l0.length : Int) - 1)) = 0 then (some (t415, (rd_T25 l0 0).f0, (rd_T25 l0 0).f1, true)) else (if (wrap64 ((l0.length : Int) - 1)) < (l0.length : Int) then (if 0 < (t415.length : Int) then (impl_HeapTake.l0 k (wrap64 ((l0.length : Int) - 1)) (t415.set (0 : Int).toNat (⟨(rd_T25 l0 (wrap64 ((l0.length : Int) - 1))).f0, (rd_T25 l0 (wrap64 ((l0.length : Int) - 1))).f1⟩ : S25)) 0 ((rd_T25 l0 0).f0) ((rd_T25 l0 0).f1)) else (none)) else (none)))) else (none)) else (none)) else (none))) = some (r1, r2, r3, r4) := h
 clear h
 by_cases c2 : (l0.length : Int) = 0
 ·
  rw [if_pos c2] at H
  have c2b0 : ((l0.length : Int) == 0) = true := beq_iff_eq.mpr c2
  have c2b1 : ((l0.length : Int) != 0) = false := bne_eq_false_iff_eq.mpr c2
  clear c2
  simp only [Option.some.injEq, Prod.mk.injEq] at H
  obtain ⟨rfl, rfl, rfl, rfl⟩ := H
  go_enter Try.func34, Try.ntmps34
  go_wp2_with (first | ((with_reducible refine gate_dst (N := 3) rfl ?_); refine box_event ?hg (N := 3) ?hd (cs := #[.int .i64 0, .int .i64 0]) (t := 25) ?hr ?_; (case hd => rfl); (case hg => rfl); (case hr => first | (go_simp; done) | (go_simp; rfl)); intro gb408 hg w3 hbox hb; have n0_ := Aside0.mk (below_step (by repeat (first | (with_reducible first | exact HB.out | apply ba_ | apply bn_ | apply bd_) | exact HB.out)) hb); have BK408 := Aside0.mk (hbox); have GW408 := Aside0.mk ((by rw [hg]; exact (below_size (by repeat (first | (with_reducible first | exact HB.out | apply ba_ | apply bn_ | apply bd_) | exact HB.out))) : w.heap.size ≤ gb408)); have GE408 := GW408; clear HB; have HB := n0_; clear n0_; clear hb hbox hg; obtain ⟨hcz4_0, hcz4_1, hfz4_0, hfz4_1⟩ := bc2_ BK408.out))
  refine bodyPost_ret (results_list (rs := [.tmp 2, .cell 3 25, .tmp 4]) rfl (by simp) (.tmp (.cell gb408 25 #[.int .i64 0, .int .i64 0] (0, 0) _ rfl (by (with_reducible repeat (first | refine kn_ ?_ _ | refine kd_ ?_ | refine ka_ ?_ _)); refine blk_put (cs := #[.int .i64 0, .int .i64 0]) ?_ 1 _ rfl; (with_reducible repeat (first | refine kn_ ?_ _ | refine kd_ ?_ | refine ka_ ?_ _)); refine blk_put (cs := #[.int .i64 0, .int .i64 0]) ?_ 0 _ rfl; (with_reducible repeat (first | refine kn_ ?_ _ | refine kd_ ?_ | refine ka_ ?_ _)); exact BK408.out) Try.underlying25 rfl (by kernel_rfl) (.tmp .nil)))) rfl ?_
  exact ⟨_, by first | rfl | (simp [errW_none, errW_some] <;> rfl) | (simp [*, errW_none, errW_some] <;> rfl), by first | exact Kd.R_nil _ _ _ _ _ | exact Kd.N_nil _ _ _ _ _ | exact Kd.V_nil _ _ _ _ _ | exact Kd.Q_nil _ _ _ _ _ | exact Kd.S_nil _ _ _ _ _, by repeat (first | (with_reducible first | exact HB.out | apply ba_ | apply bn_ | apply bd_ | refine below_set ?_ GE408.out) | exact HB.out)⟩
 rw [if_neg c2] at H
 have c2b0 : ((l0.length : Int) == 0) = false := beq_eq_false_iff_ne.mpr c2
 have c2b1 : ((l0.length : Int) != 0) = true := bne_iff_ne.mpr c2
 have c2b2 : ¬ (l0 = []) := fun h_ => c2 (by rw [h_]; rfl)
 by_cases c5 : 0 < (l0.length : Int)
 ·
  rw [if_pos c5] at H
  have c5b0 := decide_eq_true c5
  have c5b1 : decide (0 < l0.length) = true := decide_eq_true (by omega)
  clear c5
  obtain ⟨ji6, hji6⟩ : ∃ j_ : Int, (wrap64 ((l0.length : Int) - 1)) = j_ := ⟨_, rfl⟩
  replace H : (if 0 ≤ (ji6) then (if (ji6) ≤ (l0.length : Int) then ((impl_copyTimers.f (l0.take ((ji6) : Int).toNat)).bind fun t415 => (if (ji6) = 0 then (some (t415, (rd_T25 l0 0).f0, (rd_T25 l0 0).f1, true)) else (if (ji6) < (l0.length : Int) then (if 0 < (t415.length : Int) then (impl_HeapTake.l0 k ji6 (t415.set (0 : Int).toNat (⟨(rd_T25 l0 (ji6)).f0, (rd_T25 l0 (ji6)).f1⟩ : S25)) 0 ((rd_T25 l0 0).f0) ((rd_T25 l0 0).f1)) else (none)) else (none)))) else (none)) else (none)) = some (r1, r2, r3, r4) := by first | (rw [hji6] at H; exact H) | (simp only [hji6] at H ⊢; exact H)
  have hji6w : (IntKind.i64.wrap ((l0.length : Int) - 1)) = ji6 := (i64_w _).trans hji6
  by_cases c7 : 0 ≤ (ji6)
  ·
   rw [if_pos c7] at H
   have c7b0 := eq_true c7
   have c7b1 := decide_eq_true c7
   clear c7
   by_cases c8 : (ji6) ≤ (l0.length : Int)
   ·
    rw [if_pos c8] at H
    have c8b0 := eq_true c8
    have c8b1 := decide_eq_true c8
    clear c8
    obtain ⟨y411, hy411⟩ : ∃ y_ : List (S25), y_ = (l0.take ((ji6) : Int).toNat) := ⟨_, rfl⟩
    replace H : ((impl_copyTimers.f y411).bind fun t415 => (if (ji6) = 0 then (some (t415, (rd_T25 l0 0).f0, (rd_T25 l0 0).f1, true)) else (if (ji6) < (l0.length : Int) then (if 0 < (t415.length : Int) then (impl_HeapTake.l0 k ji6 (t415.set (0 : Int).toNat (⟨(rd_T25 l0 (ji6)).f0, (rd_T25 l0 (ji6)).f1⟩ : S25)) 0 ((rd_T25 l0 0).f0) ((rd_T25 l0 0).f1)) else (none)) else (none)))) = some (r1, r2, r3, r4) := by first | (rw [hy411]; with_reducible exact H) | (have H2_ := (Option.bind_some _ _).symm.trans H; rw [hy411]; with_reducible exact H2_) | (have H2_ := (Option.bind_some _ _).symm.trans H; with_reducible exact H2_) | with_reducible exact H | (rw [hy411]; exact H) | exact H
    have Ny411 := Aside0.mk hy411
    clear hy411
    replace H := Option.bind_eq_some_iff.mp H
    obtain ⟨t415, A90, H⟩ := H
    have A9 := Aside0.mk A90
    clear A90
    by_cases c10 : (ji6) = 0
    ·
     rw [if_pos c10] at H
     have c10b0 : ((ji6) == 0) = true := beq_iff_eq.mpr c10
     have c10b1 : ((ji6) != 0) = false := bne_eq_false_iff_eq.mpr c10
     clear c10
     simp only [Option.some.injEq, Prod.mk.injEq] at H
     obtain ⟨rfl, rfl, rfl, rfl⟩ := H
     go_enter Try.func34, Try.ntmps34
     try go_wp2_with (first | ((with_reducible refine gate_dst (N := 3) rfl ?_); refine box_event ?hg (N := 3) ?hd (cs := #[.int .i64 0, .int .i64 0]) (t := 25) ?hr ?_; (case hd => rfl); (case hg => rfl); (case hr => first | (go_simp; done) | (go_simp; rfl)); intro gb408 hg w11 hbox hb; have n0_ := Aside0.mk (below_step (by repeat (first | (with_reducible first | exact HB.out | apply ba_ | apply bn_ | apply bd_) | exact HB.out)) hb); have BK408 := Aside0.mk (hbox); have GW408 := Aside0.mk ((by rw [hg]; exact (below_size (by repeat (first | (with_reducible first | exact HB.out | apply ba_ | apply bn_ | apply bd_) | exact HB.out))) : w.heap.size ≤ gb408)); have GE408 := GW408; clear HB; have HB := n0_; clear n0_; clear hb hbox hg; have p409 : 0 ≤ (0 : Int) := (by omega); have q409 : 0 < (l0.length : Int) := of_decide_eq_true (by with_reducible assumption); obtain ⟨ad409, e409, hx409_0, hx409_1⟩ := at_T25 HR0.out 0 p409 q409; cases e409; have qi409 : (0 < l0.length) = True := eq_true (by omega); (try rw [show ((0 : Int)).toNat = 0 from rfl] at hx409_0); (try rw [show 0 * 2 = 0 from rfl] at hx409_0); (try rw [Addr.add_zero'] at hx409_0); (try rw [show ((0 : Int)).toNat = 0 from rfl] at hx409_1); (try rw [show 0 * 2 = 0 from rfl] at hx409_1); (try rw [Addr.add_zero'] at hx409_1); replace hx409_0 := cl_ HB.out hx409_0; replace hx409_1 := cl_ HB.out hx409_1; replace p409 := eq_true p409; replace q409 := eq_true q409) | ((with_reducible refine gate_dst (N := 5) rfl ?_); refine box_event ?hg (N := 5) ?hd (cs := #[.int .i64 0, .int .i64 0]) (t := 25) ?hr ?_; (case hd => rfl); (case hg => rfl); (case hr => first | (go_simp; done) | (go_simp; rfl)); intro gb410 hg w12 hbox hb; have n0_ := Aside0.mk (bb_ BK408.out hb); have n1_ := Aside0.mk (below_step (by repeat (first | (with_reducible first | exact HB.out | apply ba_ | apply bn_ | apply bd_ | refine below_set ?_ GE408.out) | exact HB.out)) hb); have n2_ := Aside0.mk (hbox); have n3_ := Aside0.mk ((by rw [hg]; exact (below_size (by repeat (first | (with_reducible first | exact HB.out | apply ba_ | apply bn_ | apply bd_ | refine below_set ?_ GE408.out) | exact HB.out))) : w.heap.size ≤ gb410)); have n4_ := n3_; have n5_ := Aside0.mk (nl_ BK408.out hg); have n6_ := Aside0.mk (n5_.out.symm); clear BK408 HB; have BK408 := n0_; have HB := n1_; have BK410 := n2_; have GW410 := n3_; have GE410 := n4_; have NB408_410 := n5_; have NB410_408 := n6_; clear n0_ n1_ n2_ n3_ n4_ n5_ n6_; clear hb hbox hg; have hnb13 := NB410_408.out; have hnc13 := NB408_410.out; obtain ⟨hcz14_0, hcz14_1, hfz14_0, hfz14_1⟩ := bc2_ BK410.out) | ((with_reducible refine gate_store (t := 25) (p := 5) rfl ?_); refine store_event (t := 25) (p := 5) (v := ?vo_w15) (w1 := ((w12.setCell ⟨gb410, 0, none⟩ (.int .i64 ((rd_T25 l0 0).f0))).setCell ⟨gb410, 1, none⟩ (.int .i64 ((rd_T25 l0 0).f1)))) ?hg ?ho ?hn ?hr ?_; (case ho => rfl); (case hg => rfl); (case hn => rfl); (case hr => first | (go_simp; done) | (go_simp; rfl)); intro w15 hw; have n0_ : Aside0 (w15.heap[gb408]? = some (.cells #[.int .i64 0, .int .i64 0] 25 (0, 0))) := ⟨(by rw [hw]; exact (by (with_reducible repeat (first | refine kn_ ?_ _ | refine kd_ ?_ | refine ka_ ?_ _)); refine blk_far ?_ NB408_410.out _; (with_reducible repeat (first | refine kn_ ?_ _ | refine kd_ ?_ | refine ka_ ?_ _)); refine blk_far ?_ NB408_410.out _; (with_reducible repeat (first | refine kn_ ?_ _ | refine kd_ ?_ | refine ka_ ?_ _)); exact BK408.out))⟩; have n1_ : Aside0 (w15.heap[gb410]? = some (.cells #[.int .i64 ((rd_T25 l0 0).f0), .int .i64 ((rd_T25 l0 0).f1)] 25 (0, 0))) := ⟨(by rw [hw]; exact (by (with_reducible repeat (first | refine kn_ ?_ _ | refine kd_ ?_ | refine ka_ ?_ _)); refine blk_put (cs := #[.int .i64 ((rd_T25 l0 0).f0), .int .i64 0]) ?_ 1 _ rfl; (with_reducible repeat (first | refine kn_ ?_ _ | refine kd_ ?_ | refine ka_ ?_ _)); refine blk_put (cs := #[.int .i64 0, .int .i64 0]) ?_ 0 _ rfl; (with_reducible repeat (first | refine kn_ ?_ _ | refine kd_ ?_ | refine ka_ ?_ _)); exact BK410.out))⟩; have n2_ : Aside0 (Below w.heap.size w w15) := ⟨(by rw [hw]; exact (by repeat (first | (with_reducible first | exact HB.out | apply ba_ | apply bn_ | apply bd_ | refine below_set ?_ GE408.out | refine below_set ?_ GE410.out) | exact HB.out)))⟩; clear hw BK408 BK410 HB; have BK408 := n0_; have BK410 := n1_; have HB := n2_; clear n0_ n1_ n2_; have q16 : ((ji6) : Int) ≤ ((l0.length : Int) : Int) := of_decide_eq_true (by with_reducible assumption); obtain ⟨i016, hi016, _, hsz16, _⟩ := info_parts info25; have hroom16 : l0.length ≤ c0 := HC0.out; have hC16 : Kd.C k25 _ (some ad409) l0.length l0 := HR0.out; have hcut16 := cut_to (P := Try.prog) 31 25 .i64 Try.underlying31 hi016 (some ad409) l0.length c0 (ji6) (of_decide_eq_true (by with_reducible assumption)) q16 hroom16; have hr16 := Kd.C_take (m := ((ji6) : Int).toNat) hC16 (by omega); have hy16 : y411.length = ((ji6) : Int).toNat := (by rw [Ny411.out, List.length_take]; omega); rw [← Ny411.out] at hr16; rw [← hy16] at hcut16; have HR414 := Aside0.mk hr16; have HC414 := Aside0.mk (show y411.length ≤ c0 from by omega); clear hr16 hC16 hroom16 hi016 hsz16; have KY16 := Aside0.mk hy16; clear hy16; replace q16 := eq_true q16) | ((with_reducible refine gate_callee (f := 54) rfl ?_); refine goesL_ (some 23) rfl rfl Try.func54 (by kernel_rfl) rfl #[.slice (some ad409) y411.length c0] rfl (by (try simp only [mp_]); first | done | rfl | (simp only [List.length_drop, List.length_take]; rfl)) ?_; (with_reducible refine (impl_copyTimers.calls _ _ y411 t415 _ ?side1 ?side2 A9.out).mono ?_); (case side1 => repeat (first | exact (Kd.C_below HR414.out HB.out) | (with_reducible first | refine ca_ ?_ _ | refine cn_ ?_ _ | refine cd_ ?_))); (case side2 => exact HC414.out); rintro e w17 ⟨v416, rfl, ho0, hb⟩; refine ⟨_, rfl, ?_⟩; have n0_ := Aside0.mk (Kd.R_lower (Kd.R_newB (Kd.R_newB ho0 (g := gb408) (o := .cells #[.int .i64 0, .int .i64 0] 25 (0, 0)) (pb_ BK408.out)) (g := gb410) (o := .cells #[.int .i64 ((rd_T25 l0 0).f0), .int .i64 ((rd_T25 l0 0).f1)] 25 (0, 0)) (pb_ BK410.out)) (below_size (by repeat (first | (with_reducible first | exact HB.out | apply ba_ | apply bn_ | apply bd_ | refine below_set ?_ GE408.out | refine below_set ?_ GE410.out) | exact HB.out)))); have n1_ := Aside0.mk (bb_ BK408.out hb); have n2_ := Aside0.mk (bb_ BK410.out hb); have n3_ := Aside0.mk (below_step (by repeat (first | (with_reducible first | exact HB.out | apply ba_ | apply bn_ | apply bd_ | refine below_set ?_ GE408.out | refine below_set ?_ GE410.out) | exact HB.out)) hb); clear BK408 BK410 HB; have HO417 := n0_; have BK408 := n1_; have BK410 := n2_; have HB := n3_; clear n0_ n1_ n2_ n3_; (try clear hb); (try clear hb2); (try clear hk); (try clear hi); (try clear ho0)))
     have n0_ := Aside0.mk (Kd.R_drew HO417.out)
     have n1_ := Aside0.mk (blk_drew BK408.out)
     have n2_ := Aside0.mk (blk_drew BK410.out)
     have n3_ := Aside0.mk (bd_ HB.out)
     clear HO417 BK408 BK410 HB
     have HO417 := n0_
     have BK408 := n1_
     have BK410 := n2_
     have HB := n3_
     clear n0_ n1_ n2_ n3_
     refine start_ (n := 5) (S := fun w' => w'.cell? ⟨gb410, 0, none⟩ = some (.int .i64 ((rd_T25 l0 0).f0)) ∧ w'.cell? ⟨gb410, 1, none⟩ = some (.int .i64 ((rd_T25 l0 0).f1))) (ds := []) #[f_,f_,f_,f_,f_] (by kernel_rfl) rfl rfl ⟨bx_ BK410.out 0, bx_ BK410.out 1⟩ (fun hHeld => ?_)
     generalize w17.drew = w18 at HO417 BK408 BK410 HB hHeld ⊢
     refine pure_ (i := 0) (N := some 26) (v := ?_) (a' := ?_) #[t_,f_,f_,f_,f_] rfl rfl (by kernel_rfl) (fun _ _ _ h => h) (Or.inl ⟨by rfl, ?_⟩) ?_ ?_
     rotate_left
     ·
      intro w'
      go_simp
      with_reducible rfl
     rotate_left
     ·
      simp only [fr_]
      rfl
     refine pure_ (i := 2) (N := some 2) (v := ?_) (a' := ?_) #[t_,f_,t_,f_,f_] rfl rfl (by kernel_rfl) (fun _ _ _ h => h) (Or.inl ⟨by rfl, ?_⟩) ?_ ?_
     rotate_left
     ·
      intro w'
      go_simp
      with_reducible rfl
     rotate_left
     ·
      simp only [fr_]
      rfl
     refine take_ (i := 1) (N := some 27) (v := ?_) (a' := ?_) #[t_,t_,t_,f_,f_] rfl rfl (by kernel_rfl) (fun _ _ _ h => h) (Or.inl ⟨by rfl, ?_⟩) hHeld ?_ ?_
     rotate_left
     ·
      rintro w' ⟨s0, s1⟩
      go_simp
      with_reducible rfl
     rotate_left
     ·
      simp only [fr_]
      rfl
     refine one_ (i := 3) (N := none) #[t_,t_,t_,t_,f_] rfl rfl (by kernel_rfl) (by decide) (fun K hK => ?_)
     have hs19 : w18.cell? ⟨gb408, 0, none⟩ = some (.int .i64 0) := bx_ BK408.out 0
     have hfs19 := blk_frozen BK408.out 0
     have hns19_1 := NB410_408.out
     have hms19_1 := NB408_410.out
     have hs20 : w18.cell? ⟨gb408, 1, none⟩ = some (.int .i64 0) := bx_ BK408.out 1
     have hfs20 := blk_frozen BK408.out 1
     have hns20_1 := NB410_408.out
     have hms20_1 := NB408_410.out
     refine skip_ (w1 := ?_) (by rfl) rfl ?_ ?_
     rotate_left
     ·
      go_simp
      rfl
     refine hK.out _ _ ⟨((cell_far (p := ⟨gb408, _, none⟩) NB410_408.out _).trans (((cell_far (p := ⟨gb408, _, none⟩) NB410_408.out _).trans (hHeld.1)))), ((cell_far (p := ⟨gb408, _, none⟩) NB410_408.out _).trans (((cell_far (p := ⟨gb408, _, none⟩) NB410_408.out _).trans (hHeld.2))))⟩ (fun hHeld => ?_)
     clear hK K
     refine pure_ (i := 4) (N := some 4) (v := ?_) (a' := ?_) #[t_,t_,t_,t_,t_] rfl rfl (by kernel_rfl) (fun _ _ _ h => h) (Or.inl ⟨by rfl, ?_⟩) ?_ ?_
     rotate_left
     ·
      intro w'
      go_simp
      with_reducible rfl
     rotate_left
     ·
      simp only [fr_]
      rfl
     refine done_ (by kernel_rfl) ?_
     try go_wp2
     refine bodyPost_ret (results_list (rs := [.tmp 2, .cell 3 25, .tmp 4]) rfl (by simp) (.tmp (.cell gb408 25 #[.int .i64 ((rd_T25 l0 0).f0), .int .i64 ((rd_T25 l0 0).f1)] (0, 0) _ rfl (by (with_reducible repeat (first | refine kn_ ?_ _ | refine kd_ ?_ | refine ka_ ?_ _)); refine blk_put (cs := #[.int .i64 ((rd_T25 l0 0).f0), .int .i64 0]) ?_ 1 _ rfl; (with_reducible repeat (first | refine kn_ ?_ _ | refine kd_ ?_ | refine ka_ ?_ _)); refine blk_put (cs := #[.int .i64 0, .int .i64 0]) ?_ 0 _ rfl; (with_reducible repeat (first | refine kn_ ?_ _ | refine kd_ ?_ | refine ka_ ?_ _)); exact BK408.out) Try.underlying25 rfl (by kernel_rfl) (.tmp .nil)))) rfl ?_
     exact ⟨_, by first | rfl | (simp [errW_none, errW_some] <;> rfl) | (simp only [← hji6]; first | rfl | (simp [errW_none, errW_some] <;> rfl)) | (simp [*, errW_none, errW_some] <;> rfl), by (with_reducible repeat (first | apply Kd.R_alloc | apply Kd.R_drewN | apply Kd.R_drew)); exact Kd.R_mono (Kd.R_far (p := ⟨gb408, 1, none⟩) (Kd.R_far (p := ⟨gb408, 0, none⟩) (Kd.R_mono HO417.out (fun k_ hk => (⟨hk, hk.1.2⟩ : _ ∧ k_ ≠ gb408))) (fun _ hk => hk.2) (.int .i64 ((rd_T25 l0 0).f0))) (fun _ hk => hk.2) (.int .i64 ((rd_T25 l0 0).f1))) (fun _ hk => trivial), by repeat (first | (with_reducible first | exact HB.out | apply ba_ | apply bn_ | apply bd_ | refine below_set ?_ GE408.out | refine below_set ?_ GE410.out) | exact HB.out)⟩
    rw [if_neg c10] at H
    have c10b0 : ((ji6) == 0) = false := beq_eq_false_iff_ne.mpr c10
    have c10b1 : ((ji6) != 0) = true := bne_iff_ne.mpr c10
    by_cases c21 : (ji6) < (l0.length : Int)
    ·
     rw [if_pos c21] at H
     have c21b0 := decide_eq_true c21
     clear c21
     by_cases c22 : 0 < (t415.length : Int)
     ·
      rw [if_pos c22] at H
      have c22b0 := decide_eq_true c22
      have c22b1 : decide (0 < t415.length) = true := decide_eq_true (by omega)
      clear c22
      obtain ⟨y419, hy419⟩ : ∃ y_ : List (S25), y_ = (t415.set (0 : Int).toNat (⟨(rd_T25 l0 (ji6)).f0, (rd_T25 l0 (ji6)).f1⟩ : S25)) := ⟨_, rfl⟩
      replace H : (impl_HeapTake.l0 k ji6 y419 0 ((rd_T25 l0 0).f0) ((rd_T25 l0 0).f1)) = some (r1, r2, r3, r4) := by first | (rw [hy419]; with_reducible exact H) | (have H2_ := (Option.bind_some _ _).symm.trans H; rw [hy419]; with_reducible exact H2_) | (have H2_ := (Option.bind_some _ _).symm.trans H; with_reducible exact H2_) | with_reducible exact H | (rw [hy419]; exact H) | exact H
      have Ny419 := Aside0.mk hy419
      clear hy419
      have H' := Aside0.mk H
      clear H
      go_enter Try.func34, Try.ntmps34
      go_wp2_with (first | ((with_reducible refine gate_dst (N := 3) rfl ?_); refine box_event ?hg (N := 3) ?hd (cs := #[.int .i64 0, .int .i64 0]) (t := 25) ?hr ?_; (case hd => rfl); (case hg => rfl); (case hr => first | (go_simp; done) | (go_simp; rfl)); intro gb408 hg w24 hbox hb; have n0_ := Aside0.mk (below_step (by repeat (first | (with_reducible first | exact HB.out | apply ba_ | apply bn_ | apply bd_) | exact HB.out)) hb); have BK408 := Aside0.mk (hbox); have GW408 := Aside0.mk ((by rw [hg]; exact (below_size (by repeat (first | (with_reducible first | exact HB.out | apply ba_ | apply bn_ | apply bd_) | exact HB.out))) : w.heap.size ≤ gb408)); have GE408 := GW408; clear HB; have HB := n0_; clear n0_; clear hb hbox hg; have p409 : 0 ≤ (0 : Int) := (by omega); have q409 : 0 < (l0.length : Int) := of_decide_eq_true (by with_reducible assumption); obtain ⟨ad409, e409, hx409_0, hx409_1⟩ := at_T25 HR0.out 0 p409 q409; cases e409; have qi409 : (0 < l0.length) = True := eq_true (by omega); (try rw [show ((0 : Int)).toNat = 0 from rfl] at hx409_0); (try rw [show 0 * 2 = 0 from rfl] at hx409_0); (try rw [Addr.add_zero'] at hx409_0); (try rw [show ((0 : Int)).toNat = 0 from rfl] at hx409_1); (try rw [show 0 * 2 = 0 from rfl] at hx409_1); (try rw [Addr.add_zero'] at hx409_1); replace hx409_0 := cl_ HB.out hx409_0; replace hx409_1 := cl_ HB.out hx409_1; replace p409 := eq_true p409; replace q409 := eq_true q409) | ((with_reducible refine gate_dst (N := 5) rfl ?_); refine box_event ?hg (N := 5) ?hd (cs := #[.int .i64 0, .int .i64 0]) (t := 25) ?hr ?_; (case hd => rfl); (case hg => rfl); (case hr => first | (go_simp; done) | (go_simp; rfl)); intro gb410 hg w25 hbox hb; have n0_ := Aside0.mk (bb_ BK408.out hb); have n1_ := Aside0.mk (below_step (by repeat (first | (with_reducible first | exact HB.out | apply ba_ | apply bn_ | apply bd_ | refine below_set ?_ GE408.out) | exact HB.out)) hb); have n2_ := Aside0.mk (hbox); have n3_ := Aside0.mk ((by rw [hg]; exact (below_size (by repeat (first | (with_reducible first | exact HB.out | apply ba_ | apply bn_ | apply bd_ | refine below_set ?_ GE408.out) | exact HB.out))) : w.heap.size ≤ gb410)); have n4_ := n3_; have n5_ := Aside0.mk (nl_ BK408.out hg); have n6_ := Aside0.mk (n5_.out.symm); clear BK408 HB; have BK408 := n0_; have HB := n1_; have BK410 := n2_; have GW410 := n3_; have GE410 := n4_; have NB408_410 := n5_; have NB410_408 := n6_; clear n0_ n1_ n2_ n3_ n4_ n5_ n6_; clear hb hbox hg; have hnb26 := NB410_408.out; have hnc26 := NB408_410.out; obtain ⟨hcz27_0, hcz27_1, hfz27_0, hfz27_1⟩ := bc2_ BK410.out) | ((with_reducible refine gate_store (t := 25) (p := 5) rfl ?_); refine store_event (t := 25) (p := 5) (v := ?vo_w28) (w1 := ((w25.setCell ⟨gb410, 0, none⟩ (.int .i64 ((rd_T25 l0 0).f0))).setCell ⟨gb410, 1, none⟩ (.int .i64 ((rd_T25 l0 0).f1)))) ?hg ?ho ?hn ?hr ?_; (case ho => rfl); (case hg => rfl); (case hn => rfl); (case hr => first | (go_simp; done) | (go_simp; rfl)); intro w28 hw; have n0_ : Aside0 (w28.heap[gb408]? = some (.cells #[.int .i64 0, .int .i64 0] 25 (0, 0))) := ⟨(by rw [hw]; exact (by (with_reducible repeat (first | refine kn_ ?_ _ | refine kd_ ?_ | refine ka_ ?_ _)); refine blk_far ?_ NB408_410.out _; (with_reducible repeat (first | refine kn_ ?_ _ | refine kd_ ?_ | refine ka_ ?_ _)); refine blk_far ?_ NB408_410.out _; (with_reducible repeat (first | refine kn_ ?_ _ | refine kd_ ?_ | refine ka_ ?_ _)); exact BK408.out))⟩; have n1_ : Aside0 (w28.heap[gb410]? = some (.cells #[.int .i64 ((rd_T25 l0 0).f0), .int .i64 ((rd_T25 l0 0).f1)] 25 (0, 0))) := ⟨(by rw [hw]; exact (by (with_reducible repeat (first | refine kn_ ?_ _ | refine kd_ ?_ | refine ka_ ?_ _)); refine blk_put (cs := #[.int .i64 ((rd_T25 l0 0).f0), .int .i64 0]) ?_ 1 _ rfl; (with_reducible repeat (first | refine kn_ ?_ _ | refine kd_ ?_ | refine ka_ ?_ _)); refine blk_put (cs := #[.int .i64 0, .int .i64 0]) ?_ 0 _ rfl; (with_reducible repeat (first | refine kn_ ?_ _ | refine kd_ ?_ | refine ka_ ?_ _)); exact BK410.out))⟩; have n2_ : Aside0 (Below w.heap.size w w28) := ⟨(by rw [hw]; exact (by repeat (first | (with_reducible first | exact HB.out | apply ba_ | apply bn_ | apply bd_ | refine below_set ?_ GE408.out | refine below_set ?_ GE410.out) | exact HB.out)))⟩; clear hw BK408 BK410 HB; have BK408 := n0_; have BK410 := n1_; have HB := n2_; clear n0_ n1_ n2_; have q29 : ((ji6) : Int) ≤ ((l0.length : Int) : Int) := of_decide_eq_true (by with_reducible assumption); obtain ⟨i029, hi029, _, hsz29, _⟩ := info_parts info25; have hroom29 : l0.length ≤ c0 := HC0.out; have hC29 : Kd.C k25 _ (some ad409) l0.length l0 := HR0.out; have hcut29 := cut_to (P := Try.prog) 31 25 .i64 Try.underlying31 hi029 (some ad409) l0.length c0 (ji6) (of_decide_eq_true (by with_reducible assumption)) q29 hroom29; have hr29 := Kd.C_take (m := ((ji6) : Int).toNat) hC29 (by omega); have hy29 : y411.length = ((ji6) : Int).toNat := (by rw [Ny411.out, List.length_take]; omega); rw [← Ny411.out] at hr29; rw [← hy29] at hcut29; have HR414 := Aside0.mk hr29; have HC414 := Aside0.mk (show y411.length ≤ c0 from by omega); clear hr29 hC29 hroom29 hi029 hsz29; have KY29 := Aside0.mk hy29; clear hy29; replace q29 := eq_true q29) | ((with_reducible refine gate_callee (f := 54) rfl ?_); refine goesL_ (some 23) rfl rfl Try.func54 (by kernel_rfl) rfl #[.slice (some ad409) y411.length c0] rfl (by (try simp only [mp_]); first | done | rfl | (simp only [List.length_drop, List.length_take]; rfl)) ?_; (with_reducible refine (impl_copyTimers.calls _ _ y411 t415 _ ?side1 ?side2 A9.out).mono ?_); (case side1 => repeat (first | exact (Kd.C_below HR414.out HB.out) | (with_reducible first | refine ca_ ?_ _ | refine cn_ ?_ _ | refine cd_ ?_))); (case side2 => exact HC414.out); rintro e w30 ⟨v416, rfl, ho0, hb⟩; refine ⟨_, rfl, ?_⟩; have n0_ := Aside0.mk (Kd.R_lower (Kd.R_newB (Kd.R_newB ho0 (g := gb408) (o := .cells #[.int .i64 0, .int .i64 0] 25 (0, 0)) (pb_ BK408.out)) (g := gb410) (o := .cells #[.int .i64 ((rd_T25 l0 0).f0), .int .i64 ((rd_T25 l0 0).f1)] 25 (0, 0)) (pb_ BK410.out)) (below_size (by repeat (first | (with_reducible first | exact HB.out | apply ba_ | apply bn_ | apply bd_ | refine below_set ?_ GE408.out | refine below_set ?_ GE410.out) | exact HB.out)))); have n1_ := Aside0.mk (bb_ BK408.out hb); have n2_ := Aside0.mk (bb_ BK410.out hb); have n3_ := Aside0.mk (below_step (by repeat (first | (with_reducible first | exact HB.out | apply ba_ | apply bn_ | apply bd_ | refine below_set ?_ GE408.out | refine below_set ?_ GE410.out) | exact HB.out)) hb); clear BK408 BK410 HB; have HO417 := n0_; have BK408 := n1_; have BK410 := n2_; have HB := n3_; clear n0_ n1_ n2_ n3_; (try clear hb); (try clear hb2); (try clear hk); (try clear hi); (try clear ho0); have p418 : 0 ≤ ((ji6) : Int) := of_decide_eq_true (by with_reducible assumption); have q418 : (ji6) < (l0.length : Int) := of_decide_eq_true (by with_reducible assumption); obtain ⟨ad418, e418, hx418_0, hx418_1⟩ := at_T25 HR0.out (ji6) p418 q418; obtain rfl : ad409 = ad418 := (by injection e418); replace hx418_0 := cl_ HB.out hx418_0; replace hx418_1 := cl_ HB.out hx418_1; replace p418 := eq_true p418; replace q418 := eq_true q418; have p23 : 0 ≤ (0 : Int) := (by omega); have q23 : (0 : Int) < ((t415.length : Int) : Int) := of_decide_eq_true (by with_reducible assumption); have qi23 : (0 < t415.length) = True := eq_true (by omega); obtain ⟨go23, co23, eo23, gb23, gl23, cl23, HG23⟩ := Kd.R_form HO417.out (by omega); (first | cases eo23 | (injection eo23 with ea_ en_ ec_; (first | subst ea_ | (injection ea_ with ea_; subst ea_)); subst ec_; clear en_)); have GB23 := Aside0.mk gb23; have GG23 := Aside0.mk HG23; clear gb23 gl23 HG23; obtain ⟨ce23, hcl23, hM23, hcc23, hfr23⟩ := Kd.R_elem HO417.out z25 (0 : Int) p23 q23; obtain rfl := k25_openM hM23; have hx23_0 : w30.cell? ⟨go23, (0 : Int).toNat * 2, none⟩ = some (.int .i64 ((rd_T25 t415 0).f0)) := hcc23 0 _ rfl; have hx23_1 : w30.cell? ⟨go23, (0 : Int).toNat * 2 + 1, none⟩ = some (.int .i64 ((rd_T25 t415 0).f1)) := hcc23 1 _ rfl; have hf23_0 : w30.frozen? ⟨go23, (0 : Int).toNat * 2, none⟩ = false := hfr23 0; have hf23_1 : w30.frozen? ⟨go23, (0 : Int).toNat * 2 + 1, none⟩ = false := hfr23 1; clear hcl23 hcc23 hfr23 hM23; (try rw [show ((0 : Int)).toNat = 0 from rfl] at hx23_0); (try simp only [Nat.reduceMul, Nat.zero_mul, Nat.zero_add, Nat.reduceAdd] at hx23_0); (try rw [show ((0 : Int)).toNat = 0 from rfl] at hf23_0); (try simp only [Nat.reduceMul, Nat.zero_mul, Nat.zero_add, Nat.reduceAdd] at hf23_0); (try rw [show ((0 : Int)).toNat = 0 from rfl] at hx23_1); (try simp only [Nat.reduceMul, Nat.zero_mul, Nat.zero_add, Nat.reduceAdd] at hx23_1); (try rw [show ((0 : Int)).toNat = 0 from rfl] at hf23_1); (try simp only [Nat.reduceMul, Nat.zero_mul, Nat.zero_add, Nat.reduceAdd] at hf23_1); replace p23 := eq_true p23; replace q23 := eq_true q23; have n_ := Aside0.mk (Kd.R_mono (ok' := (fun k_ => k_ ≠ gb408 ∧ k_ ≠ gb410)) HO417.out (fun k_ hk => ⟨hk.1.2, hk.2⟩)); clear HO417; have HO417 := n_; clear n_; have HX31 := Aside0.mk (show Kd.R k25 25 w30 w.heap.size (fun k_ => k_ ≠ gb408 ∧ k_ ≠ gb410) (.slice (some ⟨go23, 0, none⟩) t415.length co23) t415 from (rp_ HO417.out)); obtain ⟨ce31, hcl31, hM31, hcc31, hfr31⟩ := Kd.R_elem HX31.out z25 (0 : Int) (by omega) (by have h_ : (0 : Int) < ((t415.length : Int) : Int) := of_decide_eq_true (by with_reducible assumption); first | exact h_ | (have e_ := (Kd.R_reads' HO417.out).1; omega) | simpa using h_); obtain rfl := k25_openM hM31; have HP31 := Kd.R_seg HX31.out (0 : Int) (by omega) (by have h_ : (0 : Int) < ((t415.length : Int) : Int) := of_decide_eq_true (by with_reducible assumption); first | exact h_ | (have e_ := (Kd.R_reads' HO417.out).1; omega) | simpa using h_) (seg := [.int .i64 ((rd_T25 l0 (ji6)).f0), .int .i64 ((rd_T25 l0 (ji6)).f1)]) (j := 0) hcl31 hcc31 (show 2 ≤ 2 from by decide) (x' := (⟨(rd_T25 l0 (ji6)).f0, (rd_T25 l0 (ji6)).f1⟩ : S25)) (k25_mkM _ _ _ (⟨(rd_T25 l0 (ji6)).f0, (rd_T25 l0 (ji6)).f1⟩ : S25) ) (fun _ hk => hk); have hx31_0 := hcc31 0 _ rfl; (try simp only [show (k25).sz = 2 from rfl, Nat.mul_one, Nat.add_zero] at hx31_0); (try rw [show ((0 : Int)).toNat = 0 from rfl] at hx31_0); (try simp only [Nat.reduceMul, Nat.zero_mul, Nat.zero_add, Nat.reduceAdd] at hx31_0); have hf31_0 := hfr31 0; (try simp only [show (k25).sz = 2 from rfl, Nat.mul_one, Nat.add_zero] at hf31_0); (try rw [show ((0 : Int)).toNat = 0 from rfl] at hf31_0); (try simp only [Nat.reduceMul, Nat.zero_mul, Nat.zero_add, Nat.reduceAdd] at hf31_0); have hx31_1 := hcc31 1 _ rfl; (try simp only [show (k25).sz = 2 from rfl, Nat.mul_one, Nat.add_zero] at hx31_1); (try rw [show ((0 : Int)).toNat = 0 from rfl] at hx31_1); (try simp only [Nat.reduceMul, Nat.zero_mul, Nat.zero_add, Nat.reduceAdd] at hx31_1); have hf31_1 := hfr31 1; (try simp only [show (k25).sz = 2 from rfl, Nat.mul_one, Nat.add_zero] at hf31_1); (try rw [show ((0 : Int)).toNat = 0 from rfl] at hf31_1); (try simp only [Nat.reduceMul, Nat.zero_mul, Nat.zero_add, Nat.reduceAdd] at hf31_1); clear hcl31 hcc31 hfr31 hM31) | ((with_reducible refine gate_store (t := 25) (p := 33) rfl ?_); refine store_event (t := 25) (p := 33) (v := ?vo_w32) (w1 := ((w30.setCell ⟨go23, 0, none⟩ (.int .i64 ((rd_T25 l0 (ji6)).f0))).setCell ⟨go23, 1, none⟩ (.int .i64 ((rd_T25 l0 (ji6)).f1)))) ?hg ?ho ?hn ?hr ?_; (case ho => rfl); (case hg => rfl); (case hn => rfl); (case hr => first | (go_simp; done) | (go_simp; rfl)); intro w32 hw; have hg : w30.grownBy w32 (some go23) := (by rw [hw]; exact HP31.2); have hp_ : Kd.R k25 25 w32 w.heap.size (fun k_ => k_ ≠ gb408 ∧ k_ ≠ gb410) (.slice (some ⟨go23, 0, none⟩) t415.length co23) y419 := (by rw [hw, Ny419.out]; exact HP31.1); clear HP31; have n0_ := Aside0.mk (blk_grown (g := gb408) (o := .cells #[.int .i64 0, .int .i64 0] 25 (0, 0)) (pb_ BK408.out) hg (Kd.R_away HO417.out (fun _ hk => hk.1))); have n1_ := Aside0.mk (blk_grown (g := gb410) (o := .cells #[.int .i64 ((rd_T25 l0 0).f0), .int .i64 ((rd_T25 l0 0).f1)] 25 (0, 0)) (pb_ BK410.out) hg (Kd.R_away HO417.out (fun _ hk => hk.2))); have n2_ := Aside0.mk (hp_); have n3_ := Aside0.mk ((by rw [hw]; exact below_set (below_set (HB.out) GB23.out) GB23.out : Below w.heap.size w w32)); clear BK408 BK410 HO417 HB; have BK408 := n0_; have BK410 := n1_; have HO417 := n2_; have HB := n3_; clear n0_ n1_ n2_ n3_; clear hg hw hp_))
      go_loopg [8] k (fun kq v8 w' => ∃ (x7_1 : List (S25)) (x8_1 : Int) (x409000_1 : Int) (x409001_1 : Int) (x411000_1 : Int) (x411001_1 : Int), v8 = .int .i64 x8_1 ∧ Aside0 (impl_HeapTake.l0 kq ji6 x7_1 x8_1 x411000_1 x411001_1 = some (r1, r2, r3, r4)) ∧ Aside0 (kq ≤ k) ∧ Aside0 (Kd.R k25 25 w' w.heap.size (fun k_ => k_ ≠ gb408 ∧ k_ ≠ gb410) (.slice (some ⟨go23, 0, none⟩) t415.length co23) x7_1) ∧ Aside0 (w'.heap[gb408]? = some (.cells #[.int .i64 x409000_1, .int .i64 x409001_1] 25 (0, 0))) ∧ Aside0 (w'.heap[gb410]? = some (.cells #[.int .i64 x411000_1, .int .i64 x411001_1] 25 (0, 0))) ∧ Aside0 (Below w.heap.size w w'))
      case atStart => exact ⟨(y419), (0), (0), (0), ((rd_T25 l0 0).f0), ((rd_T25 l0 0).f1), (by first | rfl | (simp; done) | (simp [*]; done)), H', ⟨Nat.le_refl _⟩, ⟨by (with_reducible repeat (first | apply Kd.R_alloc | apply Kd.R_drewN | apply Kd.R_drew)); exact HO417.out⟩, ⟨by (with_reducible repeat (first | refine kn_ ?_ _ | refine kd_ ?_ | refine ka_ ?_ _)); exact BK408.out⟩, ⟨by (with_reducible repeat (first | refine kn_ ?_ _ | refine kd_ ?_ | refine ka_ ?_ _)); exact BK410.out⟩, ⟨by repeat (first | (with_reducible first | exact HB.out | apply ba_ | apply bn_ | apply bd_ | refine below_set ?_ GE408.out | refine below_set ?_ GE410.out) | exact HB.out)⟩⟩
      case round =>
       clear H'
       try clear c1
       try clear q1
       try clear c2
       try clear c2b0
       try clear c2b1
       try clear c2b2
       try clear p2
       try clear q2
       try clear hx2
       try clear qi2
       try clear hf2
       try clear c3
       try clear hx3
       try clear hf3
       try clear p4
       try clear q4
       try clear hx4
       try clear qi4
       try clear c5
       try clear c5b0
       try clear c5b1
       try clear p6
       try clear c7
       try clear c7b0
       try clear c7b1
       try clear c8
       try clear c8b0
       try clear c8b1
       try clear c10
       try clear c10b0
       try clear c10b1
       try clear c13
       try clear q16
       try clear c21
       try clear c21b0
       try clear c22
       try clear c22b0
       try clear c22b1
       try clear c23
       try clear p23
       try clear q23
       try clear hx23
       try clear qi23
       try clear hf23
       try clear c26
       try clear q29
       try clear c31
       try clear hx31
       try clear hf31
       try clear hcz27_0 hcz27_1 hfz27_0 hfz27_1
       try clear hx23_0
       try clear hx23_1
       try clear hx31_0
       try clear hx31_1
       try clear hx409_0
       try clear hx409_1
       try clear hx418_0
       try clear hx418_1
       try clear p23
       try clear p409
       try clear p418
       try clear q16
       try clear q23
       try clear q29
       try clear q409
       try clear q418
       obtain ⟨x7_1, x8_1, x409000_1, x409001_1, x411000_1, x411001_1, rfl, HA, HK1, HO_7, BK408, BK410, HB⟩ := hrel
       have hl7_1 := (Kd.R_reads' HO_7.out).1
       rw [hl7_1] at HO_7
       (try simp only [hl7_1])
       (try simp only [hl7_1] at BK408)
       (try simp only [hl7_1] at BK410)
       cases gk with
       | zero => exact absurd HA.out (by simp [impl_HeapTake.l0])
       | succ k1 =>
        have H := HA.out
        clear HA
        simp only [impl_HeapTake.l0] at H
        have HC33 := Aside0.mk H
        clear H
        go_upto_region 11 with (fail)
        go_cut [52] (fun v52 wc => ∃ (kq : Nat) (x52_32 : Bool), v52 = .bool x52_32 ∧ Aside0 (impl_HeapTake.j1 kq ji6 x7_1 x8_1 (wrap64 ((wrap64 (2 * x8_1)) + 1)) x52_32 x411000_1 x411001_1 = some (r1, r2, r3, r4)) ∧ Aside0 (kq ≤ k1) ∧ Aside0 (Kd.R k25 25 wc w.heap.size (fun k_ => k_ ≠ gb408 ∧ k_ ≠ gb410) (.slice (some ⟨go23, 0, none⟩) x7_1.length co23) x7_1) ∧ Aside0 (wc.heap[gb408]? = some (.cells #[.int .i64 x409000_1, .int .i64 x409001_1] 25 (0, 0))) ∧ Aside0 (wc.heap[gb410]? = some (.cells #[.int .i64 x411000_1, .int .i64 x411001_1] 25 (0, 0))) ∧ Aside0 (Below w.heap.size w wc))
        case first =>
         have H := HC33.out
         clear HC33
         by_cases c34 : (wrap64 ((wrap64 ((wrap64 (2 * x8_1)) + 1)) + 1)) < ji6
         ·
          rw [if_pos c34] at H
          have c34b0 := decide_eq_true c34
          clear c34
          (first | rw [c34b0] | (simp only [i64_w, i32_w]; rw [c34b0]) | skip)
          obtain ⟨ji35, hji35⟩ : ∃ j_ : Int, (wrap64 ((wrap64 ((wrap64 (2 * x8_1)) + 1)) + 1)) = j_ := ⟨_, rfl⟩
          replace H : (if 0 ≤ (ji35) then (if (ji35) < (x7_1.length : Int) then (if 0 ≤ (wrap64 ((wrap64 (2 * x8_1)) + 1)) then (if (wrap64 ((wrap64 (2 * x8_1)) + 1)) < (x7_1.length : Int) then ((impl_Before.f ((rd_T25 x7_1 (ji35)).f0) ((rd_T25 x7_1 (ji35)).f1) ((rd_T25 x7_1 (wrap64 ((wrap64 (2 * x8_1)) + 1))).f0) ((rd_T25 x7_1 (wrap64 ((wrap64 (2 * x8_1)) + 1))).f1)).bind fun t422 => (impl_HeapTake.j1 k1 ji6 x7_1 x8_1 (wrap64 ((wrap64 (2 * x8_1)) + 1)) t422 x411000_1 x411001_1)) else (none)) else (none)) else (none)) else (none)) = some (r1, r2, r3, r4) := by first | (rw [hji35] at H; exact H) | (simp only [hji35] at H ⊢; exact H)
          (try rw [hji35] at c34b0)
          have hji35w : (IntKind.i64.wrap ((wrap64 ((wrap64 (2 * x8_1)) + 1)) + 1)) = ji35 := (i64_w _).trans hji35
          by_cases c36 : 0 ≤ (ji35)
          ·
           rw [if_pos c36] at H
           have c36b0 := decide_eq_true c36
           clear c36
           by_cases c37 : (ji35) < (x7_1.length : Int)
           ·
            rw [if_pos c37] at H
            have c37b0 := decide_eq_true c37
            clear c37
            obtain ⟨ji38, hji38⟩ : ∃ j_ : Int, (wrap64 ((wrap64 (2 * x8_1)) + 1)) = j_ := ⟨_, rfl⟩
            replace H : (if 0 ≤ (ji38) then (if (ji38) < (x7_1.length : Int) then ((impl_Before.f ((rd_T25 x7_1 (ji35)).f0) ((rd_T25 x7_1 (ji35)).f1) ((rd_T25 x7_1 (ji38)).f0) ((rd_T25 x7_1 (ji38)).f1)).bind fun t422 => (impl_HeapTake.j1 k1 ji6 x7_1 x8_1 ji38 t422 x411000_1 x411001_1)) else (none)) else (none)) = some (r1, r2, r3, r4) := by first | (rw [hji38] at H; exact H) | (simp only [hji38] at H ⊢; exact H)
            (try rw [hji38] at c34b0)
            have hji38w : (IntKind.i64.wrap ((wrap64 (2 * x8_1)) + 1)) = ji38 := (i64_w _).trans hji38
            (try rw [hji38] at hji35)
            (try rw [hji38] at hji35w)
            by_cases c39 : 0 ≤ (ji38)
            ·
             rw [if_pos c39] at H
             have c39b0 := decide_eq_true c39
             clear c39
             by_cases c40 : (ji38) < (x7_1.length : Int)
             ·
              rw [if_pos c40] at H
              have c40b0 := decide_eq_true c40
              clear c40
              replace H := Option.bind_eq_some_iff.mp H
              obtain ⟨t422, A410, H⟩ := H
              have A41 := Aside0.mk A410
              clear A410
              have H' := Aside0.mk H
              clear H
              try go_wp2
              have n0_ := Aside0.mk (Kd.R_drew HO_7.out)
              have n1_ := Aside0.mk (blk_drew BK408.out)
              have n2_ := Aside0.mk (blk_drew BK410.out)
              have n3_ := Aside0.mk (bd_ HB.out)
              clear HO_7 BK408 BK410 HB
              have HO_7 := n0_
              have BK408 := n1_
              have BK410 := n2_
              have HB := n3_
              clear n0_ n1_ n2_ n3_
              have p420 : 0 ≤ ((ji35) : Int) := of_decide_eq_true (by with_reducible assumption)
              have q420 : (ji35) < (x7_1.length : Int) := of_decide_eq_true (by with_reducible assumption)
              obtain ⟨ad420, e420, hx420_0, hx420_1⟩ := at_T25 (Kd.R_reads' HO_7.out).2.2 (ji35) p420 q420
              obtain rfl : (⟨go23, 0, none⟩ : Addr) = ad420 := (by injection e420)
              (first | simp only [add_plain] at hx420_0 | simp only [add_at] at hx420_0 | simp only [Addr.add, Nat.zero_add] at hx420_0 | skip)
              (first | simp only [add_plain] at hx420_1 | simp only [add_at] at hx420_1 | simp only [Addr.add, Nat.zero_add] at hx420_1 | skip)
              replace p420 := eq_true p420
              replace q420 := eq_true q420
              have p421 : 0 ≤ ((ji38) : Int) := of_decide_eq_true (by with_reducible assumption)
              have q421 : (ji38) < (x7_1.length : Int) := of_decide_eq_true (by with_reducible assumption)
              obtain ⟨ad421, e421, hx421_0, hx421_1⟩ := at_T25 (Kd.R_reads' HO_7.out).2.2 (ji38) p421 q421
              obtain rfl : (⟨go23, 0, none⟩ : Addr) = ad421 := (by injection e421)
              (first | simp only [add_plain] at hx421_0 | simp only [add_at] at hx421_0 | simp only [Addr.add, Nat.zero_add] at hx421_0 | skip)
              (first | simp only [add_plain] at hx421_1 | simp only [add_at] at hx421_1 | simp only [Addr.add, Nat.zero_add] at hx421_1 | skip)
              replace p421 := eq_true p421
              replace q421 := eq_true q421
              refine start_ (n := 16) (S := fun w' => w'.cell? ⟨go23, ((ji35)).toNat * 2, none⟩ = some (.int .i64 ((rd_T25 x7_1 (ji35)).f0)) ∧ w'.cell? ⟨go23, ((ji35)).toNat * 2 + 1, none⟩ = some (.int .i64 ((rd_T25 x7_1 (ji35)).f1)) ∧ w'.cell? ⟨go23, ((ji38)).toNat * 2, none⟩ = some (.int .i64 ((rd_T25 x7_1 (ji38)).f0)) ∧ w'.cell? ⟨go23, ((ji38)).toNat * 2 + 1, none⟩ = some (.int .i64 ((rd_T25 x7_1 (ji38)).f1))) (ds := []) #[f_,f_,f_,f_,f_,f_,f_,f_,f_,f_,f_,f_,f_,f_,f_,f_] (by kernel_rfl) rfl rfl ⟨hx420_0, hx420_1, hx421_0, hx421_1⟩ (fun hHeld => ?_); refine with_tabW impl_HeapTake.tab11 impl_HeapTake.bits11 (fun HT_ HW_ => ?_)
              generalize wr.drew = w42 at HO_7 BK408 BK410 HB hx420_0 hx420_1 hx421_0 hx421_1 hHeld ⊢
              refine pu_ 0 37 ?_ (b_ 1 15) rfl rfl HT_.out ?_ ?_ ?_ ?_; rotate_left; intro w'; go_simp; with_reducible rfl; rotate_left; simp only [fr_]; rfl
              refine pu_ 1 38 ?_ (b_ 2 14) rfl rfl HT_.out ?_ ?_ ?_ ?_; rotate_left; intro w'; go_simp; with_reducible rfl; rotate_left; simp only [fr_]; rfl
              refine pu_ 2 39 ?_ (b_ 3 13) rfl rfl HT_.out ?_ ?_ ?_ ?_; rotate_left; intro w'; go_simp; with_reducible rfl; rotate_left; simp only [fr_]; rfl
              refine pu_ 3 40 ?_ (b_ 4 12) rfl rfl HT_.out ?_ ?_ ?_ ?_; rotate_left; intro w'; go_simp; with_reducible rfl; rotate_left; simp only [fr_]; rfl
              refine pu_ 4 41 ?_ (b_ 5 11) rfl rfl HT_.out ?_ ?_ ?_ ?_; rotate_left; intro w'; go_simp; with_reducible rfl; rotate_left; simp only [fr_]; rfl
              refine pu_ 5 42 ?_ (b_ 6 10) rfl rfl HT_.out ?_ ?_ ?_ ?_; rotate_left; intro w'; go_simp; with_reducible rfl; rotate_left; simp only [fr_]; rfl
              refine pu_ 6 43 ?_ (b_ 7 9) rfl rfl HT_.out ?_ ?_ ?_ ?_; rotate_left; intro w'; go_simp; with_reducible rfl; rotate_left; simp only [fr_]; rfl
              refine pu_ 7 44 ?_ (b_ 8 8) rfl rfl HT_.out ?_ ?_ ?_ ?_; rotate_left; intro w'; go_simp; with_reducible rfl; rotate_left; simp only [fr_]; rfl
              refine pu_ 8 45 ?_ (b_ 9 7) rfl rfl HT_.out ?_ ?_ ?_ ?_; rotate_left; intro w'; go_simp; with_reducible rfl; rotate_left; simp only [fr_]; rfl
              refine pu_ 10 47 ?_ #[t_,t_,t_,t_,t_,t_,t_,t_,t_,f_,t_,f_,f_,f_,f_,f_] rfl rfl HT_.out ?_ ?_ ?_ ?_; rotate_left; intro w'; go_simp; with_reducible rfl; rotate_left; simp only [fr_]; rfl
              refine pu_ 11 48 ?_ #[t_,t_,t_,t_,t_,t_,t_,t_,t_,f_,t_,t_,f_,f_,f_,f_] rfl rfl HT_.out ?_ ?_ ?_ ?_; rotate_left; intro w'; go_simp; with_reducible rfl; rotate_left; simp only [fr_]; rfl
              refine pu_ 12 49 ?_ #[t_,t_,t_,t_,t_,t_,t_,t_,t_,f_,t_,t_,t_,f_,f_,f_] rfl rfl HT_.out ?_ ?_ ?_ ?_; rotate_left; intro w'; go_simp; with_reducible rfl; rotate_left; simp only [fr_]; rfl
              refine take_ (i := 9) (N := some 46) (v := ?_) (a' := ?_) #[t_,t_,t_,t_,t_,t_,t_,t_,t_,t_,t_,t_,t_,f_,f_,f_] rfl rfl (take_ofW HT_.out HW_.out (by kernel_rfl)) (fun _ _ _ h => h) (Or.inl ⟨by rfl, ?_⟩) hHeld ?_ ?_
              rotate_left
              ·
               rintro w' ⟨s0, s1, s2, s3⟩
               go_simp
               with_reducible rfl
              rotate_left
              ·
               simp only [fr_]
               rfl
              refine take_ (i := 13) (N := some 50) (v := ?_) (a' := ?_) #[t_,t_,t_,t_,t_,t_,t_,t_,t_,t_,t_,t_,t_,t_,f_,f_] rfl rfl (take_ofW HT_.out HW_.out (by kernel_rfl)) (fun _ _ _ h => h) (Or.inl ⟨by rfl, ?_⟩) hHeld ?_ ?_
              rotate_left
              ·
               rintro w' ⟨s0, s1, s2, s3⟩
               go_simp
               with_reducible rfl
              rotate_left
              ·
               simp only [fr_]
               rfl
              refine one_ (i := 14) (N := some 51) #[t_,t_,t_,t_,t_,t_,t_,t_,t_,t_,t_,t_,t_,t_,t_,f_] rfl rfl (one_of HT_.out (by kernel_rfl)) (by decide) (fun K hK => ?_)
              refine goes_ Try.func16 (by kernel_rfl) rfl #[.agg #[.int .i64 ((rd_T25 x7_1 (ji35)).f0), .int .i64 ((rd_T25 x7_1 (ji35)).f1)], .agg #[.int .i64 ((rd_T25 x7_1 (ji38)).f0), .int .i64 ((rd_T25 x7_1 (ji38)).f1)]] (by rfl) rfl rfl (by (try simp only [mp_]); first | done | (simp only [hji35, hji38]; rfl) | rfl | (simp only [List.length_drop, List.length_take]; rfl)) ?_
              with_reducible refine (impl_Before.calls ((rd_T25 x7_1 (ji35)).f0) ((rd_T25 x7_1 (ji35)).f1) ((rd_T25 x7_1 (ji38)).f0) ((rd_T25 x7_1 (ji38)).f1) t422 _ A41.out).mono ?_
              rintro e w43 ⟨rfl, hb⟩
              have HS0_ := (hb.cell (World.block_lt_of_cell? _ _ (hHeld.1))).trans (hHeld.1)
              have HS1_ := (hb.cell (World.block_lt_of_cell? _ _ (hHeld.2.1))).trans (hHeld.2.1)
              have HS2_ := (hb.cell (World.block_lt_of_cell? _ _ (hHeld.2.2.1))).trans (hHeld.2.2.1)
              have HS3_ := (hb.cell (World.block_lt_of_cell? _ _ (hHeld.2.2.2))).trans (hHeld.2.2.2)
              refine ⟨_, rfl, ?_⟩
              have n0_ := Aside0.mk (Kd.R_below (rp_ HO_7.out) hb)
              have n1_ := Aside0.mk (bb_ BK408.out hb)
              have n2_ := Aside0.mk (bb_ BK410.out hb)
              have n3_ := Aside0.mk (below_step (by repeat (first | (with_reducible first | exact HB.out | apply ba_ | apply bn_ | apply bd_ | refine below_set ?_ GE408.out | refine below_set ?_ GE410.out) | exact HB.out)) hb)
              clear HO_7 BK408 BK410 HB
              have HO_7 := n0_
              have BK408 := n1_
              have BK410 := n2_
              have HB := n3_
              clear n0_ n1_ n2_ n3_
              (try clear hb)
              (try clear hb2)
              (try clear hk)
              (try clear hi)
              refine hK.out _ _ ⟨HS0_, HS1_, HS2_, HS3_⟩ (fun hHeld => ?_)
              clear hK K
              refine norm_ (a' := ?_) ?_ ?_
              rotate_left
              ·
               show Act.put _ (some 51) _ = _
               simp only [fr_]
               rfl
              refine pu_ 15 52 ?_ (b_ 16 0) rfl rfl HT_.out ?_ ?_ ?_ ?_; rotate_left; intro w'; go_simp; with_reducible rfl; rotate_left; simp only [fr_]; rfl
              refine done_ (done_of HT_.out (by kernel_rfl)) ?_
              try go_wp2
              (try subst hji38)
              (try subst hji35)
              go_meet
              case rel => exact ⟨_, (t422), (by first | rfl | (simp; done) | (simp [*]; done)), H', ⟨by have := HK1.out; first | omega | exact Nat.le_refl _⟩, ⟨by (try simp only [hl7_1]); (with_reducible repeat (first | apply Kd.R_alloc | apply Kd.R_drewN | apply Kd.R_drew)); exact HO_7.out⟩, ⟨by (try simp only [hl7_1]); (with_reducible repeat (first | refine kn_ ?_ _ | refine kd_ ?_ | refine ka_ ?_ _)); exact BK408.out⟩, ⟨by (try simp only [hl7_1]); (with_reducible repeat (first | refine kn_ ?_ _ | refine kd_ ?_ | refine ka_ ?_ _)); exact BK410.out⟩, ⟨by repeat (first | (with_reducible first | exact HB.out | apply ba_ | apply bn_ | apply bd_ | refine below_set ?_ GE408.out | refine below_set ?_ GE410.out) | exact HB.out)⟩⟩
             rw [if_neg c40] at H
             exact absurd H (by simp)
            rw [if_neg c39] at H
            exact absurd H (by simp)
           rw [if_neg c37] at H
           exact absurd H (by simp)
          rw [if_neg c36] at H
          exact absurd H (by simp)
         rw [if_neg c34] at H
         have c34b0 : decide ((wrap64 ((wrap64 ((wrap64 (2 * x8_1)) + 1)) + 1)) < ji6) = false := decide_eq_false c34
         clear c34
         (first | rw [c34b0] | (simp only [i64_w, i32_w]; rw [c34b0]) | skip)
         have H' := Aside0.mk H
         clear H
         try go_wp2
         have n0_ := Aside0.mk (Kd.R_drew HO_7.out)
         have n1_ := Aside0.mk (blk_drew BK408.out)
         have n2_ := Aside0.mk (blk_drew BK410.out)
         have n3_ := Aside0.mk (bd_ HB.out)
         clear HO_7 BK408 BK410 HB
         have HO_7 := n0_
         have BK408 := n1_
         have BK410 := n2_
         have HB := n3_
         clear n0_ n1_ n2_ n3_
         refine start_ (n := 16) (S := fun w' => True) (ds := []) #[f_,f_,f_,f_,f_,f_,f_,f_,f_,f_,f_,f_,f_,f_,f_,f_] (by kernel_rfl) rfl rfl trivial (fun hHeld => ?_); refine with_tabW impl_HeapTake.tab11 impl_HeapTake.bits11 (fun HT_ HW_ => ?_)
         generalize wr.drew = w44 at HO_7 BK408 BK410 HB hHeld ⊢
         refine pu_ 0 37 ?_ (b_ 1 15) rfl rfl HT_.out ?_ ?_ ?_ ?_; rotate_left; intro w'; go_simp; with_reducible rfl; rotate_left; simp only [fr_]; rfl
         refine pu_ 1 38 ?_ (b_ 2 14) rfl rfl HT_.out ?_ ?_ ?_ ?_; rotate_left; intro w'; go_simp; with_reducible rfl; rotate_left; simp only [fr_]; rfl
         refine pu_ 2 39 ?_ (b_ 3 13) rfl rfl HT_.out ?_ ?_ ?_ ?_; rotate_left; intro w'; go_simp; with_reducible rfl; rotate_left; simp only [fr_]; rfl
         refine pu_ 3 40 ?_ (b_ 4 12) rfl rfl HT_.out ?_ ?_ ?_ ?_; rotate_left; intro w'; go_simp; with_reducible rfl; rotate_left; simp only [fr_]; rfl
         refine pu_ 4 41 ?_ (b_ 5 11) rfl rfl HT_.out ?_ ?_ ?_ ?_; rotate_left; intro w'; go_simp; with_reducible rfl; rotate_left; simp only [fr_]; rfl
         refine pv_ 5 42 ?_ (b_ 6 10) rfl rfl HT_.out ?_ ?_; rotate_left; simp only [fr_]; rfl
         refine pv_ 6 43 ?_ (b_ 7 9) rfl rfl HT_.out ?_ ?_; rotate_left; simp only [fr_]; rfl
         refine pv_ 7 44 ?_ (b_ 8 8) rfl rfl HT_.out ?_ ?_; rotate_left; simp only [fr_]; rfl
         refine pv_ 8 45 ?_ (b_ 9 7) rfl rfl HT_.out ?_ ?_; rotate_left; simp only [fr_]; rfl
         refine pv_ 9 46 ?_ (b_ 10 6) rfl rfl HT_.out ?_ ?_; rotate_left; simp only [fr_]; rfl
         refine pv_ 10 47 ?_ (b_ 11 5) rfl rfl HT_.out ?_ ?_; rotate_left; simp only [fr_]; rfl
         refine pv_ 11 48 ?_ (b_ 12 4) rfl rfl HT_.out ?_ ?_; rotate_left; simp only [fr_]; rfl
         refine pv_ 12 49 ?_ (b_ 13 3) rfl rfl HT_.out ?_ ?_; rotate_left; simp only [fr_]; rfl
         refine pv_ 13 50 ?_ (b_ 14 2) rfl rfl HT_.out ?_ ?_; rotate_left; simp only [fr_]; rfl
         refine pv_ 14 51 ?_ (b_ 15 1) rfl rfl HT_.out ?_ ?_; rotate_left; simp only [fr_]; rfl
         refine pu_ 15 52 ?_ (b_ 16 0) rfl rfl HT_.out ?_ ?_ ?_ ?_; rotate_left; intro w'; go_simp; with_reducible rfl; rotate_left; simp only [fr_]; rfl
         refine done_ (done_of HT_.out (by kernel_rfl)) ?_
         try go_wp2
         (try subst hji35)
         go_meet
         case rel => exact ⟨_, (false), (by first | rfl | (simp; done) | (simp [*]; done)), H', ⟨by have := HK1.out; first | omega | exact Nat.le_refl _⟩, ⟨by (try simp only [hl7_1]); (with_reducible repeat (first | apply Kd.R_alloc | apply Kd.R_drewN | apply Kd.R_drew)); exact HO_7.out⟩, ⟨by (try simp only [hl7_1]); (with_reducible repeat (first | refine kn_ ?_ _ | refine kd_ ?_ | refine ka_ ?_ _)); exact BK408.out⟩, ⟨by (try simp only [hl7_1]); (with_reducible repeat (first | refine kn_ ?_ _ | refine kd_ ?_ | refine ka_ ?_ _)); exact BK410.out⟩, ⟨by repeat (first | (with_reducible first | exact HB.out | apply ba_ | apply bn_ | apply bd_ | refine below_set ?_ GE408.out | refine below_set ?_ GE410.out) | exact HB.out)⟩⟩
        case rest =>
         clear HC33
         try clear c1
         try clear q1
         try clear c2
         try clear c2b0
         try clear c2b1
         try clear c2b2
         try clear p2
         try clear q2
         try clear hx2
         try clear qi2
         try clear hf2
         try clear c3
         try clear hx3
         try clear hf3
         try clear c4
         try clear p4
         try clear q4
         try clear hx4
         try clear qi4
         try clear c5
         try clear c5b0
         try clear c5b1
         try clear p6
         try clear c7
         try clear c7b0
         try clear c7b1
         try clear c8
         try clear c8b0
         try clear c8b1
         try clear c10
         try clear c10b0
         try clear c10b1
         try clear c13
         try clear c16
         try clear q16
         try clear c21
         try clear c21b0
         try clear c22
         try clear c22b0
         try clear c22b1
         try clear c23
         try clear p23
         try clear q23
         try clear hx23
         try clear qi23
         try clear hf23
         try clear c26
         try clear q29
         try clear c31
         try clear hx31
         try clear hf31
         try clear c34
         try clear c34b0
         try clear c36
         try clear c36b0
         try clear c37
         try clear c37b0
         try clear c39
         try clear c39b0
         try clear c40
         try clear c40b0
         try clear p40
         try clear q40
         try clear hx40
         try clear qi40
         try clear p41
         try clear q41
         try clear hx41
         try clear p42
         try clear q42
         try clear hx42
         try clear hx23_0
         try clear hx23_1
         try clear hx31_0
         try clear hx31_1
         try clear hx409_0
         try clear hx409_1
         try clear hx418_0
         try clear hx418_1
         try clear hx420_0
         try clear hx420_1
         try clear hx421_0
         try clear hx421_1
         try clear p2
         try clear p23
         try clear p4
         try clear p409
         try clear p418
         try clear p420
         try clear p421
         try clear p6
         try clear q1
         try clear q16
         try clear q2
         try clear q23
         try clear q29
         try clear q4
         try clear q409
         try clear q418
         try clear q420
         try clear q421
         obtain ⟨kq, x52_32, rfl, HA, HJ32, HO_7, BK408, BK410, HB⟩ := hcut
         cases kq with
         | zero => exact absurd HA.out (by simp [impl_HeapTake.j1])
         | succ kj32 =>
          have H := HA.out
          clear HA
          simp only [impl_HeapTake.j1] at H
          by_cases c45 : x52_32 = true
          ·
           subst c45
           rw [if_pos rfl] at H
           by_cases c46 : (wrap64 ((wrap64 ((wrap64 (2 * x8_1)) + 1)) + 1)) ≥ ji6
           ·
            rw [if_pos c46] at H
            have c46b0 : decide (ji6 ≤ (wrap64 ((wrap64 ((wrap64 (2 * x8_1)) + 1)) + 1))) = true := decide_eq_true c46
            clear c46
            simp only [Option.some.injEq, Prod.mk.injEq] at H
            obtain ⟨rfl, rfl, rfl, rfl⟩ := H
            try go_wp2
            have n0_ := Aside0.mk (Kd.R_drew HO_7.out)
            have n1_ := Aside0.mk (blk_drew BK408.out)
            have n2_ := Aside0.mk (blk_drew BK410.out)
            have n3_ := Aside0.mk (bd_ HB.out)
            clear HO_7 BK408 BK410 HB
            have HO_7 := n0_
            have BK408 := n1_
            have BK410 := n2_
            have HB := n3_
            clear n0_ n1_ n2_ n3_
            refine start_ (n := 15) (S := fun w' => True) (ds := []) #[f_,f_,f_,f_,f_,f_,f_,f_,f_,f_,f_,f_,f_,f_,f_] (by kernel_rfl) rfl rfl trivial (fun hHeld => ?_); refine with_tabW impl_HeapTake.tab13 impl_HeapTake.bits13 (fun HT_ HW_ => ?_)
            generalize wc.drew = w47 at HO_7 BK408 BK410 HB hHeld ⊢
            refine pu_ 0 55 ?_ (b_ 1 14) rfl rfl HT_.out ?_ ?_ ?_ ?_; rotate_left; intro w'; go_simp; with_reducible rfl; rotate_left; simp only [fr_]; rfl
            refine pu_ 1 56 ?_ (b_ 2 13) rfl rfl HT_.out ?_ ?_ ?_ ?_; rotate_left; intro w'; go_simp; with_reducible rfl; rotate_left; simp only [fr_]; rfl
            refine pu_ 2 57 ?_ (b_ 3 12) rfl rfl HT_.out ?_ ?_ ?_ ?_; rotate_left; intro w'; go_simp; with_reducible rfl; rotate_left; simp only [fr_]; rfl
            refine pu_ 3 58 ?_ (b_ 4 11) rfl rfl HT_.out ?_ ?_ ?_ ?_; rotate_left; intro w'; go_simp; with_reducible rfl; rotate_left; simp only [fr_]; rfl
            refine pv_ 4 59 ?_ (b_ 5 10) rfl rfl HT_.out ?_ ?_; rotate_left; simp only [fr_]; rfl
            refine pv_ 5 60 ?_ (b_ 6 9) rfl rfl HT_.out ?_ ?_; rotate_left; simp only [fr_]; rfl
            refine pv_ 6 61 ?_ (b_ 7 8) rfl rfl HT_.out ?_ ?_; rotate_left; simp only [fr_]; rfl
            refine pv_ 7 62 ?_ (b_ 8 7) rfl rfl HT_.out ?_ ?_; rotate_left; simp only [fr_]; rfl
            refine pv_ 8 63 ?_ (b_ 9 6) rfl rfl HT_.out ?_ ?_; rotate_left; simp only [fr_]; rfl
            refine pv_ 9 64 ?_ (b_ 10 5) rfl rfl HT_.out ?_ ?_; rotate_left; simp only [fr_]; rfl
            refine pv_ 10 65 ?_ (b_ 11 4) rfl rfl HT_.out ?_ ?_; rotate_left; simp only [fr_]; rfl
            refine pv_ 11 66 ?_ (b_ 12 3) rfl rfl HT_.out ?_ ?_; rotate_left; simp only [fr_]; rfl
            refine pv_ 12 67 ?_ (b_ 13 2) rfl rfl HT_.out ?_ ?_; rotate_left; simp only [fr_]; rfl
            refine pv_ 13 68 ?_ (b_ 14 1) rfl rfl HT_.out ?_ ?_; rotate_left; simp only [fr_]; rfl
            refine pu_ 14 69 ?_ (b_ 15 0) rfl rfl HT_.out ?_ ?_ ?_ ?_; rotate_left; intro w'; go_simp; with_reducible rfl; rotate_left; simp only [fr_]; rfl
            refine done_ (done_of HT_.out (by kernel_rfl)) ?_
            try go_wp2
            have n0_ := Aside0.mk (Kd.R_drew HO_7.out)
            have n1_ := Aside0.mk (blk_drew BK408.out)
            have n2_ := Aside0.mk (blk_drew BK410.out)
            have n3_ := Aside0.mk (bd_ HB.out)
            clear HO_7 BK408 BK410 HB
            have HO_7 := n0_
            have BK408 := n1_
            have BK410 := n2_
            have HB := n3_
            clear n0_ n1_ n2_ n3_
            refine start_ (n := 5) (S := fun w' => w'.cell? ⟨gb410, 0, none⟩ = some (.int .i64 x411000_1) ∧ w'.cell? ⟨gb410, 1, none⟩ = some (.int .i64 x411001_1)) (ds := []) #[f_,f_,f_,f_,f_] (by kernel_rfl) rfl rfl ⟨bx_ BK410.out 0, bx_ BK410.out 1⟩ (fun hHeld => ?_)
            generalize w47.drew = w48 at HO_7 BK408 BK410 HB hHeld ⊢
            refine pure_ (i := 0) (N := some 70) (v := ?_) (a' := ?_) #[t_,f_,f_,f_,f_] rfl rfl (by kernel_rfl) (fun _ _ _ h => h) (Or.inl ⟨by rfl, ?_⟩) ?_ ?_
            rotate_left
            ·
             intro w'
             go_simp
             with_reducible rfl
            rotate_left
            ·
             simp only [fr_]
             rfl
            refine pure_ (i := 2) (N := some 2) (v := ?_) (a' := ?_) #[t_,f_,t_,f_,f_] rfl rfl (by kernel_rfl) (fun _ _ _ h => h) (Or.inl ⟨by rfl, ?_⟩) ?_ ?_
            rotate_left
            ·
             intro w'
             go_simp
             with_reducible rfl
            rotate_left
            ·
             simp only [fr_]
             rfl
            refine take_ (i := 1) (N := some 71) (v := ?_) (a' := ?_) #[t_,t_,t_,f_,f_] rfl rfl (by kernel_rfl) (fun _ _ _ h => h) (Or.inl ⟨by rfl, ?_⟩) hHeld ?_ ?_
            rotate_left
            ·
             rintro w' ⟨s0, s1⟩
             go_simp
             with_reducible rfl
            rotate_left
            ·
             simp only [fr_]
             rfl
            refine one_ (i := 3) (N := none) #[t_,t_,t_,t_,f_] rfl rfl (by kernel_rfl) (by decide) (fun K hK => ?_)
            have hs49 : w48.cell? ⟨gb408, 0, none⟩ = some (.int .i64 x409000_1) := bx_ BK408.out 0
            have hfs49 := blk_frozen BK408.out 0
            have hns49_1 := NB410_408.out
            have hms49_1 := NB408_410.out
            have hs50 : w48.cell? ⟨gb408, 1, none⟩ = some (.int .i64 x409001_1) := bx_ BK408.out 1
            have hfs50 := blk_frozen BK408.out 1
            have hns50_1 := NB410_408.out
            have hms50_1 := NB408_410.out
            refine skip_ (w1 := ?_) (by rfl) rfl ?_ ?_
            rotate_left
            ·
             go_simp
             rfl
            refine hK.out _ _ ⟨((cell_far (p := ⟨gb408, _, none⟩) NB410_408.out _).trans (((cell_far (p := ⟨gb408, _, none⟩) NB410_408.out _).trans (hHeld.1)))), ((cell_far (p := ⟨gb408, _, none⟩) NB410_408.out _).trans (((cell_far (p := ⟨gb408, _, none⟩) NB410_408.out _).trans (hHeld.2))))⟩ (fun hHeld => ?_)
            clear hK K
            refine pure_ (i := 4) (N := some 4) (v := ?_) (a' := ?_) #[t_,t_,t_,t_,t_] rfl rfl (by kernel_rfl) (fun _ _ _ h => h) (Or.inl ⟨by rfl, ?_⟩) ?_ ?_
            rotate_left
            ·
             intro w'
             go_simp
             with_reducible rfl
            rotate_left
            ·
             simp only [fr_]
             rfl
            refine done_ (by kernel_rfl) ?_
            try go_wp2
            refine bodyPost_ret (results_list (rs := [.tmp 2, .cell 3 25, .tmp 4]) rfl (by simp) (.tmp (.cell gb408 25 #[.int .i64 x411000_1, .int .i64 x411001_1] (0, 0) _ rfl (by (with_reducible repeat (first | refine kn_ ?_ _ | refine kd_ ?_ | refine ka_ ?_ _)); refine blk_put (cs := #[.int .i64 x411000_1, .int .i64 x409001_1]) ?_ 1 _ rfl; (with_reducible repeat (first | refine kn_ ?_ _ | refine kd_ ?_ | refine ka_ ?_ _)); refine blk_put (cs := #[.int .i64 x409000_1, .int .i64 x409001_1]) ?_ 0 _ rfl; (with_reducible repeat (first | refine kn_ ?_ _ | refine kd_ ?_ | refine ka_ ?_ _)); exact BK408.out) Try.underlying25 rfl (by kernel_rfl) (.tmp .nil)))) rfl ?_
            exact ⟨_, by first | rfl | (simp [errW_none, errW_some] <;> rfl) | (simp only [← hji6]; first | rfl | (simp [errW_none, errW_some] <;> rfl)) | (simp [*, errW_none, errW_some] <;> rfl), by (with_reducible repeat (first | apply Kd.R_alloc | apply Kd.R_drewN | apply Kd.R_drew)); exact Kd.R_mono (Kd.R_far (p := ⟨gb408, 1, none⟩) (Kd.R_far (p := ⟨gb408, 0, none⟩) (Kd.R_mono HO_7.out (fun k_ hk => (⟨hk, hk.1⟩ : _ ∧ k_ ≠ gb408))) (fun _ hk => hk.2) (.int .i64 x411000_1)) (fun _ hk => hk.2) (.int .i64 x411001_1)) (fun _ hk => trivial), by repeat (first | (with_reducible first | exact HB.out | apply ba_ | apply bn_ | apply bd_ | refine below_set ?_ GE408.out | refine below_set ?_ GE410.out) | exact HB.out)⟩
           rw [if_neg c46] at H
           have c46b0 : decide (ji6 ≤ (wrap64 ((wrap64 ((wrap64 (2 * x8_1)) + 1)) + 1))) = false := decide_eq_false c46
           clear c46
           obtain ⟨ji51, hji51⟩ : ∃ j_ : Int, (wrap64 ((wrap64 ((wrap64 (2 * x8_1)) + 1)) + 1)) = j_ := ⟨_, rfl⟩
           replace H : (if 0 ≤ (ji51) then (if (ji51) < (x7_1.length : Int) then (if 0 ≤ x8_1 then (if x8_1 < (x7_1.length : Int) then ((impl_Before.f ((rd_T25 x7_1 (ji51)).f0) ((rd_T25 x7_1 (ji51)).f1) ((rd_T25 x7_1 x8_1).f0) ((rd_T25 x7_1 x8_1).f1)).bind fun t425 => (if t425 = true then (impl_HeapTake.l0 kj32 ji6 ((x7_1.set (x8_1 : Int).toNat (⟨(rd_T25 x7_1 (ji51)).f0, (rd_T25 x7_1 (ji51)).f1⟩ : S25)).set ((ji51) : Int).toNat (⟨(rd_T25 x7_1 x8_1).f0, (rd_T25 x7_1 x8_1).f1⟩ : S25)) ji51 x411000_1 x411001_1) else (some (x7_1, x411000_1, x411001_1, true)))) else (none)) else (none)) else (none)) else (none)) = some (r1, r2, r3, r4) := by first | (rw [hji51] at H; exact H) | (simp only [hji51] at H ⊢; exact H)
           (try rw [hji51] at c46b0)
           have hji51w : (IntKind.i64.wrap ((wrap64 ((wrap64 (2 * x8_1)) + 1)) + 1)) = ji51 := (i64_w _).trans hji51
           (try rw [hji51] at hji35)
           (try rw [hji51] at hji35w)
           by_cases c52 : 0 ≤ (ji51)
           ·
            rw [if_pos c52] at H
            have c52b0 := decide_eq_true c52
            clear c52
            by_cases c53 : (ji51) < (x7_1.length : Int)
            ·
             rw [if_pos c53] at H
             have c53b0 := decide_eq_true c53
             clear c53
             by_cases c54 : 0 ≤ x8_1
             ·
              rw [if_pos c54] at H
              have c54b0 := decide_eq_true c54
              clear c54
              by_cases c55 : x8_1 < (x7_1.length : Int)
              ·
               rw [if_pos c55] at H
               have c55b0 := decide_eq_true c55
               clear c55
               replace H := Option.bind_eq_some_iff.mp H
               obtain ⟨t425, A560, H⟩ := H
               have A56 := Aside0.mk A560
               clear A560
               by_cases c57 : t425 = true
               ·
                subst c57
                rw [if_pos rfl] at H
                obtain ⟨y428, hy428⟩ : ∃ y_ : List (S25), y_ = (x7_1.set (x8_1 : Int).toNat (⟨(rd_T25 x7_1 (ji51)).f0, (rd_T25 x7_1 (ji51)).f1⟩ : S25)) := ⟨_, rfl⟩
                replace H : (impl_HeapTake.l0 kj32 ji6 (y428.set ((ji51) : Int).toNat (⟨(rd_T25 x7_1 x8_1).f0, (rd_T25 x7_1 x8_1).f1⟩ : S25)) ji51 x411000_1 x411001_1) = some (r1, r2, r3, r4) := by first | (rw [hy428]; with_reducible exact H) | (have H2_ := (Option.bind_some _ _).symm.trans H; rw [hy428]; with_reducible exact H2_) | (have H2_ := (Option.bind_some _ _).symm.trans H; with_reducible exact H2_) | with_reducible exact H | (rw [hy428]; exact H) | exact H
                have Ny428 := Aside0.mk hy428
                clear hy428
                obtain ⟨y429, hy429⟩ : ∃ y_ : List (S25), y_ = (y428.set ((ji51) : Int).toNat (⟨(rd_T25 x7_1 x8_1).f0, (rd_T25 x7_1 x8_1).f1⟩ : S25)) := ⟨_, rfl⟩
                replace H : (impl_HeapTake.l0 kj32 ji6 y429 ji51 x411000_1 x411001_1) = some (r1, r2, r3, r4) := by first | (rw [hy429]; with_reducible exact H) | (have H2_ := (Option.bind_some _ _).symm.trans H; rw [hy429]; with_reducible exact H2_) | (have H2_ := (Option.bind_some _ _).symm.trans H; with_reducible exact H2_) | with_reducible exact H | (rw [hy429]; exact H) | exact H
                have Ny429 := Aside0.mk hy429
                clear hy429
                have H' := Aside0.mk H
                clear H
                try go_wp2
                have n0_ := Aside0.mk (Kd.R_drew HO_7.out)
                have n1_ := Aside0.mk (blk_drew BK408.out)
                have n2_ := Aside0.mk (blk_drew BK410.out)
                have n3_ := Aside0.mk (bd_ HB.out)
                clear HO_7 BK408 BK410 HB
                have HO_7 := n0_
                have BK408 := n1_
                have BK410 := n2_
                have HB := n3_
                clear n0_ n1_ n2_ n3_
                have p423 : 0 ≤ ((ji51) : Int) := of_decide_eq_true (by with_reducible assumption)
                have q423 : (ji51) < (x7_1.length : Int) := of_decide_eq_true (by with_reducible assumption)
                obtain ⟨ad423, e423, hx423_0, hx423_1⟩ := at_T25 (Kd.R_reads' HO_7.out).2.2 (ji51) p423 q423
                obtain rfl : (⟨go23, 0, none⟩ : Addr) = ad423 := (by injection e423)
                (first | simp only [add_plain] at hx423_0 | simp only [add_at] at hx423_0 | simp only [Addr.add, Nat.zero_add] at hx423_0 | skip)
                (first | simp only [add_plain] at hx423_1 | simp only [add_at] at hx423_1 | simp only [Addr.add, Nat.zero_add] at hx423_1 | skip)
                replace p423 := eq_true p423
                replace q423 := eq_true q423
                have p424 : 0 ≤ (x8_1 : Int) := of_decide_eq_true (by with_reducible assumption)
                have q424 : x8_1 < (x7_1.length : Int) := of_decide_eq_true (by with_reducible assumption)
                obtain ⟨ad424, e424, hx424_0, hx424_1⟩ := at_T25 (Kd.R_reads' HO_7.out).2.2 x8_1 p424 q424
                obtain rfl : (⟨go23, 0, none⟩ : Addr) = ad424 := (by injection e424)
                (first | simp only [add_plain] at hx424_0 | simp only [add_at] at hx424_0 | simp only [Addr.add, Nat.zero_add] at hx424_0 | skip)
                (first | simp only [add_plain] at hx424_1 | simp only [add_at] at hx424_1 | simp only [Addr.add, Nat.zero_add] at hx424_1 | skip)
                replace p424 := eq_true p424
                replace q424 := eq_true q424
                refine start_ (n := 15) (S := fun w' => w'.cell? ⟨go23, ((ji51)).toNat * 2, none⟩ = some (.int .i64 ((rd_T25 x7_1 (ji51)).f0)) ∧ w'.cell? ⟨go23, ((ji51)).toNat * 2 + 1, none⟩ = some (.int .i64 ((rd_T25 x7_1 (ji51)).f1)) ∧ w'.cell? ⟨go23, (x8_1).toNat * 2, none⟩ = some (.int .i64 ((rd_T25 x7_1 x8_1).f0)) ∧ w'.cell? ⟨go23, (x8_1).toNat * 2 + 1, none⟩ = some (.int .i64 ((rd_T25 x7_1 x8_1).f1))) (ds := []) #[f_,f_,f_,f_,f_,f_,f_,f_,f_,f_,f_,f_,f_,f_,f_] (by kernel_rfl) rfl rfl ⟨hx423_0, hx423_1, hx424_0, hx424_1⟩ (fun hHeld => ?_); refine with_tabW impl_HeapTake.tab13 impl_HeapTake.bits13 (fun HT_ HW_ => ?_)
                generalize wc.drew = w60 at HO_7 BK408 BK410 HB hx423_0 hx423_1 hx424_0 hx424_1 hHeld ⊢
                refine pu_ 0 55 ?_ (b_ 1 14) rfl rfl HT_.out ?_ ?_ ?_ ?_; rotate_left; intro w'; go_simp; with_reducible rfl; rotate_left; simp only [fr_]; rfl
                refine pu_ 1 56 ?_ (b_ 2 13) rfl rfl HT_.out ?_ ?_ ?_ ?_; rotate_left; intro w'; go_simp; with_reducible rfl; rotate_left; simp only [fr_]; rfl
                refine pu_ 2 57 ?_ (b_ 3 12) rfl rfl HT_.out ?_ ?_ ?_ ?_; rotate_left; intro w'; go_simp; with_reducible rfl; rotate_left; simp only [fr_]; rfl
                refine pu_ 3 58 ?_ (b_ 4 11) rfl rfl HT_.out ?_ ?_ ?_ ?_; rotate_left; intro w'; go_simp; with_reducible rfl; rotate_left; simp only [fr_]; rfl
                refine pu_ 4 59 ?_ (b_ 5 10) rfl rfl HT_.out ?_ ?_ ?_ ?_; rotate_left; intro w'; go_simp; with_reducible rfl; rotate_left; simp only [fr_]; rfl
                refine pu_ 5 60 ?_ (b_ 6 9) rfl rfl HT_.out ?_ ?_ ?_ ?_; rotate_left; intro w'; go_simp; with_reducible rfl; rotate_left; simp only [fr_]; rfl
                refine pu_ 6 61 ?_ (b_ 7 8) rfl rfl HT_.out ?_ ?_ ?_ ?_; rotate_left; intro w'; go_simp; with_reducible rfl; rotate_left; simp only [fr_]; rfl
                refine pu_ 8 63 ?_ #[t_,t_,t_,t_,t_,t_,t_,f_,t_,f_,f_,f_,f_,f_,f_] rfl rfl HT_.out ?_ ?_ ?_ ?_; rotate_left; intro w'; go_simp; with_reducible rfl; rotate_left; simp only [fr_]; rfl
                refine pu_ 9 64 ?_ #[t_,t_,t_,t_,t_,t_,t_,f_,t_,t_,f_,f_,f_,f_,f_] rfl rfl HT_.out ?_ ?_ ?_ ?_; rotate_left; intro w'; go_simp; with_reducible rfl; rotate_left; simp only [fr_]; rfl
                refine pu_ 10 65 ?_ #[t_,t_,t_,t_,t_,t_,t_,f_,t_,t_,t_,f_,f_,f_,f_] rfl rfl HT_.out ?_ ?_ ?_ ?_; rotate_left; intro w'; go_simp; with_reducible rfl; rotate_left; simp only [fr_]; rfl
                refine take_ (i := 7) (N := some 62) (v := ?_) (a' := ?_) #[t_,t_,t_,t_,t_,t_,t_,t_,t_,t_,t_,f_,f_,f_,f_] rfl rfl (take_ofW HT_.out HW_.out (by kernel_rfl)) (fun _ _ _ h => h) (Or.inl ⟨by rfl, ?_⟩) hHeld ?_ ?_
                rotate_left
                ·
                 rintro w' ⟨s0, s1, s2, s3⟩
                 go_simp
                 with_reducible rfl
                rotate_left
                ·
                 simp only [fr_]
                 rfl
                refine take_ (i := 11) (N := some 66) (v := ?_) (a' := ?_) #[t_,t_,t_,t_,t_,t_,t_,t_,t_,t_,t_,t_,f_,f_,f_] rfl rfl (take_ofW HT_.out HW_.out (by kernel_rfl)) (fun _ _ _ h => h) (Or.inl ⟨by rfl, ?_⟩) hHeld ?_ ?_
                rotate_left
                ·
                 rintro w' ⟨s0, s1, s2, s3⟩
                 go_simp
                 with_reducible rfl
                rotate_left
                ·
                 simp only [fr_]
                 rfl
                refine one_ (i := 12) (N := some 67) #[t_,t_,t_,t_,t_,t_,t_,t_,t_,t_,t_,t_,t_,f_,f_] rfl rfl (one_of HT_.out (by kernel_rfl)) (by decide) (fun K hK => ?_)
                refine goes_ Try.func16 (by kernel_rfl) rfl #[.agg #[.int .i64 ((rd_T25 x7_1 (ji51)).f0), .int .i64 ((rd_T25 x7_1 (ji51)).f1)], .agg #[.int .i64 ((rd_T25 x7_1 x8_1).f0), .int .i64 ((rd_T25 x7_1 x8_1).f1)]] (by rfl) rfl rfl (by (try simp only [mp_]); first | done | (simp only [hji51]; rfl) | rfl | (simp only [List.length_drop, List.length_take]; rfl)) ?_
                with_reducible refine (impl_Before.calls ((rd_T25 x7_1 (ji51)).f0) ((rd_T25 x7_1 (ji51)).f1) ((rd_T25 x7_1 x8_1).f0) ((rd_T25 x7_1 x8_1).f1) true _ A56.out).mono ?_
                rintro e w61 ⟨rfl, hb⟩
                have HS0_ := (hb.cell (World.block_lt_of_cell? _ _ (hHeld.1))).trans (hHeld.1)
                have HS1_ := (hb.cell (World.block_lt_of_cell? _ _ (hHeld.2.1))).trans (hHeld.2.1)
                have HS2_ := (hb.cell (World.block_lt_of_cell? _ _ (hHeld.2.2.1))).trans (hHeld.2.2.1)
                have HS3_ := (hb.cell (World.block_lt_of_cell? _ _ (hHeld.2.2.2))).trans (hHeld.2.2.2)
                refine ⟨_, rfl, ?_⟩
                have n0_ := Aside0.mk (Kd.R_below (rp_ HO_7.out) hb)
                have n1_ := Aside0.mk (bb_ BK408.out hb)
                have n2_ := Aside0.mk (bb_ BK410.out hb)
                have n3_ := Aside0.mk (below_step (by repeat (first | (with_reducible first | exact HB.out | apply ba_ | apply bn_ | apply bd_ | refine below_set ?_ GE408.out | refine below_set ?_ GE410.out) | exact HB.out)) hb)
                clear HO_7 BK408 BK410 HB
                have HO_7 := n0_
                have BK408 := n1_
                have BK410 := n2_
                have HB := n3_
                clear n0_ n1_ n2_ n3_
                (try clear hb)
                (try clear hb2)
                (try clear hk)
                (try clear hi)
                refine hK.out _ _ ⟨HS0_, HS1_, HS2_, HS3_⟩ (fun hHeld => ?_)
                clear hK K
                refine norm_ (a' := ?_) ?_ ?_
                rotate_left
                ·
                 show Act.put _ (some 67) _ = _
                 simp only [fr_]
                 rfl
                refine pu_ 13 68 ?_ (b_ 14 1) rfl rfl HT_.out ?_ ?_ ?_ ?_; rotate_left; intro w'; go_simp; with_reducible rfl; rotate_left; simp only [fr_]; rfl
                refine pu_ 14 69 ?_ (b_ 15 0) rfl rfl HT_.out ?_ ?_ ?_ ?_; rotate_left; intro w'; go_simp; with_reducible rfl; rotate_left; simp only [fr_]; rfl
                refine done_ (done_of HT_.out (by kernel_rfl)) ?_
                try go_wp2
                have n0_ := Aside0.mk (Kd.R_drew HO_7.out)
                have n1_ := Aside0.mk (blk_drew BK408.out)
                have n2_ := Aside0.mk (blk_drew BK410.out)
                have n3_ := Aside0.mk (bd_ HB.out)
                clear HO_7 BK408 BK410 HB
                have HO_7 := n0_
                have BK408 := n1_
                have BK410 := n2_
                have HB := n3_
                clear n0_ n1_ n2_ n3_
                have p426 : 0 ≤ ((ji51) : Int) := of_decide_eq_true (by with_reducible assumption)
                have q426 : (ji51) < (x7_1.length : Int) := of_decide_eq_true (by with_reducible assumption)
                obtain ⟨ad426, e426, hx426_0, hx426_1⟩ := at_T25 (Kd.R_reads' HO_7.out).2.2 (ji51) p426 q426
                obtain rfl : (⟨go23, 0, none⟩ : Addr) = ad426 := (by injection e426)
                (first | simp only [add_plain] at hx426_0 | simp only [add_at] at hx426_0 | simp only [Addr.add, Nat.zero_add] at hx426_0 | skip)
                (first | simp only [add_plain] at hx426_1 | simp only [add_at] at hx426_1 | simp only [Addr.add, Nat.zero_add] at hx426_1 | skip)
                replace p426 := eq_true p426
                replace q426 := eq_true q426
                have p427 : 0 ≤ (x8_1 : Int) := of_decide_eq_true (by with_reducible assumption)
                have q427 : x8_1 < (x7_1.length : Int) := of_decide_eq_true (by with_reducible assumption)
                obtain ⟨ad427, e427, hx427_0, hx427_1⟩ := at_T25 (Kd.R_reads' HO_7.out).2.2 x8_1 p427 q427
                obtain rfl : (⟨go23, 0, none⟩ : Addr) = ad427 := (by injection e427)
                (first | simp only [add_plain] at hx427_0 | simp only [add_at] at hx427_0 | simp only [Addr.add, Nat.zero_add] at hx427_0 | skip)
                (first | simp only [add_plain] at hx427_1 | simp only [add_at] at hx427_1 | simp only [Addr.add, Nat.zero_add] at hx427_1 | skip)
                replace p427 := eq_true p427
                replace q427 := eq_true q427
                have p58 : 0 ≤ (x8_1 : Int) := of_decide_eq_true (by with_reducible assumption)
                have q58 : (x8_1 : Int) < ((x7_1.length : Int) : Int) := of_decide_eq_true (by with_reducible assumption)
                obtain ⟨ce58, hcl58, hM58, hcc58, hfr58⟩ := Kd.R_elem HO_7.out z25 (x8_1 : Int) p58 q58
                obtain rfl := k25_openM hM58
                have hx58_0 : World.cell? _ ⟨go23, (x8_1 : Int).toNat * 2, none⟩ = some (.int .i64 ((rd_T25 x7_1 x8_1).f0)) := hcc58 0 _ rfl
                have hx58_1 : World.cell? _ ⟨go23, (x8_1 : Int).toNat * 2 + 1, none⟩ = some (.int .i64 ((rd_T25 x7_1 x8_1).f1)) := hcc58 1 _ rfl
                have hf58_0 : World.frozen? _ ⟨go23, (x8_1 : Int).toNat * 2, none⟩ = false := hfr58 0
                have hf58_1 : World.frozen? _ ⟨go23, (x8_1 : Int).toNat * 2 + 1, none⟩ = false := hfr58 1
                clear hcl58 hcc58 hfr58 hM58
                replace p58 := eq_true p58
                replace q58 := eq_true q58
                obtain ⟨ce63, hcl63, hM63, hcc63, hfr63⟩ := Kd.R_elem HO_7.out z25 (x8_1 : Int) (of_decide_eq_true (by with_reducible assumption)) (by have h_ : (x8_1 : Int) < ((x7_1.length : Int) : Int) := of_decide_eq_true (by with_reducible assumption); first | exact h_ | (have e_ := (Kd.R_reads' HO_7.out).1; omega) | simpa using h_)
                obtain rfl := k25_openM hM63
                have HP63 := (Kd.R_seg HO_7.out (x8_1 : Int) (of_decide_eq_true (by with_reducible assumption)) (by have h_ : (x8_1 : Int) < ((x7_1.length : Int) : Int) := of_decide_eq_true (by with_reducible assumption); first | exact h_ | (have e_ := (Kd.R_reads' HO_7.out).1; omega) | simpa using h_) (seg := [.int .i64 ((rd_T25 x7_1 (ji51)).f0), .int .i64 ((rd_T25 x7_1 (ji51)).f1)]) (j := 0) hcl63 hcc63 (show 2 ≤ 2 from by decide) (x' := (⟨(rd_T25 x7_1 (ji51)).f0, (rd_T25 x7_1 (ji51)).f1⟩ : S25)) (k25_mkM _ _ _ (⟨(rd_T25 x7_1 (ji51)).f0, (rd_T25 x7_1 (ji51)).f1⟩ : S25) ) (fun _ hk => hk)).1
                rw [← Ny428.out] at HP63
                have HQ63 := Aside0.mk HP63
                clear hcl63 hcc63 hfr63 hM63 HP63
                have p59 : 0 ≤ ((ji51) : Int) := of_decide_eq_true (by with_reducible assumption)
                have q59 : ((ji51) : Int) < ((x7_1.length : Int) : Int) := of_decide_eq_true (by with_reducible assumption)
                obtain ⟨ce59, hcl59, hM59, hcc59, hfr59⟩ := Kd.R_elem HQ63.out z25 ((ji51) : Int) p59 q59
                obtain rfl := k25_openM hM59
                have hx59_0 : World.cell? _ ⟨go23, ((ji51) : Int).toNat * 2, none⟩ = some (.int .i64 ((rd_T25 y428 (ji51)).f0)) := hcc59 0 _ rfl
                have hx59_1 : World.cell? _ ⟨go23, ((ji51) : Int).toNat * 2 + 1, none⟩ = some (.int .i64 ((rd_T25 y428 (ji51)).f1)) := hcc59 1 _ rfl
                have hf59_0 : World.frozen? _ ⟨go23, ((ji51) : Int).toNat * 2, none⟩ = false := hfr59 0
                have hf59_1 : World.frozen? _ ⟨go23, ((ji51) : Int).toNat * 2 + 1, none⟩ = false := hfr59 1
                clear hcl59 hcc59 hfr59 hM59
                replace p59 := eq_true p59
                replace q59 := eq_true q59
                obtain ⟨ce64, hcl64, hM64, hcc64, hfr64⟩ := Kd.R_elem HQ63.out z25 ((ji51) : Int) (of_decide_eq_true (by with_reducible assumption)) (by have h_ : ((ji51) : Int) < ((x7_1.length : Int) : Int) := of_decide_eq_true (by with_reducible assumption); first | exact h_ | (have e_ := (Kd.R_reads' HO_7.out).1; omega) | simpa using h_)
                obtain rfl := k25_openM hM64
                have HP64 := (Kd.R_seg HQ63.out ((ji51) : Int) (of_decide_eq_true (by with_reducible assumption)) (by have h_ : ((ji51) : Int) < ((x7_1.length : Int) : Int) := of_decide_eq_true (by with_reducible assumption); first | exact h_ | (have e_ := (Kd.R_reads' HO_7.out).1; omega) | simpa using h_) (seg := [.int .i64 ((rd_T25 x7_1 x8_1).f0), .int .i64 ((rd_T25 x7_1 x8_1).f1)]) (j := 0) hcl64 hcc64 (show 2 ≤ 2 from by decide) (x' := (⟨(rd_T25 x7_1 x8_1).f0, (rd_T25 x7_1 x8_1).f1⟩ : S25)) (k25_mkM _ _ _ (⟨(rd_T25 x7_1 x8_1).f0, (rd_T25 x7_1 x8_1).f1⟩ : S25) ) (fun _ hk => hk)).1
                rw [← Ny429.out] at HP64
                have HQ64 := Aside0.mk HP64
                clear hcl64 hcc64 hfr64 hM64 HP64
                refine start_ (n := 16) (S := fun w' => w'.cell? ⟨go23, ((ji51)).toNat * 2, none⟩ = some (.int .i64 ((rd_T25 x7_1 (ji51)).f0)) ∧ w'.cell? ⟨go23, ((ji51)).toNat * 2 + 1, none⟩ = some (.int .i64 ((rd_T25 x7_1 (ji51)).f1)) ∧ w'.cell? ⟨go23, (x8_1).toNat * 2, none⟩ = some (.int .i64 ((rd_T25 x7_1 x8_1).f0)) ∧ w'.cell? ⟨go23, (x8_1).toNat * 2 + 1, none⟩ = some (.int .i64 ((rd_T25 x7_1 x8_1).f1))) (ds := [13, 15]) #[f_,f_,f_,f_,f_,f_,f_,f_,f_,f_,f_,f_,f_,f_,f_,f_] (by kernel_rfl) rfl rfl ⟨hx426_0, hx426_1, hx427_0, hx427_1⟩ (fun hHeld => ?_); refine with_tabW impl_HeapTake.tab15 impl_HeapTake.bits15 (fun HT_ HW_ => ?_)
                generalize w61.drew = w62 at HO_7 BK408 BK410 HB HQ63 HQ64 hf58_0 hf58_1 hf59_0 hf59_1 hx426_0 hx426_1 hx427_0 hx427_1 hx58_0 hx58_1 hx59_0 hx59_1 hHeld ⊢
                refine pu_ 0 72 ?_ (b_ 1 15) rfl rfl HT_.out ?_ ?_ ?_ ?_; rotate_left; intro w'; go_simp; with_reducible rfl; rotate_left; simp only [fr_]; rfl
                refine pu_ 1 73 ?_ (b_ 2 14) rfl rfl HT_.out ?_ ?_ ?_ ?_; rotate_left; intro w'; go_simp; with_reducible rfl; rotate_left; simp only [fr_]; rfl
                refine pu_ 2 74 ?_ (b_ 3 13) rfl rfl HT_.out ?_ ?_ ?_ ?_; rotate_left; intro w'; go_simp; with_reducible rfl; rotate_left; simp only [fr_]; rfl
                refine pu_ 3 75 ?_ (b_ 4 12) rfl rfl HT_.out ?_ ?_ ?_ ?_; rotate_left; intro w'; go_simp; with_reducible rfl; rotate_left; simp only [fr_]; rfl
                refine pu_ 4 76 ?_ (b_ 5 11) rfl rfl HT_.out ?_ ?_ ?_ ?_; rotate_left; intro w'; go_simp; with_reducible rfl; rotate_left; simp only [fr_]; rfl
                refine pu_ 5 77 ?_ (b_ 6 10) rfl rfl HT_.out ?_ ?_ ?_ ?_; rotate_left; intro w'; go_simp; with_reducible rfl; rotate_left; simp only [fr_]; rfl
                refine pu_ 6 78 ?_ (b_ 7 9) rfl rfl HT_.out ?_ ?_ ?_ ?_; rotate_left; intro w'; go_simp; with_reducible rfl; rotate_left; simp only [fr_]; rfl
                refine pu_ 8 80 ?_ #[t_,t_,t_,t_,t_,t_,t_,f_,t_,f_,f_,f_,f_,f_,f_,f_] rfl rfl HT_.out ?_ ?_ ?_ ?_; rotate_left; intro w'; go_simp; with_reducible rfl; rotate_left; simp only [fr_]; rfl
                refine pu_ 9 81 ?_ #[t_,t_,t_,t_,t_,t_,t_,f_,t_,t_,f_,f_,f_,f_,f_,f_] rfl rfl HT_.out ?_ ?_ ?_ ?_; rotate_left; intro w'; go_simp; with_reducible rfl; rotate_left; simp only [fr_]; rfl
                refine pu_ 10 82 ?_ #[t_,t_,t_,t_,t_,t_,t_,f_,t_,t_,t_,f_,f_,f_,f_,f_] rfl rfl HT_.out ?_ ?_ ?_ ?_; rotate_left; intro w'; go_simp; with_reducible rfl; rotate_left; simp only [fr_]; rfl
                refine take_ (i := 7) (N := some 79) (v := ?_) (a' := ?_) #[t_,t_,t_,t_,t_,t_,t_,t_,t_,t_,t_,f_,f_,f_,f_,f_] rfl rfl (take_ofW HT_.out HW_.out (by kernel_rfl)) (fun _ _ _ h => h) (Or.inl ⟨by rfl, ?_⟩) hHeld ?_ ?_
                rotate_left
                ·
                 rintro w' ⟨s0, s1, s2, s3⟩
                 go_simp
                 with_reducible rfl
                rotate_left
                ·
                 simp only [fr_]
                 rfl
                refine take_ (i := 11) (N := some 83) (v := ?_) (a' := ?_) #[t_,t_,t_,t_,t_,t_,t_,t_,t_,t_,t_,t_,f_,f_,f_,f_] rfl rfl (take_ofW HT_.out HW_.out (by kernel_rfl)) (fun _ _ _ h => h) (Or.inl ⟨by rfl, ?_⟩) hHeld ?_ ?_
                rotate_left
                ·
                 rintro w' ⟨s0, s1, s2, s3⟩
                 go_simp
                 with_reducible rfl
                rotate_left
                ·
                 simp only [fr_]
                 rfl
                refine pu_ 12 84 ?_ (b_ 13 3) rfl rfl HT_.out ?_ ?_ ?_ ?_; rotate_left; intro w'; go_simp; with_reducible rfl; rotate_left; simp only [fr_]; rfl
                refine last_ (i := 13) (N := none) #[t_,t_,t_,t_,t_,t_,t_,t_,t_,t_,t_,t_,t_,t_,f_,f_] rfl rfl (one_of HT_.out (by kernel_rfl)) (by decide) (fun K hK => ?_)
                refine skip_ (w1 := ?_) (by rfl) rfl ?_ ?_
                rotate_left
                ·
                 go_simp
                 rfl
                refine hK.out _ _ ?_
                clear hK K
                refine pu_ 14 85 ?_ (b_ 15 1) rfl rfl HT_.out ?_ ?_ ?_ ?_; rotate_left; intro w'; go_simp; with_reducible rfl; rotate_left; simp only [fr_]; rfl
                obtain ⟨u1_, hu1_⟩ := cell?_setCell_some (p := ⟨go23, (x8_1).toNat * 2, none⟩) (x := (.int .i64 ((rd_T25 x7_1 (ji51)).f0))) (show w62.cell? ⟨go23, ((ji51)).toNat * 2, none⟩ = some (.int .i64 ((rd_T25 x7_1 (ji51)).f0)) from by assumption)
                obtain ⟨u2_, hu2_⟩ := cell?_setCell_some (p := ⟨go23, (x8_1).toNat * 2, none⟩) (x := (.int .i64 ((rd_T25 x7_1 (ji51)).f0))) (show w62.cell? ⟨go23, ((ji51)).toNat * 2 + 1, none⟩ = some (.int .i64 ((rd_T25 x7_1 (ji51)).f1)) from by assumption)
                obtain ⟨u3_, hu3_⟩ := cell?_setCell_some (p := ⟨go23, (x8_1).toNat * 2 + 1, none⟩) (x := (.int .i64 ((rd_T25 x7_1 (ji51)).f1))) hu2_
                (try simp only [World.frozen?_setCells, World.frozen?_setCell] at hf58_0)
                (try simp only [World.frozen?_setCells, World.frozen?_setCell] at hf58_1)
                (try simp only [World.frozen?_setCells, World.frozen?_setCell] at hf59_0)
                (try simp only [World.frozen?_setCells, World.frozen?_setCell] at hf59_1)
                refine last_ (i := 15) (N := none) #[t_,t_,t_,t_,t_,t_,t_,t_,t_,t_,t_,t_,t_,t_,t_,t_] rfl rfl (one_of HT_.out (by kernel_rfl)) (by decide) (fun K hK => ?_)
                refine skip_ (w1 := ?_) (by rfl) rfl ?_ ?_
                rotate_left
                ·
                 go_simp
                 rfl
                refine hK.out _ _ ?_
                clear hK K
                refine done_ (done_of HT_.out (by kernel_rfl)) ?_
                try go_wp2
                (try simp only [← hl7_1])
                go_roundg kj32
                case measure => have := HK1.out; have := HJ32.out; omega
                case rel => exact ⟨(y429), (ji51), (x409000_1), (x409001_1), (x411000_1), (x411001_1), (by first | rfl | (simp; done) | (simp only [← hji51] <;> (first | rfl | simp)) | (simp [*]; done)), H', ⟨by have := HK1.out; have := HJ32.out; omega⟩, ⟨by (try simp only [hl7_1]); (with_reducible repeat (first | apply Kd.R_alloc | apply Kd.R_drewN | apply Kd.R_drew)); exact HQ64.out⟩, ⟨by (try simp only [hl7_1]); (with_reducible repeat (first | refine kn_ ?_ _ | refine kd_ ?_ | refine ka_ ?_ _)); refine blk_far ?_ (by have h_ := Kd.R_away HO_7.out (fun _ hk => hk.1); intro e_; exact h_ (by rw [e_]; rfl)) _; (with_reducible repeat (first | refine kn_ ?_ _ | refine kd_ ?_ | refine ka_ ?_ _)); refine blk_far ?_ (by have h_ := Kd.R_away HO_7.out (fun _ hk => hk.1); intro e_; exact h_ (by rw [e_]; rfl)) _; (with_reducible repeat (first | refine kn_ ?_ _ | refine kd_ ?_ | refine ka_ ?_ _)); refine blk_far ?_ (by have h_ := Kd.R_away HO_7.out (fun _ hk => hk.1); intro e_; exact h_ (by rw [e_]; rfl)) _; (with_reducible repeat (first | refine kn_ ?_ _ | refine kd_ ?_ | refine ka_ ?_ _)); refine blk_far ?_ (by have h_ := Kd.R_away HO_7.out (fun _ hk => hk.1); intro e_; exact h_ (by rw [e_]; rfl)) _; (with_reducible repeat (first | refine kn_ ?_ _ | refine kd_ ?_ | refine ka_ ?_ _)); exact BK408.out⟩, ⟨by (try simp only [hl7_1]); (with_reducible repeat (first | refine kn_ ?_ _ | refine kd_ ?_ | refine ka_ ?_ _)); refine blk_far ?_ (by have h_ := Kd.R_away HO_7.out (fun _ hk => hk.2); intro e_; exact h_ (by rw [e_]; rfl)) _; (with_reducible repeat (first | refine kn_ ?_ _ | refine kd_ ?_ | refine ka_ ?_ _)); refine blk_far ?_ (by have h_ := Kd.R_away HO_7.out (fun _ hk => hk.2); intro e_; exact h_ (by rw [e_]; rfl)) _; (with_reducible repeat (first | refine kn_ ?_ _ | refine kd_ ?_ | refine ka_ ?_ _)); refine blk_far ?_ (by have h_ := Kd.R_away HO_7.out (fun _ hk => hk.2); intro e_; exact h_ (by rw [e_]; rfl)) _; (with_reducible repeat (first | refine kn_ ?_ _ | refine kd_ ?_ | refine ka_ ?_ _)); refine blk_far ?_ (by have h_ := Kd.R_away HO_7.out (fun _ hk => hk.2); intro e_; exact h_ (by rw [e_]; rfl)) _; (with_reducible repeat (first | refine kn_ ?_ _ | refine kd_ ?_ | refine ka_ ?_ _)); exact BK410.out⟩, ⟨by repeat (first | (with_reducible first | exact HB.out | apply ba_ | apply bn_ | apply bd_ | refine below_set ?_ GB23.out | refine below_set ?_ GB23.out | refine below_set ?_ GB23.out | refine below_set ?_ GB23.out | refine below_set ?_ GE408.out | refine below_set ?_ GE410.out) | exact HB.out)⟩⟩
               replace c57 := Bool.eq_false_iff.mpr c57
               subst c57
               rw [if_neg (show ¬ (false = true) by decide)] at H
               simp only [Option.some.injEq, Prod.mk.injEq] at H
               obtain ⟨rfl, rfl, rfl, rfl⟩ := H
               try go_wp2
               have n0_ := Aside0.mk (Kd.R_drew HO_7.out)
               have n1_ := Aside0.mk (blk_drew BK408.out)
               have n2_ := Aside0.mk (blk_drew BK410.out)
               have n3_ := Aside0.mk (bd_ HB.out)
               clear HO_7 BK408 BK410 HB
               have HO_7 := n0_
               have BK408 := n1_
               have BK410 := n2_
               have HB := n3_
               clear n0_ n1_ n2_ n3_
               have p423 : 0 ≤ ((ji51) : Int) := of_decide_eq_true (by with_reducible assumption)
               have q423 : (ji51) < (x7_1.length : Int) := of_decide_eq_true (by with_reducible assumption)
               obtain ⟨ad423, e423, hx423_0, hx423_1⟩ := at_T25 (Kd.R_reads' HO_7.out).2.2 (ji51) p423 q423
               obtain rfl : (⟨go23, 0, none⟩ : Addr) = ad423 := (by injection e423)
               (first | simp only [add_plain] at hx423_0 | simp only [add_at] at hx423_0 | simp only [Addr.add, Nat.zero_add] at hx423_0 | skip)
               (first | simp only [add_plain] at hx423_1 | simp only [add_at] at hx423_1 | simp only [Addr.add, Nat.zero_add] at hx423_1 | skip)
               replace p423 := eq_true p423
               replace q423 := eq_true q423
               have p424 : 0 ≤ (x8_1 : Int) := of_decide_eq_true (by with_reducible assumption)
               have q424 : x8_1 < (x7_1.length : Int) := of_decide_eq_true (by with_reducible assumption)
               obtain ⟨ad424, e424, hx424_0, hx424_1⟩ := at_T25 (Kd.R_reads' HO_7.out).2.2 x8_1 p424 q424
               obtain rfl : (⟨go23, 0, none⟩ : Addr) = ad424 := (by injection e424)
               (first | simp only [add_plain] at hx424_0 | simp only [add_at] at hx424_0 | simp only [Addr.add, Nat.zero_add] at hx424_0 | skip)
               (first | simp only [add_plain] at hx424_1 | simp only [add_at] at hx424_1 | simp only [Addr.add, Nat.zero_add] at hx424_1 | skip)
               replace p424 := eq_true p424
               replace q424 := eq_true q424
               refine start_ (n := 15) (S := fun w' => w'.cell? ⟨go23, ((ji51)).toNat * 2, none⟩ = some (.int .i64 ((rd_T25 x7_1 (ji51)).f0)) ∧ w'.cell? ⟨go23, ((ji51)).toNat * 2 + 1, none⟩ = some (.int .i64 ((rd_T25 x7_1 (ji51)).f1)) ∧ w'.cell? ⟨go23, (x8_1).toNat * 2, none⟩ = some (.int .i64 ((rd_T25 x7_1 x8_1).f0)) ∧ w'.cell? ⟨go23, (x8_1).toNat * 2 + 1, none⟩ = some (.int .i64 ((rd_T25 x7_1 x8_1).f1))) (ds := []) #[f_,f_,f_,f_,f_,f_,f_,f_,f_,f_,f_,f_,f_,f_,f_] (by kernel_rfl) rfl rfl ⟨hx423_0, hx423_1, hx424_0, hx424_1⟩ (fun hHeld => ?_); refine with_tabW impl_HeapTake.tab13 impl_HeapTake.bits13 (fun HT_ HW_ => ?_)
               generalize wc.drew = w65 at HO_7 BK408 BK410 HB hx423_0 hx423_1 hx424_0 hx424_1 hHeld ⊢
               refine pu_ 0 55 ?_ (b_ 1 14) rfl rfl HT_.out ?_ ?_ ?_ ?_; rotate_left; intro w'; go_simp; with_reducible rfl; rotate_left; simp only [fr_]; rfl
               refine pu_ 1 56 ?_ (b_ 2 13) rfl rfl HT_.out ?_ ?_ ?_ ?_; rotate_left; intro w'; go_simp; with_reducible rfl; rotate_left; simp only [fr_]; rfl
               refine pu_ 2 57 ?_ (b_ 3 12) rfl rfl HT_.out ?_ ?_ ?_ ?_; rotate_left; intro w'; go_simp; with_reducible rfl; rotate_left; simp only [fr_]; rfl
               refine pu_ 3 58 ?_ (b_ 4 11) rfl rfl HT_.out ?_ ?_ ?_ ?_; rotate_left; intro w'; go_simp; with_reducible rfl; rotate_left; simp only [fr_]; rfl
               refine pu_ 4 59 ?_ (b_ 5 10) rfl rfl HT_.out ?_ ?_ ?_ ?_; rotate_left; intro w'; go_simp; with_reducible rfl; rotate_left; simp only [fr_]; rfl
               refine pu_ 5 60 ?_ (b_ 6 9) rfl rfl HT_.out ?_ ?_ ?_ ?_; rotate_left; intro w'; go_simp; with_reducible rfl; rotate_left; simp only [fr_]; rfl
               refine pu_ 6 61 ?_ (b_ 7 8) rfl rfl HT_.out ?_ ?_ ?_ ?_; rotate_left; intro w'; go_simp; with_reducible rfl; rotate_left; simp only [fr_]; rfl
               refine pu_ 8 63 ?_ #[t_,t_,t_,t_,t_,t_,t_,f_,t_,f_,f_,f_,f_,f_,f_] rfl rfl HT_.out ?_ ?_ ?_ ?_; rotate_left; intro w'; go_simp; with_reducible rfl; rotate_left; simp only [fr_]; rfl
               refine pu_ 9 64 ?_ #[t_,t_,t_,t_,t_,t_,t_,f_,t_,t_,f_,f_,f_,f_,f_] rfl rfl HT_.out ?_ ?_ ?_ ?_; rotate_left; intro w'; go_simp; with_reducible rfl; rotate_left; simp only [fr_]; rfl
               refine pu_ 10 65 ?_ #[t_,t_,t_,t_,t_,t_,t_,f_,t_,t_,t_,f_,f_,f_,f_] rfl rfl HT_.out ?_ ?_ ?_ ?_; rotate_left; intro w'; go_simp; with_reducible rfl; rotate_left; simp only [fr_]; rfl
               refine take_ (i := 7) (N := some 62) (v := ?_) (a' := ?_) #[t_,t_,t_,t_,t_,t_,t_,t_,t_,t_,t_,f_,f_,f_,f_] rfl rfl (take_ofW HT_.out HW_.out (by kernel_rfl)) (fun _ _ _ h => h) (Or.inl ⟨by rfl, ?_⟩) hHeld ?_ ?_
               rotate_left
               ·
                rintro w' ⟨s0, s1, s2, s3⟩
                go_simp
                with_reducible rfl
               rotate_left
               ·
                simp only [fr_]
                rfl
               refine take_ (i := 11) (N := some 66) (v := ?_) (a' := ?_) #[t_,t_,t_,t_,t_,t_,t_,t_,t_,t_,t_,t_,f_,f_,f_] rfl rfl (take_ofW HT_.out HW_.out (by kernel_rfl)) (fun _ _ _ h => h) (Or.inl ⟨by rfl, ?_⟩) hHeld ?_ ?_
               rotate_left
               ·
                rintro w' ⟨s0, s1, s2, s3⟩
                go_simp
                with_reducible rfl
               rotate_left
               ·
                simp only [fr_]
                rfl
               refine one_ (i := 12) (N := some 67) #[t_,t_,t_,t_,t_,t_,t_,t_,t_,t_,t_,t_,t_,f_,f_] rfl rfl (one_of HT_.out (by kernel_rfl)) (by decide) (fun K hK => ?_)
               refine goes_ Try.func16 (by kernel_rfl) rfl #[.agg #[.int .i64 ((rd_T25 x7_1 (ji51)).f0), .int .i64 ((rd_T25 x7_1 (ji51)).f1)], .agg #[.int .i64 ((rd_T25 x7_1 x8_1).f0), .int .i64 ((rd_T25 x7_1 x8_1).f1)]] (by rfl) rfl rfl (by (try simp only [mp_]); first | done | (simp only [hji51]; rfl) | rfl | (simp only [List.length_drop, List.length_take]; rfl)) ?_
               with_reducible refine (impl_Before.calls ((rd_T25 x7_1 (ji51)).f0) ((rd_T25 x7_1 (ji51)).f1) ((rd_T25 x7_1 x8_1).f0) ((rd_T25 x7_1 x8_1).f1) false _ A56.out).mono ?_
               rintro e w66 ⟨rfl, hb⟩
               have HS0_ := (hb.cell (World.block_lt_of_cell? _ _ (hHeld.1))).trans (hHeld.1)
               have HS1_ := (hb.cell (World.block_lt_of_cell? _ _ (hHeld.2.1))).trans (hHeld.2.1)
               have HS2_ := (hb.cell (World.block_lt_of_cell? _ _ (hHeld.2.2.1))).trans (hHeld.2.2.1)
               have HS3_ := (hb.cell (World.block_lt_of_cell? _ _ (hHeld.2.2.2))).trans (hHeld.2.2.2)
               refine ⟨_, rfl, ?_⟩
               have n0_ := Aside0.mk (Kd.R_below (rp_ HO_7.out) hb)
               have n1_ := Aside0.mk (bb_ BK408.out hb)
               have n2_ := Aside0.mk (bb_ BK410.out hb)
               have n3_ := Aside0.mk (below_step (by repeat (first | (with_reducible first | exact HB.out | apply ba_ | apply bn_ | apply bd_ | refine below_set ?_ GE408.out | refine below_set ?_ GE410.out) | exact HB.out)) hb)
               clear HO_7 BK408 BK410 HB
               have HO_7 := n0_
               have BK408 := n1_
               have BK410 := n2_
               have HB := n3_
               clear n0_ n1_ n2_ n3_
               (try clear hb)
               (try clear hb2)
               (try clear hk)
               (try clear hi)
               refine hK.out _ _ ⟨HS0_, HS1_, HS2_, HS3_⟩ (fun hHeld => ?_)
               clear hK K
               refine norm_ (a' := ?_) ?_ ?_
               rotate_left
               ·
                show Act.put _ (some 67) _ = _
                simp only [fr_]
                rfl
               refine pu_ 13 68 ?_ (b_ 14 1) rfl rfl HT_.out ?_ ?_ ?_ ?_; rotate_left; intro w'; go_simp; with_reducible rfl; rotate_left; simp only [fr_]; rfl
               refine pu_ 14 69 ?_ (b_ 15 0) rfl rfl HT_.out ?_ ?_ ?_ ?_; rotate_left; intro w'; go_simp; with_reducible rfl; rotate_left; simp only [fr_]; rfl
               refine done_ (done_of HT_.out (by kernel_rfl)) ?_
               try go_wp2
               have n0_ := Aside0.mk (Kd.R_drew HO_7.out)
               have n1_ := Aside0.mk (blk_drew BK408.out)
               have n2_ := Aside0.mk (blk_drew BK410.out)
               have n3_ := Aside0.mk (bd_ HB.out)
               clear HO_7 BK408 BK410 HB
               have HO_7 := n0_
               have BK408 := n1_
               have BK410 := n2_
               have HB := n3_
               clear n0_ n1_ n2_ n3_
               refine start_ (n := 5) (S := fun w' => w'.cell? ⟨gb410, 0, none⟩ = some (.int .i64 x411000_1) ∧ w'.cell? ⟨gb410, 1, none⟩ = some (.int .i64 x411001_1)) (ds := []) #[f_,f_,f_,f_,f_] (by kernel_rfl) rfl rfl ⟨bx_ BK410.out 0, bx_ BK410.out 1⟩ (fun hHeld => ?_)
               generalize w66.drew = w67 at HO_7 BK408 BK410 HB hHeld ⊢
               refine pure_ (i := 0) (N := some 70) (v := ?_) (a' := ?_) #[t_,f_,f_,f_,f_] rfl rfl (by kernel_rfl) (fun _ _ _ h => h) (Or.inl ⟨by rfl, ?_⟩) ?_ ?_
               rotate_left
               ·
                intro w'
                go_simp
                with_reducible rfl
               rotate_left
               ·
                simp only [fr_]
                rfl
               refine pure_ (i := 2) (N := some 2) (v := ?_) (a' := ?_) #[t_,f_,t_,f_,f_] rfl rfl (by kernel_rfl) (fun _ _ _ h => h) (Or.inl ⟨by rfl, ?_⟩) ?_ ?_
               rotate_left
               ·
                intro w'
                go_simp
                with_reducible rfl
               rotate_left
               ·
                simp only [fr_]
                rfl
               refine take_ (i := 1) (N := some 71) (v := ?_) (a' := ?_) #[t_,t_,t_,f_,f_] rfl rfl (by kernel_rfl) (fun _ _ _ h => h) (Or.inl ⟨by rfl, ?_⟩) hHeld ?_ ?_
               rotate_left
               ·
                rintro w' ⟨s0, s1⟩
                go_simp
                with_reducible rfl
               rotate_left
               ·
                simp only [fr_]
                rfl
               refine one_ (i := 3) (N := none) #[t_,t_,t_,t_,f_] rfl rfl (by kernel_rfl) (by decide) (fun K hK => ?_)
               have hs68 : w67.cell? ⟨gb408, 0, none⟩ = some (.int .i64 x409000_1) := bx_ BK408.out 0
               have hfs68 := blk_frozen BK408.out 0
               have hns68_1 := NB410_408.out
               have hms68_1 := NB408_410.out
               have hs69 : w67.cell? ⟨gb408, 1, none⟩ = some (.int .i64 x409001_1) := bx_ BK408.out 1
               have hfs69 := blk_frozen BK408.out 1
               have hns69_1 := NB410_408.out
               have hms69_1 := NB408_410.out
               refine skip_ (w1 := ?_) (by rfl) rfl ?_ ?_
               rotate_left
               ·
                go_simp
                rfl
               refine hK.out _ _ ⟨((cell_far (p := ⟨gb408, _, none⟩) NB410_408.out _).trans (((cell_far (p := ⟨gb408, _, none⟩) NB410_408.out _).trans (hHeld.1)))), ((cell_far (p := ⟨gb408, _, none⟩) NB410_408.out _).trans (((cell_far (p := ⟨gb408, _, none⟩) NB410_408.out _).trans (hHeld.2))))⟩ (fun hHeld => ?_)
               clear hK K
               refine pure_ (i := 4) (N := some 4) (v := ?_) (a' := ?_) #[t_,t_,t_,t_,t_] rfl rfl (by kernel_rfl) (fun _ _ _ h => h) (Or.inl ⟨by rfl, ?_⟩) ?_ ?_
               rotate_left
               ·
                intro w'
                go_simp
                with_reducible rfl
               rotate_left
               ·
                simp only [fr_]
                rfl
               refine done_ (by kernel_rfl) ?_
               try go_wp2
               refine bodyPost_ret (results_list (rs := [.tmp 2, .cell 3 25, .tmp 4]) rfl (by simp) (.tmp (.cell gb408 25 #[.int .i64 x411000_1, .int .i64 x411001_1] (0, 0) _ rfl (by (with_reducible repeat (first | refine kn_ ?_ _ | refine kd_ ?_ | refine ka_ ?_ _)); refine blk_put (cs := #[.int .i64 x411000_1, .int .i64 x409001_1]) ?_ 1 _ rfl; (with_reducible repeat (first | refine kn_ ?_ _ | refine kd_ ?_ | refine ka_ ?_ _)); refine blk_put (cs := #[.int .i64 x409000_1, .int .i64 x409001_1]) ?_ 0 _ rfl; (with_reducible repeat (first | refine kn_ ?_ _ | refine kd_ ?_ | refine ka_ ?_ _)); exact BK408.out) Try.underlying25 rfl (by kernel_rfl) (.tmp .nil)))) rfl ?_
               exact ⟨_, by first | rfl | (simp [errW_none, errW_some] <;> rfl) | (simp only [← hji6, ← hji51]; first | rfl | (simp [errW_none, errW_some] <;> rfl)) | (simp [*, errW_none, errW_some] <;> rfl), by (with_reducible repeat (first | apply Kd.R_alloc | apply Kd.R_drewN | apply Kd.R_drew)); exact Kd.R_mono (Kd.R_far (p := ⟨gb408, 1, none⟩) (Kd.R_far (p := ⟨gb408, 0, none⟩) (Kd.R_mono HO_7.out (fun k_ hk => (⟨hk, hk.1⟩ : _ ∧ k_ ≠ gb408))) (fun _ hk => hk.2) (.int .i64 x411000_1)) (fun _ hk => hk.2) (.int .i64 x411001_1)) (fun _ hk => trivial), by repeat (first | (with_reducible first | exact HB.out | apply ba_ | apply bn_ | apply bd_ | refine below_set ?_ GE408.out | refine below_set ?_ GE410.out) | exact HB.out)⟩
              rw [if_neg c55] at H
              exact absurd H (by simp)
             rw [if_neg c54] at H
             exact absurd H (by simp)
            rw [if_neg c53] at H
            exact absurd H (by simp)
           rw [if_neg c52] at H
           exact absurd H (by simp)
          replace c45 := Bool.eq_false_iff.mpr c45
          subst c45
          rw [if_neg (show ¬ (false = true) by decide)] at H
          by_cases c70 : (wrap64 ((wrap64 (2 * x8_1)) + 1)) ≥ ji6
          ·
           rw [if_pos c70] at H
           have c70b0 : decide (ji6 ≤ (wrap64 ((wrap64 (2 * x8_1)) + 1))) = true := decide_eq_true c70
           clear c70
           simp only [Option.some.injEq, Prod.mk.injEq] at H
           obtain ⟨rfl, rfl, rfl, rfl⟩ := H
           try go_wp2
           have n0_ := Aside0.mk (Kd.R_drew HO_7.out)
           have n1_ := Aside0.mk (blk_drew BK408.out)
           have n2_ := Aside0.mk (blk_drew BK410.out)
           have n3_ := Aside0.mk (bd_ HB.out)
           clear HO_7 BK408 BK410 HB
           have HO_7 := n0_
           have BK408 := n1_
           have BK410 := n2_
           have HB := n3_
           clear n0_ n1_ n2_ n3_
           refine start_ (n := 15) (S := fun w' => True) (ds := []) #[f_,f_,f_,f_,f_,f_,f_,f_,f_,f_,f_,f_,f_,f_,f_] (by kernel_rfl) rfl rfl trivial (fun hHeld => ?_); refine with_tabW impl_HeapTake.tab13 impl_HeapTake.bits13 (fun HT_ HW_ => ?_)
           generalize wc.drew = w71 at HO_7 BK408 BK410 HB hHeld ⊢
           refine pu_ 0 55 ?_ (b_ 1 14) rfl rfl HT_.out ?_ ?_ ?_ ?_; rotate_left; intro w'; go_simp; with_reducible rfl; rotate_left; simp only [fr_]; rfl
           refine pu_ 1 56 ?_ (b_ 2 13) rfl rfl HT_.out ?_ ?_ ?_ ?_; rotate_left; intro w'; go_simp; with_reducible rfl; rotate_left; simp only [fr_]; rfl
           refine pu_ 2 57 ?_ (b_ 3 12) rfl rfl HT_.out ?_ ?_ ?_ ?_; rotate_left; intro w'; go_simp; with_reducible rfl; rotate_left; simp only [fr_]; rfl
           refine pu_ 3 58 ?_ (b_ 4 11) rfl rfl HT_.out ?_ ?_ ?_ ?_; rotate_left; intro w'; go_simp; with_reducible rfl; rotate_left; simp only [fr_]; rfl
           refine pv_ 4 59 ?_ (b_ 5 10) rfl rfl HT_.out ?_ ?_; rotate_left; simp only [fr_]; rfl
           refine pv_ 5 60 ?_ (b_ 6 9) rfl rfl HT_.out ?_ ?_; rotate_left; simp only [fr_]; rfl
           refine pv_ 6 61 ?_ (b_ 7 8) rfl rfl HT_.out ?_ ?_; rotate_left; simp only [fr_]; rfl
           refine pv_ 7 62 ?_ (b_ 8 7) rfl rfl HT_.out ?_ ?_; rotate_left; simp only [fr_]; rfl
           refine pv_ 8 63 ?_ (b_ 9 6) rfl rfl HT_.out ?_ ?_; rotate_left; simp only [fr_]; rfl
           refine pv_ 9 64 ?_ (b_ 10 5) rfl rfl HT_.out ?_ ?_; rotate_left; simp only [fr_]; rfl
           refine pv_ 10 65 ?_ (b_ 11 4) rfl rfl HT_.out ?_ ?_; rotate_left; simp only [fr_]; rfl
           refine pv_ 11 66 ?_ (b_ 12 3) rfl rfl HT_.out ?_ ?_; rotate_left; simp only [fr_]; rfl
           refine pv_ 12 67 ?_ (b_ 13 2) rfl rfl HT_.out ?_ ?_; rotate_left; simp only [fr_]; rfl
           refine pv_ 13 68 ?_ (b_ 14 1) rfl rfl HT_.out ?_ ?_; rotate_left; simp only [fr_]; rfl
           refine pu_ 14 69 ?_ (b_ 15 0) rfl rfl HT_.out ?_ ?_ ?_ ?_; rotate_left; intro w'; go_simp; with_reducible rfl; rotate_left; simp only [fr_]; rfl
           refine done_ (done_of HT_.out (by kernel_rfl)) ?_
           try go_wp2
           have n0_ := Aside0.mk (Kd.R_drew HO_7.out)
           have n1_ := Aside0.mk (blk_drew BK408.out)
           have n2_ := Aside0.mk (blk_drew BK410.out)
           have n3_ := Aside0.mk (bd_ HB.out)
           clear HO_7 BK408 BK410 HB
           have HO_7 := n0_
           have BK408 := n1_
           have BK410 := n2_
           have HB := n3_
           clear n0_ n1_ n2_ n3_
           refine start_ (n := 5) (S := fun w' => w'.cell? ⟨gb410, 0, none⟩ = some (.int .i64 x411000_1) ∧ w'.cell? ⟨gb410, 1, none⟩ = some (.int .i64 x411001_1)) (ds := []) #[f_,f_,f_,f_,f_] (by kernel_rfl) rfl rfl ⟨bx_ BK410.out 0, bx_ BK410.out 1⟩ (fun hHeld => ?_)
           generalize w71.drew = w72 at HO_7 BK408 BK410 HB hHeld ⊢
           refine pure_ (i := 0) (N := some 70) (v := ?_) (a' := ?_) #[t_,f_,f_,f_,f_] rfl rfl (by kernel_rfl) (fun _ _ _ h => h) (Or.inl ⟨by rfl, ?_⟩) ?_ ?_
           rotate_left
           ·
            intro w'
            go_simp
            with_reducible rfl
           rotate_left
           ·
            simp only [fr_]
            rfl
           refine pure_ (i := 2) (N := some 2) (v := ?_) (a' := ?_) #[t_,f_,t_,f_,f_] rfl rfl (by kernel_rfl) (fun _ _ _ h => h) (Or.inl ⟨by rfl, ?_⟩) ?_ ?_
           rotate_left
           ·
            intro w'
            go_simp
            with_reducible rfl
           rotate_left
           ·
            simp only [fr_]
            rfl
           refine take_ (i := 1) (N := some 71) (v := ?_) (a' := ?_) #[t_,t_,t_,f_,f_] rfl rfl (by kernel_rfl) (fun _ _ _ h => h) (Or.inl ⟨by rfl, ?_⟩) hHeld ?_ ?_
           rotate_left
           ·
            rintro w' ⟨s0, s1⟩
            go_simp
            with_reducible rfl
           rotate_left
           ·
            simp only [fr_]
            rfl
           refine one_ (i := 3) (N := none) #[t_,t_,t_,t_,f_] rfl rfl (by kernel_rfl) (by decide) (fun K hK => ?_)
           have hs73 : w72.cell? ⟨gb408, 0, none⟩ = some (.int .i64 x409000_1) := bx_ BK408.out 0
           have hfs73 := blk_frozen BK408.out 0
           have hns73_1 := NB410_408.out
           have hms73_1 := NB408_410.out
           have hs74 : w72.cell? ⟨gb408, 1, none⟩ = some (.int .i64 x409001_1) := bx_ BK408.out 1
           have hfs74 := blk_frozen BK408.out 1
           have hns74_1 := NB410_408.out
           have hms74_1 := NB408_410.out
           refine skip_ (w1 := ?_) (by rfl) rfl ?_ ?_
           rotate_left
           ·
            go_simp
            rfl
           refine hK.out _ _ ⟨((cell_far (p := ⟨gb408, _, none⟩) NB410_408.out _).trans (((cell_far (p := ⟨gb408, _, none⟩) NB410_408.out _).trans (hHeld.1)))), ((cell_far (p := ⟨gb408, _, none⟩) NB410_408.out _).trans (((cell_far (p := ⟨gb408, _, none⟩) NB410_408.out _).trans (hHeld.2))))⟩ (fun hHeld => ?_)
           clear hK K
           refine pure_ (i := 4) (N := some 4) (v := ?_) (a' := ?_) #[t_,t_,t_,t_,t_] rfl rfl (by kernel_rfl) (fun _ _ _ h => h) (Or.inl ⟨by rfl, ?_⟩) ?_ ?_
           rotate_left
           ·
            intro w'
            go_simp
            with_reducible rfl
           rotate_left
           ·
            simp only [fr_]
            rfl
           refine done_ (by kernel_rfl) ?_
           try go_wp2
           refine bodyPost_ret (results_list (rs := [.tmp 2, .cell 3 25, .tmp 4]) rfl (by simp) (.tmp (.cell gb408 25 #[.int .i64 x411000_1, .int .i64 x411001_1] (0, 0) _ rfl (by (with_reducible repeat (first | refine kn_ ?_ _ | refine kd_ ?_ | refine ka_ ?_ _)); refine blk_put (cs := #[.int .i64 x411000_1, .int .i64 x409001_1]) ?_ 1 _ rfl; (with_reducible repeat (first | refine kn_ ?_ _ | refine kd_ ?_ | refine ka_ ?_ _)); refine blk_put (cs := #[.int .i64 x409000_1, .int .i64 x409001_1]) ?_ 0 _ rfl; (with_reducible repeat (first | refine kn_ ?_ _ | refine kd_ ?_ | refine ka_ ?_ _)); exact BK408.out) Try.underlying25 rfl (by kernel_rfl) (.tmp .nil)))) rfl ?_
           exact ⟨_, by first | rfl | (simp [errW_none, errW_some] <;> rfl) | (simp only [← hji6]; first | rfl | (simp [errW_none, errW_some] <;> rfl)) | (simp [*, errW_none, errW_some] <;> rfl), by (with_reducible repeat (first | apply Kd.R_alloc | apply Kd.R_drewN | apply Kd.R_drew)); exact Kd.R_mono (Kd.R_far (p := ⟨gb408, 1, none⟩) (Kd.R_far (p := ⟨gb408, 0, none⟩) (Kd.R_mono HO_7.out (fun k_ hk => (⟨hk, hk.1⟩ : _ ∧ k_ ≠ gb408))) (fun _ hk => hk.2) (.int .i64 x411000_1)) (fun _ hk => hk.2) (.int .i64 x411001_1)) (fun _ hk => trivial), by repeat (first | (with_reducible first | exact HB.out | apply ba_ | apply bn_ | apply bd_ | refine below_set ?_ GE408.out | refine below_set ?_ GE410.out) | exact HB.out)⟩
          rw [if_neg c70] at H
          have c70b0 : decide (ji6 ≤ (wrap64 ((wrap64 (2 * x8_1)) + 1))) = false := decide_eq_false c70
          clear c70
          obtain ⟨ji75, hji75⟩ : ∃ j_ : Int, (wrap64 ((wrap64 (2 * x8_1)) + 1)) = j_ := ⟨_, rfl⟩
          replace H : (if 0 ≤ (ji75) then (if (ji75) < (x7_1.length : Int) then (if 0 ≤ x8_1 then (if x8_1 < (x7_1.length : Int) then ((impl_Before.f ((rd_T25 x7_1 (ji75)).f0) ((rd_T25 x7_1 (ji75)).f1) ((rd_T25 x7_1 x8_1).f0) ((rd_T25 x7_1 x8_1).f1)).bind fun t432 => (if t432 = true then (impl_HeapTake.l0 kj32 ji6 ((x7_1.set (x8_1 : Int).toNat (⟨(rd_T25 x7_1 (ji75)).f0, (rd_T25 x7_1 (ji75)).f1⟩ : S25)).set ((ji75) : Int).toNat (⟨(rd_T25 x7_1 x8_1).f0, (rd_T25 x7_1 x8_1).f1⟩ : S25)) (ji75) x411000_1 x411001_1) else (some (x7_1, x411000_1, x411001_1, true)))) else (none)) else (none)) else (none)) else (none)) = some (r1, r2, r3, r4) := by first | (rw [hji75] at H; exact H) | (simp only [hji75] at H ⊢; exact H)
          (try rw [hji75] at c70b0)
          have hji75w : (IntKind.i64.wrap ((wrap64 (2 * x8_1)) + 1)) = ji75 := (i64_w _).trans hji75
          (try rw [hji75] at hji35)
          (try rw [hji75] at hji35w)
          (try rw [hji75] at hji38)
          (try rw [hji75] at hji38w)
          (try rw [hji75] at hji51)
          (try rw [hji75] at hji51w)
          by_cases c76 : 0 ≤ (ji75)
          ·
           rw [if_pos c76] at H
           have c76b0 := decide_eq_true c76
           clear c76
           by_cases c77 : (ji75) < (x7_1.length : Int)
           ·
            rw [if_pos c77] at H
            have c77b0 := decide_eq_true c77
            clear c77
            by_cases c78 : 0 ≤ x8_1
            ·
             rw [if_pos c78] at H
             have c78b0 := decide_eq_true c78
             clear c78
             by_cases c79 : x8_1 < (x7_1.length : Int)
             ·
              rw [if_pos c79] at H
              have c79b0 := decide_eq_true c79
              clear c79
              replace H := Option.bind_eq_some_iff.mp H
              obtain ⟨t432, A800, H⟩ := H
              have A80 := Aside0.mk A800
              clear A800
              by_cases c81 : t432 = true
              ·
               subst c81
               rw [if_pos rfl] at H
               obtain ⟨y435, hy435⟩ : ∃ y_ : List (S25), y_ = (x7_1.set (x8_1 : Int).toNat (⟨(rd_T25 x7_1 (ji75)).f0, (rd_T25 x7_1 (ji75)).f1⟩ : S25)) := ⟨_, rfl⟩
               replace H : (impl_HeapTake.l0 kj32 ji6 (y435.set ((ji75) : Int).toNat (⟨(rd_T25 x7_1 x8_1).f0, (rd_T25 x7_1 x8_1).f1⟩ : S25)) (ji75) x411000_1 x411001_1) = some (r1, r2, r3, r4) := by first | (rw [hy435]; with_reducible exact H) | (have H2_ := (Option.bind_some _ _).symm.trans H; rw [hy435]; with_reducible exact H2_) | (have H2_ := (Option.bind_some _ _).symm.trans H; with_reducible exact H2_) | with_reducible exact H | (rw [hy435]; exact H) | exact H
               have Ny435 := Aside0.mk hy435
               clear hy435
               obtain ⟨y436, hy436⟩ : ∃ y_ : List (S25), y_ = (y435.set ((ji75) : Int).toNat (⟨(rd_T25 x7_1 x8_1).f0, (rd_T25 x7_1 x8_1).f1⟩ : S25)) := ⟨_, rfl⟩
               replace H : (impl_HeapTake.l0 kj32 ji6 y436 (ji75) x411000_1 x411001_1) = some (r1, r2, r3, r4) := by first | (rw [hy436]; with_reducible exact H) | (have H2_ := (Option.bind_some _ _).symm.trans H; rw [hy436]; with_reducible exact H2_) | (have H2_ := (Option.bind_some _ _).symm.trans H; with_reducible exact H2_) | with_reducible exact H | (rw [hy436]; exact H) | exact H
               have Ny436 := Aside0.mk hy436
               clear hy436
               have H' := Aside0.mk H
               clear H
               try go_wp2
               have n0_ := Aside0.mk (Kd.R_drew HO_7.out)
               have n1_ := Aside0.mk (blk_drew BK408.out)
               have n2_ := Aside0.mk (blk_drew BK410.out)
               have n3_ := Aside0.mk (bd_ HB.out)
               clear HO_7 BK408 BK410 HB
               have HO_7 := n0_
               have BK408 := n1_
               have BK410 := n2_
               have HB := n3_
               clear n0_ n1_ n2_ n3_
               have p430 : 0 ≤ ((ji75) : Int) := of_decide_eq_true (by with_reducible assumption)
               have q430 : (ji75) < (x7_1.length : Int) := of_decide_eq_true (by with_reducible assumption)
               obtain ⟨ad430, e430, hx430_0, hx430_1⟩ := at_T25 (Kd.R_reads' HO_7.out).2.2 (ji75) p430 q430
               obtain rfl : (⟨go23, 0, none⟩ : Addr) = ad430 := (by injection e430)
               (first | simp only [add_plain] at hx430_0 | simp only [add_at] at hx430_0 | simp only [Addr.add, Nat.zero_add] at hx430_0 | skip)
               (first | simp only [add_plain] at hx430_1 | simp only [add_at] at hx430_1 | simp only [Addr.add, Nat.zero_add] at hx430_1 | skip)
               replace p430 := eq_true p430
               replace q430 := eq_true q430
               have p431 : 0 ≤ (x8_1 : Int) := of_decide_eq_true (by with_reducible assumption)
               have q431 : x8_1 < (x7_1.length : Int) := of_decide_eq_true (by with_reducible assumption)
               obtain ⟨ad431, e431, hx431_0, hx431_1⟩ := at_T25 (Kd.R_reads' HO_7.out).2.2 x8_1 p431 q431
               obtain rfl : (⟨go23, 0, none⟩ : Addr) = ad431 := (by injection e431)
               (first | simp only [add_plain] at hx431_0 | simp only [add_at] at hx431_0 | simp only [Addr.add, Nat.zero_add] at hx431_0 | skip)
               (first | simp only [add_plain] at hx431_1 | simp only [add_at] at hx431_1 | simp only [Addr.add, Nat.zero_add] at hx431_1 | skip)
               replace p431 := eq_true p431
               replace q431 := eq_true q431
               refine start_ (n := 15) (S := fun w' => w'.cell? ⟨go23, ((ji75)).toNat * 2, none⟩ = some (.int .i64 ((rd_T25 x7_1 (ji75)).f0)) ∧ w'.cell? ⟨go23, ((ji75)).toNat * 2 + 1, none⟩ = some (.int .i64 ((rd_T25 x7_1 (ji75)).f1)) ∧ w'.cell? ⟨go23, (x8_1).toNat * 2, none⟩ = some (.int .i64 ((rd_T25 x7_1 x8_1).f0)) ∧ w'.cell? ⟨go23, (x8_1).toNat * 2 + 1, none⟩ = some (.int .i64 ((rd_T25 x7_1 x8_1).f1))) (ds := []) #[f_,f_,f_,f_,f_,f_,f_,f_,f_,f_,f_,f_,f_,f_,f_] (by kernel_rfl) rfl rfl ⟨hx430_0, hx430_1, hx431_0, hx431_1⟩ (fun hHeld => ?_); refine with_tabW impl_HeapTake.tab13 impl_HeapTake.bits13 (fun HT_ HW_ => ?_)
               generalize wc.drew = w84 at HO_7 BK408 BK410 HB hx430_0 hx430_1 hx431_0 hx431_1 hHeld ⊢
               refine pu_ 0 55 ?_ (b_ 1 14) rfl rfl HT_.out ?_ ?_ ?_ ?_; rotate_left; intro w'; go_simp; with_reducible rfl; rotate_left; simp only [fr_]; rfl
               refine pu_ 1 56 ?_ (b_ 2 13) rfl rfl HT_.out ?_ ?_ ?_ ?_; rotate_left; intro w'; go_simp; with_reducible rfl; rotate_left; simp only [fr_]; rfl
               refine pu_ 2 57 ?_ (b_ 3 12) rfl rfl HT_.out ?_ ?_ ?_ ?_; rotate_left; intro w'; go_simp; with_reducible rfl; rotate_left; simp only [fr_]; rfl
               refine pu_ 3 58 ?_ (b_ 4 11) rfl rfl HT_.out ?_ ?_ ?_ ?_; rotate_left; intro w'; go_simp; with_reducible rfl; rotate_left; simp only [fr_]; rfl
               refine pu_ 4 59 ?_ (b_ 5 10) rfl rfl HT_.out ?_ ?_ ?_ ?_; rotate_left; intro w'; go_simp; with_reducible rfl; rotate_left; simp only [fr_]; rfl
               refine pu_ 5 60 ?_ (b_ 6 9) rfl rfl HT_.out ?_ ?_ ?_ ?_; rotate_left; intro w'; go_simp; with_reducible rfl; rotate_left; simp only [fr_]; rfl
               refine pu_ 6 61 ?_ (b_ 7 8) rfl rfl HT_.out ?_ ?_ ?_ ?_; rotate_left; intro w'; go_simp; with_reducible rfl; rotate_left; simp only [fr_]; rfl
               refine pu_ 8 63 ?_ #[t_,t_,t_,t_,t_,t_,t_,f_,t_,f_,f_,f_,f_,f_,f_] rfl rfl HT_.out ?_ ?_ ?_ ?_; rotate_left; intro w'; go_simp; with_reducible rfl; rotate_left; simp only [fr_]; rfl
               refine pu_ 9 64 ?_ #[t_,t_,t_,t_,t_,t_,t_,f_,t_,t_,f_,f_,f_,f_,f_] rfl rfl HT_.out ?_ ?_ ?_ ?_; rotate_left; intro w'; go_simp; with_reducible rfl; rotate_left; simp only [fr_]; rfl
               refine pu_ 10 65 ?_ #[t_,t_,t_,t_,t_,t_,t_,f_,t_,t_,t_,f_,f_,f_,f_] rfl rfl HT_.out ?_ ?_ ?_ ?_; rotate_left; intro w'; go_simp; with_reducible rfl; rotate_left; simp only [fr_]; rfl
               refine take_ (i := 7) (N := some 62) (v := ?_) (a' := ?_) #[t_,t_,t_,t_,t_,t_,t_,t_,t_,t_,t_,f_,f_,f_,f_] rfl rfl (take_ofW HT_.out HW_.out (by kernel_rfl)) (fun _ _ _ h => h) (Or.inl ⟨by rfl, ?_⟩) hHeld ?_ ?_
               rotate_left
               ·
                rintro w' ⟨s0, s1, s2, s3⟩
                go_simp
                with_reducible rfl
               rotate_left
               ·
                simp only [fr_]
                rfl
               refine take_ (i := 11) (N := some 66) (v := ?_) (a' := ?_) #[t_,t_,t_,t_,t_,t_,t_,t_,t_,t_,t_,t_,f_,f_,f_] rfl rfl (take_ofW HT_.out HW_.out (by kernel_rfl)) (fun _ _ _ h => h) (Or.inl ⟨by rfl, ?_⟩) hHeld ?_ ?_
               rotate_left
               ·
                rintro w' ⟨s0, s1, s2, s3⟩
                go_simp
                with_reducible rfl
               rotate_left
               ·
                simp only [fr_]
                rfl
               refine one_ (i := 12) (N := some 67) #[t_,t_,t_,t_,t_,t_,t_,t_,t_,t_,t_,t_,t_,f_,f_] rfl rfl (one_of HT_.out (by kernel_rfl)) (by decide) (fun K hK => ?_)
               refine goes_ Try.func16 (by kernel_rfl) rfl #[.agg #[.int .i64 ((rd_T25 x7_1 (ji75)).f0), .int .i64 ((rd_T25 x7_1 (ji75)).f1)], .agg #[.int .i64 ((rd_T25 x7_1 x8_1).f0), .int .i64 ((rd_T25 x7_1 x8_1).f1)]] (by rfl) rfl rfl (by (try simp only [mp_]); first | done | (simp only [hji75]; rfl) | rfl | (simp only [List.length_drop, List.length_take]; rfl)) ?_
               with_reducible refine (impl_Before.calls ((rd_T25 x7_1 (ji75)).f0) ((rd_T25 x7_1 (ji75)).f1) ((rd_T25 x7_1 x8_1).f0) ((rd_T25 x7_1 x8_1).f1) true _ A80.out).mono ?_
               rintro e w85 ⟨rfl, hb⟩
               have HS0_ := (hb.cell (World.block_lt_of_cell? _ _ (hHeld.1))).trans (hHeld.1)
               have HS1_ := (hb.cell (World.block_lt_of_cell? _ _ (hHeld.2.1))).trans (hHeld.2.1)
               have HS2_ := (hb.cell (World.block_lt_of_cell? _ _ (hHeld.2.2.1))).trans (hHeld.2.2.1)
               have HS3_ := (hb.cell (World.block_lt_of_cell? _ _ (hHeld.2.2.2))).trans (hHeld.2.2.2)
               refine ⟨_, rfl, ?_⟩
               have n0_ := Aside0.mk (Kd.R_below (rp_ HO_7.out) hb)
               have n1_ := Aside0.mk (bb_ BK408.out hb)
               have n2_ := Aside0.mk (bb_ BK410.out hb)
               have n3_ := Aside0.mk (below_step (by repeat (first | (with_reducible first | exact HB.out | apply ba_ | apply bn_ | apply bd_ | refine below_set ?_ GE408.out | refine below_set ?_ GE410.out) | exact HB.out)) hb)
               clear HO_7 BK408 BK410 HB
               have HO_7 := n0_
               have BK408 := n1_
               have BK410 := n2_
               have HB := n3_
               clear n0_ n1_ n2_ n3_
               (try clear hb)
               (try clear hb2)
               (try clear hk)
               (try clear hi)
               refine hK.out _ _ ⟨HS0_, HS1_, HS2_, HS3_⟩ (fun hHeld => ?_)
               clear hK K
               refine norm_ (a' := ?_) ?_ ?_
               rotate_left
               ·
                show Act.put _ (some 67) _ = _
                simp only [fr_]
                rfl
               refine pu_ 13 68 ?_ (b_ 14 1) rfl rfl HT_.out ?_ ?_ ?_ ?_; rotate_left; intro w'; go_simp; with_reducible rfl; rotate_left; simp only [fr_]; rfl
               refine pu_ 14 69 ?_ (b_ 15 0) rfl rfl HT_.out ?_ ?_ ?_ ?_; rotate_left; intro w'; go_simp; with_reducible rfl; rotate_left; simp only [fr_]; rfl
               refine done_ (done_of HT_.out (by kernel_rfl)) ?_
               try go_wp2
               have n0_ := Aside0.mk (Kd.R_drew HO_7.out)
               have n1_ := Aside0.mk (blk_drew BK408.out)
               have n2_ := Aside0.mk (blk_drew BK410.out)
               have n3_ := Aside0.mk (bd_ HB.out)
               clear HO_7 BK408 BK410 HB
               have HO_7 := n0_
               have BK408 := n1_
               have BK410 := n2_
               have HB := n3_
               clear n0_ n1_ n2_ n3_
               have p433 : 0 ≤ ((ji75) : Int) := of_decide_eq_true (by with_reducible assumption)
               have q433 : (ji75) < (x7_1.length : Int) := of_decide_eq_true (by with_reducible assumption)
               obtain ⟨ad433, e433, hx433_0, hx433_1⟩ := at_T25 (Kd.R_reads' HO_7.out).2.2 (ji75) p433 q433
               obtain rfl : (⟨go23, 0, none⟩ : Addr) = ad433 := (by injection e433)
               (first | simp only [add_plain] at hx433_0 | simp only [add_at] at hx433_0 | simp only [Addr.add, Nat.zero_add] at hx433_0 | skip)
               (first | simp only [add_plain] at hx433_1 | simp only [add_at] at hx433_1 | simp only [Addr.add, Nat.zero_add] at hx433_1 | skip)
               replace p433 := eq_true p433
               replace q433 := eq_true q433
               have p434 : 0 ≤ (x8_1 : Int) := of_decide_eq_true (by with_reducible assumption)
               have q434 : x8_1 < (x7_1.length : Int) := of_decide_eq_true (by with_reducible assumption)
               obtain ⟨ad434, e434, hx434_0, hx434_1⟩ := at_T25 (Kd.R_reads' HO_7.out).2.2 x8_1 p434 q434
               obtain rfl : (⟨go23, 0, none⟩ : Addr) = ad434 := (by injection e434)
               (first | simp only [add_plain] at hx434_0 | simp only [add_at] at hx434_0 | simp only [Addr.add, Nat.zero_add] at hx434_0 | skip)
               (first | simp only [add_plain] at hx434_1 | simp only [add_at] at hx434_1 | simp only [Addr.add, Nat.zero_add] at hx434_1 | skip)
               replace p434 := eq_true p434
               replace q434 := eq_true q434
               have p82 : 0 ≤ (x8_1 : Int) := of_decide_eq_true (by with_reducible assumption)
               have q82 : (x8_1 : Int) < ((x7_1.length : Int) : Int) := of_decide_eq_true (by with_reducible assumption)
               obtain ⟨ce82, hcl82, hM82, hcc82, hfr82⟩ := Kd.R_elem HO_7.out z25 (x8_1 : Int) p82 q82
               obtain rfl := k25_openM hM82
               have hx82_0 : World.cell? _ ⟨go23, (x8_1 : Int).toNat * 2, none⟩ = some (.int .i64 ((rd_T25 x7_1 x8_1).f0)) := hcc82 0 _ rfl
               have hx82_1 : World.cell? _ ⟨go23, (x8_1 : Int).toNat * 2 + 1, none⟩ = some (.int .i64 ((rd_T25 x7_1 x8_1).f1)) := hcc82 1 _ rfl
               have hf82_0 : World.frozen? _ ⟨go23, (x8_1 : Int).toNat * 2, none⟩ = false := hfr82 0
               have hf82_1 : World.frozen? _ ⟨go23, (x8_1 : Int).toNat * 2 + 1, none⟩ = false := hfr82 1
               clear hcl82 hcc82 hfr82 hM82
               replace p82 := eq_true p82
               replace q82 := eq_true q82
               obtain ⟨ce87, hcl87, hM87, hcc87, hfr87⟩ := Kd.R_elem HO_7.out z25 (x8_1 : Int) (of_decide_eq_true (by with_reducible assumption)) (by have h_ : (x8_1 : Int) < ((x7_1.length : Int) : Int) := of_decide_eq_true (by with_reducible assumption); first | exact h_ | (have e_ := (Kd.R_reads' HO_7.out).1; omega) | simpa using h_)
               obtain rfl := k25_openM hM87
               have HP87 := (Kd.R_seg HO_7.out (x8_1 : Int) (of_decide_eq_true (by with_reducible assumption)) (by have h_ : (x8_1 : Int) < ((x7_1.length : Int) : Int) := of_decide_eq_true (by with_reducible assumption); first | exact h_ | (have e_ := (Kd.R_reads' HO_7.out).1; omega) | simpa using h_) (seg := [.int .i64 ((rd_T25 x7_1 (ji75)).f0), .int .i64 ((rd_T25 x7_1 (ji75)).f1)]) (j := 0) hcl87 hcc87 (show 2 ≤ 2 from by decide) (x' := (⟨(rd_T25 x7_1 (ji75)).f0, (rd_T25 x7_1 (ji75)).f1⟩ : S25)) (k25_mkM _ _ _ (⟨(rd_T25 x7_1 (ji75)).f0, (rd_T25 x7_1 (ji75)).f1⟩ : S25) ) (fun _ hk => hk)).1
               rw [← Ny435.out] at HP87
               have HQ87 := Aside0.mk HP87
               clear hcl87 hcc87 hfr87 hM87 HP87
               have p83 : 0 ≤ ((ji75) : Int) := of_decide_eq_true (by with_reducible assumption)
               have q83 : ((ji75) : Int) < ((x7_1.length : Int) : Int) := of_decide_eq_true (by with_reducible assumption)
               obtain ⟨ce83, hcl83, hM83, hcc83, hfr83⟩ := Kd.R_elem HQ87.out z25 ((ji75) : Int) p83 q83
               obtain rfl := k25_openM hM83
               have hx83_0 : World.cell? _ ⟨go23, ((ji75) : Int).toNat * 2, none⟩ = some (.int .i64 ((rd_T25 y435 (ji75)).f0)) := hcc83 0 _ rfl
               have hx83_1 : World.cell? _ ⟨go23, ((ji75) : Int).toNat * 2 + 1, none⟩ = some (.int .i64 ((rd_T25 y435 (ji75)).f1)) := hcc83 1 _ rfl
               have hf83_0 : World.frozen? _ ⟨go23, ((ji75) : Int).toNat * 2, none⟩ = false := hfr83 0
               have hf83_1 : World.frozen? _ ⟨go23, ((ji75) : Int).toNat * 2 + 1, none⟩ = false := hfr83 1
               clear hcl83 hcc83 hfr83 hM83
               replace p83 := eq_true p83
               replace q83 := eq_true q83
               obtain ⟨ce88, hcl88, hM88, hcc88, hfr88⟩ := Kd.R_elem HQ87.out z25 ((ji75) : Int) (of_decide_eq_true (by with_reducible assumption)) (by have h_ : ((ji75) : Int) < ((x7_1.length : Int) : Int) := of_decide_eq_true (by with_reducible assumption); first | exact h_ | (have e_ := (Kd.R_reads' HO_7.out).1; omega) | simpa using h_)
               obtain rfl := k25_openM hM88
               have HP88 := (Kd.R_seg HQ87.out ((ji75) : Int) (of_decide_eq_true (by with_reducible assumption)) (by have h_ : ((ji75) : Int) < ((x7_1.length : Int) : Int) := of_decide_eq_true (by with_reducible assumption); first | exact h_ | (have e_ := (Kd.R_reads' HO_7.out).1; omega) | simpa using h_) (seg := [.int .i64 ((rd_T25 x7_1 x8_1).f0), .int .i64 ((rd_T25 x7_1 x8_1).f1)]) (j := 0) hcl88 hcc88 (show 2 ≤ 2 from by decide) (x' := (⟨(rd_T25 x7_1 x8_1).f0, (rd_T25 x7_1 x8_1).f1⟩ : S25)) (k25_mkM _ _ _ (⟨(rd_T25 x7_1 x8_1).f0, (rd_T25 x7_1 x8_1).f1⟩ : S25) ) (fun _ hk => hk)).1
               rw [← Ny436.out] at HP88
               have HQ88 := Aside0.mk HP88
               clear hcl88 hcc88 hfr88 hM88 HP88
               refine start_ (n := 16) (S := fun w' => w'.cell? ⟨go23, ((ji75)).toNat * 2, none⟩ = some (.int .i64 ((rd_T25 x7_1 (ji75)).f0)) ∧ w'.cell? ⟨go23, ((ji75)).toNat * 2 + 1, none⟩ = some (.int .i64 ((rd_T25 x7_1 (ji75)).f1)) ∧ w'.cell? ⟨go23, (x8_1).toNat * 2, none⟩ = some (.int .i64 ((rd_T25 x7_1 x8_1).f0)) ∧ w'.cell? ⟨go23, (x8_1).toNat * 2 + 1, none⟩ = some (.int .i64 ((rd_T25 x7_1 x8_1).f1))) (ds := [13, 15]) #[f_,f_,f_,f_,f_,f_,f_,f_,f_,f_,f_,f_,f_,f_,f_,f_] (by kernel_rfl) rfl rfl ⟨hx433_0, hx433_1, hx434_0, hx434_1⟩ (fun hHeld => ?_); refine with_tabW impl_HeapTake.tab15 impl_HeapTake.bits15 (fun HT_ HW_ => ?_)
               generalize w85.drew = w86 at HO_7 BK408 BK410 HB HQ87 HQ88 hf82_0 hf82_1 hf83_0 hf83_1 hx433_0 hx433_1 hx434_0 hx434_1 hx82_0 hx82_1 hx83_0 hx83_1 hHeld ⊢
               refine pu_ 0 72 ?_ (b_ 1 15) rfl rfl HT_.out ?_ ?_ ?_ ?_; rotate_left; intro w'; go_simp; with_reducible rfl; rotate_left; simp only [fr_]; rfl
               refine pu_ 1 73 ?_ (b_ 2 14) rfl rfl HT_.out ?_ ?_ ?_ ?_; rotate_left; intro w'; go_simp; with_reducible rfl; rotate_left; simp only [fr_]; rfl
               refine pu_ 2 74 ?_ (b_ 3 13) rfl rfl HT_.out ?_ ?_ ?_ ?_; rotate_left; intro w'; go_simp; with_reducible rfl; rotate_left; simp only [fr_]; rfl
               refine pu_ 3 75 ?_ (b_ 4 12) rfl rfl HT_.out ?_ ?_ ?_ ?_; rotate_left; intro w'; go_simp; with_reducible rfl; rotate_left; simp only [fr_]; rfl
               refine pu_ 4 76 ?_ (b_ 5 11) rfl rfl HT_.out ?_ ?_ ?_ ?_; rotate_left; intro w'; go_simp; with_reducible rfl; rotate_left; simp only [fr_]; rfl
               refine pu_ 5 77 ?_ (b_ 6 10) rfl rfl HT_.out ?_ ?_ ?_ ?_; rotate_left; intro w'; go_simp; with_reducible rfl; rotate_left; simp only [fr_]; rfl
               refine pu_ 6 78 ?_ (b_ 7 9) rfl rfl HT_.out ?_ ?_ ?_ ?_; rotate_left; intro w'; go_simp; with_reducible rfl; rotate_left; simp only [fr_]; rfl
               refine pu_ 8 80 ?_ #[t_,t_,t_,t_,t_,t_,t_,f_,t_,f_,f_,f_,f_,f_,f_,f_] rfl rfl HT_.out ?_ ?_ ?_ ?_; rotate_left; intro w'; go_simp; with_reducible rfl; rotate_left; simp only [fr_]; rfl
               refine pu_ 9 81 ?_ #[t_,t_,t_,t_,t_,t_,t_,f_,t_,t_,f_,f_,f_,f_,f_,f_] rfl rfl HT_.out ?_ ?_ ?_ ?_; rotate_left; intro w'; go_simp; with_reducible rfl; rotate_left; simp only [fr_]; rfl
               refine pu_ 10 82 ?_ #[t_,t_,t_,t_,t_,t_,t_,f_,t_,t_,t_,f_,f_,f_,f_,f_] rfl rfl HT_.out ?_ ?_ ?_ ?_; rotate_left; intro w'; go_simp; with_reducible rfl; rotate_left; simp only [fr_]; rfl
               refine take_ (i := 7) (N := some 79) (v := ?_) (a' := ?_) #[t_,t_,t_,t_,t_,t_,t_,t_,t_,t_,t_,f_,f_,f_,f_,f_] rfl rfl (take_ofW HT_.out HW_.out (by kernel_rfl)) (fun _ _ _ h => h) (Or.inl ⟨by rfl, ?_⟩) hHeld ?_ ?_
               rotate_left
               ·
                rintro w' ⟨s0, s1, s2, s3⟩
                go_simp
                with_reducible rfl
               rotate_left
               ·
                simp only [fr_]
                rfl
               refine take_ (i := 11) (N := some 83) (v := ?_) (a' := ?_) #[t_,t_,t_,t_,t_,t_,t_,t_,t_,t_,t_,t_,f_,f_,f_,f_] rfl rfl (take_ofW HT_.out HW_.out (by kernel_rfl)) (fun _ _ _ h => h) (Or.inl ⟨by rfl, ?_⟩) hHeld ?_ ?_
               rotate_left
               ·
                rintro w' ⟨s0, s1, s2, s3⟩
                go_simp
                with_reducible rfl
               rotate_left
               ·
                simp only [fr_]
                rfl
               refine pu_ 12 84 ?_ (b_ 13 3) rfl rfl HT_.out ?_ ?_ ?_ ?_; rotate_left; intro w'; go_simp; with_reducible rfl; rotate_left; simp only [fr_]; rfl
               refine last_ (i := 13) (N := none) #[t_,t_,t_,t_,t_,t_,t_,t_,t_,t_,t_,t_,t_,t_,f_,f_] rfl rfl (one_of HT_.out (by kernel_rfl)) (by decide) (fun K hK => ?_)
               refine skip_ (w1 := ?_) (by rfl) rfl ?_ ?_
               rotate_left
               ·
                go_simp
                rfl
               refine hK.out _ _ ?_
               clear hK K
               refine pu_ 14 85 ?_ (b_ 15 1) rfl rfl HT_.out ?_ ?_ ?_ ?_; rotate_left; intro w'; go_simp; with_reducible rfl; rotate_left; simp only [fr_]; rfl
               obtain ⟨u1_, hu1_⟩ := cell?_setCell_some (p := ⟨go23, (x8_1).toNat * 2, none⟩) (x := (.int .i64 ((rd_T25 x7_1 (ji75)).f0))) (show w86.cell? ⟨go23, ((ji75)).toNat * 2, none⟩ = some (.int .i64 ((rd_T25 x7_1 (ji75)).f0)) from by assumption)
               obtain ⟨u2_, hu2_⟩ := cell?_setCell_some (p := ⟨go23, (x8_1).toNat * 2, none⟩) (x := (.int .i64 ((rd_T25 x7_1 (ji75)).f0))) (show w86.cell? ⟨go23, ((ji75)).toNat * 2 + 1, none⟩ = some (.int .i64 ((rd_T25 x7_1 (ji75)).f1)) from by assumption)
               obtain ⟨u3_, hu3_⟩ := cell?_setCell_some (p := ⟨go23, (x8_1).toNat * 2 + 1, none⟩) (x := (.int .i64 ((rd_T25 x7_1 (ji75)).f1))) hu2_
               (try simp only [World.frozen?_setCells, World.frozen?_setCell] at hf82_0)
               (try simp only [World.frozen?_setCells, World.frozen?_setCell] at hf82_1)
               (try simp only [World.frozen?_setCells, World.frozen?_setCell] at hf83_0)
               (try simp only [World.frozen?_setCells, World.frozen?_setCell] at hf83_1)
               refine last_ (i := 15) (N := none) #[t_,t_,t_,t_,t_,t_,t_,t_,t_,t_,t_,t_,t_,t_,t_,t_] rfl rfl (one_of HT_.out (by kernel_rfl)) (by decide) (fun K hK => ?_)
               refine skip_ (w1 := ?_) (by rfl) rfl ?_ ?_
               rotate_left
               ·
                go_simp
                rfl
               refine hK.out _ _ ?_
               clear hK K
               refine done_ (done_of HT_.out (by kernel_rfl)) ?_
               try go_wp2
               (try simp only [← hl7_1])
               go_roundg kj32
               case measure => have := HK1.out; have := HJ32.out; omega
               case rel => exact ⟨(y436), ((ji75)), (x409000_1), (x409001_1), (x411000_1), (x411001_1), (by first | rfl | (simp; done) | (simp only [← hji75] <;> (first | rfl | simp)) | (simp [*]; done)), H', ⟨by have := HK1.out; have := HJ32.out; omega⟩, ⟨by (try simp only [hl7_1]); (with_reducible repeat (first | apply Kd.R_alloc | apply Kd.R_drewN | apply Kd.R_drew)); exact HQ88.out⟩, ⟨by (try simp only [hl7_1]); (with_reducible repeat (first | refine kn_ ?_ _ | refine kd_ ?_ | refine ka_ ?_ _)); refine blk_far ?_ (by have h_ := Kd.R_away HO_7.out (fun _ hk => hk.1); intro e_; exact h_ (by rw [e_]; rfl)) _; (with_reducible repeat (first | refine kn_ ?_ _ | refine kd_ ?_ | refine ka_ ?_ _)); refine blk_far ?_ (by have h_ := Kd.R_away HO_7.out (fun _ hk => hk.1); intro e_; exact h_ (by rw [e_]; rfl)) _; (with_reducible repeat (first | refine kn_ ?_ _ | refine kd_ ?_ | refine ka_ ?_ _)); refine blk_far ?_ (by have h_ := Kd.R_away HO_7.out (fun _ hk => hk.1); intro e_; exact h_ (by rw [e_]; rfl)) _; (with_reducible repeat (first | refine kn_ ?_ _ | refine kd_ ?_ | refine ka_ ?_ _)); refine blk_far ?_ (by have h_ := Kd.R_away HO_7.out (fun _ hk => hk.1); intro e_; exact h_ (by rw [e_]; rfl)) _; (with_reducible repeat (first | refine kn_ ?_ _ | refine kd_ ?_ | refine ka_ ?_ _)); exact BK408.out⟩, ⟨by (try simp only [hl7_1]); (with_reducible repeat (first | refine kn_ ?_ _ | refine kd_ ?_ | refine ka_ ?_ _)); refine blk_far ?_ (by have h_ := Kd.R_away HO_7.out (fun _ hk => hk.2); intro e_; exact h_ (by rw [e_]; rfl)) _; (with_reducible repeat (first | refine kn_ ?_ _ | refine kd_ ?_ | refine ka_ ?_ _)); refine blk_far ?_ (by have h_ := Kd.R_away HO_7.out (fun _ hk => hk.2); intro e_; exact h_ (by rw [e_]; rfl)) _; (with_reducible repeat (first | refine kn_ ?_ _ | refine kd_ ?_ | refine ka_ ?_ _)); refine blk_far ?_ (by have h_ := Kd.R_away HO_7.out (fun _ hk => hk.2); intro e_; exact h_ (by rw [e_]; rfl)) _; (with_reducible repeat (first | refine kn_ ?_ _ | refine kd_ ?_ | refine ka_ ?_ _)); refine blk_far ?_ (by have h_ := Kd.R_away HO_7.out (fun _ hk => hk.2); intro e_; exact h_ (by rw [e_]; rfl)) _; (with_reducible repeat (first | refine kn_ ?_ _ | refine kd_ ?_ | refine ka_ ?_ _)); exact BK410.out⟩, ⟨by repeat (first | (with_reducible first | exact HB.out | apply ba_ | apply bn_ | apply bd_ | refine below_set ?_ GB23.out | refine below_set ?_ GB23.out | refine below_set ?_ GB23.out | refine below_set ?_ GB23.out | refine below_set ?_ GE408.out | refine below_set ?_ GE410.out) | exact HB.out)⟩⟩
              replace c81 := Bool.eq_false_iff.mpr c81
              subst c81
              rw [if_neg (show ¬ (false = true) by decide)] at H
              simp only [Option.some.injEq, Prod.mk.injEq] at H
              obtain ⟨rfl, rfl, rfl, rfl⟩ := H
              try go_wp2
              have n0_ := Aside0.mk (Kd.R_drew HO_7.out)
              have n1_ := Aside0.mk (blk_drew BK408.out)
              have n2_ := Aside0.mk (blk_drew BK410.out)
              have n3_ := Aside0.mk (bd_ HB.out)
              clear HO_7 BK408 BK410 HB
              have HO_7 := n0_
              have BK408 := n1_
              have BK410 := n2_
              have HB := n3_
              clear n0_ n1_ n2_ n3_
              have p430 : 0 ≤ ((ji75) : Int) := of_decide_eq_true (by with_reducible assumption)
              have q430 : (ji75) < (x7_1.length : Int) := of_decide_eq_true (by with_reducible assumption)
              obtain ⟨ad430, e430, hx430_0, hx430_1⟩ := at_T25 (Kd.R_reads' HO_7.out).2.2 (ji75) p430 q430
              obtain rfl : (⟨go23, 0, none⟩ : Addr) = ad430 := (by injection e430)
              (first | simp only [add_plain] at hx430_0 | simp only [add_at] at hx430_0 | simp only [Addr.add, Nat.zero_add] at hx430_0 | skip)
              (first | simp only [add_plain] at hx430_1 | simp only [add_at] at hx430_1 | simp only [Addr.add, Nat.zero_add] at hx430_1 | skip)
              replace p430 := eq_true p430
              replace q430 := eq_true q430
              have p431 : 0 ≤ (x8_1 : Int) := of_decide_eq_true (by with_reducible assumption)
              have q431 : x8_1 < (x7_1.length : Int) := of_decide_eq_true (by with_reducible assumption)
              obtain ⟨ad431, e431, hx431_0, hx431_1⟩ := at_T25 (Kd.R_reads' HO_7.out).2.2 x8_1 p431 q431
              obtain rfl : (⟨go23, 0, none⟩ : Addr) = ad431 := (by injection e431)
              (first | simp only [add_plain] at hx431_0 | simp only [add_at] at hx431_0 | simp only [Addr.add, Nat.zero_add] at hx431_0 | skip)
              (first | simp only [add_plain] at hx431_1 | simp only [add_at] at hx431_1 | simp only [Addr.add, Nat.zero_add] at hx431_1 | skip)
              replace p431 := eq_true p431
              replace q431 := eq_true q431
              refine start_ (n := 15) (S := fun w' => w'.cell? ⟨go23, ((ji75)).toNat * 2, none⟩ = some (.int .i64 ((rd_T25 x7_1 (ji75)).f0)) ∧ w'.cell? ⟨go23, ((ji75)).toNat * 2 + 1, none⟩ = some (.int .i64 ((rd_T25 x7_1 (ji75)).f1)) ∧ w'.cell? ⟨go23, (x8_1).toNat * 2, none⟩ = some (.int .i64 ((rd_T25 x7_1 x8_1).f0)) ∧ w'.cell? ⟨go23, (x8_1).toNat * 2 + 1, none⟩ = some (.int .i64 ((rd_T25 x7_1 x8_1).f1))) (ds := []) #[f_,f_,f_,f_,f_,f_,f_,f_,f_,f_,f_,f_,f_,f_,f_] (by kernel_rfl) rfl rfl ⟨hx430_0, hx430_1, hx431_0, hx431_1⟩ (fun hHeld => ?_); refine with_tabW impl_HeapTake.tab13 impl_HeapTake.bits13 (fun HT_ HW_ => ?_)
              generalize wc.drew = w89 at HO_7 BK408 BK410 HB hx430_0 hx430_1 hx431_0 hx431_1 hHeld ⊢
              refine pu_ 0 55 ?_ (b_ 1 14) rfl rfl HT_.out ?_ ?_ ?_ ?_; rotate_left; intro w'; go_simp; with_reducible rfl; rotate_left; simp only [fr_]; rfl
              refine pu_ 1 56 ?_ (b_ 2 13) rfl rfl HT_.out ?_ ?_ ?_ ?_; rotate_left; intro w'; go_simp; with_reducible rfl; rotate_left; simp only [fr_]; rfl
              refine pu_ 2 57 ?_ (b_ 3 12) rfl rfl HT_.out ?_ ?_ ?_ ?_; rotate_left; intro w'; go_simp; with_reducible rfl; rotate_left; simp only [fr_]; rfl
              refine pu_ 3 58 ?_ (b_ 4 11) rfl rfl HT_.out ?_ ?_ ?_ ?_; rotate_left; intro w'; go_simp; with_reducible rfl; rotate_left; simp only [fr_]; rfl
              refine pu_ 4 59 ?_ (b_ 5 10) rfl rfl HT_.out ?_ ?_ ?_ ?_; rotate_left; intro w'; go_simp; with_reducible rfl; rotate_left; simp only [fr_]; rfl
              refine pu_ 5 60 ?_ (b_ 6 9) rfl rfl HT_.out ?_ ?_ ?_ ?_; rotate_left; intro w'; go_simp; with_reducible rfl; rotate_left; simp only [fr_]; rfl
              refine pu_ 6 61 ?_ (b_ 7 8) rfl rfl HT_.out ?_ ?_ ?_ ?_; rotate_left; intro w'; go_simp; with_reducible rfl; rotate_left; simp only [fr_]; rfl
              refine pu_ 8 63 ?_ #[t_,t_,t_,t_,t_,t_,t_,f_,t_,f_,f_,f_,f_,f_,f_] rfl rfl HT_.out ?_ ?_ ?_ ?_; rotate_left; intro w'; go_simp; with_reducible rfl; rotate_left; simp only [fr_]; rfl
              refine pu_ 9 64 ?_ #[t_,t_,t_,t_,t_,t_,t_,f_,t_,t_,f_,f_,f_,f_,f_] rfl rfl HT_.out ?_ ?_ ?_ ?_; rotate_left; intro w'; go_simp; with_reducible rfl; rotate_left; simp only [fr_]; rfl
              refine pu_ 10 65 ?_ #[t_,t_,t_,t_,t_,t_,t_,f_,t_,t_,t_,f_,f_,f_,f_] rfl rfl HT_.out ?_ ?_ ?_ ?_; rotate_left; intro w'; go_simp; with_reducible rfl; rotate_left; simp only [fr_]; rfl
              refine take_ (i := 7) (N := some 62) (v := ?_) (a' := ?_) #[t_,t_,t_,t_,t_,t_,t_,t_,t_,t_,t_,f_,f_,f_,f_] rfl rfl (take_ofW HT_.out HW_.out (by kernel_rfl)) (fun _ _ _ h => h) (Or.inl ⟨by rfl, ?_⟩) hHeld ?_ ?_
              rotate_left
              ·
               rintro w' ⟨s0, s1, s2, s3⟩
               go_simp
               with_reducible rfl
              rotate_left
              ·
               simp only [fr_]
               rfl
              refine take_ (i := 11) (N := some 66) (v := ?_) (a' := ?_) #[t_,t_,t_,t_,t_,t_,t_,t_,t_,t_,t_,t_,f_,f_,f_] rfl rfl (take_ofW HT_.out HW_.out (by kernel_rfl)) (fun _ _ _ h => h) (Or.inl ⟨by rfl, ?_⟩) hHeld ?_ ?_
              rotate_left
              ·
               rintro w' ⟨s0, s1, s2, s3⟩
               go_simp
               with_reducible rfl
              rotate_left
              ·
               simp only [fr_]
               rfl
              refine one_ (i := 12) (N := some 67) #[t_,t_,t_,t_,t_,t_,t_,t_,t_,t_,t_,t_,t_,f_,f_] rfl rfl (one_of HT_.out (by kernel_rfl)) (by decide) (fun K hK => ?_)
              refine goes_ Try.func16 (by kernel_rfl) rfl #[.agg #[.int .i64 ((rd_T25 x7_1 (ji75)).f0), .int .i64 ((rd_T25 x7_1 (ji75)).f1)], .agg #[.int .i64 ((rd_T25 x7_1 x8_1).f0), .int .i64 ((rd_T25 x7_1 x8_1).f1)]] (by rfl) rfl rfl (by (try simp only [mp_]); first | done | (simp only [hji75]; rfl) | rfl | (simp only [List.length_drop, List.length_take]; rfl)) ?_
              with_reducible refine (impl_Before.calls ((rd_T25 x7_1 (ji75)).f0) ((rd_T25 x7_1 (ji75)).f1) ((rd_T25 x7_1 x8_1).f0) ((rd_T25 x7_1 x8_1).f1) false _ A80.out).mono ?_
              rintro e w90 ⟨rfl, hb⟩
              have HS0_ := (hb.cell (World.block_lt_of_cell? _ _ (hHeld.1))).trans (hHeld.1)
              have HS1_ := (hb.cell (World.block_lt_of_cell? _ _ (hHeld.2.1))).trans (hHeld.2.1)
              have HS2_ := (hb.cell (World.block_lt_of_cell? _ _ (hHeld.2.2.1))).trans (hHeld.2.2.1)
              have HS3_ := (hb.cell (World.block_lt_of_cell? _ _ (hHeld.2.2.2))).trans (hHeld.2.2.2)
              refine ⟨_, rfl, ?_⟩
              have n0_ := Aside0.mk (Kd.R_below (rp_ HO_7.out) hb)
              have n1_ := Aside0.mk (bb_ BK408.out hb)
              have n2_ := Aside0.mk (bb_ BK410.out hb)
              have n3_ := Aside0.mk (below_step (by repeat (first | (with_reducible first | exact HB.out | apply ba_ | apply bn_ | apply bd_ | refine below_set ?_ GE408.out | refine below_set ?_ GE410.out) | exact HB.out)) hb)
              clear HO_7 BK408 BK410 HB
              have HO_7 := n0_
              have BK408 := n1_
              have BK410 := n2_
              have HB := n3_
              clear n0_ n1_ n2_ n3_
              (try clear hb)
              (try clear hb2)
              (try clear hk)
              (try clear hi)
              refine hK.out _ _ ⟨HS0_, HS1_, HS2_, HS3_⟩ (fun hHeld => ?_)
              clear hK K
              refine norm_ (a' := ?_) ?_ ?_
              rotate_left
              ·
               show Act.put _ (some 67) _ = _
               simp only [fr_]
               rfl
              refine pu_ 13 68 ?_ (b_ 14 1) rfl rfl HT_.out ?_ ?_ ?_ ?_; rotate_left; intro w'; go_simp; with_reducible rfl; rotate_left; simp only [fr_]; rfl
              refine pu_ 14 69 ?_ (b_ 15 0) rfl rfl HT_.out ?_ ?_ ?_ ?_; rotate_left; intro w'; go_simp; with_reducible rfl; rotate_left; simp only [fr_]; rfl
              refine done_ (done_of HT_.out (by kernel_rfl)) ?_
              try go_wp2
              have n0_ := Aside0.mk (Kd.R_drew HO_7.out)
              have n1_ := Aside0.mk (blk_drew BK408.out)
              have n2_ := Aside0.mk (blk_drew BK410.out)
              have n3_ := Aside0.mk (bd_ HB.out)
              clear HO_7 BK408 BK410 HB
              have HO_7 := n0_
              have BK408 := n1_
              have BK410 := n2_
              have HB := n3_
              clear n0_ n1_ n2_ n3_
              refine start_ (n := 5) (S := fun w' => w'.cell? ⟨gb410, 0, none⟩ = some (.int .i64 x411000_1) ∧ w'.cell? ⟨gb410, 1, none⟩ = some (.int .i64 x411001_1)) (ds := []) #[f_,f_,f_,f_,f_] (by kernel_rfl) rfl rfl ⟨bx_ BK410.out 0, bx_ BK410.out 1⟩ (fun hHeld => ?_)
              generalize w90.drew = w91 at HO_7 BK408 BK410 HB hHeld ⊢
              refine pure_ (i := 0) (N := some 70) (v := ?_) (a' := ?_) #[t_,f_,f_,f_,f_] rfl rfl (by kernel_rfl) (fun _ _ _ h => h) (Or.inl ⟨by rfl, ?_⟩) ?_ ?_
              rotate_left
              ·
               intro w'
               go_simp
               with_reducible rfl
              rotate_left
              ·
               simp only [fr_]
               rfl
              refine pure_ (i := 2) (N := some 2) (v := ?_) (a' := ?_) #[t_,f_,t_,f_,f_] rfl rfl (by kernel_rfl) (fun _ _ _ h => h) (Or.inl ⟨by rfl, ?_⟩) ?_ ?_
              rotate_left
              ·
               intro w'
               go_simp
               with_reducible rfl
              rotate_left
              ·
               simp only [fr_]
               rfl
              refine take_ (i := 1) (N := some 71) (v := ?_) (a' := ?_) #[t_,t_,t_,f_,f_] rfl rfl (by kernel_rfl) (fun _ _ _ h => h) (Or.inl ⟨by rfl, ?_⟩) hHeld ?_ ?_
              rotate_left
              ·
               rintro w' ⟨s0, s1⟩
               go_simp
               with_reducible rfl
              rotate_left
              ·
               simp only [fr_]
               rfl
              refine one_ (i := 3) (N := none) #[t_,t_,t_,t_,f_] rfl rfl (by kernel_rfl) (by decide) (fun K hK => ?_)
              have hs92 : w91.cell? ⟨gb408, 0, none⟩ = some (.int .i64 x409000_1) := bx_ BK408.out 0
              have hfs92 := blk_frozen BK408.out 0
              have hns92_1 := NB410_408.out
              have hms92_1 := NB408_410.out
              have hs93 : w91.cell? ⟨gb408, 1, none⟩ = some (.int .i64 x409001_1) := bx_ BK408.out 1
              have hfs93 := blk_frozen BK408.out 1
              have hns93_1 := NB410_408.out
              have hms93_1 := NB408_410.out
              refine skip_ (w1 := ?_) (by rfl) rfl ?_ ?_
              rotate_left
              ·
               go_simp
               rfl
              refine hK.out _ _ ⟨((cell_far (p := ⟨gb408, _, none⟩) NB410_408.out _).trans (((cell_far (p := ⟨gb408, _, none⟩) NB410_408.out _).trans (hHeld.1)))), ((cell_far (p := ⟨gb408, _, none⟩) NB410_408.out _).trans (((cell_far (p := ⟨gb408, _, none⟩) NB410_408.out _).trans (hHeld.2))))⟩ (fun hHeld => ?_)
              clear hK K
              refine pure_ (i := 4) (N := some 4) (v := ?_) (a' := ?_) #[t_,t_,t_,t_,t_] rfl rfl (by kernel_rfl) (fun _ _ _ h => h) (Or.inl ⟨by rfl, ?_⟩) ?_ ?_
              rotate_left
              ·
               intro w'
               go_simp
               with_reducible rfl
              rotate_left
              ·
               simp only [fr_]
               rfl
              refine done_ (by kernel_rfl) ?_
              try go_wp2
              refine bodyPost_ret (results_list (rs := [.tmp 2, .cell 3 25, .tmp 4]) rfl (by simp) (.tmp (.cell gb408 25 #[.int .i64 x411000_1, .int .i64 x411001_1] (0, 0) _ rfl (by (with_reducible repeat (first | refine kn_ ?_ _ | refine kd_ ?_ | refine ka_ ?_ _)); refine blk_put (cs := #[.int .i64 x411000_1, .int .i64 x409001_1]) ?_ 1 _ rfl; (with_reducible repeat (first | refine kn_ ?_ _ | refine kd_ ?_ | refine ka_ ?_ _)); refine blk_put (cs := #[.int .i64 x409000_1, .int .i64 x409001_1]) ?_ 0 _ rfl; (with_reducible repeat (first | refine kn_ ?_ _ | refine kd_ ?_ | refine ka_ ?_ _)); exact BK408.out) Try.underlying25 rfl (by kernel_rfl) (.tmp .nil)))) rfl ?_
              exact ⟨_, by first | rfl | (simp [errW_none, errW_some] <;> rfl) | (simp only [← hji6, ← hji75]; first | rfl | (simp [errW_none, errW_some] <;> rfl)) | (simp [*, errW_none, errW_some] <;> rfl), by (with_reducible repeat (first | apply Kd.R_alloc | apply Kd.R_drewN | apply Kd.R_drew)); exact Kd.R_mono (Kd.R_far (p := ⟨gb408, 1, none⟩) (Kd.R_far (p := ⟨gb408, 0, none⟩) (Kd.R_mono HO_7.out (fun k_ hk => (⟨hk, hk.1⟩ : _ ∧ k_ ≠ gb408))) (fun _ hk => hk.2) (.int .i64 x411000_1)) (fun _ hk => hk.2) (.int .i64 x411001_1)) (fun _ hk => trivial), by repeat (first | (with_reducible first | exact HB.out | apply ba_ | apply bn_ | apply bd_ | refine below_set ?_ GE408.out | refine below_set ?_ GE410.out) | exact HB.out)⟩
             rw [if_neg c79] at H
             exact absurd H (by simp)
            rw [if_neg c78] at H
            exact absurd H (by simp)
           rw [if_neg c77] at H
           exact absurd H (by simp)
          rw [if_neg c76] at H
          exact absurd H (by simp)
     rw [if_neg c22] at H
     exact absurd H (by simp)
    rw [if_neg c21] at H
    exact absurd H (by simp)
   rw [if_neg c8] at H
   exact absurd H (by simp)
  rw [if_neg c7] at H
  exact absurd H (by simp)
 rw [if_neg c5] at H
 exact absurd H (by simp)
def laws_big.f (l0 : List Int) : Option (Bool) := some (decide ((l0.length : Int) > 1048576))
theorem laws_big.calls (A0 : Option Addr) (c0 : Nat) (l0 : List Int) (r : Bool) (w : World) (hr0 : Kd.C (Kd.int .u8) w A0 l0.length l0) (hc0 : l0.length ≤ c0) (h : laws_big.f l0 = some r) :
  Calls Try.prog 36 #[.slice A0 l0.length c0] w fun e w' => e = .returned (.bool r) ∧ Drawn0 w w' := by
 have HR0 := Aside0.mk hr0
 have HC0 := Aside0.mk hc0
 clear hr0 hc0
 have H : (some (decide ((l0.length : Int) > 1048576))) = some r := h
 clear h
 obtain rfl := Option.some.inj H
 go_enter Try.func36, Try.ntmps36
 go_wp2
 go_ret
 exact ⟨by first | rfl | (simp; done) | (simp [*]; done), by repeat (first | exact Drawn0.refl _ | apply Drawn0.step)⟩
def impl_Sorted.l0 : Nat → List (S25) → List (S25) → Option ((List (S25)))
 | 0, _, _ => none
 | k + 1, x0, x3 => (impl_HeapTake.f k x0).bind fun bt534 => (if bt534.2.2.2 = true then (if x3.length < 8796093022208 then (impl_Sorted.l0 k bt534.1 (x3 ++ [(⟨bt534.2.1, bt534.2.2.1⟩ : S25)])) else (none)) else (some x3))
def impl_Sorted.f (k : Nat) (l0 : List (S25)) : Option ((List (S25))) := impl_Sorted.l0 k l0 ([] : List (S25))
theorem impl_Sorted.mono_l : ∀ k, (∀ y0 y1, LeO (impl_Sorted.l0 k y0 y1) (impl_Sorted.l0 (k + 1) y0 y1))
 | 0 => fun _ _ r h => by simp [impl_Sorted.l0] at h
 | k + 1 => by
  have ih0 := impl_Sorted.mono_l k
  intro y0 y1
  unfold impl_Sorted.l0
  repeat' first
  | (with_reducible exact ih0 _ _)
  | (with_reducible exact impl_HeapTake.mono _ _)
  | (with_reducible exact LeO.refl _)
  | (with_reducible exact LeO.none _)
  | (with_reducible refine LeO.ite ?_ ?_)
  | (with_reducible refine LeO.bind ?_ (fun _ => ?_))
  | exact ih0 _ _
  | exact impl_HeapTake.mono _ _
theorem impl_Sorted.mono : ∀ a0 k, LeO (impl_Sorted.f k a0) (impl_Sorted.f (k + 1) a0) := by
 intro a0 k
 have ih0 := impl_Sorted.mono_l k
 unfold impl_Sorted.f
 repeat' first
   | (with_reducible exact ih0 _ _)
   | (with_reducible exact impl_HeapTake.mono _ _)
   | (with_reducible exact LeO.refl _)
   | (with_reducible exact LeO.none _)
   | (with_reducible refine LeO.ite ?_ ?_)
   | (with_reducible refine LeO.bind ?_ (fun _ => ?_))
   | exact ih0 _ _
   | exact impl_HeapTake.mono _ _
theorem impl_Sorted.calls (k : Nat) (P0_ : Nat → Prop) (A0 : Option Addr) (c0 : Nat) (l0 : List (S25)) (r : List (S25)) (w : World) (hs0 : Kd.V k25 25 w w.heap.size (fun k_ => P0_ k_) (.slice A0 l0.length c0) l0) (h : impl_Sorted.f k l0 = some r) :
  Calls Try.prog 38 #[.slice A0 l0.length c0] w fun e w' => ∃ v0_ : Value, e = .returned (v0_) ∧ Kd.R k25 25 w' w.heap.size (fun k_ => (w.heap.size ≤ k_)) v0_ r ∧ Below w.heap.size w w' := by
 have hu25 := Try.underlying25
 have HO0 := Aside0.mk (show Kd.V k25 25 w w.heap.size (fun k_ => (P0_ k_ ∨ w.heap.size ≤ k_)) (.slice A0 l0.length c0) l0 from Kd.V_mono hs0 (fun k_ hk => .inl hk))
 have HB := Aside0.mk (Below.refl w.heap.size w)
 have H : (impl_Sorted.l0 k l0 ([] : List (S25))) = some r := h
 clear h
 have H' := Aside0.mk H
 clear H
 go_enter Try.func38, Try.ntmps38
 go_wp2
 go_loopg [0, 3] k (fun kq v0 v3 w' => ∃ (x0_1 : List (S25)) (x3_1 : List (S25)), Aside0 (impl_Sorted.l0 kq x0_1 x3_1 = some r) ∧ Aside0 (kq ≤ k) ∧ Aside0 (Kd.V k25 25 w' w.heap.size (fun k_ => (P0_ k_ ∨ w.heap.size ≤ k_) ∧ some k_ ≠ (v3 : Value).ownBlock) v0 x0_1) ∧ Aside0 (Kd.R k25 25 w' w.heap.size (fun k_ => (w.heap.size ≤ k_)) v3 x3_1) ∧ Aside0 (Below w.heap.size w w'))
 case atStart => exact ⟨(l0), (([] : List (S25))), H', ⟨Nat.le_refl _⟩, ⟨by (with_reducible repeat (first | apply Kd.V_alloc | apply Kd.V_drewN | apply Kd.V_drew)); exact Kd.V_mono HO0.out (fun _ hk => ⟨hk, (by simp [Value.ownBlock])⟩)⟩, ⟨by first | exact Kd.R_nil _ _ _ _ _ | exact Kd.N_nil _ _ _ _ _ | exact Kd.V_nil _ _ _ _ _ | exact Kd.Q_nil _ _ _ _ _ | exact Kd.S_nil _ _ _ _ _⟩, ⟨by repeat (first | (with_reducible first | exact HB.out | apply ba_ | apply bn_ | apply bd_) | exact HB.out)⟩⟩
 case round =>
  clear H'
  obtain ⟨x0_1, x3_1, HA, HK1, HO_0, HO_3, HB⟩ := hrel
  cases gk with
  | zero => exact absurd HA.out (by simp [impl_Sorted.l0])
  | succ k1 =>
   have H := HA.out
   clear HA
   simp only [impl_Sorted.l0] at H
   replace H := Option.bind_eq_some_iff.mp H
   obtain ⟨⟨t534, t537, t538, t539⟩, A20, H⟩ := H
   have A2 := Aside0.mk A20
   clear A20
   by_cases c3 : t539 = true
   ·
    subst c3
    rw [if_pos rfl] at H
    by_cases c4 : x3_1.length < 8796093022208
    ·
     rw [if_pos c4] at H
     have LMc4 := Aside0.mk c4
     clear c4
     obtain ⟨y541, hy541⟩ : ∃ y_ : List (S25), y_ = (x3_1 ++ [(⟨t537, t538⟩ : S25)]) := ⟨_, rfl⟩
     replace H : (impl_Sorted.l0 k1 t534 y541) = some r := by first | (rw [hy541]; with_reducible exact H) | (have H2_ := (Option.bind_some _ _).symm.trans H; rw [hy541]; with_reducible exact H2_) | (have H2_ := (Option.bind_some _ _).symm.trans H; with_reducible exact H2_) | with_reducible exact H | (rw [hy541]; exact H) | exact H
     have Ny541 := Aside0.mk hy541
     clear hy541
     have H' := Aside0.mk H
     clear H
     obtain ⟨Ao5, co5, eo5⟩ := Kd.V_slice HO_0.out
     subst eo5
     go_wp2_with (first | ((with_reducible refine gate_callee (f := 34) rfl ?_); refine goesL_ (some 9) rfl rfl Try.func34 (by kernel_rfl) rfl #[.slice Ao5 x0_1.length co5] rfl (by (try simp only [mp_]); first | done | rfl | (simp only [List.length_drop, List.length_take]; rfl)) ?_; (with_reducible refine (impl_HeapTake.calls k1 _ _ x0_1 t534 t537 t538 true _ ?side1 ?side2 A2.out).mono ?_); (case side1 => repeat (first | exact (Kd.V_reads' HO_0.out).2.2 | (with_reducible first | refine ca_ ?_ _ | refine cn_ ?_ _ | refine cd_ ?_))); (case side2 => exact (Kd.V_reads' HO_0.out).2.1); rintro e w6 ⟨v535, rfl, ho0, hb⟩; refine ⟨_, rfl, ?_⟩; have n0_ := Aside0.mk (Kd.V_elder' (by (with_reducible repeat (first | apply Kd.V_alloc | apply Kd.V_drewN | apply Kd.V_drew)); exact HO_0.out) (Kd.R_base ho0) hb); have n1_ := Aside0.mk (Kd.R_elder' (rp_ HO_3.out) (Kd.R_base ho0) hb); have HO536 := Aside0.mk (Kd.R_lower (Kd.R_new' (Kd.R_newM (M := fun k_ => (w.heap.size ≤ k_)) ho0 (below_size (by repeat (first | (with_reducible first | exact HB.out | apply ba_ | apply bn_ | apply bd_) | exact HB.out))) (fun k_ h_ => h_)) (Kd.R_lt (rp_ HO_3.out))) (below_size (by repeat (first | (with_reducible first | exact HB.out | apply ba_ | apply bn_ | apply bd_) | exact HB.out)))); have n3_ := Aside0.mk (below_step (by repeat (first | (with_reducible first | exact HB.out | apply ba_ | apply bn_ | apply bd_) | exact HB.out)) hb); clear HO_0 HO_3 HB; have HO_0 := n0_; have HO_3 := n1_; have HB := n3_; clear n0_ n1_ n3_; (try clear hb); (try clear hb2); (try clear hk); (try clear hi); (try clear ho0)) | ((with_reducible refine gate_dst (N := 5) rfl ?_); refine box_event ?hg (N := 5) ?hd (cs := #[.int .i64 0, .int .i64 0]) (t := 25) ?hr ?_; (case hd => rfl); (case hg => rfl); (case hr => first | (go_simp; done) | (go_simp; rfl)); intro gb540 hg w7 hbox hb; have n0_ := Aside0.mk (Kd.V_below (Kd.V_elderB (by (with_reducible repeat (first | apply Kd.V_alloc | apply Kd.V_drewN | apply Kd.V_drew)); exact HO_0.out) gb540 (Nat.le_of_eq hg.symm)) hb); have n1_ := Aside0.mk (Kd.R_below (Kd.R_elderB (rp_ HO_3.out) gb540 (Nat.le_of_eq hg.symm)) hb); have n2_ := Aside0.mk (Kd.R_below (Kd.R_elderB (rp_ HO536.out) gb540 (Nat.le_of_eq hg.symm)) hb); have n3_ := Aside0.mk (below_step (by repeat (first | (with_reducible first | exact HB.out | apply ba_ | apply bn_ | apply bd_) | exact HB.out)) hb); have BK540 := Aside0.mk (hbox); have GW540 := Aside0.mk ((by rw [hg]; exact (below_size (by repeat (first | (with_reducible first | exact HB.out | apply ba_ | apply bn_ | apply bd_) | exact HB.out))) : w.heap.size ≤ gb540)); have GE540 := GW540; clear HO_0 HO_3 HO536 HB; have HO_0 := n0_; have HO_3 := n1_; have HO536 := n2_; have HB := n3_; clear n0_ n1_ n2_ n3_; clear hb hbox hg; obtain ⟨hcz8_0, hcz8_1, hfz8_0, hfz8_1⟩ := bc2_ BK540.out) | ((with_reducible refine gate_builtin (b := .append) (xs := #[.tmp 16, .tmp 18]) rfl ?_); at_builtin; refine Kd.R_append k25 (w0 := w) w.heap.size rfl (.tmp 16) (.tmp 18) 31 25 (.agg #[(.int .i64 0), (.int .i64 0)]) 16 rfl Try.underlying31 info25 rfl (by decide) (by omega) u3 x3_1 (⟨t537, t538⟩ : S25) [.int .i64 t537, .int .i64 t538] (fun k_ => (w.heap.size ≤ k_) ∧ some k_ ≠ (v535 : Value).ownBlock ∧ k_ ≠ gb540) (fun _ => False) rfl (by first | (go_simp; done) | (go_simp; rfl)) ?aP (fun _ hk => hk.elim) ?aF ?aO ?aB ?aS ?aL ?_; (case aP => exact k25_mkM _ _ _ (⟨t537, t538⟩ : S25)); (case aB => exact (by repeat (first | (with_reducible first | exact HB.out | apply ba_ | apply bn_ | apply bd_ | refine below_set ?_ GE540.out) | exact HB.out))); (case aF => exact (fun k_ hk => ⟨(Nat.le_trans (below_size (by repeat (first | (with_reducible first | exact HB.out | apply ba_ | apply bn_ | apply bd_ | refine below_set ?_ GE540.out) | exact HB.out))) hk), Kd.fresh' (Kd.R_lt (by (with_reducible repeat (first | apply Kd.R_alloc | apply Kd.R_drewN | apply Kd.R_drew)); exact (Kd.R_mono (Kd.R_far (p := ⟨gb540, 1, none⟩) (Kd.R_far (p := ⟨gb540, 0, none⟩) (Kd.R_mono HO536.out (fun k_ hk => (⟨hk, hk.2⟩ : _ ∧ k_ ≠ gb540))) (fun _ hk => hk.2) (.int .i64 t537)) (fun _ hk => hk.2) (.int .i64 t538)) (fun _ h_ => h_.1)))) k_ hk, Kd.freshB (g := gb540) (o := .cells #[.int .i64 t537, .int .i64 t538] 25 (0, 0)) (by (with_reducible repeat (first | refine kn_ ?_ _ | refine kd_ ?_ | refine ka_ ?_ _)); refine blk_put (cs := #[.int .i64 t537, .int .i64 0]) ?_ 1 _ rfl; (with_reducible repeat (first | refine kn_ ?_ _ | refine kd_ ?_ | refine ka_ ?_ _)); refine blk_put (cs := #[.int .i64 0, .int .i64 0]) ?_ 0 _ rfl; (with_reducible repeat (first | refine kn_ ?_ _ | refine kd_ ?_ | refine ka_ ?_ _)); exact BK540.out) k_ hk⟩)); (case aO => exact (by (with_reducible repeat (first | apply Kd.R_alloc | apply Kd.R_drewN | apply Kd.R_drew)); exact Kd.R_mono (Kd.R_far (p := ⟨gb540, 1, none⟩) (Kd.R_far (p := ⟨gb540, 0, none⟩) (Kd.R_mono HO_3.out (fun k_ hk => (⟨hk, hk.2⟩ : _ ∧ k_ ≠ gb540))) (fun _ hk => hk.2) (.int .i64 t537)) (fun _ hk => hk.2) (.int .i64 t538)) (fun _ hk => ⟨hk.1.1.1, ⟨hk.1.1.2, hk.1.2⟩⟩))); (case aS => exact (below_size (by repeat (first | (with_reducible first | exact HB.out | apply ba_ | apply bn_ | apply bd_ | refine below_set ?_ GE540.out) | exact HB.out)))); (case aL => have := LMc4.out; omega); intro v542 w9 ho hb hg hat; rw [← Ny541.out] at ho; have n0_ := Aside0.mk (Kd.V_afterv (ok := (fun k_ => (P0_ k_ ∨ w.heap.size ≤ k_) ∧ some k_ ≠ (v535 : Value).ownBlock ∧ k_ ≠ gb540)) (by (with_reducible repeat (first | apply Kd.V_alloc | apply Kd.V_drewN | apply Kd.V_drew)); exact Kd.V_mono (Kd.V_far (p := ⟨gb540, 1, none⟩) (Kd.V_far (p := ⟨gb540, 0, none⟩) (Kd.V_mono HO_0.out (fun k_ hk => (⟨hk, hk.2⟩ : _ ∧ k_ ≠ gb540))) (fun _ hk => hk.2) (.int .i64 t537)) (fun _ hk => hk.2) (.int .i64 t538)) (fun _ hk => ⟨⟨hk.1.1.1.1, ⟨hk.1.1.2, hk.1.2⟩⟩, hk.1.1.1.2⟩)) hg hat); have n1_ := Aside0.mk (Kd.R_after (ok := (fun k_ => (w.heap.size ≤ k_) ∧ k_ ≠ gb540)) (by (with_reducible repeat (first | apply Kd.R_alloc | apply Kd.R_drewN | apply Kd.R_drew)); exact Kd.R_mono (Kd.R_far (p := ⟨gb540, 1, none⟩) (Kd.R_far (p := ⟨gb540, 0, none⟩) (Kd.R_mono HO536.out (fun k_ hk => (⟨hk, hk.2⟩ : _ ∧ k_ ≠ gb540))) (fun _ hk => hk.2) (.int .i64 t537)) (fun _ hk => hk.2) (.int .i64 t538)) (fun _ hk => ⟨⟨hk.1.1.1.1, hk.1.2⟩, hk.1.1.2⟩)) hg hat); have n2_ := Aside0.mk (blk_grown (g := gb540) (o := .cells #[.int .i64 t537, .int .i64 t538] 25 (0, 0)) (by (with_reducible repeat (first | refine kn_ ?_ _ | refine kd_ ?_ | refine ka_ ?_ _)); refine blk_put (cs := #[.int .i64 t537, .int .i64 0]) ?_ 1 _ rfl; (with_reducible repeat (first | refine kn_ ?_ _ | refine kd_ ?_ | refine ka_ ?_ _)); refine blk_put (cs := #[.int .i64 0, .int .i64 0]) ?_ 0 _ rfl; (with_reducible repeat (first | refine kn_ ?_ _ | refine kd_ ?_ | refine ka_ ?_ _)); exact BK540.out) hg (Kd.R_away HO_3.out (fun _ hk => hk.2))); have n3_ := Aside0.mk (hb); have n4_ := Aside0.mk (ho); clear HO_0 HO536 BK540 HB HO_3; have HO_0 := n0_; have HO536 := n1_; have BK540 := n2_; have HB := n3_; have HO543 := n4_; clear n0_ n1_ n2_ n3_ n4_; clear ho hb hg hat))
     go_roundg k1
     case measure => have := HK1.out; omega
     case rel => exact ⟨(t534), (y541), H', ⟨by have := HK1.out; omega⟩, ⟨Kd.V_mono (Kd.R_V (by (with_reducible repeat (first | apply Kd.R_alloc | apply Kd.R_drewN | apply Kd.R_drew)); exact Kd.R_mono HO536.out (fun _ hk => And.intro hk.1.1 hk.2))) (fun k_ hk => by first | exact ⟨(.inr (hk.1)), hk.2⟩ | exact (.inr (hk)))⟩, ⟨by (with_reducible repeat (first | apply Kd.R_alloc | apply Kd.R_drewN | apply Kd.R_drew)); exact Kd.R_mono HO543.out (fun _ hk => hk.1)⟩, ⟨by repeat (first | (with_reducible first | exact HB.out | apply ba_ | apply bn_ | apply bd_ | refine below_set ?_ GE540.out) | exact HB.out)⟩⟩
    rw [if_neg c4] at H
    exact absurd H (by simp)
   replace c3 := Bool.eq_false_iff.mpr c3
   subst c3
   rw [if_neg (show ¬ (false = true) by decide)] at H
   obtain rfl := Option.some.inj H
   obtain ⟨Ao10, co10, eo10⟩ := Kd.V_slice HO_0.out
   subst eo10
   go_wp2_with (first | ((with_reducible refine gate_callee (f := 34) rfl ?_); refine goesL_ (some 9) rfl rfl Try.func34 (by kernel_rfl) rfl #[.slice Ao10 x0_1.length co10] rfl (by (try simp only [mp_]); first | done | rfl | (simp only [List.length_drop, List.length_take]; rfl)) ?_; (with_reducible refine (impl_HeapTake.calls k1 _ _ x0_1 t534 t537 t538 false _ ?side1 ?side2 A2.out).mono ?_); (case side1 => repeat (first | exact (Kd.V_reads' HO_0.out).2.2 | (with_reducible first | refine ca_ ?_ _ | refine cn_ ?_ _ | refine cd_ ?_))); (case side2 => exact (Kd.V_reads' HO_0.out).2.1); rintro e w11 ⟨v535, rfl, ho0, hb⟩; refine ⟨_, rfl, ?_⟩; have n0_ := Aside0.mk (Kd.V_elder' (by (with_reducible repeat (first | apply Kd.V_alloc | apply Kd.V_drewN | apply Kd.V_drew)); exact HO_0.out) (Kd.R_base ho0) hb); have n1_ := Aside0.mk (Kd.R_elder' (rp_ HO_3.out) (Kd.R_base ho0) hb); have HO536 := Aside0.mk (Kd.R_lower (Kd.R_new' (Kd.R_newM (M := fun k_ => (w.heap.size ≤ k_)) ho0 (below_size (by repeat (first | (with_reducible first | exact HB.out | apply ba_ | apply bn_ | apply bd_) | exact HB.out))) (fun k_ h_ => h_)) (Kd.R_lt (rp_ HO_3.out))) (below_size (by repeat (first | (with_reducible first | exact HB.out | apply ba_ | apply bn_ | apply bd_) | exact HB.out)))); have n3_ := Aside0.mk (below_step (by repeat (first | (with_reducible first | exact HB.out | apply ba_ | apply bn_ | apply bd_) | exact HB.out)) hb); clear HO_0 HO_3 HB; have HO_0 := n0_; have HO_3 := n1_; have HB := n3_; clear n0_ n1_ n3_; (try clear hb); (try clear hb2); (try clear hk); (try clear hi); (try clear ho0)) | ((with_reducible refine gate_dst (N := 5) rfl ?_); refine box_event ?hg (N := 5) ?hd (cs := #[.int .i64 0, .int .i64 0]) (t := 25) ?hr ?_; (case hd => rfl); (case hg => rfl); (case hr => first | (go_simp; done) | (go_simp; rfl)); intro gb540 hg w12 hbox hb; have n0_ := Aside0.mk (Kd.V_below (Kd.V_elderB (by (with_reducible repeat (first | apply Kd.V_alloc | apply Kd.V_drewN | apply Kd.V_drew)); exact HO_0.out) gb540 (Nat.le_of_eq hg.symm)) hb); have n1_ := Aside0.mk (Kd.R_below (Kd.R_elderB (rp_ HO_3.out) gb540 (Nat.le_of_eq hg.symm)) hb); have n2_ := Aside0.mk (Kd.R_below (Kd.R_elderB (rp_ HO536.out) gb540 (Nat.le_of_eq hg.symm)) hb); have n3_ := Aside0.mk (below_step (by repeat (first | (with_reducible first | exact HB.out | apply ba_ | apply bn_ | apply bd_) | exact HB.out)) hb); have BK540 := Aside0.mk (hbox); have GW540 := Aside0.mk ((by rw [hg]; exact (below_size (by repeat (first | (with_reducible first | exact HB.out | apply ba_ | apply bn_ | apply bd_) | exact HB.out))) : w.heap.size ≤ gb540)); have GE540 := GW540; clear HO_0 HO_3 HO536 HB; have HO_0 := n0_; have HO_3 := n1_; have HO536 := n2_; have HB := n3_; clear n0_ n1_ n2_ n3_; clear hb hbox hg; obtain ⟨hcz13_0, hcz13_1, hfz13_0, hfz13_1⟩ := bc2_ BK540.out))
   go_ret
   exact ⟨_, by first | rfl | (simp [errW_none, errW_some] <;> rfl) | (simp [*, errW_none, errW_some] <;> rfl), by (with_reducible repeat (first | apply Kd.R_alloc | apply Kd.R_drewN | apply Kd.R_drew)); exact Kd.R_mono (Kd.R_far (p := ⟨gb540, 1, none⟩) (Kd.R_far (p := ⟨gb540, 0, none⟩) (Kd.R_mono HO_3.out (fun k_ hk => (⟨hk, hk.2⟩ : _ ∧ k_ ≠ gb540))) (fun _ hk => hk.2) (.int .i64 t537)) (fun _ hk => hk.2) (.int .i64 t538)) (fun _ hk => hk.1.1.1), by repeat (first | (with_reducible first | exact HB.out | apply ba_ | apply bn_ | apply bd_ | refine below_set ?_ GE540.out) | exact HB.out)⟩
end Go.Proofs.Ytkjakmbmnbjpbaa.Print
end
section
namespace Go.Proofs.Ytkjakmbmnbjpbaa.Print
open Go.RowKit Go.Proofs.YtkjakmbmnbjpbaaV.PrintWords Go.Proofs.YtkjakmbmnbjpbaaV.PrintLast Go.Proofs.YtkjakmbmnbjpbaaV.PrintMore
attribute [local go_sem] max2_int min2_int max_two min_two max_three min_three max_four min_four
set_option linter.unusedVariables false
set_option linter.unusedSimpArgs false

attribute [local go_sem high] eqA25
set_option maxHeartbeats 8000000
set_option maxRecDepth 100000
def laws_sameHeap.l0 : Nat → List (S25) → List (S25) → Int → Option (Bool)
 | 0, _, _, _ => none
 | k + 1, x0, x1, x5 => if x5 < (x0.length : Int) then (if 0 ≤ x5 then (if x5 < (x1.length : Int) then (if (!(((rd_T25 x0 x5).f0) == ((rd_T25 x1 x5).f0)) || (!(((rd_T25 x0 x5).f1) == ((rd_T25 x1 x5).f1)))) = true then (some false) else (laws_sameHeap.l0 k x0 x1 (wrap64 (x5 + 1)))) else (none)) else (none)) else (some true)
def laws_sameHeap.f (k : Nat) (l0 : List (S25)) (l1 : List (S25)) : Option (Bool) := if (l0.length : Int) = (l1.length : Int) then (laws_sameHeap.l0 k l0 l1 0) else (some false)
theorem laws_sameHeap.mono_l : ∀ k, (∀ y0 y1 y2, LeO (laws_sameHeap.l0 k y0 y1 y2) (laws_sameHeap.l0 (k + 1) y0 y1 y2))
 | 0 => fun _ _ _ r h => by simp [laws_sameHeap.l0] at h
 | k + 1 => by
  have ih0 := laws_sameHeap.mono_l k
  intro y0 y1 y2
  unfold laws_sameHeap.l0
  repeat' first
  | (with_reducible exact ih0 _ _ _)
  | (with_reducible exact LeO.refl _)
  | (with_reducible exact LeO.none _)
  | (with_reducible refine LeO.ite ?_ ?_)
  | (with_reducible refine LeO.bind ?_ (fun _ => ?_))
  | exact ih0 _ _ _
theorem laws_sameHeap.mono : ∀ a0 a1 k, LeO (laws_sameHeap.f k a0 a1) (laws_sameHeap.f (k + 1) a0 a1) := by
 intro a0 a1 k
 have ih0 := laws_sameHeap.mono_l k
 unfold laws_sameHeap.f
 repeat' first
   | (with_reducible exact ih0 _ _ _)
   | (with_reducible exact LeO.refl _)
   | (with_reducible exact LeO.none _)
   | (with_reducible refine LeO.ite ?_ ?_)
   | (with_reducible refine LeO.bind ?_ (fun _ => ?_))
   | exact ih0 _ _ _
theorem laws_sameHeap.calls (k : Nat) (A0 : Option Addr) (c0 : Nat) (l0 : List (S25)) (A1 : Option Addr) (c1 : Nat) (l1 : List (S25)) (r : Bool) (w : World) (hr0 : Kd.C k25 w A0 l0.length l0) (hc0 : l0.length ≤ c0) (hr1 : Kd.C k25 w A1 l1.length l1) (hc1 : l1.length ≤ c1) (h : laws_sameHeap.f k l0 l1 = some r) :
  Calls Try.prog 39 #[.slice A0 l0.length c0, .slice A1 l1.length c1] w fun e w' => e = .returned (.bool r) ∧ Drawn0 w w' := by
 have hu25 := Try.underlying25
 have HR0 := Aside0.mk hr0
 have HC0 := Aside0.mk hc0
 clear hr0 hc0
 have HR1 := Aside0.mk hr1
 have HC1 := Aside0.mk hc1
 clear hr1 hc1
 have H : (if (l0.length : Int) = (l1.length : Int) then (laws_sameHeap.l0 k l0 l1 0) else (some false)) = some r := h
 clear h
 by_cases c3 : (l0.length : Int) = (l1.length : Int)
 ·
  rw [if_pos c3] at H
  have c3b0 : ((l0.length : Int) == (l1.length : Int)) = true := beq_iff_eq.mpr c3
  have c3b1 : ((l0.length : Int) != (l1.length : Int)) = false := bne_eq_false_iff_eq.mpr c3
  have c3b2 : (l0.length == l1.length) = true := by first | simpa using c3 | (simp at c3 ⊢; omega)
  clear c3
  have H' := Aside0.mk H
  clear H
  go_enter Try.func39, Try.ntmps39
  go_wp2
  repeat (go_quiet (fail); try go_wp2)
  go_loopg [5] k (fun kq v5 w' => ∃ (x5_1 : Int), v5 = .int .i64 x5_1 ∧ Aside0 (laws_sameHeap.l0 kq l0 l1 x5_1 = some r) ∧ Aside0 (kq ≤ k) ∧ Drawn0 w w')
  case atStart => exact ⟨(0), (by first | rfl | (simp; done) | (simp [*]; done)), H', ⟨Nat.le_refl _⟩, by repeat (first | exact Drawn0.refl _ | apply Drawn0.step)⟩
  case round =>
   clear H'
   try clear c1
   try clear p2
   try clear c3
   try clear c3b0
   try clear c3b1
   try clear c3b2
   obtain ⟨x5_1, rfl, HA, HK1, ⟨m1, rfl⟩⟩ := hrel
   cases gk with
   | zero => exact absurd HA.out (by simp [laws_sameHeap.l0])
   | succ k1 =>
    have H := HA.out
    clear HA
    simp only [laws_sameHeap.l0] at H
    by_cases c4 : x5_1 < (l0.length : Int)
    ·
     rw [if_pos c4] at H
     have c4b0 := decide_eq_true c4
     clear c4
     by_cases c5 : 0 ≤ x5_1
     ·
      rw [if_pos c5] at H
      have c5b0 := decide_eq_true c5
      clear c5
      by_cases c6 : x5_1 < (l1.length : Int)
      ·
       rw [if_pos c6] at H
       have c6b0 := decide_eq_true c6
       clear c6
       by_cases c7 : (!(((rd_T25 l0 x5_1).f0) == ((rd_T25 l1 x5_1).f0)) || (!(((rd_T25 l0 x5_1).f1) == ((rd_T25 l1 x5_1).f1)))) = true
       ·
        rw [if_pos c7] at H
        have c7b0 : (!(((rd_T25 l0 x5_1).f0) == ((rd_T25 l1 x5_1).f0)) || (!(((rd_T25 l0 x5_1).f1) == ((rd_T25 l1 x5_1).f1)))) = true := c7
        clear c7
        obtain rfl := Option.some.inj H
        have p544 : 0 ≤ (x5_1 : Int) := of_decide_eq_true (by with_reducible assumption)
        have q544 : x5_1 < (l0.length : Int) := of_decide_eq_true (by with_reducible assumption)
        obtain ⟨ad544, e544, hx544_0, hx544_1⟩ := at_T25 HR0.out x5_1 p544 q544
        cases e544
        replace p544 := eq_true p544
        replace q544 := eq_true q544
        have p545 : 0 ≤ (x5_1 : Int) := of_decide_eq_true (by with_reducible assumption)
        have q545 : x5_1 < (l1.length : Int) := of_decide_eq_true (by with_reducible assumption)
        obtain ⟨ad545, e545, hx545_0, hx545_1⟩ := at_T25 HR1.out x5_1 p545 q545
        cases e545
        replace p545 := eq_true p545
        replace q545 := eq_true q545
        go_wp2
        repeat (go_quiet (fail); try go_wp2)
        go_ret
        exact ⟨by first | rfl | (simp; done) | (simp [*]; done), by repeat (first | exact Drawn0.refl _ | apply Drawn0.step)⟩
       rw [if_neg c7] at H
       have c7b0 : (!(((rd_T25 l0 x5_1).f0) == ((rd_T25 l1 x5_1).f0)) || (!(((rd_T25 l0 x5_1).f1) == ((rd_T25 l1 x5_1).f1)))) = false := by simpa using c7
       clear c7
       have H' := Aside0.mk H
       clear H
       have p544 : 0 ≤ (x5_1 : Int) := of_decide_eq_true (by with_reducible assumption)
       have q544 : x5_1 < (l0.length : Int) := of_decide_eq_true (by with_reducible assumption)
       obtain ⟨ad544, e544, hx544_0, hx544_1⟩ := at_T25 HR0.out x5_1 p544 q544
       cases e544
       replace p544 := eq_true p544
       replace q544 := eq_true q544
       have p545 : 0 ≤ (x5_1 : Int) := of_decide_eq_true (by with_reducible assumption)
       have q545 : x5_1 < (l1.length : Int) := of_decide_eq_true (by with_reducible assumption)
       obtain ⟨ad545, e545, hx545_0, hx545_1⟩ := at_T25 HR1.out x5_1 p545 q545
       cases e545
       replace p545 := eq_true p545
       replace q545 := eq_true q545
       go_wp2
       repeat (go_quiet (fail); try go_wp2)
       go_roundg k1
       case measure => have := HK1.out; omega
       case rel => exact ⟨(wrap64 (x5_1 + 1)), (by first | rfl | (simp; done) | (simp [*]; done)), H', ⟨by have := HK1.out; omega⟩, by repeat (first | exact Drawn0.refl _ | apply Drawn0.step)⟩
      rw [if_neg c6] at H
      exact absurd H (by simp)
     rw [if_neg c5] at H
     exact absurd H (by simp)
    rw [if_neg c4] at H
    have c4b0 : decide (x5_1 < (l0.length : Int)) = false := decide_eq_false c4
    clear c4
    obtain rfl := Option.some.inj H
    go_wp2
    repeat (go_quiet (fail); try go_wp2)
    go_ret
    exact ⟨by first | rfl | (simp; done) | (simp [*]; done), by repeat (first | exact Drawn0.refl _ | apply Drawn0.step)⟩
 rw [if_neg c3] at H
 have c3b0 : ((l0.length : Int) == (l1.length : Int)) = false := beq_eq_false_iff_ne.mpr c3
 have c3b1 : ((l0.length : Int) != (l1.length : Int)) = true := bne_iff_ne.mpr c3
 have c3b2 : (l0.length == l1.length) = false := by first | simpa using c3 | (simp at c3 ⊢; omega)
 obtain rfl := Option.some.inj H
 go_enter Try.func39, Try.ntmps39
 go_wp2
 repeat (go_quiet (fail); try go_wp2)
 go_ret
 exact ⟨by first | rfl | (simp; done) | (simp [*]; done), by repeat (first | exact Drawn0.refl _ | apply Drawn0.step)⟩
end Go.Proofs.Ytkjakmbmnbjpbaa.Print
end
section
namespace Go.Proofs.Ytkjakmbmnbjpbaa.Print
open Go.RowKit Go.Proofs.YtkjakmbmnbjpbaaV.PrintWords Go.Proofs.YtkjakmbmnbjpbaaV.PrintLast Go.Proofs.YtkjakmbmnbjpbaaV.PrintMore
attribute [local go_sem] max2_int min2_int max_two min_two max_three min_three max_four min_four
set_option linter.unusedVariables false
set_option linter.unusedSimpArgs false
set_option maxHeartbeats 8000000
set_option maxRecDepth 100000
def spec_Sorted.l0 : Nat → List (S25) → List (S25) → Option ((List (S25)))
 | 0, _, _ => none
 | k + 1, x3, x4 => if (x4.length : Int) > 0 then ((spec_HeapTake.f k x4).bind fun bt658 => (if x3.length < 8796093022208 then (spec_Sorted.l0 k (x3 ++ [(⟨bt658.2.1, bt658.2.2.1⟩ : S25)]) bt658.1) else (none))) else (some x3)
def spec_Sorted.f (k : Nat) (l0 : List (S25)) : Option ((List (S25))) := (some (([] : List (S25)) : List (S25))).bind fun y652 => (if y652.length + l0.length < 8796093022208 then (spec_Sorted.l0 k (([] : List (S25))) (y652 ++ l0)) else (none))
theorem spec_Sorted.mono_l : ∀ k, (∀ y0 y1, LeO (spec_Sorted.l0 k y0 y1) (spec_Sorted.l0 (k + 1) y0 y1))
 | 0 => fun _ _ r h => by simp [spec_Sorted.l0] at h
 | k + 1 => by
  have ih0 := spec_Sorted.mono_l k
  intro y0 y1
  unfold spec_Sorted.l0
  repeat' first
  | (with_reducible exact ih0 _ _)
  | (with_reducible exact spec_HeapTake.mono _ _)
  | (with_reducible exact LeO.refl _)
  | (with_reducible exact LeO.none _)
  | (with_reducible refine LeO.ite ?_ ?_)
  | (with_reducible refine LeO.bind ?_ (fun _ => ?_))
  | exact ih0 _ _
  | exact spec_HeapTake.mono _ _
theorem spec_Sorted.mono : ∀ a0 k, LeO (spec_Sorted.f k a0) (spec_Sorted.f (k + 1) a0) := by
 intro a0 k
 have ih0 := spec_Sorted.mono_l k
 unfold spec_Sorted.f
 repeat' first
   | (with_reducible exact ih0 _ _)
   | (with_reducible exact spec_HeapTake.mono _ _)
   | (with_reducible exact LeO.refl _)
   | (with_reducible exact LeO.none _)
   | (with_reducible refine LeO.ite ?_ ?_)
   | (with_reducible refine LeO.bind ?_ (fun _ => ?_))
   | exact ih0 _ _
   | exact spec_HeapTake.mono _ _
theorem spec_Sorted.calls (k : Nat) (A0 : Option Addr) (c0 : Nat) (l0 : List (S25)) (r : List (S25)) (w : World) (hr0 : Kd.C k25 w A0 l0.length l0) (hc0 : l0.length ≤ c0) (h : spec_Sorted.f k l0 = some r) :
  Calls Try.prog 42 #[.slice A0 l0.length c0] w fun e w' => ∃ v0_ : Value, e = .returned (v0_) ∧ Kd.R k25 25 w' w.heap.size (fun _ => True) v0_ r ∧ Below w.heap.size w w' := by
 have hu25 := Try.underlying25
 have HR0 := Aside0.mk hr0
 have HC0 := Aside0.mk hc0
 clear hr0 hc0
 have HB := Aside0.mk (Below.refl w.heap.size w)
 have H : ((some (([] : List (S25)) : List (S25))).bind fun y652 => (if y652.length + l0.length < 8796093022208 then (spec_Sorted.l0 k (([] : List (S25))) (y652 ++ l0)) else (none))) = some r := h
 clear h
 obtain ⟨y649, hy649⟩ : ∃ y_ : List (S25), y_ = (([] : List (S25))) := ⟨_, rfl⟩
 replace H : ((some (([] : List (S25)) : List (S25))).bind fun y652 => (if y652.length + l0.length < 8796093022208 then (spec_Sorted.l0 k y649 (y652 ++ l0)) else (none))) = some r := by first | (rw [hy649]; with_reducible exact H) | (have H2_ := (Option.bind_some _ _).symm.trans H; rw [hy649]; with_reducible exact H2_) | (have H2_ := (Option.bind_some _ _).symm.trans H; with_reducible exact H2_) | with_reducible exact H | (rw [hy649]; exact H) | exact H
 have Ny649 := Aside0.mk hy649
 clear hy649
 obtain ⟨y652, hy652⟩ : ∃ y_ : List (S25), y_ = (([] : List (S25))) := ⟨_, rfl⟩
 replace H : (if y652.length + l0.length < 8796093022208 then (spec_Sorted.l0 k y649 (y652 ++ l0)) else (none)) = some r := by first | (rw [hy652]; with_reducible exact H) | (have H2_ := (Option.bind_some _ _).symm.trans H; rw [hy652]; with_reducible exact H2_) | (have H2_ := (Option.bind_some _ _).symm.trans H; with_reducible exact H2_) | with_reducible exact H | (rw [hy652]; exact H) | exact H
 have Ny652 := Aside0.mk hy652
 clear hy652
 by_cases c2 : y652.length + l0.length < 8796093022208
 ·
  rw [if_pos c2] at H
  have LMc2 := Aside0.mk c2
  clear c2
  obtain ⟨y655, hy655⟩ : ∃ y_ : List (S25), y_ = (y652 ++ l0) := ⟨_, rfl⟩
  replace H : (spec_Sorted.l0 k y649 y655) = some r := by first | (rw [hy655]; with_reducible exact H) | (have H2_ := (Option.bind_some _ _).symm.trans H; rw [hy655]; with_reducible exact H2_) | (have H2_ := (Option.bind_some _ _).symm.trans H; with_reducible exact H2_) | with_reducible exact H | (rw [hy655]; exact H) | exact H
  have Ny655 := Aside0.mk hy655
  clear hy655
  have H' := Aside0.mk H
  clear H
  go_enter Try.func42, Try.ntmps42
  go_wp2_with (first | ((with_reducible refine gate_dst (N := 8) rfl ?_); refine Kd.R_lit k25 _ 25 ?hg (N := 8) ?hd (xs := ([] : List (S25))) (inner := []) (ok := fun _ => True) (okp := fun _ => True) ?hr ?hp (fun _ hk => hk) trivial (Below.refl _ _) (Nat.le_refl _) (by simp) ?_; (case hd => rfl); (case hg => rfl); (case hr => first | (go_simp; done) | (go_simp; rfl)); (case hp => exact (Reps.none _ _)); intro v650 w3 ho4 hb hg_ hnew_; clear hg_ hnew_; (first | rw [← Ny649.out] at ho4 | (simp only [Int.reduceToNat] at ho4; rw [← Ny649.out] at ho4)); have HO651 := Aside0.mk (Kd.R_lower ho4 (below_size (by repeat (first | (with_reducible first | exact HB.out | apply ba_ | apply bn_ | apply bd_) | exact HB.out)))); have n1_ := Aside0.mk (below_step (by repeat (first | (with_reducible first | exact HB.out | apply ba_ | apply bn_ | apply bd_) | exact HB.out)) hb); clear HB; have HB := n1_; clear n1_; clear hb ho4) | ((with_reducible refine gate_dst (N := 9) rfl ?_); refine Kd.R_lit k25 _ 25 ?hg (N := 9) ?hd (xs := ([] : List (S25))) (inner := []) (ok := fun _ => True) (okp := fun _ => True) ?hr ?hp (fun _ hk => hk) trivial (Below.refl _ _) (Nat.le_refl _) (by simp) ?_; (case hd => rfl); (case hg => rfl); (case hr => first | (go_simp; done) | (go_simp; rfl)); (case hp => exact (Reps.none _ _)); intro v653 w5 ho6 hb hg_ hnew_; clear hg_ hnew_; (first | rw [← Ny652.out] at ho6 | (simp only [Int.reduceToNat] at ho6; rw [← Ny652.out] at ho6)); have n0_ := Aside0.mk (Kd.R_elder' (rp_ HO651.out) (Kd.R_base ho6) hb); have HO654 := Aside0.mk (Kd.R_lower (Kd.R_new' ho6 (Kd.R_lt (rp_ HO651.out))) (below_size (by repeat (first | (with_reducible first | exact HB.out | apply ba_ | apply bn_ | apply bd_) | exact HB.out)))); have n2_ := Aside0.mk (below_step (by repeat (first | (with_reducible first | exact HB.out | apply ba_ | apply bn_ | apply bd_) | exact HB.out)) hb); clear HO651 HB; have HO651 := n0_; have HB := n2_; clear n0_ n2_; clear hb ho6) | ((with_reducible refine gate_builtin (b := .append) (xs := #[.tmp 9, .tmp 10]) rfl ?_); at_builtin; refine Kd.R_append_rows k25 (w0 := w) w.heap.size rfl (.tmp 9) (.tmp 10) 31 25 (.agg #[(.int .i64 0), (.int .i64 0)]) 16 rfl Try.underlying31 info25 rfl (by decide) (by omega) v653 y652 l0 _ _ _ (fun k_ => some k_ ≠ (v650 : Value).ownBlock) (fun _ => False) rfl rfl ?aO ?aR (fun _ _ h => h) (fun _ h => h.elim) ?aF ?aB ?aS ?aL ?_; (case aR => repeat (first | exact (Kd.C_below HR0.out HB.out) | (with_reducible first | refine ca_ ?_ _ | refine cn_ ?_ _ | refine cd_ ?_))); (case aB => exact (by repeat (first | (with_reducible first | exact HB.out | apply ba_ | apply bn_ | apply bd_) | exact HB.out))); (case aF => exact (fun k_ hk => Kd.fresh' (Kd.R_lt (rp_ HO651.out)) k_ hk)); (case aO => exact (by (with_reducible repeat (first | apply Kd.R_alloc | apply Kd.R_drewN | apply Kd.R_drew)); exact Kd.R_mono HO654.out (fun _ hk => hk.2))); (case aS => exact (below_size (by repeat (first | (with_reducible first | exact HB.out | apply ba_ | apply bn_ | apply bd_) | exact HB.out)))); (case aL => have := LMc2.out; omega); intro v656 w7 ho hb hg hat; rw [← Ny655.out] at ho; have n0_ := Aside0.mk (Kd.R_after (ok := (fun _ => True)) (rp_ HO651.out) hg hat); have n1_ := Aside0.mk (hb); have HO657 := Aside0.mk (ho); clear HO651 HB HO654; have HO651 := n0_; have HB := n1_; clear n0_ n1_; clear ho hb hg hat))
  go_loopg [3, 4] k (fun kq v3 v4 w' => ∃ (x3_1 : List (S25)) (x4_1 : List (S25)), Aside0 (spec_Sorted.l0 kq x3_1 x4_1 = some r) ∧ Aside0 (kq ≤ k) ∧ Aside0 (Kd.R k25 25 w' w.heap.size (fun k_ => some k_ ≠ (v4 : Value).ownBlock) v3 x3_1) ∧ Aside0 (Kd.R k25 25 w' w.heap.size (fun k_ => some k_ ≠ (v3 : Value).ownBlock) v4 x4_1) ∧ Aside0 (Below w.heap.size w w'))
  case atStart => exact ⟨(y649), (y655), H', ⟨Nat.le_refl _⟩, ⟨by (with_reducible repeat (first | apply Kd.R_alloc | apply Kd.R_drewN | apply Kd.R_drew)); exact Kd.R_mono HO651.out (fun _ hk => hk.2)⟩, ⟨by (with_reducible repeat (first | apply Kd.R_alloc | apply Kd.R_drewN | apply Kd.R_drew)); exact HO657.out⟩, ⟨by repeat (first | (with_reducible first | exact HB.out | apply ba_ | apply bn_ | apply bd_) | exact HB.out)⟩⟩
  case round =>
   clear H'
   try clear c2
   try clear p2
   try clear c4
   obtain ⟨x3_1, x4_1, HA, HK1, HO_3, HO_4, HB⟩ := hrel
   cases gk with
   | zero => exact absurd HA.out (by simp [spec_Sorted.l0])
   | succ k1 =>
    have H := HA.out
    clear HA
    simp only [spec_Sorted.l0] at H
    by_cases c8 : (x4_1.length : Int) > 0
    ·
     rw [if_pos c8] at H
     have c8b0 : decide (0 < (x4_1.length : Int)) = true := decide_eq_true c8
     have c8b1 : decide (0 < x4_1.length) = true := decide_eq_true (by omega)
     clear c8
     replace H := Option.bind_eq_some_iff.mp H
     obtain ⟨⟨t658, t661, t662, t663⟩, A90, H⟩ := H
     have A9 := Aside0.mk A90
     clear A90
     by_cases c10 : x3_1.length < 8796093022208
     ·
      rw [if_pos c10] at H
      have LMc10 := Aside0.mk c10
      clear c10
      obtain ⟨y665, hy665⟩ : ∃ y_ : List (S25), y_ = (x3_1 ++ [(⟨t661, t662⟩ : S25)]) := ⟨_, rfl⟩
      replace H : (spec_Sorted.l0 k1 y665 t658) = some r := by first | (rw [hy665]; with_reducible exact H) | (have H2_ := (Option.bind_some _ _).symm.trans H; rw [hy665]; with_reducible exact H2_) | (have H2_ := (Option.bind_some _ _).symm.trans H; with_reducible exact H2_) | with_reducible exact H | (rw [hy665]; exact H) | exact H
      have Ny665 := Aside0.mk hy665
      clear hy665
      have H' := Aside0.mk H
      clear H
      obtain ⟨Ao11, co11, eo11⟩ := Kd.R_slice HO_4.out
      subst eo11
      go_wp2_with (first | ((with_reducible refine gate_callee (f := 33) rfl ?_); refine goesL_ (some 17) rfl rfl Try.func33 (by kernel_rfl) rfl #[.slice Ao11 x4_1.length co11] rfl (by (try simp only [mp_]); first | done | rfl | (simp only [List.length_drop, List.length_take]; rfl)) ?_; (with_reducible refine (spec_HeapTake.calls k1 _ _ x4_1 t658 t661 t662 t663 _ ?side1 ?side2 A9.out).mono ?_); (case side1 => repeat (first | exact (Kd.R_reads' HO_4.out).2.2 | (with_reducible first | refine ca_ ?_ _ | refine cn_ ?_ _ | refine cd_ ?_))); (case side2 => exact (Kd.R_reads' HO_4.out).2.1); rintro e w12 ⟨v659, rfl, ho0, hb⟩; refine ⟨_, rfl, ?_⟩; have n0_ := Aside0.mk (Kd.R_elder' (rp_ HO_3.out) (Kd.R_base ho0) hb); have n1_ := Aside0.mk (Kd.R_elder' (rp_ HO_4.out) (Kd.R_base ho0) hb); have HO660 := Aside0.mk (Kd.R_lower (Kd.R_new' (Kd.R_new' ho0 (Kd.R_lt (rp_ HO_3.out))) (Kd.R_lt (rp_ HO_4.out))) (below_size (by repeat (first | (with_reducible first | exact HB.out | apply ba_ | apply bn_ | apply bd_) | exact HB.out)))); have n3_ := Aside0.mk (below_step (by repeat (first | (with_reducible first | exact HB.out | apply ba_ | apply bn_ | apply bd_) | exact HB.out)) hb); clear HO_3 HO_4 HB; have HO_3 := n0_; have HO_4 := n1_; have HB := n3_; clear n0_ n1_ n3_; (try clear hb); (try clear hb2); (try clear hk); (try clear hi); (try clear ho0)) | ((with_reducible refine gate_dst (N := 6) rfl ?_); refine box_event ?hg (N := 6) ?hd (cs := #[.int .i64 0, .int .i64 0]) (t := 25) ?hr ?_; (case hd => rfl); (case hg => rfl); (case hr => first | (go_simp; done) | (go_simp; rfl)); intro gb664 hg w13 hbox hb; have n0_ := Aside0.mk (Kd.R_below (Kd.R_elderB (rp_ HO_3.out) gb664 (Nat.le_of_eq hg.symm)) hb); have n1_ := Aside0.mk (Kd.R_below (Kd.R_elderB (rp_ HO_4.out) gb664 (Nat.le_of_eq hg.symm)) hb); have n2_ := Aside0.mk (Kd.R_below (Kd.R_elderB (rp_ HO660.out) gb664 (Nat.le_of_eq hg.symm)) hb); have n3_ := Aside0.mk (below_step (by repeat (first | (with_reducible first | exact HB.out | apply ba_ | apply bn_ | apply bd_) | exact HB.out)) hb); have BK664 := Aside0.mk (hbox); have GW664 := Aside0.mk ((by rw [hg]; exact (below_size (by repeat (first | (with_reducible first | exact HB.out | apply ba_ | apply bn_ | apply bd_) | exact HB.out))) : w.heap.size ≤ gb664)); have GE664 := GW664; clear HO_3 HO_4 HO660 HB; have HO_3 := n0_; have HO_4 := n1_; have HO660 := n2_; have HB := n3_; clear n0_ n1_ n2_ n3_; clear hb hbox hg; obtain ⟨hcz14_0, hcz14_1, hfz14_0, hfz14_1⟩ := bc2_ BK664.out) | ((with_reducible refine gate_builtin (b := .append) (xs := #[.tmp 22, .tmp 24]) rfl ?_); at_builtin; refine Kd.R_append k25 (w0 := w) w.heap.size rfl (.tmp 22) (.tmp 24) 31 25 (.agg #[(.int .i64 0), (.int .i64 0)]) 16 rfl Try.underlying31 info25 rfl (by decide) (by omega) u3 x3_1 (⟨t661, t662⟩ : S25) [.int .i64 t661, .int .i64 t662] (fun k_ => some k_ ≠ (.slice Ao11 x4_1.length co11 : Value).ownBlock ∧ some k_ ≠ (v659 : Value).ownBlock ∧ k_ ≠ gb664) (fun _ => False) rfl (by first | (go_simp; done) | (go_simp; rfl)) ?aP (fun _ hk => hk.elim) ?aF ?aO ?aB ?aS ?aL ?_; (case aP => exact k25_mkM _ _ _ (⟨t661, t662⟩ : S25)); (case aB => exact (by repeat (first | (with_reducible first | exact HB.out | apply ba_ | apply bn_ | apply bd_ | refine below_set ?_ GE664.out) | exact HB.out))); (case aF => exact (fun k_ hk => ⟨Kd.fresh' (Kd.R_lt (by (with_reducible repeat (first | apply Kd.R_alloc | apply Kd.R_drewN | apply Kd.R_drew)); exact (Kd.R_mono (Kd.R_far (p := ⟨gb664, 1, none⟩) (Kd.R_far (p := ⟨gb664, 0, none⟩) (Kd.R_mono HO_4.out (fun k_ hk => (⟨hk, hk.2⟩ : _ ∧ k_ ≠ gb664))) (fun _ hk => hk.2) (.int .i64 t661)) (fun _ hk => hk.2) (.int .i64 t662)) (fun _ h_ => h_.1)))) k_ hk, Kd.fresh' (Kd.R_lt (by (with_reducible repeat (first | apply Kd.R_alloc | apply Kd.R_drewN | apply Kd.R_drew)); exact (Kd.R_mono (Kd.R_far (p := ⟨gb664, 1, none⟩) (Kd.R_far (p := ⟨gb664, 0, none⟩) (Kd.R_mono HO660.out (fun k_ hk => (⟨hk, hk.2⟩ : _ ∧ k_ ≠ gb664))) (fun _ hk => hk.2) (.int .i64 t661)) (fun _ hk => hk.2) (.int .i64 t662)) (fun _ h_ => h_.1)))) k_ hk, Kd.freshB (g := gb664) (o := .cells #[.int .i64 t661, .int .i64 t662] 25 (0, 0)) (by (with_reducible repeat (first | refine kn_ ?_ _ | refine kd_ ?_ | refine ka_ ?_ _)); refine blk_put (cs := #[.int .i64 t661, .int .i64 0]) ?_ 1 _ rfl; (with_reducible repeat (first | refine kn_ ?_ _ | refine kd_ ?_ | refine ka_ ?_ _)); refine blk_put (cs := #[.int .i64 0, .int .i64 0]) ?_ 0 _ rfl; (with_reducible repeat (first | refine kn_ ?_ _ | refine kd_ ?_ | refine ka_ ?_ _)); exact BK664.out) k_ hk⟩)); (case aO => exact (by (with_reducible repeat (first | apply Kd.R_alloc | apply Kd.R_drewN | apply Kd.R_drew)); exact Kd.R_mono (Kd.R_far (p := ⟨gb664, 1, none⟩) (Kd.R_far (p := ⟨gb664, 0, none⟩) (Kd.R_mono HO_3.out (fun k_ hk => (⟨hk, hk.2⟩ : _ ∧ k_ ≠ gb664))) (fun _ hk => hk.2) (.int .i64 t661)) (fun _ hk => hk.2) (.int .i64 t662)) (fun _ hk => ⟨hk.1.1.1, ⟨hk.1.1.2, hk.1.2⟩⟩))); (case aS => exact (below_size (by repeat (first | (with_reducible first | exact HB.out | apply ba_ | apply bn_ | apply bd_ | refine below_set ?_ GE664.out) | exact HB.out)))); (case aL => have := LMc10.out; omega); intro v666 w15 ho hb hg hat; rw [← Ny665.out] at ho; have n0_ := Aside0.mk (Kd.R_after (ok := (fun k_ => some k_ ≠ (v659 : Value).ownBlock ∧ k_ ≠ gb664)) (by (with_reducible repeat (first | apply Kd.R_alloc | apply Kd.R_drewN | apply Kd.R_drew)); exact Kd.R_mono (Kd.R_far (p := ⟨gb664, 1, none⟩) (Kd.R_far (p := ⟨gb664, 0, none⟩) (Kd.R_mono HO_4.out (fun k_ hk => (⟨hk, hk.2⟩ : _ ∧ k_ ≠ gb664))) (fun _ hk => hk.2) (.int .i64 t661)) (fun _ hk => hk.2) (.int .i64 t662)) (fun _ hk => ⟨⟨hk.1.1.2, hk.1.2⟩, hk.1.1.1⟩)) hg hat); have n1_ := Aside0.mk (Kd.R_after (ok := (fun k_ => some k_ ≠ (.slice Ao11 x4_1.length co11 : Value).ownBlock ∧ k_ ≠ gb664)) (by (with_reducible repeat (first | apply Kd.R_alloc | apply Kd.R_drewN | apply Kd.R_drew)); exact Kd.R_mono (Kd.R_far (p := ⟨gb664, 1, none⟩) (Kd.R_far (p := ⟨gb664, 0, none⟩) (Kd.R_mono HO660.out (fun k_ hk => (⟨hk, hk.2⟩ : _ ∧ k_ ≠ gb664))) (fun _ hk => hk.2) (.int .i64 t661)) (fun _ hk => hk.2) (.int .i64 t662)) (fun _ hk => ⟨⟨hk.1.1.2, hk.1.2⟩, hk.1.1.1.2⟩)) hg hat); have n2_ := Aside0.mk (blk_grown (g := gb664) (o := .cells #[.int .i64 t661, .int .i64 t662] 25 (0, 0)) (by (with_reducible repeat (first | refine kn_ ?_ _ | refine kd_ ?_ | refine ka_ ?_ _)); refine blk_put (cs := #[.int .i64 t661, .int .i64 0]) ?_ 1 _ rfl; (with_reducible repeat (first | refine kn_ ?_ _ | refine kd_ ?_ | refine ka_ ?_ _)); refine blk_put (cs := #[.int .i64 0, .int .i64 0]) ?_ 0 _ rfl; (with_reducible repeat (first | refine kn_ ?_ _ | refine kd_ ?_ | refine ka_ ?_ _)); exact BK664.out) hg (Kd.R_away HO_3.out (fun _ hk => hk.2))); have n3_ := Aside0.mk (hb); have n4_ := Aside0.mk (ho); clear HO_4 HO660 BK664 HB HO_3; have HO_4 := n0_; have HO660 := n1_; have BK664 := n2_; have HB := n3_; have HO667 := n4_; clear n0_ n1_ n2_ n3_ n4_; clear ho hb hg hat))
      go_roundg k1
      case measure => have := HK1.out; omega
      case rel => exact ⟨(y665), (t658), H', ⟨by have := HK1.out; omega⟩, ⟨by (with_reducible repeat (first | apply Kd.R_alloc | apply Kd.R_drewN | apply Kd.R_drew)); exact Kd.R_mono HO667.out (fun _ hk => hk.2.1)⟩, ⟨by (with_reducible repeat (first | apply Kd.R_alloc | apply Kd.R_drewN | apply Kd.R_drew)); exact Kd.R_mono HO660.out (fun _ hk => hk.2)⟩, ⟨by repeat (first | (with_reducible first | exact HB.out | apply ba_ | apply bn_ | apply bd_ | refine below_set ?_ GE664.out) | exact HB.out)⟩⟩
     rw [if_neg c10] at H
     exact absurd H (by simp)
    rw [if_neg c8] at H
    have c8b0 : decide (0 < (x4_1.length : Int)) = false := decide_eq_false c8
    have c8b1 : decide (0 < x4_1.length) = false := decide_eq_false (by omega)
    clear c8
    obtain rfl := Option.some.inj H
    obtain ⟨Ao16, co16, eo16⟩ := Kd.R_slice HO_4.out
    subst eo16
    go_wp2
    go_ret
    exact ⟨_, by first | rfl | (simp [errW_none, errW_some] <;> rfl) | (simp [*, errW_none, errW_some] <;> rfl), by (with_reducible repeat (first | apply Kd.R_alloc | apply Kd.R_drewN | apply Kd.R_drew)); exact Kd.R_mono HO_3.out (fun _ hk => trivial), by repeat (first | (with_reducible first | exact HB.out | apply ba_ | apply bn_ | apply bd_) | exact HB.out)⟩
 rw [if_neg c2] at H
 exact absurd H (by simp)
/-- A state of type 93 at block g of W; what its slices lead to came in by w0. -/
def IsS93 (w0 W : World) (g : Nat) (f0 : List Int) (f1 : Int) (f2 : Int) : Prop := ∃ A0 c0, W.heap[g]? = some (.cells #[.slice A0 f0.length c0, .int .i64 f1, .int .i64 f2] 93 (0, 0)) ∧ w0.heap.size ≤ g ∧ Kd.C (Kd.int .u8) w0 A0 f0.length f0
theorem IsS93.grown {w0 W : World} {g : Nat} {f0 : List Int} {f1 : Int} {f2 : Int} {W1 : World} {row : Option Nat} (h : IsS93 w0 W g f0 f1 f2) (hw : W.grownBy W1 row) (hne : some g ≠ row) : IsS93 w0 W1 g f0 f1 f2 := by
 obtain ⟨A0, c0, hb, hg, hr0⟩ := h
 exact ⟨A0, c0, blk_grown hb hw hne, hg, hr0⟩
theorem IsS93.own_neN {w0 W : World} {g : Nat} {f0 : List Int} {f1 : Int} {f2 : Int} {α : Type} {d : Kd α} {e : Nat} {base : Nat} {ok : Nat → Prop} {v : Value} {xs : List α} (h : IsS93 w0 W g f0 f1 f2) (ho : Kd.N d e W base ok v xs) (ht : e ≠ 93) : some g ≠ v.ownBlock := by
 obtain ⟨A0, c0, hb, hg, hr0⟩ := h
 exact Kd.N_ne ho hb ht
theorem IsS93.fresh {w0 W : World} {g : Nat} {f0 : List Int} {f1 : Int} {f2 : Int} (h : IsS93 w0 W g f0 f1 f2) : ∀ k, W.heap.size ≤ k → k ≠ g := by
 obtain ⟨A0, c0, hb, hg, hr0⟩ := h
 exact Kd.freshB hb
theorem IsS93.kept {w0 W : World} {g : Nat} {f0 : List Int} {f1 : Int} {f2 : Int} {W1 : World} {S : Nat → Prop} (h : IsS93 w0 W g f0 f1 f2) (hk : Kept W W1 S) (hne : ¬ S g) : IsS93 w0 W1 g f0 f1 f2 := by
 obtain ⟨A0, c0, hb, hg, hr0⟩ := h
 exact ⟨A0, c0, blk_kept hb hk hne, hg, hr0⟩
theorem IsS93.below {w0 W : World} {g : Nat} {f0 : List Int} {f1 : Int} {f2 : Int} {W1 : World} (h : IsS93 w0 W g f0 f1 f2) (hw : Below W.heap.size W W1) : IsS93 w0 W1 g f0 f1 f2 := h.grown (grown_of_below hw none) (by simp)
theorem IsS93.alloc {w0 W : World} {g : Nat} {f0 : List Int} {f1 : Int} {f2 : Int} (h : IsS93 w0 W g f0 f1 f2) (o : Obj) : IsS93 w0 (W.alloc o) g f0 f1 f2 := h.below (ba_ (Below.refl _ _) o)
theorem IsS93.drewN {w0 W : World} {g : Nat} {f0 : List Int} {f1 : Int} {f2 : Int} (h : IsS93 w0 W g f0 f1 f2) (m : Nat) : IsS93 w0 (W.drewN m) g f0 f1 f2 := h
theorem IsS93.drew {w0 W : World} {g : Nat} {f0 : List Int} {f1 : Int} {f2 : Int} (h : IsS93 w0 W g f0 f1 f2) : IsS93 w0 W.drew g f0 f1 f2 := h
theorem IsS93.at_ {w0 W : World} {g : Nat} {f0 : List Int} {f1 : Int} {f2 : Int} {w' : World} {m : Nat} (hq : W.drewN m = w') (h : IsS93 w0 W g f0 f1 f2) : IsS93 w0 w' g f0 f1 f2 := by subst hq; exact IsS93.drewN h m
theorem IsS93.apart {w0 W : World} {g : Nat} {f0 : List Int} {f1 : Int} {f2 : Int} {α : Type} {d : Kd α} {e : Nat} {base : Nat} {ok : Nat → Prop} {v : Value} {xs : List α} (h : IsS93 w0 W g f0 f1 f2) (ho : d.R e W base ok v xs) (ht : ∀ q, q ∈ e :: d.E → q ≠ 93) : d.R e W base (fun k => ok k ∧ k ≠ g) v xs := by
 obtain ⟨A0, c0, hb, hg, hr0⟩ := h
 exact Kd.R_types ho hb ht
theorem IsS93.own_ne {w0 W : World} {g : Nat} {f0 : List Int} {f1 : Int} {f2 : Int} {α : Type} {d : Kd α} {e : Nat} {base : Nat} {ok : Nat → Prop} {v : Value} {xs : List α} (h : IsS93 w0 W g f0 f1 f2) (ho : d.R e W base ok v xs) (ht : e ≠ 93) : some g ≠ v.ownBlock := by
 obtain ⟨A0, c0, hb, hg, hr0⟩ := h
 exact Kd.R_ne ho hb ht
theorem IsS93.apartQ {w0 W : World} {g : Nat} {f0 : List Int} {f1 : Int} {f2 : Int} {α : Type} {d : Kd α} {e : Nat} {base : Nat} {ok : Nat → Prop} {v : Value} {xs : List α} (h : IsS93 w0 W g f0 f1 f2) (ho : d.Q e W base ok v xs) (ht : ∀ q, q ∈ e :: d.E → q ≠ 93) : d.Q e W base (fun k => ok k ∧ k ≠ g) v xs := by
 obtain ⟨A0, c0, hb, hg, hr0⟩ := h
 exact Kd.Q_types ho hb ht
theorem IsS93.own_neQ {w0 W : World} {g : Nat} {f0 : List Int} {f1 : Int} {f2 : Int} {α : Type} {d : Kd α} {e : Nat} {base : Nat} {ok : Nat → Prop} {v : Value} {xs : List α} (h : IsS93 w0 W g f0 f1 f2) (ho : d.Q e W base ok v xs) (ht : e ≠ 93) : some g ≠ v.ownBlock := by
 obtain ⟨A0, c0, hb, hg, hr0⟩ := h
 exact Kd.Q_ne ho hb ht
theorem IsS93.apartS {w0 W : World} {g : Nat} {f0 : List Int} {f1 : Int} {f2 : Int} {α : Type} {d : Kd α} {e : Nat} {base : Nat} {ok : Nat → Prop} {v : Value} {xs : List α} (h : IsS93 w0 W g f0 f1 f2) (ho : d.S e W base ok v xs) (ht : ∀ q, q ∈ e :: d.E → q ≠ 93) : d.S e W base (fun k => ok k ∧ k ≠ g) v xs := by
 obtain ⟨A0, c0, hb, hg, hr0⟩ := h
 exact Kd.S_types ho hb ht
theorem IsS93.own_neS {w0 W : World} {g : Nat} {f0 : List Int} {f1 : Int} {f2 : Int} {α : Type} {d : Kd α} {e : Nat} {base : Nat} {ok : Nat → Prop} {v : Value} {xs : List α} (h : IsS93 w0 W g f0 f1 f2) (ho : d.S e W base ok v xs) (ht : e ≠ 93) : some g ≠ v.ownBlock := by
 obtain ⟨A0, c0, hb, hg, hr0⟩ := h
 exact Kd.S_ne ho hb ht
theorem IsS93.lt {w0 W : World} {g : Nat} {f0 : List Int} {f1 : Int} {f2 : Int} (h : IsS93 w0 W g f0 f1 f2) : g < W.heap.size := by
 obtain ⟨A0, c0, hb, hg, hr0⟩ := h
 exact blk_lt hb
theorem IsS93.ge {w0 W : World} {g : Nat} {f0 : List Int} {f1 : Int} {f2 : Int} (h : IsS93 w0 W g f0 f1 f2) : w0.heap.size ≤ g := by
 obtain ⟨A0, c0, hb, hg, hr0⟩ := h
 exact hg
theorem IsS93.ne_blk {w0 W : World} {g : Nat} {f0 : List Int} {f1 : Int} {f2 : Int} {a : Nat} {cs : Array Value} {t : TypeId} {fr : Nat × Nat} (h : IsS93 w0 W g f0 f1 f2) (hb2 : W.heap[a]? = some (.cells cs t fr)) (ht : t ≠ 93) : g ≠ a := by
 obtain ⟨A0, c0, hb, hg, hr0⟩ := h
 rintro rfl
 rw [hb] at hb2
 injection hb2 with hb2
 injection hb2 with _ ht2
 exact ht ht2.symm
theorem IsS93.far {w0 W : World} {g : Nat} {f0 : List Int} {f1 : Int} {f2 : Int} {p : Addr} (h : IsS93 w0 W g f0 f1 f2) (hne : g ≠ p.block) (u : Value) : IsS93 w0 (W.setCell p u) g f0 f1 f2 := by
 obtain ⟨A0, c0, hb, hg, hr0⟩ := h
 exact ⟨A0, c0, blk_far hb hne u, hg, hr0⟩
theorem cellS93_0 {W : World} {g : Nat} {A0 : Option Addr} {c0 : Nat} {f0 : List Int} {f1 : Int} {f2 : Int} (h : W.heap[g]? = some (.cells #[.slice A0 f0.length c0, .int .i64 f1, .int .i64 f2] 93 (0, 0))) : W.cell? ⟨g, 0, none⟩ = some (.slice A0 f0.length c0) := (blk_cell h 0).trans rfl
theorem cellS93_1 {W : World} {g : Nat} {A0 : Option Addr} {c0 : Nat} {f0 : List Int} {f1 : Int} {f2 : Int} (h : W.heap[g]? = some (.cells #[.slice A0 f0.length c0, .int .i64 f1, .int .i64 f2] 93 (0, 0))) : W.cell? ⟨g, 1, none⟩ = some (.int .i64 f1) := (blk_cell h 1).trans rfl
theorem IsS93.set_1 {w0 W : World} {g : Nat} {f0 : List Int} {f1 : Int} {f2 : Int} (h : IsS93 w0 W g f0 f1 f2) (x : Int) : IsS93 w0 (W.setCell ⟨g, 1, none⟩ (.int .i64 x)) g f0 x f2 := by
 obtain ⟨A0, c0, hb, hg, hr0⟩ := h
 exact ⟨A0, c0, by simpa using blk_set hb 1 (.int .i64 x), hg, hr0⟩
theorem cellS93_2 {W : World} {g : Nat} {A0 : Option Addr} {c0 : Nat} {f0 : List Int} {f1 : Int} {f2 : Int} (h : W.heap[g]? = some (.cells #[.slice A0 f0.length c0, .int .i64 f1, .int .i64 f2] 93 (0, 0))) : W.cell? ⟨g, 2, none⟩ = some (.int .i64 f2) := (blk_cell h 2).trans rfl
theorem IsS93.set_2 {w0 W : World} {g : Nat} {f0 : List Int} {f1 : Int} {f2 : Int} (h : IsS93 w0 W g f0 f1 f2) (x : Int) : IsS93 w0 (W.setCell ⟨g, 2, none⟩ (.int .i64 x)) g f0 f1 x := by
 obtain ⟨A0, c0, hb, hg, hr0⟩ := h
 exact ⟨A0, c0, by simpa using blk_set hb 2 (.int .i64 x), hg, hr0⟩
theorem IsS93.new (w0 W : World) (A0 : Option Addr) (c0 : Nat) (f0 : List Int) (f1 : Int) (f2 : Int) (hB : Below w0.heap.size w0 W) (hr0 : Kd.C (Kd.int .u8) w0 A0 f0.length f0) : IsS93 w0 (W.alloc (.cells #[.slice A0 f0.length c0, .int .i64 f1, .int .i64 f2] 93)) W.heap.size f0 f1 f2 := ⟨A0, c0, by simpa using heap_alloc_new W _, hB.size, hr0⟩

def spec_l1New.l0 : Nat → List Int → Int → Int → Option (List Int × Int × Int)
 | 0, _, _, _ => none
 | k + 1, x0, x3, x4 => if x4 < (x0.length : Int) then (if x4 < 4000 then (if 0 ≤ x4 then (spec_l1New.l0 k x0 (Go.bits .and .i64 (wrap64 ((wrap64 ((wrap64 (x3 * 137)) + (wrap64 (rd x0 x4)))) + 11)) 1073741823) (wrap64 (x4 + 1))) else (none)) else (some (x0, 0, x3))) else (some (x0, 0, x3))
def spec_l1New.f (k : Nat) (l0 : List Int) : Option (List Int × Int × Int) := spec_l1New.l0 k l0 (wrap64 (140873 + (l0.length : Int))) 0
theorem spec_l1New.mono_l : ∀ k, (∀ y0 y1 y2, LeO (spec_l1New.l0 k y0 y1 y2) (spec_l1New.l0 (k + 1) y0 y1 y2))
 | 0 => fun _ _ _ r h => by simp [spec_l1New.l0] at h
 | k + 1 => by
  have ih0 := spec_l1New.mono_l k
  intro y0 y1 y2
  unfold spec_l1New.l0
  repeat' first
  | (with_reducible exact ih0 _ _ _)
  | (with_reducible exact LeO.refl _)
  | (with_reducible exact LeO.none _)
  | (with_reducible refine LeO.ite ?_ ?_)
  | (with_reducible refine LeO.bind ?_ (fun _ => ?_))
  | exact ih0 _ _ _
theorem spec_l1New.mono : ∀ a0 k, LeO (spec_l1New.f k a0) (spec_l1New.f (k + 1) a0) := by
 intro a0 k
 have ih0 := spec_l1New.mono_l k
 unfold spec_l1New.f
 repeat' first
   | (with_reducible exact ih0 _ _ _)
   | (with_reducible exact LeO.refl _)
   | (with_reducible exact LeO.none _)
   | (with_reducible refine LeO.ite ?_ ?_)
   | (with_reducible refine LeO.bind ?_ (fun _ => ?_))
   | exact ih0 _ _ _
theorem spec_l1New.calls (k : Nat) (A0 : Option Addr) (c0 : Nat) (l0 : List Int) (r1 : List Int) (r2 : Int) (r3 : Int) (w0 w : World) (hB : Below w0.heap.size w0 w) (hr0 : Kd.C (Kd.int .u8) w0 A0 l0.length l0) (hc0 : l0.length ≤ c0) (h : spec_l1New.f k l0 = some (r1, r2, r3)) :
  Calls Try.prog 60 #[.slice A0 l0.length c0] w fun e w' => ∃ g_ : Nat, e = .returned (.pointer (some ⟨g_, 0, none⟩)) ∧ IsS93 w0 w' g_ r1 r2 r3 ∧ Below w0.heap.size w0 w' ∧ Below w.heap.size w w' := by
 have hu93 := Try.underlying93
 have HR0 := Aside0.mk hr0
 have HC0 := Aside0.mk hc0
 clear hr0 hc0
 have HBW := Aside0.mk (Below.refl w.heap.size w)
 have HW0 := Aside0.mk hB.size
 have HB := Aside0.mk hB
 clear hB
 have H : (spec_l1New.l0 k l0 (wrap64 (140873 + (l0.length : Int))) 0) = some (r1, r2, r3) := h
 clear h
 have H' := Aside0.mk H
 clear H
 go_enter Try.func60, Try.ntmps60
 go_wp2
 go_loopg [3, 4] k (fun kq v3 v4 w' => ∃ (x3_1 : Int) (x4_1 : Int), v3 = .int .i64 x3_1 ∧ v4 = .int .i64 x4_1 ∧ Aside0 (spec_l1New.l0 kq l0 x3_1 x4_1 = some (r1, r2, r3)) ∧ Aside0 (kq ≤ k) ∧ Aside0 (Below w.heap.size w w') ∧ Aside0 (Below w0.heap.size w0 w'))
 case atStart => exact ⟨(wrap64 (140873 + (l0.length : Int))), (0), (by first | rfl | (simp; done) | (simp [*]; done)), (by first | rfl | (simp; done) | (simp [*]; done)), H', ⟨Nat.le_refl _⟩, ⟨by repeat (first | (with_reducible first | exact HBW.out | apply ba_ | apply bn_ | apply bd_) | exact HBW.out)⟩, ⟨by repeat (first | (with_reducible first | exact HB.out | apply ba_ | apply bn_ | apply bd_) | exact HB.out)⟩⟩
 case round =>
  clear H'
  obtain ⟨x3_1, x4_1, rfl, rfl, HA, HK1, HBW, HB⟩ := hrel
  cases gk with
  | zero => exact absurd HA.out (by simp [spec_l1New.l0])
  | succ k1 =>
   have H := HA.out
   clear HA
   simp only [spec_l1New.l0] at H
   by_cases c2 : x4_1 < (l0.length : Int)
   ·
    rw [if_pos c2] at H
    have c2b0 := decide_eq_true c2
    clear c2
    by_cases c3 : x4_1 < 4000
    ·
     rw [if_pos c3] at H
     have c3b0 := decide_eq_true c3
     clear c3
     by_cases c4 : 0 ≤ x4_1
     ·
      rw [if_pos c4] at H
      have c4b0 := decide_eq_true c4
      clear c4
      have H' := Aside0.mk H
      clear H
      have p484 : 0 ≤ (x4_1 : Int) := of_decide_eq_true (by with_reducible assumption)
      have q484 : x4_1 < (l0.length : Int) := of_decide_eq_true (by with_reducible assumption)
      obtain ⟨ad484, e484, hx484_0⟩ := Kd.at_int HR0.out x4_1 p484 q484
      cases e484
      replace hx484_0 := pw_cell_below HB.out hx484_0
      replace p484 := eq_true p484
      replace q484 := eq_true q484
      go_wp2
      go_roundg k1
      case measure => have := HK1.out; omega
      case rel => exact ⟨(Go.bits .and .i64 (wrap64 ((wrap64 ((wrap64 (x3_1 * 137)) + (wrap64 (rd l0 x4_1)))) + 11)) 1073741823), (wrap64 (x4_1 + 1)), (by first | rfl | (simp; done) | (simp [*]; done)), (by first | rfl | (simp; done) | (simp [*]; done)), H', ⟨by have := HK1.out; omega⟩, ⟨by repeat (first | (with_reducible first | exact HBW.out | apply ba_ | apply bn_ | apply bd_) | exact HBW.out)⟩, ⟨by repeat (first | (with_reducible first | exact HB.out | apply ba_ | apply bn_ | apply bd_) | exact HB.out)⟩⟩
     rw [if_neg c4] at H
     exact absurd H (by simp)
    rw [if_neg c3] at H
    have c3b0 : decide (x4_1 < 4000) = false := decide_eq_false c3
    clear c3
    simp only [Option.some.injEq, Prod.mk.injEq] at H
    obtain ⟨rfl, rfl, rfl⟩ := H
    go_wp2_with (first | ((with_reducible refine gate_dst (N := 31) rfl ?_); refine box_event ?hg (N := 31) ?hd (cs := #[.slice A0 l0.length c0, .int .i64 0, .int .i64 x3_1]) (t := 93) ?hr ?_; (case hd => rfl); (case hg => rfl); (case hr => first | (go_simp; done) | (go_simp; rfl)); intro gb485 hg w5 hbox hb; have n0_ := Aside0.mk (below_step HBW.out hb); have n1_ := Aside0.mk (below_step (by repeat (first | (with_reducible first | exact HB.out | apply ba_ | apply bn_ | apply bd_) | exact HB.out)) hb); have BK485 := Aside0.mk (hbox); have GW485 := Aside0.mk ((by rw [hg]; exact (below_size (by repeat (first | (with_reducible first | exact HBW.out | apply ba_ | apply bn_ | apply bd_) | exact HBW.out))) : w.heap.size ≤ gb485)); have GE485 := Aside0.mk (Nat.le_trans HW0.out GW485.out); clear HBW HB; have HBW := n0_; have HB := n1_; clear n0_ n1_; clear hb hbox hg))
    go_ret
    exact ⟨_, rfl, (show IsS93 w0 _ gb485 l0 0 x3_1 from ⟨_, _, by (with_reducible repeat (first | refine kn_ ?_ _ | refine kd_ ?_ | refine ka_ ?_ _)); exact BK485.out, GE485.out, HR0.out⟩), by repeat (first | (with_reducible first | exact HB.out | apply ba_ | apply bn_ | apply bd_ | refine below_set ?_ GE485.out) | exact HB.out), by repeat (first | (with_reducible first | exact HBW.out | apply ba_ | apply bn_ | apply bd_ | refine below_set ?_ GW485.out) | exact HBW.out)⟩
   rw [if_neg c2] at H
   have c2b0 : decide (x4_1 < (l0.length : Int)) = false := decide_eq_false c2
   clear c2
   simp only [Option.some.injEq, Prod.mk.injEq] at H
   obtain ⟨rfl, rfl, rfl⟩ := H
   go_wp2_with (first | ((with_reducible refine gate_dst (N := 31) rfl ?_); refine box_event ?hg (N := 31) ?hd (cs := #[.slice A0 l0.length c0, .int .i64 0, .int .i64 x3_1]) (t := 93) ?hr ?_; (case hd => rfl); (case hg => rfl); (case hr => first | (go_simp; done) | (go_simp; rfl)); intro gb486 hg w6 hbox hb; have n0_ := Aside0.mk (below_step HBW.out hb); have n1_ := Aside0.mk (below_step (by repeat (first | (with_reducible first | exact HB.out | apply ba_ | apply bn_ | apply bd_) | exact HB.out)) hb); have BK486 := Aside0.mk (hbox); have GW486 := Aside0.mk ((by rw [hg]; exact (below_size (by repeat (first | (with_reducible first | exact HBW.out | apply ba_ | apply bn_ | apply bd_) | exact HBW.out))) : w.heap.size ≤ gb486)); have GE486 := Aside0.mk (Nat.le_trans HW0.out GW486.out); clear HBW HB; have HBW := n0_; have HB := n1_; clear n0_ n1_; clear hb hbox hg))
   go_ret
   exact ⟨_, rfl, (show IsS93 w0 _ gb486 l0 0 x3_1 from ⟨_, _, by (with_reducible repeat (first | refine kn_ ?_ _ | refine kd_ ?_ | refine ka_ ?_ _)); exact BK486.out, GE486.out, HR0.out⟩), by repeat (first | (with_reducible first | exact HB.out | apply ba_ | apply bn_ | apply bd_ | refine below_set ?_ GE486.out) | exact HB.out), by repeat (first | (with_reducible first | exact HBW.out | apply ba_ | apply bn_ | apply bd_ | refine below_set ?_ GW486.out) | exact HBW.out)⟩
def spec_l1Byte.f (s0_0 : List Int) (s0_1 : Int) (s0_2 : Int) : Option (Int × Int × Int) := if s0_1 < (s0_0.length : Int) then (if 0 ≤ s0_1 then (some (Go.bits .and .i64 (wrap64 ((Go.bits .and .i64 (Go.bits .xor .i64 ((wrap64 ((wrap64 (s0_2 * 6364136223846793005)) + 1442695040888963407)) / 8589934592) ((wrap64 ((wrap64 (s0_2 * 6364136223846793005)) + 1442695040888963407)) / 140737488355328)) 255) + (wrap64 (rd s0_0 s0_1)))) 255, wrap64 (s0_1 + 1), wrap64 ((wrap64 (s0_2 * 6364136223846793005)) + 1442695040888963407))) else (none)) else (some (Go.bits .and .i64 (Go.bits .xor .i64 ((wrap64 ((wrap64 (s0_2 * 6364136223846793005)) + 1442695040888963407)) / 8589934592) ((wrap64 ((wrap64 (s0_2 * 6364136223846793005)) + 1442695040888963407)) / 140737488355328)) 255, s0_1, wrap64 ((wrap64 (s0_2 * 6364136223846793005)) + 1442695040888963407)))
theorem spec_l1Byte.calls (g : Nat) (s0_0 : List Int) (s0_1 : Int) (s0_2 : Int) (r1 : Int) (r2 : Int) (r3 : Int) (w0 w : World) (hI : IsS93 w0 w g s0_0 s0_1 s0_2) (hB : Below w0.heap.size w0 w) (h : spec_l1Byte.f s0_0 s0_1 s0_2 = some (r1, r2, r3)) :
  Calls Try.prog 86 #[.pointer (some ⟨g, 0, none⟩)] w fun e w' => e = .returned (.int .i64 r1) ∧ IsS93 w0 w' g s0_0 r2 r3 ∧ Below w0.heap.size w0 w' ∧ KeepBut w w' g none := by
 have HI0 := Aside0.mk hI
 have HK := Aside0.mk (KeepBut.refl w g none)
 have HL := Aside0.mk hB.size
 clear hI
 have HW0 := Aside0.mk hB.size
 have HB := Aside0.mk hB
 clear hB
 have H : (if s0_1 < (s0_0.length : Int) then (if 0 ≤ s0_1 then (some (Go.bits .and .i64 (wrap64 ((Go.bits .and .i64 (Go.bits .xor .i64 ((wrap64 ((wrap64 (s0_2 * 6364136223846793005)) + 1442695040888963407)) / 8589934592) ((wrap64 ((wrap64 (s0_2 * 6364136223846793005)) + 1442695040888963407)) / 140737488355328)) 255) + (wrap64 (rd s0_0 s0_1)))) 255, wrap64 (s0_1 + 1), wrap64 ((wrap64 (s0_2 * 6364136223846793005)) + 1442695040888963407))) else (none)) else (some (Go.bits .and .i64 (Go.bits .xor .i64 ((wrap64 ((wrap64 (s0_2 * 6364136223846793005)) + 1442695040888963407)) / 8589934592) ((wrap64 ((wrap64 (s0_2 * 6364136223846793005)) + 1442695040888963407)) / 140737488355328)) 255, s0_1, wrap64 ((wrap64 (s0_2 * 6364136223846793005)) + 1442695040888963407)))) = some (r1, r2, r3) := h
 clear h
 by_cases c2 : s0_1 < (s0_0.length : Int)
 ·
  rw [if_pos c2] at H
  have c2b0 := decide_eq_true c2
  clear c2
  by_cases c3 : 0 ≤ s0_1
  ·
   rw [if_pos c3] at H
   have c3b0 := decide_eq_true c3
   clear c3
   simp only [Option.some.injEq, Prod.mk.injEq] at H
   obtain ⟨rfl, rfl, rfl⟩ := H
   obtain ⟨ASz4_0, cSz4_0, HGz4, hgz4, HSz4_0⟩ := HI0.out
   have hcz4_0 := cellS93_0 HGz4
   have hcz4_1 := cellS93_1 HGz4
   have hcz4_2 := cellS93_2 HGz4
   have hfz4_1 := blk_frozen HGz4 1
   have hfz4_2 := blk_frozen HGz4 2
   clear HGz4 hgz4
   have p487 : 0 ≤ (s0_1 : Int) := of_decide_eq_true (by with_reducible assumption)
   have q487 : s0_1 < (s0_0.length : Int) := of_decide_eq_true (by with_reducible assumption)
   obtain ⟨ad487, e487, hx487_0⟩ := Kd.at_int HSz4_0 s0_1 p487 q487
   cases e487
   have hn487_0 : ad487.block ≠ g := Nat.ne_of_lt (Nat.lt_of_lt_of_le (by have := World.block_lt_of_cell? _ _ hx487_0; first | rwa [add_block] at this | exact this) (IsS93.ge HI0.out))
   replace hx487_0 := pw_cell_below HB.out hx487_0
   replace hx487_0 := (cell_far (p := ⟨g, 2, none⟩) (by first | (rw [add_block]; exact hn487_0) | (show (Addr.add _ _).block ≠ _; rw [add_block]; exact hn487_0) | exact hn487_0) (.int .i64 (wrap64 ((wrap64 (s0_2 * 6364136223846793005)) + 1442695040888963407)))).trans hx487_0
   (try have hy487_0 := fun (n_ : Nat) => (show (((w.drewN n_).setCell ⟨g, 2, none⟩ (.int .i64 (wrap64 ((wrap64 (s0_2 * 6364136223846793005)) + 1442695040888963407))))).cell? _ = some _ from hx487_0))
   clear hn487_0
   replace p487 := eq_true p487
   replace q487 := eq_true q487
   go_enter Try.func86, Try.ntmps86
   go_wp2
   repeat (go_quiet (fail); try go_wp2)
   go_ret
   exact ⟨by first | rfl | (simp [errW_none, errW_some] <;> rfl) | (simp [*, errW_none, errW_some] <;> rfl), by repeat (first | (with_reducible first | exact HI0.out | apply IsS93.alloc | apply IsS93.drewN | apply IsS93.drew | apply IsS93.set_1 | apply IsS93.set_2) | exact HI0.out), by repeat (first | (with_reducible first | exact HB.out | apply ba_ | apply bn_ | apply bd_ | refine below_set ?_ (IsS93.ge HI0.out)) | exact HB.out), by repeat (first | (with_reducible first | exact HK.out | apply KeepBut.set_ | apply keep_drewN | apply keep_drew | apply keep_alloc) | exact HK.out)⟩
  rw [if_neg c3] at H
  exact absurd H (by simp)
 rw [if_neg c2] at H
 have c2b0 : decide (s0_1 < (s0_0.length : Int)) = false := decide_eq_false c2
 clear c2
 simp only [Option.some.injEq, Prod.mk.injEq] at H
 obtain ⟨rfl, rfl, rfl⟩ := H
 obtain ⟨ASz5_0, cSz5_0, HGz5, hgz5, HSz5_0⟩ := HI0.out
 have hcz5_0 := cellS93_0 HGz5
 have hcz5_1 := cellS93_1 HGz5
 have hcz5_2 := cellS93_2 HGz5
 have hfz5_1 := blk_frozen HGz5 1
 have hfz5_2 := blk_frozen HGz5 2
 clear HGz5 hgz5
 go_enter Try.func86, Try.ntmps86
 go_wp2
 repeat (go_quiet (fail); try go_wp2)
 go_ret
 exact ⟨by first | rfl | (simp [errW_none, errW_some] <;> rfl) | (simp [*, errW_none, errW_some] <;> rfl), by repeat (first | (with_reducible first | exact HI0.out | apply IsS93.alloc | apply IsS93.drewN | apply IsS93.drew | apply IsS93.set_1 | apply IsS93.set_2) | exact HI0.out), by repeat (first | (with_reducible first | exact HB.out | apply ba_ | apply bn_ | apply bd_ | refine below_set ?_ (IsS93.ge HI0.out)) | exact HB.out), by repeat (first | (with_reducible first | exact HK.out | apply KeepBut.set_ | apply keep_drewN | apply keep_drew | apply keep_alloc) | exact HK.out)⟩
def spec_l1Below.f (s0_0 : List Int) (s0_1 : Int) (s0_2 : Int) (a1 : Int) : Option (Int × Int × Int) := if a1 ≤ 0 then (some (0, s0_1, s0_2)) else (if a1 ≤ 256 then ((spec_l1Byte.f s0_0 s0_1 s0_2).bind fun bt488 => (if a1 = 0 then (none) else (some (Int.tmod bt488.1 a1, bt488.2.1, bt488.2.2)))) else ((spec_l1Byte.f s0_0 s0_1 s0_2).bind fun bt491 => ((spec_l1Byte.f s0_0 bt491.2.1 bt491.2.2).bind fun bt494 => ((spec_l1Byte.f s0_0 bt494.2.1 bt494.2.2).bind fun bt497 => (if a1 = 0 then (none) else (some (Int.tmod (wrap64 ((wrap64 ((wrap64 (bt491.1 * 65536)) + (wrap64 (bt494.1 * 256)))) + bt497.1)) a1, bt497.2.1, bt497.2.2)))))))
theorem spec_l1Below.calls (g : Nat) (s0_0 : List Int) (s0_1 : Int) (s0_2 : Int) (a1 : Int) (r1 : Int) (r2 : Int) (r3 : Int) (w0 w : World) (hI : IsS93 w0 w g s0_0 s0_1 s0_2) (hB : Below w0.heap.size w0 w) (h : spec_l1Below.f s0_0 s0_1 s0_2 a1 = some (r1, r2, r3)) :
  Calls Try.prog 74 #[.pointer (some ⟨g, 0, none⟩), .int .i64 a1] w fun e w' => e = .returned (.int .i64 r1) ∧ IsS93 w0 w' g s0_0 r2 r3 ∧ Below w0.heap.size w0 w' ∧ KeepBut w w' g none := by
 have HI0 := Aside0.mk hI
 have HK := Aside0.mk (KeepBut.refl w g none)
 have HL := Aside0.mk hB.size
 clear hI
 have HW0 := Aside0.mk hB.size
 have HB := Aside0.mk hB
 clear hB
 have H : (if a1 ≤ 0 then (some (0, s0_1, s0_2)) else (if a1 ≤ 256 then ((spec_l1Byte.f s0_0 s0_1 s0_2).bind fun bt488 => (if a1 = 0 then (none) else (some (Int.tmod bt488.1 a1, bt488.2.1, bt488.2.2)))) else ((spec_l1Byte.f s0_0 s0_1 s0_2).bind fun bt491 => ((spec_l1Byte.f s0_0 bt491.2.1 bt491.2.2).bind fun bt494 => ((spec_l1Byte.f s0_0 bt494.2.1 bt494.2.2).bind fun bt497 => (if a1 = 0 then (none) else (some (Int.tmod (wrap64 ((wrap64 ((wrap64 (bt491.1 * 65536)) + (wrap64 (bt494.1 * 256)))) + bt497.1)) a1, bt497.2.1, bt497.2.2)))))))) = some (r1, r2, r3) := h
 clear h
 by_cases c3 : a1 ≤ 0
 ·
  rw [if_pos c3] at H
  have c3b0 := decide_eq_true c3
  clear c3
  simp only [Option.some.injEq, Prod.mk.injEq] at H
  obtain ⟨rfl, rfl, rfl⟩ := H
  go_enter Try.func74, Try.ntmps74
  go_wp2
  go_ret
  exact ⟨by first | rfl | (simp [errW_none, errW_some] <;> rfl) | (simp [*, errW_none, errW_some] <;> rfl), by repeat (first | (with_reducible first | exact HI0.out | apply IsS93.alloc | apply IsS93.drewN | apply IsS93.drew | apply IsS93.set_1 | apply IsS93.set_2) | exact HI0.out), by repeat (first | (with_reducible first | exact HB.out | apply ba_ | apply bn_ | apply bd_ | refine below_set ?_ (IsS93.ge HI0.out)) | exact HB.out), by repeat (first | (with_reducible first | exact HK.out | apply KeepBut.set_ | apply keep_drewN | apply keep_drew | apply keep_alloc) | exact HK.out)⟩
 rw [if_neg c3] at H
 have c3b0 : decide (a1 ≤ 0) = false := decide_eq_false c3
 clear c3
 by_cases c4 : a1 ≤ 256
 ·
  rw [if_pos c4] at H
  have c4b0 := decide_eq_true c4
  clear c4
  replace H := Option.bind_eq_some_iff.mp H
  obtain ⟨⟨t488, t489, t490⟩, A50, H⟩ := H
  have A5 := Aside0.mk A50
  clear A50
  by_cases c6 : a1 = 0
  ·
   rw [if_pos c6] at H
   exact absurd H (by simp)
  rw [if_neg c6] at H
  have c6b0 : (a1 == 0) = false := beq_eq_false_iff_ne.mpr c6
  have c6b1 : (a1 != 0) = true := bne_iff_ne.mpr c6
  simp only [Option.some.injEq, Prod.mk.injEq] at H
  obtain ⟨rfl, rfl, rfl⟩ := H
  go_enter Try.func74, Try.ntmps74
  go_wp2_with (first | ((with_reducible refine gate_callee (f := 86) rfl ?_); refine goesL_ (some 13) rfl rfl Try.func86 (by kernel_rfl) rfl #[.pointer (some ⟨g, 0, none⟩)] rfl (by (try simp only [mp_]); first | done | rfl | (simp only [List.length_drop, List.length_take]; rfl)) ?_; (with_reducible refine (spec_l1Byte.calls g s0_0 s0_1 s0_2 t488 t489 t490 w0 _ ?side1 ?side2 A5.out).mono ?_); (case side1 => repeat (first | (with_reducible first | exact HI0.out | apply IsS93.alloc | apply IsS93.drewN | apply IsS93.drew | apply IsS93.set_1 | apply IsS93.set_2) | exact HI0.out)); (case side2 => repeat (first | (with_reducible first | exact HB.out | apply ba_ | apply bn_ | apply bd_ | refine below_set ?_ (IsS93.ge HI0.out)) | exact HB.out)); rintro e w7 ⟨rfl, hi, hb, hk⟩; refine ⟨_, rfl, ?_⟩; have n0_ := Aside0.mk (KeepBut.trans (by repeat (first | (with_reducible first | exact HK.out | apply KeepBut.set_ | apply keep_drewN | apply keep_drew | apply keep_alloc) | exact HK.out)) hk (.inl rfl)); have n1_ := Aside0.mk (hb); have n2_ := Aside0.mk (hi); clear HK HB HI0; have HK := n0_; have HB := n1_; have HI0 := n2_; clear n0_ n1_ n2_; (try clear hb); (try clear hb2); (try clear hk); (try clear hi)))
  go_ret
  exact ⟨by first | rfl | (simp [errW_none, errW_some] <;> rfl) | (simp [*, errW_none, errW_some] <;> rfl), by repeat (first | (with_reducible first | exact HI0.out | apply IsS93.alloc | apply IsS93.drewN | apply IsS93.drew | apply IsS93.set_1 | apply IsS93.set_2) | exact HI0.out), by repeat (first | (with_reducible first | exact HB.out | apply ba_ | apply bn_ | apply bd_ | refine below_set ?_ (IsS93.ge HI0.out)) | exact HB.out), by repeat (first | (with_reducible first | exact HK.out | apply KeepBut.set_ | apply keep_drewN | apply keep_drew | apply keep_alloc) | exact HK.out)⟩
 rw [if_neg c4] at H
 have c4b0 : decide (a1 ≤ 256) = false := decide_eq_false c4
 clear c4
 replace H := Option.bind_eq_some_iff.mp H
 obtain ⟨⟨t491, t492, t493⟩, A80, H⟩ := H
 have A8 := Aside0.mk A80
 clear A80
 replace H := Option.bind_eq_some_iff.mp H
 obtain ⟨⟨t494, t495, t496⟩, A90, H⟩ := H
 have A9 := Aside0.mk A90
 clear A90
 replace H := Option.bind_eq_some_iff.mp H
 obtain ⟨⟨t497, t498, t499⟩, A100, H⟩ := H
 have A10 := Aside0.mk A100
 clear A100
 by_cases c11 : a1 = 0
 ·
  rw [if_pos c11] at H
  exact absurd H (by simp)
 rw [if_neg c11] at H
 have c11b0 : (a1 == 0) = false := beq_eq_false_iff_ne.mpr c11
 have c11b1 : (a1 != 0) = true := bne_iff_ne.mpr c11
 simp only [Option.some.injEq, Prod.mk.injEq] at H
 obtain ⟨rfl, rfl, rfl⟩ := H
 go_enter Try.func74, Try.ntmps74
 go_wp2_with (first | ((with_reducible refine gate_callee (f := 86) rfl ?_); refine goesL_ (some 17) rfl rfl Try.func86 (by kernel_rfl) rfl #[.pointer (some ⟨g, 0, none⟩)] rfl (by (try simp only [mp_]); first | done | rfl | (simp only [List.length_drop, List.length_take]; rfl)) ?_; (with_reducible refine (spec_l1Byte.calls g s0_0 s0_1 s0_2 t491 t492 t493 w0 _ ?side1 ?side2 A8.out).mono ?_); (case side1 => repeat (first | (with_reducible first | exact HI0.out | apply IsS93.alloc | apply IsS93.drewN | apply IsS93.drew | apply IsS93.set_1 | apply IsS93.set_2) | exact HI0.out)); (case side2 => repeat (first | (with_reducible first | exact HB.out | apply ba_ | apply bn_ | apply bd_ | refine below_set ?_ (IsS93.ge HI0.out)) | exact HB.out)); rintro e w12 ⟨rfl, hi, hb, hk⟩; refine ⟨_, rfl, ?_⟩; have n0_ := Aside0.mk (KeepBut.trans (by repeat (first | (with_reducible first | exact HK.out | apply KeepBut.set_ | apply keep_drewN | apply keep_drew | apply keep_alloc) | exact HK.out)) hk (.inl rfl)); have n1_ := Aside0.mk (hb); have n2_ := Aside0.mk (hi); clear HK HB HI0; have HK := n0_; have HB := n1_; have HI0 := n2_; clear n0_ n1_ n2_; (try clear hb); (try clear hb2); (try clear hk); (try clear hi)) | ((with_reducible refine gate_callee (f := 86) rfl ?_); refine goesL_ (some 19) rfl rfl Try.func86 (by kernel_rfl) rfl #[.pointer (some ⟨g, 0, none⟩)] rfl (by (try simp only [mp_]); first | done | rfl | (simp only [List.length_drop, List.length_take]; rfl)) ?_; (with_reducible refine (spec_l1Byte.calls g s0_0 t492 t493 t494 t495 t496 w0 _ ?side1 ?side2 A9.out).mono ?_); (case side1 => repeat (first | (with_reducible first | exact HI0.out | apply IsS93.alloc | apply IsS93.drewN | apply IsS93.drew | apply IsS93.set_1 | apply IsS93.set_2) | exact HI0.out)); (case side2 => repeat (first | (with_reducible first | exact HB.out | apply ba_ | apply bn_ | apply bd_ | refine below_set ?_ (IsS93.ge HI0.out)) | exact HB.out)); rintro e w13 ⟨rfl, hi, hb, hk⟩; refine ⟨_, rfl, ?_⟩; have n0_ := Aside0.mk (KeepBut.trans (by repeat (first | (with_reducible first | exact HK.out | apply KeepBut.set_ | apply keep_drewN | apply keep_drew | apply keep_alloc) | exact HK.out)) hk (.inl rfl)); have n1_ := Aside0.mk (hb); have n2_ := Aside0.mk (hi); clear HK HB HI0; have HK := n0_; have HB := n1_; have HI0 := n2_; clear n0_ n1_ n2_; (try clear hb); (try clear hb2); (try clear hk); (try clear hi)) | ((with_reducible refine gate_callee (f := 86) rfl ?_); refine goesL_ (some 21) rfl rfl Try.func86 (by kernel_rfl) rfl #[.pointer (some ⟨g, 0, none⟩)] rfl (by (try simp only [mp_]); first | done | rfl | (simp only [List.length_drop, List.length_take]; rfl)) ?_; (with_reducible refine (spec_l1Byte.calls g s0_0 t495 t496 t497 t498 t499 w0 _ ?side1 ?side2 A10.out).mono ?_); (case side1 => repeat (first | (with_reducible first | exact HI0.out | apply IsS93.alloc | apply IsS93.drewN | apply IsS93.drew | apply IsS93.set_1 | apply IsS93.set_2) | exact HI0.out)); (case side2 => repeat (first | (with_reducible first | exact HB.out | apply ba_ | apply bn_ | apply bd_ | refine below_set ?_ (IsS93.ge HI0.out)) | exact HB.out)); rintro e w14 ⟨rfl, hi, hb, hk⟩; refine ⟨_, rfl, ?_⟩; have n0_ := Aside0.mk (KeepBut.trans (by repeat (first | (with_reducible first | exact HK.out | apply KeepBut.set_ | apply keep_drewN | apply keep_drew | apply keep_alloc) | exact HK.out)) hk (.inl rfl)); have n1_ := Aside0.mk (hb); have n2_ := Aside0.mk (hi); clear HK HB HI0; have HK := n0_; have HB := n1_; have HI0 := n2_; clear n0_ n1_ n2_; (try clear hb); (try clear hb2); (try clear hk); (try clear hi)))
 go_ret
 exact ⟨by first | rfl | (simp [errW_none, errW_some] <;> rfl) | (simp [*, errW_none, errW_some] <;> rfl), by repeat (first | (with_reducible first | exact HI0.out | apply IsS93.alloc | apply IsS93.drewN | apply IsS93.drew | apply IsS93.set_1 | apply IsS93.set_2) | exact HI0.out), by repeat (first | (with_reducible first | exact HB.out | apply ba_ | apply bn_ | apply bd_ | refine below_set ?_ (IsS93.ge HI0.out)) | exact HB.out), by repeat (first | (with_reducible first | exact HK.out | apply KeepBut.set_ | apply keep_drewN | apply keep_drew | apply keep_alloc) | exact HK.out)⟩
def spec_l10Timer.f (s0_0 : List Int) (s0_1 : Int) (s0_2 : Int) : Option (Int × Int × Int × Int) := (spec_l1Below.f s0_0 s0_1 s0_2 9).bind fun bt501 => ((spec_l1Below.f s0_0 bt501.2.1 bt501.2.2 9).bind fun bt504 => (some (bt501.1, bt504.1, bt504.2.1, bt504.2.2)))
theorem spec_l10Timer.calls (g : Nat) (s0_0 : List Int) (s0_1 : Int) (s0_2 : Int) (r1 : Int) (r2 : Int) (r3 : Int) (r4 : Int) (w0 w : World) (hI : IsS93 w0 w g s0_0 s0_1 s0_2) (hB : Below w0.heap.size w0 w) (h : spec_l10Timer.f s0_0 s0_1 s0_2 = some (r1, r2, r3, r4)) :
  Calls Try.prog 62 #[.pointer (some ⟨g, 0, none⟩)] w fun e w' => e = .returned (.agg #[.int .i64 r1, .int .i64 r2]) ∧ IsS93 w0 w' g s0_0 r3 r4 ∧ Below w0.heap.size w0 w' ∧ KeepBut w w' g none := by
 have hu25 := Try.underlying25
 have HI0 := Aside0.mk hI
 have HK := Aside0.mk (KeepBut.refl w g none)
 have HL := Aside0.mk hB.size
 clear hI
 have HW0 := Aside0.mk hB.size
 have HB := Aside0.mk hB
 clear hB
 have H : ((spec_l1Below.f s0_0 s0_1 s0_2 9).bind fun bt501 => ((spec_l1Below.f s0_0 bt501.2.1 bt501.2.2 9).bind fun bt504 => (some (bt501.1, bt504.1, bt504.2.1, bt504.2.2)))) = some (r1, r2, r3, r4) := h
 clear h
 replace H := Option.bind_eq_some_iff.mp H
 obtain ⟨⟨t501, t502, t503⟩, A20, H⟩ := H
 have A2 := Aside0.mk A20
 clear A20
 replace H := Option.bind_eq_some_iff.mp H
 obtain ⟨⟨t504, t505, t506⟩, A30, H⟩ := H
 have A3 := Aside0.mk A30
 clear A30
 simp only [Option.some.injEq, Prod.mk.injEq] at H
 obtain ⟨rfl, rfl, rfl, rfl⟩ := H
 go_enter Try.func62, Try.ntmps62
 go_wp2_with (first | ((with_reducible refine gate_dst (N := 2) rfl ?_); refine box_event ?hg (N := 2) ?hd (cs := #[.int .i64 0, .int .i64 0]) (t := 25) ?hr ?_; (case hd => rfl); (case hg => rfl); (case hr => first | (go_simp; done) | (go_simp; rfl)); intro gb500 hg w4 hbox hb; have n0_ := Aside0.mk (IsS93.below (by repeat (first | (with_reducible first | exact HI0.out | apply IsS93.alloc | apply IsS93.drewN | apply IsS93.drew | apply IsS93.set_1 | apply IsS93.set_2) | exact HI0.out)) hb); have n1_ := Aside0.mk (KeepBut.trans (by repeat (first | (with_reducible first | exact HK.out | apply KeepBut.set_ | apply keep_drewN | apply keep_drew | apply keep_alloc) | exact HK.out)) (KeepBut.of_below hb g none) (.inl rfl)); have n2_ := Aside0.mk (below_step (by repeat (first | (with_reducible first | exact HB.out | apply ba_ | apply bn_ | apply bd_ | refine below_set ?_ (IsS93.ge HI0.out)) | exact HB.out)) hb); have BK500 := Aside0.mk (hbox); have GW500 := Aside0.mk ((by rw [hg]; exact (keep_size (w := w) (g := g) (row := none) (by repeat (first | (with_reducible first | exact HK.out | apply KeepBut.set_ | apply keep_drewN | apply keep_drew | apply keep_alloc) | exact HK.out))) : w.heap.size ≤ gb500)); have GE500 := Aside0.mk (Nat.le_trans HW0.out GW500.out); have NB0_500 := Aside0.mk ((by rw [hg]; exact Nat.ne_of_lt (IsS93.lt (show IsS93 w0 _ g s0_0 s0_1 s0_2 from by repeat (first | (with_reducible first | exact HI0.out | apply IsS93.alloc | apply IsS93.drewN | apply IsS93.drew | apply IsS93.set_1 | apply IsS93.set_2) | exact HI0.out))) : g ≠ gb500)); have NB500_0 := Aside0.mk (NB0_500.out.symm); clear HI0 HK HB; have HI0 := n0_; have HK := n1_; have HB := n2_; clear n0_ n1_ n2_; clear hb hbox hg) | ((with_reducible refine gate_callee (f := 74) rfl ?_); refine goesL_ (some 4) rfl rfl Try.func74 (by kernel_rfl) rfl #[.pointer (some ⟨g, 0, none⟩), .int .i64 9] rfl (by (try simp only [mp_]); first | done | rfl | (simp only [List.length_drop, List.length_take]; rfl)) ?_; (with_reducible refine (spec_l1Below.calls g s0_0 s0_1 s0_2 9 t501 t502 t503 w0 _ ?side1 ?side2 A2.out).mono ?_); (case side1 => repeat (first | (with_reducible first | exact HI0.out | apply IsS93.alloc | apply IsS93.drewN | apply IsS93.drew | apply IsS93.set_1 | apply IsS93.set_2 | refine IsS93.far ?_ NB0_500.out _) | exact HI0.out)); (case side2 => repeat (first | (with_reducible first | exact HB.out | apply ba_ | apply bn_ | apply bd_ | refine below_set ?_ (IsS93.ge HI0.out) | refine below_set ?_ GE500.out) | exact HB.out)); rintro e w5 ⟨rfl, hi, hb, hk⟩; refine ⟨_, rfl, ?_⟩; have n0_ := Aside0.mk (KeepBut.blk hk (g' := gb500) (o := .cells #[.int .i64 0, .int .i64 0] 25 (0, 0)) (pb_ BK500.out) NB500_0.out (by simp)); have n1_ := Aside0.mk (KeepBut.trans (by repeat (first | (with_reducible first | exact HK.out | apply KeepBut.set_ | apply keep_drewN | apply keep_drew | apply keep_alloc | refine keep_far ?_ GW500.out _) | exact HK.out)) hk (.inl rfl)); have n2_ := Aside0.mk (hb); have n3_ := Aside0.mk (hi); clear BK500 HK HB HI0; have BK500 := n0_; have HK := n1_; have HB := n2_; have HI0 := n3_; clear n0_ n1_ n2_ n3_; (try clear hb); (try clear hb2); (try clear hk); (try clear hi)) | ((with_reducible refine gate_callee (f := 74) rfl ?_); refine goesL_ (some 6) rfl rfl Try.func74 (by kernel_rfl) rfl #[.pointer (some ⟨g, 0, none⟩), .int .i64 9] rfl (by (try simp only [mp_]); first | done | rfl | (simp only [List.length_drop, List.length_take]; rfl)) ?_; (with_reducible refine (spec_l1Below.calls g s0_0 t502 t503 9 t504 t505 t506 w0 _ ?side1 ?side2 A3.out).mono ?_); (case side1 => repeat (first | (with_reducible first | exact HI0.out | apply IsS93.alloc | apply IsS93.drewN | apply IsS93.drew | apply IsS93.set_1 | apply IsS93.set_2 | refine IsS93.far ?_ NB0_500.out _) | exact HI0.out)); (case side2 => repeat (first | (with_reducible first | exact HB.out | apply ba_ | apply bn_ | apply bd_ | refine below_set ?_ (IsS93.ge HI0.out) | refine below_set ?_ GE500.out) | exact HB.out)); rintro e w6 ⟨rfl, hi, hb, hk⟩; refine ⟨_, rfl, ?_⟩; have n0_ := Aside0.mk (KeepBut.blk hk (g' := gb500) (o := .cells #[.int .i64 0, .int .i64 0] 25 (0, 0)) (pb_ BK500.out) NB500_0.out (by simp)); have n1_ := Aside0.mk (KeepBut.trans (by repeat (first | (with_reducible first | exact HK.out | apply KeepBut.set_ | apply keep_drewN | apply keep_drew | apply keep_alloc | refine keep_far ?_ GW500.out _) | exact HK.out)) hk (.inl rfl)); have n2_ := Aside0.mk (hb); have n3_ := Aside0.mk (hi); clear BK500 HK HB HI0; have BK500 := n0_; have HK := n1_; have HB := n2_; have HI0 := n3_; clear n0_ n1_ n2_ n3_; (try clear hb); (try clear hb2); (try clear hk); (try clear hi); have hnb7 := NB500_0.out; have hnc7 := NB0_500.out; obtain ⟨hcz8_0, hcz8_1, hfz8_0, hfz8_1⟩ := bc2_ BK500.out))
 refine bodyPost_ret (results_cell_row rfl _ _ gb500 25 #[.int .i64 t501, .int .i64 t504] (0, 0) _ rfl (by (with_reducible repeat (first | refine kn_ ?_ _ | refine kd_ ?_ | refine ka_ ?_ _)); refine blk_put (cs := #[.int .i64 t501, .int .i64 0]) ?_ 1 _ rfl; (with_reducible repeat (first | refine kn_ ?_ _ | refine kd_ ?_ | refine ka_ ?_ _)); refine blk_put (cs := #[.int .i64 0, .int .i64 0]) ?_ 0 _ rfl; (with_reducible repeat (first | refine kn_ ?_ _ | refine kd_ ?_ | refine ka_ ?_ _)); exact BK500.out) Try.underlying25 rfl (by kernel_rfl)) rfl ?_
 exact ⟨by first | rfl | (simp [errW_none, errW_some] <;> rfl) | (simp [*, errW_none, errW_some] <;> rfl), by repeat (first | (with_reducible first | exact HI0.out | apply IsS93.alloc | apply IsS93.drewN | apply IsS93.drew | apply IsS93.set_1 | apply IsS93.set_2 | refine IsS93.far ?_ NB0_500.out _) | exact HI0.out), by repeat (first | (with_reducible first | exact HB.out | apply ba_ | apply bn_ | apply bd_ | refine below_set ?_ (IsS93.ge HI0.out) | refine below_set ?_ GE500.out) | exact HB.out), by repeat (first | (with_reducible first | exact HK.out | apply KeepBut.set_ | apply keep_drewN | apply keep_drew | apply keep_alloc | refine keep_far ?_ GW500.out _) | exact HK.out)⟩
def spec_l10Draw.l0 : Nat → List (S25) → Int → List Int → Int → Int → Option ((List (S25)) × Int × Int)
 | 0, _, _, _, _, _ => none
 | k + 1, x3, x4, x1000, x1001, x1002 => if x4 > 0 then ((spec_l10Timer.f x1000 x1001 x1002).bind fun bt513 => ((spec_HeapPut.f k x3 bt513.1 bt513.2.1).bind fun t517 => (spec_l10Draw.l0 k t517 (wrap64 (x4 - 1)) x1000 bt513.2.2.1 bt513.2.2.2))) else (some (x3, x1001, x1002))
def spec_l10Draw.f (k : Nat) (s0_0 : List Int) (s0_1 : Int) (s0_2 : Int) : Option ((List (S25)) × Int × Int) := (spec_l1Below.f s0_0 s0_1 s0_2 9).bind fun bt510 => (spec_l10Draw.l0 k (([] : List (S25))) bt510.1 s0_0 bt510.2.1 bt510.2.2)
theorem spec_l10Draw.mono_l : ∀ k, (∀ y0 y1 y2 y3 y4, LeO (spec_l10Draw.l0 k y0 y1 y2 y3 y4) (spec_l10Draw.l0 (k + 1) y0 y1 y2 y3 y4))
 | 0 => fun _ _ _ _ _ r h => by simp [spec_l10Draw.l0] at h
 | k + 1 => by
  have ih0 := spec_l10Draw.mono_l k
  intro y0 y1 y2 y3 y4
  unfold spec_l10Draw.l0
  repeat' first
  | (with_reducible exact ih0 _ _ _ _ _)
  | (with_reducible exact spec_HeapPut.mono _ _ _ _)
  | (with_reducible exact LeO.refl _)
  | (with_reducible exact LeO.none _)
  | (with_reducible refine LeO.ite ?_ ?_)
  | (with_reducible refine LeO.bind ?_ (fun _ => ?_))
  | exact ih0 _ _ _ _ _
  | exact spec_HeapPut.mono _ _ _ _
theorem spec_l10Draw.mono : ∀ a0 a1 a2 k, LeO (spec_l10Draw.f k a0 a1 a2) (spec_l10Draw.f (k + 1) a0 a1 a2) := by
 intro a0 a1 a2 k
 have ih0 := spec_l10Draw.mono_l k
 unfold spec_l10Draw.f
 repeat' first
   | (with_reducible exact ih0 _ _ _ _ _)
   | (with_reducible exact spec_HeapPut.mono _ _ _ _)
   | (with_reducible exact LeO.refl _)
   | (with_reducible exact LeO.none _)
   | (with_reducible refine LeO.ite ?_ ?_)
   | (with_reducible refine LeO.bind ?_ (fun _ => ?_))
   | exact ih0 _ _ _ _ _
   | exact spec_HeapPut.mono _ _ _ _
theorem spec_l10Draw.calls (k : Nat) (g : Nat) (s0_0 : List Int) (s0_1 : Int) (s0_2 : Int) (r1 : List (S25)) (r2 : Int) (r3 : Int) (w0 w : World) (hI : IsS93 w0 w g s0_0 s0_1 s0_2) (hB : Below w0.heap.size w0 w) (h : spec_l10Draw.f k s0_0 s0_1 s0_2 = some (r1, r2, r3)) :
  Calls Try.prog 61 #[.pointer (some ⟨g, 0, none⟩)] w fun e w' => ∃ v0_ : Value, e = .returned (v0_) ∧ Kd.R k25 25 w' w.heap.size (fun _ => True) v0_ r1 ∧ IsS93 w0 w' g s0_0 r2 r3 ∧ Below w0.heap.size w0 w' ∧ KeepBut w w' g none := by
 have HI0 := Aside0.mk hI
 have HK := Aside0.mk (KeepBut.refl w g none)
 have HL := Aside0.mk hB.size
 clear hI
 have HW0 := Aside0.mk hB.size
 have HB := Aside0.mk hB
 clear hB
 have H : ((spec_l1Below.f s0_0 s0_1 s0_2 9).bind fun bt510 => (spec_l10Draw.l0 k (([] : List (S25))) bt510.1 s0_0 bt510.2.1 bt510.2.2)) = some (r1, r2, r3) := h
 clear h
 obtain ⟨y507, hy507⟩ : ∃ y_ : List (S25), y_ = (([] : List (S25))) := ⟨_, rfl⟩
 replace H : ((spec_l1Below.f s0_0 s0_1 s0_2 9).bind fun bt510 => (spec_l10Draw.l0 k y507 bt510.1 s0_0 bt510.2.1 bt510.2.2)) = some (r1, r2, r3) := by first | (rw [hy507]; with_reducible exact H) | (have H2_ := (Option.bind_some _ _).symm.trans H; rw [hy507]; with_reducible exact H2_) | (have H2_ := (Option.bind_some _ _).symm.trans H; with_reducible exact H2_) | with_reducible exact H | (rw [hy507]; exact H) | exact H
 have Ny507 := Aside0.mk hy507
 clear hy507
 replace H := Option.bind_eq_some_iff.mp H
 obtain ⟨⟨t510, t511, t512⟩, A20, H⟩ := H
 have A2 := Aside0.mk A20
 clear A20
 have H' := Aside0.mk H
 clear H
 go_enter Try.func61, Try.ntmps61
 go_wp2_with (first | ((with_reducible refine gate_dst (N := 5) rfl ?_); refine Kd.R_lit k25 _ 25 ?hg (N := 5) ?hd (xs := ([] : List (S25))) (inner := []) (ok := fun _ => True) (okp := fun _ => True) ?hr ?hp (fun _ hk => hk) trivial (Below.refl _ _) (Nat.le_refl _) (by simp) ?_; (case hd => rfl); (case hg => rfl); (case hr => first | (go_simp; done) | (go_simp; rfl)); (case hp => exact (Reps.none _ _)); intro v508 w3 ho4 hb hg_ hnew_; clear hg_ hnew_; (first | rw [← Ny507.out] at ho4 | (simp only [Int.reduceToNat] at ho4; rw [← Ny507.out] at ho4)); have HO509 := Aside0.mk (Kd.R_lower ho4 (keep_size (w := w) (g := g) (row := none) (by repeat (first | (with_reducible first | exact HK.out | apply KeepBut.set_ | apply keep_drewN | apply keep_drew | apply keep_alloc) | exact HK.out)))); have n1_ := Aside0.mk (IsS93.below (by repeat (first | (with_reducible first | exact HI0.out | apply IsS93.alloc | apply IsS93.drewN | apply IsS93.drew | apply IsS93.set_1 | apply IsS93.set_2) | exact HI0.out)) hb); have n2_ := Aside0.mk (KeepBut.trans (by repeat (first | (with_reducible first | exact HK.out | apply KeepBut.set_ | apply keep_drewN | apply keep_drew | apply keep_alloc) | exact HK.out)) (KeepBut.of_below hb g none) (.inl rfl)); have n3_ := Aside0.mk (below_step (by repeat (first | (with_reducible first | exact HB.out | apply ba_ | apply bn_ | apply bd_ | refine below_set ?_ (IsS93.ge HI0.out)) | exact HB.out)) hb); clear HI0 HK HB; have HI0 := n1_; have HK := n2_; have HB := n3_; clear n1_ n2_ n3_; clear hb ho4) | ((with_reducible refine gate_callee (f := 74) rfl ?_); refine goesL_ (some 7) rfl rfl Try.func74 (by kernel_rfl) rfl #[.pointer (some ⟨g, 0, none⟩), .int .i64 9] rfl (by (try simp only [mp_]); first | done | rfl | (simp only [List.length_drop, List.length_take]; rfl)) ?_; (with_reducible refine (spec_l1Below.calls g s0_0 s0_1 s0_2 9 t510 t511 t512 w0 _ ?side1 ?side2 A2.out).mono ?_); (case side1 => repeat (first | (with_reducible first | exact HI0.out | apply IsS93.alloc | apply IsS93.drewN | apply IsS93.drew | apply IsS93.set_1 | apply IsS93.set_2) | exact HI0.out)); (case side2 => repeat (first | (with_reducible first | exact HB.out | apply ba_ | apply bn_ | apply bd_ | refine below_set ?_ (IsS93.ge HI0.out)) | exact HB.out)); rintro e w5 ⟨rfl, hi, hb, hk⟩; refine ⟨_, rfl, ?_⟩; have n0_ := Aside0.mk (Kd.R_mono (Kd.R_keep (IsS93.apart (show IsS93 w0 _ g s0_0 s0_1 s0_2 from by repeat (first | (with_reducible first | exact HI0.out | apply IsS93.alloc | apply IsS93.drewN | apply IsS93.drew | apply IsS93.set_1 | apply IsS93.set_2) | exact HI0.out)) (rp_ HO509.out) (by decide)) hk (fun _ h => h.2)) (fun _ h => h.1)); have n1_ := Aside0.mk (KeepBut.trans (by repeat (first | (with_reducible first | exact HK.out | apply KeepBut.set_ | apply keep_drewN | apply keep_drew | apply keep_alloc) | exact HK.out)) hk (.inl rfl)); have n2_ := Aside0.mk (hb); have n3_ := Aside0.mk (hi); clear HO509 HK HB HI0; have HO509 := n0_; have HK := n1_; have HB := n2_; have HI0 := n3_; clear n0_ n1_ n2_ n3_; (try clear hb); (try clear hb2); (try clear hk); (try clear hi)))
 go_loopg [3, 4] k (fun kq v3 v4 w' => ∃ (x3_1 : List (S25)) (x4_1 : Int) (x1001_1 : Int) (x1002_1 : Int), v4 = .int .i64 x4_1 ∧ Aside0 (spec_l10Draw.l0 kq x3_1 x4_1 s0_0 x1001_1 x1002_1 = some (r1, r2, r3)) ∧ Aside0 (kq ≤ k) ∧ Aside0 (Kd.R k25 25 w' w.heap.size (fun _ => True) v3 x3_1) ∧ Aside0 (IsS93 w0 w' g s0_0 x1001_1 x1002_1) ∧ Aside0 (KeepBut w w' g none) ∧ Aside0 (Below w0.heap.size w0 w'))
 case atStart => exact ⟨(y507), (t510), (t511), (t512), (by first | rfl | (simp; done) | (simp [*]; done)), H', ⟨Nat.le_refl _⟩, ⟨by (with_reducible repeat (first | apply Kd.R_alloc | apply Kd.R_drewN | apply Kd.R_drew)); exact HO509.out⟩, ⟨by repeat (first | (with_reducible first | exact HI0.out | apply IsS93.alloc | apply IsS93.drewN | apply IsS93.drew | apply IsS93.set_1 | apply IsS93.set_2) | exact HI0.out)⟩, ⟨by repeat (first | (with_reducible first | exact HK.out | apply KeepBut.set_ | apply keep_drewN | apply keep_drew | apply keep_alloc) | exact HK.out)⟩, ⟨by repeat (first | (with_reducible first | exact HB.out | apply ba_ | apply bn_ | apply bd_ | refine below_set ?_ (IsS93.ge HI0.out)) | exact HB.out)⟩⟩
 case round =>
  clear H'
  try clear p2
  obtain ⟨x3_1, x4_1, x1001_1, x1002_1, rfl, HA, HK1, HO_3, HI0, HK, HB⟩ := hrel
  cases gk with
  | zero => exact absurd HA.out (by simp [spec_l10Draw.l0])
  | succ k1 =>
   have H := HA.out
   clear HA
   simp only [spec_l10Draw.l0] at H
   by_cases c6 : x4_1 > 0
   ·
    rw [if_pos c6] at H
    have c6b0 : decide (0 < x4_1) = true := decide_eq_true c6
    clear c6
    replace H := Option.bind_eq_some_iff.mp H
    obtain ⟨⟨t513, t514, t515, t516⟩, A70, H⟩ := H
    have A7 := Aside0.mk A70
    clear A70
    replace H := Option.bind_eq_some_iff.mp H
    obtain ⟨t517, A80, H⟩ := H
    have A8 := Aside0.mk A80
    clear A80
    have H' := Aside0.mk H
    clear H
    go_wp2_with (first | ((with_reducible refine gate_callee (f := 62) rfl ?_); refine goesL_ (some 14) rfl rfl Try.func62 (by kernel_rfl) rfl #[.pointer (some ⟨g, 0, none⟩)] rfl (by (try simp only [mp_]); first | done | rfl | (simp only [List.length_drop, List.length_take]; rfl)) ?_; (with_reducible refine (spec_l10Timer.calls g s0_0 x1001_1 x1002_1 t513 t514 t515 t516 w0 _ ?side1 ?side2 A7.out).mono ?_); (case side1 => repeat (first | (with_reducible first | exact HI0.out | apply IsS93.alloc | apply IsS93.drewN | apply IsS93.drew | apply IsS93.set_1 | apply IsS93.set_2) | exact HI0.out)); (case side2 => repeat (first | (with_reducible first | exact HB.out | apply ba_ | apply bn_ | apply bd_ | refine below_set ?_ (IsS93.ge HI0.out)) | exact HB.out)); rintro e w9 ⟨rfl, hi, hb, hk⟩; refine ⟨_, rfl, ?_⟩; have n0_ := Aside0.mk (Kd.R_mono (Kd.R_keep (IsS93.apart (show IsS93 w0 _ g s0_0 x1001_1 x1002_1 from by repeat (first | (with_reducible first | exact HI0.out | apply IsS93.alloc | apply IsS93.drewN | apply IsS93.drew | apply IsS93.set_1 | apply IsS93.set_2) | exact HI0.out)) (rp_ HO_3.out) (by decide)) hk (fun _ h => h.2)) (fun _ h => h.1)); have n1_ := Aside0.mk (KeepBut.trans (by repeat (first | (with_reducible first | exact HK.out | apply KeepBut.set_ | apply keep_drewN | apply keep_drew | apply keep_alloc) | exact HK.out)) hk (.inl rfl)); have n2_ := Aside0.mk (hb); have n3_ := Aside0.mk (hi); clear HO_3 HK HB HI0; have HO_3 := n0_; have HK := n1_; have HB := n2_; have HI0 := n3_; clear n0_ n1_ n2_ n3_; (try clear hb); (try clear hb2); (try clear hk); (try clear hi); obtain ⟨Ao10, co10, eo10⟩ := Kd.R_slice HO_3.out; subst eo10) | ((with_reducible refine gate_callee (f := 22) rfl ?_); refine goesL_ (some 15) rfl rfl Try.func22 (by kernel_rfl) rfl #[.slice Ao10 x3_1.length co10, .agg #[.int .i64 t513, .int .i64 t514]] rfl (by (try simp only [mp_]); first | done | rfl | (simp only [List.length_drop, List.length_take]; rfl)) ?_; (with_reducible refine (spec_HeapPut.calls k1 _ _ x3_1 t513 t514 t517 _ ?side1 ?side2 A8.out).mono ?_); (case side1 => repeat (first | exact (Kd.R_reads' HO_3.out).2.2 | (with_reducible first | refine ca_ ?_ _ | refine cn_ ?_ _ | refine cd_ ?_))); (case side2 => exact (Kd.R_reads' HO_3.out).2.1); rintro e w11 ⟨v518, rfl, ho0, hb⟩; refine ⟨_, rfl, ?_⟩; have n0_ := Aside0.mk (Kd.R_elder' (rp_ HO_3.out) (Kd.R_base ho0) hb); have HO519 := Aside0.mk (Kd.R_lower (Kd.R_new' ho0 (Kd.R_lt (rp_ HO_3.out))) (keep_size (w := w) (g := g) (row := none) (by repeat (first | (with_reducible first | exact HK.out | apply KeepBut.set_ | apply keep_drewN | apply keep_drew | apply keep_alloc) | exact HK.out)))); have n2_ := Aside0.mk (IsS93.below (by repeat (first | (with_reducible first | exact HI0.out | apply IsS93.alloc | apply IsS93.drewN | apply IsS93.drew | apply IsS93.set_1 | apply IsS93.set_2) | exact HI0.out)) hb); have n3_ := Aside0.mk (KeepBut.trans (by repeat (first | (with_reducible first | exact HK.out | apply KeepBut.set_ | apply keep_drewN | apply keep_drew | apply keep_alloc) | exact HK.out)) (KeepBut.of_below hb g none) (.inl rfl)); have n4_ := Aside0.mk (below_step (by repeat (first | (with_reducible first | exact HB.out | apply ba_ | apply bn_ | apply bd_ | refine below_set ?_ (IsS93.ge HI0.out)) | exact HB.out)) hb); clear HO_3 HI0 HK HB; have HO_3 := n0_; have HI0 := n2_; have HK := n3_; have HB := n4_; clear n0_ n2_ n3_ n4_; (try clear hb); (try clear hb2); (try clear hk); (try clear hi); (try clear ho0)))
    go_roundg k1
    case measure => have := HK1.out; omega
    case rel => exact ⟨(t517), (wrap64 (x4_1 - 1)), (t515), (t516), (by first | rfl | (simp; done) | (simp [*]; done)), H', ⟨by have := HK1.out; omega⟩, ⟨by (with_reducible repeat (first | apply Kd.R_alloc | apply Kd.R_drewN | apply Kd.R_drew)); exact Kd.R_mono HO519.out (fun _ hk => trivial)⟩, ⟨by repeat (first | (with_reducible first | exact HI0.out | apply IsS93.alloc | apply IsS93.drewN | apply IsS93.drew | apply IsS93.set_1 | apply IsS93.set_2) | exact HI0.out)⟩, ⟨by repeat (first | (with_reducible first | exact HK.out | apply KeepBut.set_ | apply keep_drewN | apply keep_drew | apply keep_alloc) | exact HK.out)⟩, ⟨by repeat (first | (with_reducible first | exact HB.out | apply ba_ | apply bn_ | apply bd_ | refine below_set ?_ (IsS93.ge HI0.out)) | exact HB.out)⟩⟩
   rw [if_neg c6] at H
   have c6b0 : decide (0 < x4_1) = false := decide_eq_false c6
   clear c6
   simp only [Option.some.injEq, Prod.mk.injEq] at H
   obtain ⟨rfl, rfl, rfl⟩ := H
   go_wp2
   go_ret
   exact ⟨_, by first | rfl | (simp [errW_none, errW_some] <;> rfl) | (simp [*, errW_none, errW_some] <;> rfl), by (with_reducible repeat (first | apply Kd.R_alloc | apply Kd.R_drewN | apply Kd.R_drew)); exact HO_3.out, by repeat (first | (with_reducible first | exact HI0.out | apply IsS93.alloc | apply IsS93.drewN | apply IsS93.drew | apply IsS93.set_1 | apply IsS93.set_2) | exact HI0.out), by repeat (first | (with_reducible first | exact HB.out | apply ba_ | apply bn_ | apply bd_ | refine below_set ?_ (IsS93.ge HI0.out)) | exact HB.out), by repeat (first | (with_reducible first | exact HK.out | apply KeepBut.set_ | apply keep_drewN | apply keep_drew | apply keep_alloc) | exact HK.out)⟩
end Go.Proofs.Ytkjakmbmnbjpbaa.Print
end
