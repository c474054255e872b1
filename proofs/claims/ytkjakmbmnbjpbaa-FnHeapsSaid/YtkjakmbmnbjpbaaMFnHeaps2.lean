import Derived.Test.YtkjakmbmnbjpbaaMFnHeaps1
section
namespace Go.Proofs.Ytkjakmbmnbjpbaa.Print
open Go.RowKit Go.Proofs.YtkjakmbmnbjpbaaV.PrintWords Go.Proofs.YtkjakmbmnbjpbaaV.PrintLast Go.Proofs.YtkjakmbmnbjpbaaV.PrintMore
attribute [local go_sem] max2_int min2_int max_two min_two max_three min_three max_four min_four
set_option linter.unusedVariables false
set_option linter.unusedSimpArgs false
set_option maxHeartbeats 8000000
set_option maxRecDepth 100000
mutual
def impl_HeapTake.l0 : Nat → Int → List (S25) → Int → Int → Int → Option ((List (S25)) × Int × Int × Bool)
 | 0, _, _, _, _, _ => none
 | k + 1, x6, x7, x8, x411000, x411001 => if (wrap64 ((wrap64 ((wrap64 (2 * x8)) + 1)) + 1)) < x6 then (if 0 ≤ (wrap64 ((wrap64 ((wrap64 (2 * x8)) + 1)) + 1)) then (if (wrap64 ((wrap64 ((wrap64 (2 * x8)) + 1)) + 1)) < (x7.length : Int) then (if 0 ≤ (wrap64 ((wrap64 (2 * x8)) + 1)) then (if (wrap64 ((wrap64 (2 * x8)) + 1)) < (x7.length : Int) then ((impl_Before.f ((rd_T25 x7 (wrap64 ((wrap64 ((wrap64 (2 * x8)) + 1)) + 1))).f0) ((rd_T25 x7 (wrap64 ((wrap64 ((wrap64 (2 * x8)) + 1)) + 1))).f1) ((rd_T25 x7 (wrap64 ((wrap64 (2 * x8)) + 1))).f0) ((rd_T25 x7 (wrap64 ((wrap64 (2 * x8)) + 1))).f1)).bind fun t422 => (impl_HeapTake.j1 k x6 x7 x8 (wrap64 ((wrap64 (2 * x8)) + 1)) t422 x411000 x411001)) else (none)) else (none)) else (none)) else (none)) else (impl_HeapTake.j1 k x6 x7 x8 (wrap64 ((wrap64 (2 * x8)) + 1)) false x411000 x411001)
def impl_HeapTake.j1 : Nat → Int → List (S25) → Int → Int → Bool → Int → Int → Option ((List (S25)) × Int × Int × Bool)
 | 0, _, _, _, _, _, _, _ => none
 | k + 1, x6, x7, x8, x9, x52, x411000, x411001 => if x52 = true then (if (wrap64 (x9 + 1)) ≥ x6 then (some (x7, x411000, x411001, true)) else (if 0 ≤ (wrap64 (x9 + 1)) then (if (wrap64 (x9 + 1)) < (x7.length : Int) then (if 0 ≤ x8 then (if x8 < (x7.length : Int) then ((impl_Before.f ((rd_T25 x7 (wrap64 (x9 + 1))).f0) ((rd_T25 x7 (wrap64 (x9 + 1))).f1) ((rd_T25 x7 x8).f0) ((rd_T25 x7 x8).f1)).bind fun t425 => (if t425 = true then (impl_HeapTake.l0 k x6 ((x7.set (x8 : Int).toNat (⟨(rd_T25 x7 (wrap64 (x9 + 1))).f0, (rd_T25 x7 (wrap64 (x9 + 1))).f1⟩ : S25)).set ((wrap64 (x9 + 1)) : Int).toNat (⟨(rd_T25 x7 x8).f0, (rd_T25 x7 x8).f1⟩ : S25)) (wrap64 (x9 + 1)) x411000 x411001) else (some (x7, x411000, x411001, true)))) else (none)) else (none)) else (none)) else (none))) else (if x9 ≥ x6 then (some (x7, x411000, x411001, true)) else (if 0 ≤ x9 then (if x9 < (x7.length : Int) then (if 0 ≤ x8 then (if x8 < (x7.length : Int) then ((impl_Before.f ((rd_T25 x7 x9).f0) ((rd_T25 x7 x9).f1) ((rd_T25 x7 x8).f0) ((rd_T25 x7 x8).f1)).bind fun t432 => (if t432 = true then (impl_HeapTake.l0 k x6 ((x7.set (x8 : Int).toNat (⟨(rd_T25 x7 x9).f0, (rd_T25 x7 x9).f1⟩ : S25)).set (x9 : Int).toNat (⟨(rd_T25 x7 x8).f0, (rd_T25 x7 x8).f1⟩ : S25)) x9 x411000 x411001) else (some (x7, x411000, x411001, true)))) else (none)) else (none)) else (none)) else (none)))
end
def impl_HeapTake.f (k : Nat) (l0 : List (S25)) : Option ((List (S25)) × Int × Int × Bool) := if (l0.length : Int) = 0 then (some (([] : List (S25)), 0, 0, false)) else (if 0 < (l0.length : Int) then (if 0 ≤ (wrap64 ((l0.length : Int) - 1)) then (if (wrap64 ((l0.length : Int) - 1)) ≤ (l0.length : Int) then ((impl_copyTimers.f (l0.take ((wrap64 ((l0.length : Int) - 1)) : Int).toNat)).bind fun t415 => (if (wrap64 ((l0.length : Int) - 1)) = 0 then (some (t415, (rd_T25 l0 0).f0, (rd_T25 l0 0).f1, true)) else (if (wrap64 ((l0.length : Int) - 1)) < (l0.length : Int) then (if 0 < (t415.length : Int) then (impl_HeapTake.l0 k (wrap64 ((l0.length : Int) - 1)) (t415.set (0 : Int).toNat (⟨(rd_T25 l0 (wrap64 ((l0.length : Int) - 1))).f0, (rd_T25 l0 (wrap64 ((l0.length : Int) - 1))).f1⟩ : S25)) 0 ((rd_T25 l0 0).f0) ((rd_T25 l0 0).f1)) else (none)) else (none)))) else (none)) else (none)) else (none))
theorem impl_HeapTake.mono_l : ∀ k, (∀ y0 y1 y2 y3 y4, LeO (impl_HeapTake.l0 k y0 y1 y2 y3 y4) (impl_HeapTake.l0 (k + 1) y0 y1 y2 y3 y4)) ∧ (∀ y0 y1 y2 y3 y4 y5 y6, LeO (impl_HeapTake.j1 k y0 y1 y2 y3 y4 y5 y6) (impl_HeapTake.j1 (k + 1) y0 y1 y2 y3 y4 y5 y6))
 | 0 => ⟨fun _ _ _ _ _ r h => by simp [impl_HeapTake.l0] at h, fun _ _ _ _ _ _ _ r h => by simp [impl_HeapTake.j1] at h⟩
 | k + 1 => by
  obtain ⟨ih0, ih1⟩ := impl_HeapTake.mono_l k
  refine ⟨?_, ?_⟩
  ·
   intro y0 y1 y2 y3 y4
   unfold impl_HeapTake.l0
   repeat' first
   | (with_reducible exact ih0 _ _ _ _ _)
   | (with_reducible exact ih1 _ _ _ _ _ _ _)
   | (with_reducible exact LeO.refl _)
   | (with_reducible exact LeO.none _)
   | (with_reducible refine LeO.ite ?_ ?_)
   | (with_reducible refine LeO.bind ?_ (fun _ => ?_))
   | exact ih0 _ _ _ _ _
   | exact ih1 _ _ _ _ _ _ _
  intro y0 y1 y2 y3 y4 y5 y6
  unfold impl_HeapTake.j1
  repeat' first
  | (with_reducible exact ih0 _ _ _ _ _)
  | (with_reducible exact ih1 _ _ _ _ _ _ _)
  | (with_reducible exact LeO.refl _)
  | (with_reducible exact LeO.none _)
  | (with_reducible refine LeO.ite ?_ ?_)
  | (with_reducible refine LeO.bind ?_ (fun _ => ?_))
  | exact ih0 _ _ _ _ _
  | exact ih1 _ _ _ _ _ _ _
theorem impl_HeapTake.mono : ∀ a0 k, LeO (impl_HeapTake.f k a0) (impl_HeapTake.f (k + 1) a0) := by
 intro a0 k
 obtain ⟨ih0, ih1⟩ := impl_HeapTake.mono_l k
 unfold impl_HeapTake.f
 repeat' first
   | (with_reducible exact ih0 _ _ _ _ _)
   | (with_reducible exact ih1 _ _ _ _ _ _ _)
   | (with_reducible exact LeO.refl _)
   | (with_reducible exact LeO.none _)
   | (with_reducible refine LeO.ite ?_ ?_)
   | (with_reducible refine LeO.bind ?_ (fun _ => ?_))
   | exact ih0 _ _ _ _ _
   | exact ih1 _ _ _ _ _ _ _
def impl_HeapTake.T11 : Bool × List (List Nat × List Nat) := (true, [([], []), ([0], [0]), ([], []), ([1, 2], [1, 2]), ([3], [3]), ([4], [4]), ([4], [4]), ([6, 4], [4, 6]), ([5, 7, 4], [4, 5, 7]), ([8, 4], [4, 8]), ([4], [4]), ([4], [4]), ([10, 11, 4], [4, 10, 11]), ([12, 4], [4, 12]), ([9, 13, 4, 4], [4, 9, 13]), ([4, 14], [4, 14])])
def impl_HeapTake.B11 : List Nat := [0, 1, 0, 7, 15, 31, 31, 95, 255, 511, 31, 31, 3103, 7199, 16383, 32767]
theorem impl_HeapTake.tab11 : rtab .any (opsOf Try.f34 11) = impl_HeapTake.T11 := by kernel_rfl
theorem impl_HeapTake.bits11 : waitsOk impl_HeapTake.T11.2 impl_HeapTake.B11 = true := by kernel_rfl
def impl_HeapTake.T13 : Bool × List (List Nat × List Nat) := (true, [([], []), ([], []), ([0, 1], [0, 1]), ([2], [2]), ([3], [3]), ([3], [3]), ([4, 5, 3], [3, 4, 5]), ([6, 3], [3, 6]), ([3], [3]), ([3], [3]), ([8, 9, 3], [3, 8, 9]), ([10, 3], [3, 10]), ([7, 11, 3, 3], [3, 7, 11]), ([12, 3], [3, 12]), ([3, 13], [3, 13])])
def impl_HeapTake.B13 : List Nat := [0, 0, 3, 7, 15, 15, 63, 127, 15, 15, 783, 1807, 4095, 8191, 16383]
theorem impl_HeapTake.tab13 : rtab .any (opsOf Try.f34 13) = impl_HeapTake.T13 := by kernel_rfl
theorem impl_HeapTake.bits13 : waitsOk impl_HeapTake.T13.2 impl_HeapTake.B13 = true := by kernel_rfl
def impl_HeapTake.T15 : Bool × List (List Nat × List Nat) := (true, [([], []), ([], []), ([], []), ([], []), ([], []), ([], []), ([4, 5], [4, 5]), ([6], [6]), ([], []), ([], []), ([8, 9], [8, 9]), ([10], [10]), ([0, 1, 0, 1, 4, 5, 6, 7, 11], [0, 1]), ([12, 7, 0, 1, 4, 5, 6, 7, 11], [7, 12]), ([2, 3, 0, 1, 2, 3, 4, 5, 6, 7, 8, 9, 10, 11, 12, 13], [2, 3]), ([14, 11, 13, 0, 1, 2, 3, 4, 5, 6, 7, 8, 9, 10, 11, 12, 13], [11, 14])])
def impl_HeapTake.B15 : List Nat := [0, 0, 0, 0, 0, 0, 48, 112, 0, 0, 768, 1792, 4083, 8179, 16383, 32767]
theorem impl_HeapTake.tab15 : rtab .any (opsOf Try.f34 15) = impl_HeapTake.T15 := by kernel_rfl
theorem impl_HeapTake.bits15 : waitsOk impl_HeapTake.T15.2 impl_HeapTake.B15 = true := by kernel_rfl
theorem impl_HeapTake.calls (k : Nat) (A0 : Option Addr) (c0 : Nat) (l0 : List (S25)) (r1 : List (S25)) (r2 : Int) (r3 : Int) (r4 : Bool) (w : World) (hr0 : Kd.C k25 w A0 l0.length l0) (hc0 : l0.length ≤ c0) (h : impl_HeapTake.f k l0 = some (r1, r2, r3, r4)) :
  Calls Try.prog 34 #[.slice A0 l0.length c0] w fun e w' => ∃ v0_ : Value, e = .returned (.tuple #[v0_, .agg #[.int .i64 r2, .int .i64 r3], .bool r4]) ∧ Kd.R k25 25 w' w.heap.size (fun _ => True) v0_ r1 ∧ Below w.heap.size w w' := by
 have hu25 := Try.underlying25
 have HR0 := Aside0.mk hr0
 have HC0 := Aside0.mk hc0
 clear hr0 hc0
 have HB := Aside0.mk (Below.refl w.heap.size w)
 have H : (if (l0.length : Int) = 0 then (some (([] : List (S25)), 0, 0, false)) else (if 0 < (l0.length : Int) then (if 0 ≤ (wrap64 ((l0.length : Int) - 1)) then (if (wrap64 ((l0.length : Int) - 1)) ≤ (l0.length : Int) then ((impl_copyTimers.f (l0.take ((wrap64 ((l0.length : Int) - 1)) : Int).toNat)).bind fun t415 => (if (wrap64 ((l0.length : Int) - 1)) = 0 then (some (t415, (rd_T25 l0 0).f0, (rd_T25 l0 0).f1, true)) else (if (wrap64 ((l0.length : Int) - 1)) < (l0.length : Int) then (if 0 < (t415.length : Int) then (impl_HeapTake.l0 k (wrap64 ((l0.length : Int) - 1)) (t415.set (0 : Int).toNat (⟨(rd_T25 l0 (wrap64 ((l0.length : Int) - 1))).f0, (rd_T25 l0 (wrap64 ((l0.length : Int) - 1))).f1⟩ : S25)) 0 ((rd_T25 l0 0).f0) ((rd_T25 l0 0).f1)) else (none)) else (none)))) else (none)) else (none)) else (none))) = some (r1, r2, r3, r4) := h
 clear h
 by_cases c2 : (l0.length : Int) = 0
 ·
  rw [if_pos c2] at H
  have c2b0 : ((l0.length : Int) == 0) = true := beq_iff_eq.mpr c2
  have c2b1 : ((l0.length : Int) != 0) = false := bne_eq_false_iff_eq.mpr c2
  clear c2
  simp only [Option.some.injEq, Prod.mk.injEq] at H
  obtain ⟨rfl, rfl, rfl, rfl⟩ := H
  go_enter Try.func34, Try.ntmps34
  go_wp2_with (first | ((with_reducible refine gate_dst (N := 3) rfl ?_); refine box_event ?hg (N := 3) ?hd (cs := #[.int .i64 0, .int .i64 0]) (t := 25) ?hr ?_; (case hd => rfl); (case hg => rfl); (case hr => first | (go_simp; done) | (go_simp; rfl)); intro gb408 hg w3 hbox hb; have n0_ := Aside0.mk (below_step (by repeat (first | (with_reducible first | exact HB.out | apply ba_ | apply bn_ | apply bd_) | exact HB.out)) hb); have BK408 := Aside0.mk (hbox); have GW408 := Aside0.mk ((by rw [hg]; exact (below_size (by repeat (first | (with_reducible first | exact HB.out | apply ba_ | apply bn_ | apply bd_) | exact HB.out))) : w.heap.size ≤ gb408)); have GE408 := GW408; clear HB; have HB := n0_; clear n0_; clear hb hbox hg; obtain ⟨hcz4_0, hcz4_1, hfz4_0, hfz4_1⟩ := bc2_ BK408.out))
  refine bodyPost_ret (results_list (rs := [.tmp 2, .cell 3 25, .tmp 4]) rfl (by simp) (.tmp (.cell gb408 25 #[.int .i64 0, .int .i64 0] (0, 0) _ rfl (by (with_reducible repeat (first | refine kn_ ?_ _ | refine kd_ ?_ | refine ka_ ?_ _)); refine blk_put (cs := #[.int .i64 0, .int .i64 0]) ?_ 1 _ rfl; (with_reducible repeat (first | refine kn_ ?_ _ | refine kd_ ?_ | refine ka_ ?_ _)); refine blk_put (cs := #[.int .i64 0, .int .i64 0]) ?_ 0 _ rfl; (with_reducible repeat (first | refine kn_ ?_ _ | refine kd_ ?_ | refine ka_ ?_ _)); exact BK408.out) Try.underlying25 rfl (by kernel_rfl) (.tmp .nil)))) rfl ?_
  exact ⟨_, by first | rfl | (simp [errW_none, errW_some] <;> rfl) | (simp [*, errW_none, errW_some] <;> rfl), by first | exact Kd.R_nil _ _ _ _ _ | exact Kd.N_nil _ _ _ _ _ | exact Kd.V_nil _ _ _ _ _ | exact Kd.Q_nil _ _ _ _ _ | exact Kd.S_nil _ _ _ _ _, by repeat (first | (with_reducible first | exact HB.out | apply ba_ | apply bn_ | apply bd_ | refine below_set ?_ GE408.out) | exact HB.out)⟩
 rw [if_neg c2] at H
 have c2b0 : ((l0.length : Int) == 0) = false := beq_eq_false_iff_ne.mpr c2
 have c2b1 : ((l0.length : Int) != 0) = true := bne_iff_ne.mpr c2
 have c2b2 : ¬ (l0 = []) := fun h_ => c2 (by rw [h_]; rfl)
 by_cases c5 : 0 < (l0.length : Int)
 ·
  rw [if_pos c5] at H
  have c5b0 := decide_eq_true c5
  have c5b1 : decide (0 < l0.length) = true := decide_eq_true (by omega)
  clear c5
  obtain ⟨ji6, hji6⟩ : ∃ j_ : Int, (wrap64 ((l0.length : Int) - 1)) = j_ := ⟨_, rfl⟩
  replace H : (if 0 ≤ (ji6) then (if (ji6) ≤ (l0.length : Int) then ((impl_copyTimers.f (l0.take ((ji6) : Int).toNat)).bind fun t415 => (if (ji6) = 0 then (some (t415, (rd_T25 l0 0).f0, (rd_T25 l0 0).f1, true)) else (if (ji6) < (l0.length : Int) then (if 0 < (t415.length : Int) then (impl_HeapTake.l0 k ji6 (t415.set (0 : Int).toNat (⟨(rd_T25 l0 (ji6)).f0, (rd_T25 l0 (ji6)).f1⟩ : S25)) 0 ((rd_T25 l0 0).f0) ((rd_T25 l0 0).f1)) else (none)) else (none)))) else (none)) else (none)) = some (r1, r2, r3, r4) := by first | (rw [hji6] at H; exact H) | (simp only [hji6] at H ⊢; exact H)
  have hji6w : (IntKind.i64.wrap ((l0.length : Int) - 1)) = ji6 := (i64_w _).trans hji6
  by_cases c7 : 0 ≤ (ji6)
  ·
   rw [if_pos c7] at H
   have c7b0 := eq_true c7
   have c7b1 := decide_eq_true c7
   clear c7
   by_cases c8 : (ji6) ≤ (l0.length : Int)
   ·
    rw [if_pos c8] at H
    have c8b0 := eq_true c8
    have c8b1 := decide_eq_true c8
    clear c8
    obtain ⟨y411, hy411⟩ : ∃ y_ : List (S25), y_ = (l0.take ((ji6) : Int).toNat) := ⟨_, rfl⟩
    replace H : ((impl_copyTimers.f y411).bind fun t415 => (if (ji6) = 0 then (some (t415, (rd_T25 l0 0).f0, (rd_T25 l0 0).f1, true)) else (if (ji6) < (l0.length : Int) then (if 0 < (t415.length : Int) then (impl_HeapTake.l0 k ji6 (t415.set (0 : Int).toNat (⟨(rd_T25 l0 (ji6)).f0, (rd_T25 l0 (ji6)).f1⟩ : S25)) 0 ((rd_T25 l0 0).f0) ((rd_T25 l0 0).f1)) else (none)) else (none)))) = some (r1, r2, r3, r4) := by first | (rw [hy411]; with_reducible exact H) | (have H2_ := (Option.bind_some _ _).symm.trans H; rw [hy411]; with_reducible exact H2_) | (have H2_ := (Option.bind_some _ _).symm.trans H; with_reducible exact H2_) | with_reducible exact H | (rw [hy411]; exact H) | exact H
    have Ny411 := Aside0.mk hy411
    clear hy411
    replace H := Option.bind_eq_some_iff.mp H
    obtain ⟨t415, A90, H⟩ := H
    have A9 := Aside0.mk A90
    clear A90
    by_cases c10 : (ji6) = 0
    ·
     rw [if_pos c10] at H
     have c10b0 : ((ji6) == 0) = true := beq_iff_eq.mpr c10
     have c10b1 : ((ji6) != 0) = false := bne_eq_false_iff_eq.mpr c10
     clear c10
     simp only [Option.some.injEq, Prod.mk.injEq] at H
     obtain ⟨rfl, rfl, rfl, rfl⟩ := H
     go_enter Try.func34, Try.ntmps34
     try go_wp2_with (first | ((with_reducible refine gate_dst (N := 3) rfl ?_); refine box_event ?hg (N := 3) ?hd (cs := #[.int .i64 0, .int .i64 0]) (t := 25) ?hr ?_; (case hd => rfl); (case hg => rfl); (case hr => first | (go_simp; done) | (go_simp; rfl)); intro gb408 hg w11 hbox hb; have n0_ := Aside0.mk (below_step (by repeat (first | (with_reducible first | exact HB.out | apply ba_ | apply bn_ | apply bd_) | exact HB.out)) hb); have BK408 := Aside0.mk (hbox); have GW408 := Aside0.mk ((by rw [hg]; exact (below_size (by repeat (first | (with_reducible first | exact HB.out | apply ba_ | apply bn_ | apply bd_) | exact HB.out))) : w.heap.size ≤ gb408)); have GE408 := GW408; clear HB; have HB := n0_; clear n0_; clear hb hbox hg; have p409 : 0 ≤ (0 : Int) := (by omega); have q409 : 0 < (l0.length : Int) := of_decide_eq_true (by with_reducible assumption); obtain ⟨ad409, e409, hx409_0, hx409_1⟩ := at_T25 HR0.out 0 p409 q409; cases e409; have qi409 : (0 < l0.length) = True := eq_true (by omega); (try rw [show ((0 : Int)).toNat = 0 from rfl] at hx409_0); (try rw [show 0 * 2 = 0 from rfl] at hx409_0); (try rw [Addr.add_zero'] at hx409_0); (try rw [show ((0 : Int)).toNat = 0 from rfl] at hx409_1); (try rw [show 0 * 2 = 0 from rfl] at hx409_1); (try rw [Addr.add_zero'] at hx409_1); replace hx409_0 := cl_ HB.out hx409_0; replace hx409_1 := cl_ HB.out hx409_1; replace p409 := eq_true p409; replace q409 := eq_true q409) | ((with_reducible refine gate_dst (N := 5) rfl ?_); refine box_event ?hg (N := 5) ?hd (cs := #[.int .i64 0, .int .i64 0]) (t := 25) ?hr ?_; (case hd => rfl); (case hg => rfl); (case hr => first | (go_simp; done) | (go_simp; rfl)); intro gb410 hg w12 hbox hb; have n0_ := Aside0.mk (bb_ BK408.out hb); have n1_ := Aside0.mk (below_step (by repeat (first | (with_reducible first | exact HB.out | apply ba_ | apply bn_ | apply bd_ | refine below_set ?_ GE408.out) | exact HB.out)) hb); have n2_ := Aside0.mk (hbox); have n3_ := Aside0.mk ((by rw [hg]; exact (below_size (by repeat (first | (with_reducible first | exact HB.out | apply ba_ | apply bn_ | apply bd_ | refine below_set ?_ GE408.out) | exact HB.out))) : w.heap.size ≤ gb410)); have n4_ := n3_; have n5_ := Aside0.mk (nl_ BK408.out hg); have n6_ := Aside0.mk (n5_.out.symm); clear BK408 HB; have BK408 := n0_; have HB := n1_; have BK410 := n2_; have GW410 := n3_; have GE410 := n4_; have NB408_410 := n5_; have NB410_408 := n6_; clear n0_ n1_ n2_ n3_ n4_ n5_ n6_; clear hb hbox hg; have hnb13 := NB410_408.out; have hnc13 := NB408_410.out; obtain ⟨hcz14_0, hcz14_1, hfz14_0, hfz14_1⟩ := bc2_ BK410.out) | ((with_reducible refine gate_store (t := 25) (p := 5) rfl ?_); refine store_event (t := 25) (p := 5) (v := ?vo_w15) (w1 := ((w12.setCell ⟨gb410, 0, none⟩ (.int .i64 ((rd_T25 l0 0).f0))).setCell ⟨gb410, 1, none⟩ (.int .i64 ((rd_T25 l0 0).f1)))) ?hg ?ho ?hn ?hr ?_; (case ho => rfl); (case hg => rfl); (case hn => rfl); (case hr => first | (go_simp; done) | (go_simp; rfl)); intro w15 hw; have n0_ : Aside0 (w15.heap[gb408]? = some (.cells #[.int .i64 0, .int .i64 0] 25 (0, 0))) := ⟨(by rw [hw]; exact (by (with_reducible repeat (first | refine kn_ ?_ _ | refine kd_ ?_ | refine ka_ ?_ _)); refine blk_far ?_ NB408_410.out _; (with_reducible repeat (first | refine kn_ ?_ _ | refine kd_ ?_ | refine ka_ ?_ _)); refine blk_far ?_ NB408_410.out _; (with_reducible repeat (first | refine kn_ ?_ _ | refine kd_ ?_ | refine ka_ ?_ _)); exact BK408.out))⟩; have n1_ : Aside0 (w15.heap[gb410]? = some (.cells #[.int .i64 ((rd_T25 l0 0).f0), .int .i64 ((rd_T25 l0 0).f1)] 25 (0, 0))) := ⟨(by rw [hw]; exact (by (with_reducible repeat (first | refine kn_ ?_ _ | refine kd_ ?_ | refine ka_ ?_ _)); refine blk_put (cs := #[.int .i64 ((rd_T25 l0 0).f0), .int .i64 0]) ?_ 1 _ rfl; (with_reducible repeat (first | refine kn_ ?_ _ | refine kd_ ?_ | refine ka_ ?_ _)); refine blk_put (cs := #[.int .i64 0, .int .i64 0]) ?_ 0 _ rfl; (with_reducible repeat (first | refine kn_ ?_ _ | refine kd_ ?_ | refine ka_ ?_ _)); exact BK410.out))⟩; have n2_ : Aside0 (Below w.heap.size w w15) := ⟨(by rw [hw]; exact (by repeat (first | (with_reducible first | exact HB.out | apply ba_ | apply bn_ | apply bd_ | refine below_set ?_ GE408.out | refine below_set ?_ GE410.out) | exact HB.out)))⟩; clear hw BK408 BK410 HB; have BK408 := n0_; have BK410 := n1_; have HB := n2_; clear n0_ n1_ n2_; have q16 : ((ji6) : Int) ≤ ((l0.length : Int) : Int) := of_decide_eq_true (by with_reducible assumption); obtain ⟨i016, hi016, _, hsz16, _⟩ := info_parts info25; have hroom16 : l0.length ≤ c0 := HC0.out; have hC16 : Kd.C k25 _ (some ad409) l0.length l0 := HR0.out; have hcut16 := cut_to (P := Try.prog) 31 25 .i64 Try.underlying31 hi016 (some ad409) l0.length c0 (ji6) (of_decide_eq_true (by with_reducible assumption)) q16 hroom16; have hr16 := Kd.C_take (m := ((ji6) : Int).toNat) hC16 (by omega); have hy16 : y411.length = ((ji6) : Int).toNat := (by rw [Ny411.out, List.length_take]; omega); rw [← Ny411.out] at hr16; rw [← hy16] at hcut16; have HR414 := Aside0.mk hr16; have HC414 := Aside0.mk (show y411.length ≤ c0 from by omega); clear hr16 hC16 hroom16 hi016 hsz16; have KY16 := Aside0.mk hy16; clear hy16; replace q16 := eq_true q16) | ((with_reducible refine gate_callee (f := 54) rfl ?_); refine goesL_ (some 23) rfl rfl Try.func54 (by kernel_rfl) rfl #[.slice (some ad409) y411.length c0] rfl (by (try simp only [mp_]); first | done | rfl | (simp only [List.length_drop, List.length_take]; rfl)) ?_; (with_reducible refine (impl_copyTimers.calls _ _ y411 t415 _ ?side1 ?side2 A9.out).mono ?_); (case side1 => repeat (first | exact (Kd.C_below HR414.out HB.out) | (with_reducible first | refine ca_ ?_ _ | refine cn_ ?_ _ | refine cd_ ?_))); (case side2 => exact HC414.out); rintro e w17 ⟨v416, rfl, ho0, hb⟩; refine ⟨_, rfl, ?_⟩; have n0_ := Aside0.mk (Kd.R_lower (Kd.R_newB (Kd.R_newB ho0 (g := gb408) (o := .cells #[.int .i64 0, .int .i64 0] 25 (0, 0)) (pb_ BK408.out)) (g := gb410) (o := .cells #[.int .i64 ((rd_T25 l0 0).f0), .int .i64 ((rd_T25 l0 0).f1)] 25 (0, 0)) (pb_ BK410.out)) (below_size (by repeat (first | (with_reducible first | exact HB.out | apply ba_ | apply bn_ | apply bd_ | refine below_set ?_ GE408.out | refine below_set ?_ GE410.out) | exact HB.out)))); have n1_ := Aside0.mk (bb_ BK408.out hb); have n2_ := Aside0.mk (bb_ BK410.out hb); have n3_ := Aside0.mk (below_step (by repeat (first | (with_reducible first | exact HB.out | apply ba_ | apply bn_ | apply bd_ | refine below_set ?_ GE408.out | refine below_set ?_ GE410.out) | exact HB.out)) hb); clear BK408 BK410 HB; have HO417 := n0_; have BK408 := n1_; have BK410 := n2_; have HB := n3_; clear n0_ n1_ n2_ n3_; (try clear hb); (try clear hb2); (try clear hk); (try clear hi); (try clear ho0)))
     have n0_ := Aside0.mk (Kd.R_drew HO417.out)
     have n1_ := Aside0.mk (blk_drew BK408.out)
     have n2_ := Aside0.mk (blk_drew BK410.out)
     have n3_ := Aside0.mk (bd_ HB.out)
     clear HO417 BK408 BK410 HB
     have HO417 := n0_
     have BK408 := n1_
     have BK410 := n2_
     have HB := n3_
     clear n0_ n1_ n2_ n3_
     refine start_ (n := 5) (S := fun w' => w'.cell? ⟨gb410, 0, none⟩ = some (.int .i64 ((rd_T25 l0 0).f0)) ∧ w'.cell? ⟨gb410, 1, none⟩ = some (.int .i64 ((rd_T25 l0 0).f1))) (ds := []) #[f_,f_,f_,f_,f_] (by kernel_rfl) rfl rfl ⟨bx_ BK410.out 0, bx_ BK410.out 1⟩ (fun hHeld => ?_)
     generalize w17.drew = w18 at HO417 BK408 BK410 HB hHeld ⊢
     refine pure_ (i := 0) (N := some 26) (v := ?_) (a' := ?_) #[t_,f_,f_,f_,f_] rfl rfl (by kernel_rfl) (fun _ _ _ h => h) (Or.inl ⟨by rfl, ?_⟩) ?_ ?_
     rotate_left
     ·
      intro w'
      go_simp
      with_reducible rfl
     rotate_left
     ·
      simp only [fr_]
      rfl
     refine pure_ (i := 2) (N := some 2) (v := ?_) (a' := ?_) #[t_,f_,t_,f_,f_] rfl rfl (by kernel_rfl) (fun _ _ _ h => h) (Or.inl ⟨by rfl, ?_⟩) ?_ ?_
     rotate_left
     ·
      intro w'
      go_simp
      with_reducible rfl
     rotate_left
     ·
      simp only [fr_]
      rfl
     refine take_ (i := 1) (N := some 27) (v := ?_) (a' := ?_) #[t_,t_,t_,f_,f_] rfl rfl (by kernel_rfl) (fun _ _ _ h => h) (Or.inl ⟨by rfl, ?_⟩) hHeld ?_ ?_
     rotate_left
     ·
      rintro w' ⟨s0, s1⟩
      go_simp
      with_reducible rfl
     rotate_left
     ·
      simp only [fr_]
      rfl
     refine one_ (i := 3) (N := none) #[t_,t_,t_,t_,f_] rfl rfl (by kernel_rfl) (by decide) (fun K hK => ?_)
     have hs19 : w18.cell? ⟨gb408, 0, none⟩ = some (.int .i64 0) := bx_ BK408.out 0
     have hfs19 := blk_frozen BK408.out 0
     have hns19_1 := NB410_408.out
     have hms19_1 := NB408_410.out
     have hs20 : w18.cell? ⟨gb408, 1, none⟩ = some (.int .i64 0) := bx_ BK408.out 1
     have hfs20 := blk_frozen BK408.out 1
     have hns20_1 := NB410_408.out
     have hms20_1 := NB408_410.out
     refine skip_ (w1 := ?_) (by rfl) rfl ?_ ?_
     rotate_left
     ·
      go_simp
      rfl
     refine hK.out _ _ ⟨((cell_far (p := ⟨gb408, _, none⟩) NB410_408.out _).trans (((cell_far (p := ⟨gb408, _, none⟩) NB410_408.out _).trans (hHeld.1)))), ((cell_far (p := ⟨gb408, _, none⟩) NB410_408.out _).trans (((cell_far (p := ⟨gb408, _, none⟩) NB410_408.out _).trans (hHeld.2))))⟩ (fun hHeld => ?_)
     clear hK K
     refine pure_ (i := 4) (N := some 4) (v := ?_) (a' := ?_) #[t_,t_,t_,t_,t_] rfl rfl (by kernel_rfl) (fun _ _ _ h => h) (Or.inl ⟨by rfl, ?_⟩) ?_ ?_
     rotate_left
     ·
      intro w'
      go_simp
      with_reducible rfl
     rotate_left
     ·
      simp only [fr_]
      rfl
     refine done_ (by kernel_rfl) ?_
     try go_wp2
     refine bodyPost_ret (results_list (rs := [.tmp 2, .cell 3 25, .tmp 4]) rfl (by simp) (.tmp (.cell gb408 25 #[.int .i64 ((rd_T25 l0 0).f0), .int .i64 ((rd_T25 l0 0).f1)] (0, 0) _ rfl (by (with_reducible repeat (first | refine kn_ ?_ _ | refine kd_ ?_ | refine ka_ ?_ _)); refine blk_put (cs := #[.int .i64 ((rd_T25 l0 0).f0), .int .i64 0]) ?_ 1 _ rfl; (with_reducible repeat (first | refine kn_ ?_ _ | refine kd_ ?_ | refine ka_ ?_ _)); refine blk_put (cs := #[.int .i64 0, .int .i64 0]) ?_ 0 _ rfl; (with_reducible repeat (first | refine kn_ ?_ _ | refine kd_ ?_ | refine ka_ ?_ _)); exact BK408.out) Try.underlying25 rfl (by kernel_rfl) (.tmp .nil)))) rfl ?_
     exact ⟨_, by first | rfl | (simp [errW_none, errW_some] <;> rfl) | (simp only [← hji6]; first | rfl | (simp [errW_none, errW_some] <;> rfl)) | (simp [*, errW_none, errW_some] <;> rfl), by (with_reducible repeat (first | apply Kd.R_alloc | apply Kd.R_drewN | apply Kd.R_drew)); exact Kd.R_mono (Kd.R_far (p := ⟨gb408, 1, none⟩) (Kd.R_far (p := ⟨gb408, 0, none⟩) (Kd.R_mono HO417.out (fun k_ hk => (⟨hk, hk.1.2⟩ : _ ∧ k_ ≠ gb408))) (fun _ hk => hk.2) (.int .i64 ((rd_T25 l0 0).f0))) (fun _ hk => hk.2) (.int .i64 ((rd_T25 l0 0).f1))) (fun _ hk => trivial), by repeat (first | (with_reducible first | exact HB.out | apply ba_ | apply bn_ | apply bd_ | refine below_set ?_ GE408.out | refine below_set ?_ GE410.out) | exact HB.out)⟩
    rw [if_neg c10] at H
    have c10b0 : ((ji6) == 0) = false := beq_eq_false_iff_ne.mpr c10
    have c10b1 : ((ji6) != 0) = true := bne_iff_ne.mpr c10
    by_cases c21 : (ji6) < (l0.length : Int)
    ·
     rw [if_pos c21] at H
     have c21b0 := decide_eq_true c21
     clear c21
     by_cases c22 : 0 < (t415.length : Int)
     ·
      rw [if_pos c22] at H
      have c22b0 := decide_eq_true c22
      have c22b1 : decide (0 < t415.length) = true := decide_eq_true (by omega)
      clear c22
      obtain ⟨y419, hy419⟩ : ∃ y_ : List (S25), y_ = (t415.set (0 : Int).toNat (⟨(rd_T25 l0 (ji6)).f0, (rd_T25 l0 (ji6)).f1⟩ : S25)) := ⟨_, rfl⟩
      replace H : (impl_HeapTake.l0 k ji6 y419 0 ((rd_T25 l0 0).f0) ((rd_T25 l0 0).f1)) = some (r1, r2, r3, r4) := by first | (rw [hy419]; with_reducible exact H) | (have H2_ := (Option.bind_some _ _).symm.trans H; rw [hy419]; with_reducible exact H2_) | (have H2_ := (Option.bind_some _ _).symm.trans H; with_reducible exact H2_) | with_reducible exact H | (rw [hy419]; exact H) | exact H
      have Ny419 := Aside0.mk hy419
      clear hy419
      have H' := Aside0.mk H
      clear H
      go_enter Try.func34, Try.ntmps34
      go_wp2_with (first | ((with_reducible refine gate_dst (N := 3) rfl ?_); refine box_event ?hg (N := 3) ?hd (cs := #[.int .i64 0, .int .i64 0]) (t := 25) ?hr ?_; (case hd => rfl); (case hg => rfl); (case hr => first | (go_simp; done) | (go_simp; rfl)); intro gb408 hg w24 hbox hb; have n0_ := Aside0.mk (below_step (by repeat (first | (with_reducible first | exact HB.out | apply ba_ | apply bn_ | apply bd_) | exact HB.out)) hb); have BK408 := Aside0.mk (hbox); have GW408 := Aside0.mk ((by rw [hg]; exact (below_size (by repeat (first | (with_reducible first | exact HB.out | apply ba_ | apply bn_ | apply bd_) | exact HB.out))) : w.heap.size ≤ gb408)); have GE408 := GW408; clear HB; have HB := n0_; clear n0_; clear hb hbox hg; have p409 : 0 ≤ (0 : Int) := (by omega); have q409 : 0 < (l0.length : Int) := of_decide_eq_true (by with_reducible assumption); obtain ⟨ad409, e409, hx409_0, hx409_1⟩ := at_T25 HR0.out 0 p409 q409; cases e409; have qi409 : (0 < l0.length) = True := eq_true (by omega); (try rw [show ((0 : Int)).toNat = 0 from rfl] at hx409_0); (try rw [show 0 * 2 = 0 from rfl] at hx409_0); (try rw [Addr.add_zero'] at hx409_0); (try rw [show ((0 : Int)).toNat = 0 from rfl] at hx409_1); (try rw [show 0 * 2 = 0 from rfl] at hx409_1); (try rw [Addr.add_zero'] at hx409_1); replace hx409_0 := cl_ HB.out hx409_0; replace hx409_1 := cl_ HB.out hx409_1; replace p409 := eq_true p409; replace q409 := eq_true q409) | ((with_reducible refine gate_dst (N := 5) rfl ?_); refine box_event ?hg (N := 5) ?hd (cs := #[.int .i64 0, .int .i64 0]) (t := 25) ?hr ?_; (case hd => rfl); (case hg => rfl); (case hr => first | (go_simp; done) | (go_simp; rfl)); intro gb410 hg w25 hbox hb; have n0_ := Aside0.mk (bb_ BK408.out hb); have n1_ := Aside0.mk (below_step (by repeat (first | (with_reducible first | exact HB.out | apply ba_ | apply bn_ | apply bd_ | refine below_set ?_ GE408.out) | exact HB.out)) hb); have n2_ := Aside0.mk (hbox); have n3_ := Aside0.mk ((by rw [hg]; exact (below_size (by repeat (first | (with_reducible first | exact HB.out | apply ba_ | apply bn_ | apply bd_ | refine below_set ?_ GE408.out) | exact HB.out))) : w.heap.size ≤ gb410)); have n4_ := n3_; have n5_ := Aside0.mk (nl_ BK408.out hg); have n6_ := Aside0.mk (n5_.out.symm); clear BK408 HB; have BK408 := n0_; have HB := n1_; have BK410 := n2_; have GW410 := n3_; have GE410 := n4_; have NB408_410 := n5_; have NB410_408 := n6_; clear n0_ n1_ n2_ n3_ n4_ n5_ n6_; clear hb hbox hg; have hnb26 := NB410_408.out; have hnc26 := NB408_410.out; obtain ⟨hcz27_0, hcz27_1, hfz27_0, hfz27_1⟩ := bc2_ BK410.out) | ((with_reducible refine gate_store (t := 25) (p := 5) rfl ?_); refine store_event (t := 25) (p := 5) (v := ?vo_w28) (w1 := ((w25.setCell ⟨gb410, 0, none⟩ (.int .i64 ((rd_T25 l0 0).f0))).setCell ⟨gb410, 1, none⟩ (.int .i64 ((rd_T25 l0 0).f1)))) ?hg ?ho ?hn ?hr ?_; (case ho => rfl); (case hg => rfl); (case hn => rfl); (case hr => first | (go_simp; done) | (go_simp; rfl)); intro w28 hw; have n0_ : Aside0 (w28.heap[gb408]? = some (.cells #[.int .i64 0, .int .i64 0] 25 (0, 0))) := ⟨(by rw [hw]; exact (by (with_reducible repeat (first | refine kn_ ?_ _ | refine kd_ ?_ | refine ka_ ?_ _)); refine blk_far ?_ NB408_410.out _; (with_reducible repeat (first | refine kn_ ?_ _ | refine kd_ ?_ | refine ka_ ?_ _)); refine blk_far ?_ NB408_410.out _; (with_reducible repeat (first | refine kn_ ?_ _ | refine kd_ ?_ | refine ka_ ?_ _)); exact BK408.out))⟩; have n1_ : Aside0 (w28.heap[gb410]? = some (.cells #[.int .i64 ((rd_T25 l0 0).f0), .int .i64 ((rd_T25 l0 0).f1)] 25 (0, 0))) := ⟨(by rw [hw]; exact (by (with_reducible repeat (first | refine kn_ ?_ _ | refine kd_ ?_ | refine ka_ ?_ _)); refine blk_put (cs := #[.int .i64 ((rd_T25 l0 0).f0), .int .i64 0]) ?_ 1 _ rfl; (with_reducible repeat (first | refine kn_ ?_ _ | refine kd_ ?_ | refine ka_ ?_ _)); refine blk_put (cs := #[.int .i64 0, .int .i64 0]) ?_ 0 _ rfl; (with_reducible repeat (first | refine kn_ ?_ _ | refine kd_ ?_ | refine ka_ ?_ _)); exact BK410.out))⟩; have n2_ : Aside0 (Below w.heap.size w w28) := ⟨(by rw [hw]; exact (by repeat (first | (with_reducible first | exact HB.out | apply ba_ | apply bn_ | apply bd_ | refine below_set ?_ GE408.out | refine below_set ?_ GE410.out) | exact HB.out)))⟩; clear hw BK408 BK410 HB; have BK408 := n0_; have BK410 := n1_; have HB := n2_; clear n0_ n1_ n2_; have q29 : ((ji6) : Int) ≤ ((l0.length : Int) : Int) := of_decide_eq_true (by with_reducible assumption); obtain ⟨i029, hi029, _, hsz29, _⟩ := info_parts info25; have hroom29 : l0.length ≤ c0 := HC0.out; have hC29 : Kd.C k25 _ (some ad409) l0.length l0 := HR0.out; have hcut29 := cut_to (P := Try.prog) 31 25 .i64 Try.underlying31 hi029 (some ad409) l0.length c0 (ji6) (of_decide_eq_true (by with_reducible assumption)) q29 hroom29; have hr29 := Kd.C_take (m := ((ji6) : Int).toNat) hC29 (by omega); have hy29 : y411.length = ((ji6) : Int).toNat := (by rw [Ny411.out, List.length_take]; omega); rw [← Ny411.out] at hr29; rw [← hy29] at hcut29; have HR414 := Aside0.mk hr29; have HC414 := Aside0.mk (show y411.length ≤ c0 from by omega); clear hr29 hC29 hroom29 hi029 hsz29; have KY29 := Aside0.mk hy29; clear hy29; replace q29 := eq_true q29) | ((with_reducible refine gate_callee (f := 54) rfl ?_); refine goesL_ (some 23) rfl rfl Try.func54 (by kernel_rfl) rfl #[.slice (some ad409) y411.length c0] rfl (by (try simp only [mp_]); first | done | rfl | (simp only [List.length_drop, List.length_take]; rfl)) ?_; (with_reducible refine (impl_copyTimers.calls _ _ y411 t415 _ ?side1 ?side2 A9.out).mono ?_); (case side1 => repeat (first | exact (Kd.C_below HR414.out HB.out) | (with_reducible first | refine ca_ ?_ _ | refine cn_ ?_ _ | refine cd_ ?_))); (case side2 => exact HC414.out); rintro e w30 ⟨v416, rfl, ho0, hb⟩; refine ⟨_, rfl, ?_⟩; have n0_ := Aside0.mk (Kd.R_lower (Kd.R_newB (Kd.R_newB ho0 (g := gb408) (o := .cells #[.int .i64 0, .int .i64 0] 25 (0, 0)) (pb_ BK408.out)) (g := gb410) (o := .cells #[.int .i64 ((rd_T25 l0 0).f0), .int .i64 ((rd_T25 l0 0).f1)] 25 (0, 0)) (pb_ BK410.out)) (below_size (by repeat (first | (with_reducible first | exact HB.out | apply ba_ | apply bn_ | apply bd_ | refine below_set ?_ GE408.out | refine below_set ?_ GE410.out) | exact HB.out)))); have n1_ := Aside0.mk (bb_ BK408.out hb); have n2_ := Aside0.mk (bb_ BK410.out hb); have n3_ := Aside0.mk (below_step (by repeat (first | (with_reducible first | exact HB.out | apply ba_ | apply bn_ | apply bd_ | refine below_set ?_ GE408.out | refine below_set ?_ GE410.out) | exact HB.out)) hb); clear BK408 BK410 HB; have HO417 := n0_; have BK408 := n1_; have BK410 := n2_; have HB := n3_; clear n0_ n1_ n2_ n3_; (try clear hb); (try clear hb2); (try clear hk); (try clear hi); (try clear ho0); have p418 : 0 ≤ ((ji6) : Int) := of_decide_eq_true (by with_reducible assumption); have q418 : (ji6) < (l0.length : Int) := of_decide_eq_true (by with_reducible assumption); obtain ⟨ad418, e418, hx418_0, hx418_1⟩ := at_T25 HR0.out (ji6) p418 q418; obtain rfl : ad409 = ad418 := (by injection e418); replace hx418_0 := cl_ HB.out hx418_0; replace hx418_1 := cl_ HB.out hx418_1; replace p418 := eq_true p418; replace q418 := eq_true q418; have p23 : 0 ≤ (0 : Int) := (by omega); have q23 : (0 : Int) < ((t415.length : Int) : Int) := of_decide_eq_true (by with_reducible assumption); have qi23 : (0 < t415.length) = True := eq_true (by omega); obtain ⟨go23, co23, eo23, gb23, gl23, cl23, HG23⟩ := Kd.R_form HO417.out (by omega); (first | cases eo23 | (injection eo23 with ea_ en_ ec_; (first | subst ea_ | (injection ea_ with ea_; subst ea_)); subst ec_; clear en_)); have GB23 := Aside0.mk gb23; have GG23 := Aside0.mk HG23; clear gb23 gl23 HG23; obtain ⟨ce23, hcl23, hM23, hcc23, hfr23⟩ := Kd.R_elem HO417.out z25 (0 : Int) p23 q23; obtain rfl := k25_openM hM23; have hx23_0 : w30.cell? ⟨go23, (0 : Int).toNat * 2, none⟩ = some (.int .i64 ((rd_T25 t415 0).f0)) := hcc23 0 _ rfl; have hx23_1 : w30.cell? ⟨go23, (0 : Int).toNat * 2 + 1, none⟩ = some (.int .i64 ((rd_T25 t415 0).f1)) := hcc23 1 _ rfl; have hf23_0 : w30.frozen? ⟨go23, (0 : Int).toNat * 2, none⟩ = false := hfr23 0; have hf23_1 : w30.frozen? ⟨go23, (0 : Int).toNat * 2 + 1, none⟩ = false := hfr23 1; clear hcl23 hcc23 hfr23 hM23; (try rw [show ((0 : Int)).toNat = 0 from rfl] at hx23_0); (try simp only [Nat.reduceMul, Nat.zero_mul, Nat.zero_add, Nat.reduceAdd] at hx23_0); (try rw [show ((0 : Int)).toNat = 0 from rfl] at hf23_0); (try simp only [Nat.reduceMul, Nat.zero_mul, Nat.zero_add, Nat.reduceAdd] at hf23_0); (try rw [show ((0 : Int)).toNat = 0 from rfl] at hx23_1); (try simp only [Nat.reduceMul, Nat.zero_mul, Nat.zero_add, Nat.reduceAdd] at hx23_1); (try rw [show ((0 : Int)).toNat = 0 from rfl] at hf23_1); (try simp only [Nat.reduceMul, Nat.zero_mul, Nat.zero_add, Nat.reduceAdd] at hf23_1); replace p23 := eq_true p23; replace q23 := eq_true q23; have n_ := Aside0.mk (Kd.R_mono (ok' := (fun k_ => k_ ≠ gb408 ∧ k_ ≠ gb410)) HO417.out (fun k_ hk => ⟨hk.1.2, hk.2⟩)); clear HO417; have HO417 := n_; clear n_; have HX31 := Aside0.mk (show Kd.R k25 25 w30 w.heap.size (fun k_ => k_ ≠ gb408 ∧ k_ ≠ gb410) (.slice (some ⟨go23, 0, none⟩) t415.length co23) t415 from (rp_ HO417.out)); obtain ⟨ce31, hcl31, hM31, hcc31, hfr31⟩ := Kd.R_elem HX31.out z25 (0 : Int) (by omega) (by have h_ : (0 : Int) < ((t415.length : Int) : Int) := of_decide_eq_true (by with_reducible assumption); first | exact h_ | (have e_ := (Kd.R_reads' HO417.out).1; omega) | simpa using h_); obtain rfl := k25_openM hM31; have HP31 := Kd.R_seg HX31.out (0 : Int) (by omega) (by have h_ : (0 : Int) < ((t415.length : Int) : Int) := of_decide_eq_true (by with_reducible assumption); first | exact h_ | (have e_ := (Kd.R_reads' HO417.out).1; omega) | simpa using h_) (seg := [.int .i64 ((rd_T25 l0 (ji6)).f0), .int .i64 ((rd_T25 l0 (ji6)).f1)]) (j := 0) hcl31 hcc31 (show 2 ≤ 2 from by decide) (x' := (⟨(rd_T25 l0 (ji6)).f0, (rd_T25 l0 (ji6)).f1⟩ : S25)) (k25_mkM _ _ _ (⟨(rd_T25 l0 (ji6)).f0, (rd_T25 l0 (ji6)).f1⟩ : S25) ) (fun _ hk => hk); have hx31_0 := hcc31 0 _ rfl; (try simp only [show (k25).sz = 2 from rfl, Nat.mul_one, Nat.add_zero] at hx31_0); (try rw [show ((0 : Int)).toNat = 0 from rfl] at hx31_0); (try simp only [Nat.reduceMul, Nat.zero_mul, Nat.zero_add, Nat.reduceAdd] at hx31_0); have hf31_0 := hfr31 0; (try simp only [show (k25).sz = 2 from rfl, Nat.mul_one, Nat.add_zero] at hf31_0); (try rw [show ((0 : Int)).toNat = 0 from rfl] at hf31_0); (try simp only [Nat.reduceMul, Nat.zero_mul, Nat.zero_add, Nat.reduceAdd] at hf31_0); have hx31_1 := hcc31 1 _ rfl; (try simp only [show (k25).sz = 2 from rfl, Nat.mul_one, Nat.add_zero] at hx31_1); (try rw [show ((0 : Int)).toNat = 0 from rfl] at hx31_1); (try simp only [Nat.reduceMul, Nat.zero_mul, Nat.zero_add, Nat.reduceAdd] at hx31_1); have hf31_1 := hfr31 1; (try simp only [show (k25).sz = 2 from rfl, Nat.mul_one, Nat.add_zero] at hf31_1); (try rw [show ((0 : Int)).toNat = 0 from rfl] at hf31_1); (try simp only [Nat.reduceMul, Nat.zero_mul, Nat.zero_add, Nat.reduceAdd] at hf31_1); clear hcl31 hcc31 hfr31 hM31) | ((with_reducible refine gate_store (t := 25) (p := 33) rfl ?_); refine store_event (t := 25) (p := 33) (v := ?vo_w32) (w1 := ((w30.setCell ⟨go23, 0, none⟩ (.int .i64 ((rd_T25 l0 (ji6)).f0))).setCell ⟨go23, 1, none⟩ (.int .i64 ((rd_T25 l0 (ji6)).f1)))) ?hg ?ho ?hn ?hr ?_; (case ho => rfl); (case hg => rfl); (case hn => rfl); (case hr => first | (go_simp; done) | (go_simp; rfl)); intro w32 hw; have hg : w30.grownBy w32 (some go23) := (by rw [hw]; exact HP31.2); have hp_ : Kd.R k25 25 w32 w.heap.size (fun k_ => k_ ≠ gb408 ∧ k_ ≠ gb410) (.slice (some ⟨go23, 0, none⟩) t415.length co23) y419 := (by rw [hw, Ny419.out]; exact HP31.1); clear HP31; have n0_ := Aside0.mk (blk_grown (g := gb408) (o := .cells #[.int .i64 0, .int .i64 0] 25 (0, 0)) (pb_ BK408.out) hg (Kd.R_away HO417.out (fun _ hk => hk.1))); have n1_ := Aside0.mk (blk_grown (g := gb410) (o := .cells #[.int .i64 ((rd_T25 l0 0).f0), .int .i64 ((rd_T25 l0 0).f1)] 25 (0, 0)) (pb_ BK410.out) hg (Kd.R_away HO417.out (fun _ hk => hk.2))); have n2_ := Aside0.mk (hp_); have n3_ := Aside0.mk ((by rw [hw]; exact below_set (below_set (HB.out) GB23.out) GB23.out : Below w.heap.size w w32)); clear BK408 BK410 HO417 HB; have BK408 := n0_; have BK410 := n1_; have HO417 := n2_; have HB := n3_; clear n0_ n1_ n2_ n3_; clear hg hw hp_))
      go_loopg [8] k (fun kq v8 w' => ∃ (x7_1 : List (S25)) (x8_1 : Int) (x409000_1 : Int) (x409001_1 : Int) (x411000_1 : Int) (x411001_1 : Int), v8 = .int .i64 x8_1 ∧ Aside0 (impl_HeapTake.l0 kq ji6 x7_1 x8_1 x411000_1 x411001_1 = some (r1, r2, r3, r4)) ∧ Aside0 (kq ≤ k) ∧ Aside0 (Kd.R k25 25 w' w.heap.size (fun k_ => k_ ≠ gb408 ∧ k_ ≠ gb410) (.slice (some ⟨go23, 0, none⟩) t415.length co23) x7_1) ∧ Aside0 (w'.heap[gb408]? = some (.cells #[.int .i64 x409000_1, .int .i64 x409001_1] 25 (0, 0))) ∧ Aside0 (w'.heap[gb410]? = some (.cells #[.int .i64 x411000_1, .int .i64 x411001_1] 25 (0, 0))) ∧ Aside0 (Below w.heap.size w w'))
      case atStart => exact ⟨(y419), (0), (0), (0), ((rd_T25 l0 0).f0), ((rd_T25 l0 0).f1), (by first | rfl | (simp; done) | (simp [*]; done)), H', ⟨Nat.le_refl _⟩, ⟨by (with_reducible repeat (first | apply Kd.R_alloc | apply Kd.R_drewN | apply Kd.R_drew)); exact HO417.out⟩, ⟨by (with_reducible repeat (first | refine kn_ ?_ _ | refine kd_ ?_ | refine ka_ ?_ _)); exact BK408.out⟩, ⟨by (with_reducible repeat (first | refine kn_ ?_ _ | refine kd_ ?_ | refine ka_ ?_ _)); exact BK410.out⟩, ⟨by repeat (first | (with_reducible first | exact HB.out | apply ba_ | apply bn_ | apply bd_ | refine below_set ?_ GE408.out | refine below_set ?_ GE410.out) | exact HB.out)⟩⟩
      case round =>
       clear H'
       try clear c1
       try clear q1
       try clear c2
       try clear c2b0
       try clear c2b1
       try clear c2b2
       try clear p2
       try clear q2
       try clear hx2
       try clear qi2
       try clear hf2
       try clear c3
       try clear hx3
       try clear hf3
       try clear p4
       try clear q4
       try clear hx4
       try clear qi4
       try clear c5
       try clear c5b0
       try clear c5b1
       try clear p6
       try clear c7
       try clear c7b0
       try clear c7b1
       try clear c8
       try clear c8b0
       try clear c8b1
       try clear c10
       try clear c10b0
       try clear c10b1
       try clear c13
       try clear q16
       try clear c21
       try clear c21b0
       try clear c22
       try clear c22b0
       try clear c22b1
       try clear c23
       try clear p23
       try clear q23
       try clear hx23
       try clear qi23
       try clear hf23
       try clear c26
       try clear q29
       try clear c31
       try clear hx31
       try clear hf31
       try clear hcz27_0 hcz27_1 hfz27_0 hfz27_1
       try clear hx23_0
       try clear hx23_1
       try clear hx31_0
       try clear hx31_1
       try clear hx409_0
       try clear hx409_1
       try clear hx418_0
       try clear hx418_1
       try clear p23
       try clear p409
       try clear p418
       try clear q16
       try clear q23
       try clear q29
       try clear q409
       try clear q418
       obtain ⟨x7_1, x8_1, x409000_1, x409001_1, x411000_1, x411001_1, rfl, HA, HK1, HO_7, BK408, BK410, HB⟩ := hrel
       have hl7_1 := (Kd.R_reads' HO_7.out).1
       rw [hl7_1] at HO_7
       (try simp only [hl7_1])
       (try simp only [hl7_1] at BK408)
       (try simp only [hl7_1] at BK410)
       cases gk with
       | zero => exact absurd HA.out (by simp [impl_HeapTake.l0])
       | succ k1 =>
        have H := HA.out
        clear HA
        simp only [impl_HeapTake.l0] at H
        have HC33 := Aside0.mk H
        clear H
        go_upto_region 11 with (fail)
        go_cut [52] (fun v52 wc => ∃ (kq : Nat) (x52_32 : Bool), v52 = .bool x52_32 ∧ Aside0 (impl_HeapTake.j1 kq ji6 x7_1 x8_1 (wrap64 ((wrap64 (2 * x8_1)) + 1)) x52_32 x411000_1 x411001_1 = some (r1, r2, r3, r4)) ∧ Aside0 (kq ≤ k1) ∧ Aside0 (Kd.R k25 25 wc w.heap.size (fun k_ => k_ ≠ gb408 ∧ k_ ≠ gb410) (.slice (some ⟨go23, 0, none⟩) x7_1.length co23) x7_1) ∧ Aside0 (wc.heap[gb408]? = some (.cells #[.int .i64 x409000_1, .int .i64 x409001_1] 25 (0, 0))) ∧ Aside0 (wc.heap[gb410]? = some (.cells #[.int .i64 x411000_1, .int .i64 x411001_1] 25 (0, 0))) ∧ Aside0 (Below w.heap.size w wc))
        case first =>
         have H := HC33.out
         clear HC33
         by_cases c34 : (wrap64 ((wrap64 ((wrap64 (2 * x8_1)) + 1)) + 1)) < ji6
         ·
          rw [if_pos c34] at H
          have c34b0 := decide_eq_true c34
          clear c34
          (first | rw [c34b0] | (simp only [i64_w, i32_w]; rw [c34b0]) | skip)
          obtain ⟨ji35, hji35⟩ : ∃ j_ : Int, (wrap64 ((wrap64 ((wrap64 (2 * x8_1)) + 1)) + 1)) = j_ := ⟨_, rfl⟩
          replace H : (if 0 ≤ (ji35) then (if (ji35) < (x7_1.length : Int) then (if 0 ≤ (wrap64 ((wrap64 (2 * x8_1)) + 1)) then (if (wrap64 ((wrap64 (2 * x8_1)) + 1)) < (x7_1.length : Int) then ((impl_Before.f ((rd_T25 x7_1 (ji35)).f0) ((rd_T25 x7_1 (ji35)).f1) ((rd_T25 x7_1 (wrap64 ((wrap64 (2 * x8_1)) + 1))).f0) ((rd_T25 x7_1 (wrap64 ((wrap64 (2 * x8_1)) + 1))).f1)).bind fun t422 => (impl_HeapTake.j1 k1 ji6 x7_1 x8_1 (wrap64 ((wrap64 (2 * x8_1)) + 1)) t422 x411000_1 x411001_1)) else (none)) else (none)) else (none)) else (none)) = some (r1, r2, r3, r4) := by first | (rw [hji35] at H; exact H) | (simp only [hji35] at H ⊢; exact H)
          (try rw [hji35] at c34b0)
          have hji35w : (IntKind.i64.wrap ((wrap64 ((wrap64 (2 * x8_1)) + 1)) + 1)) = ji35 := (i64_w _).trans hji35
          by_cases c36 : 0 ≤ (ji35)
          ·
           rw [if_pos c36] at H
           have c36b0 := decide_eq_true c36
           clear c36
           by_cases c37 : (ji35) < (x7_1.length : Int)
           ·
            rw [if_pos c37] at H
            have c37b0 := decide_eq_true c37
            clear c37
            obtain ⟨ji38, hji38⟩ : ∃ j_ : Int, (wrap64 ((wrap64 (2 * x8_1)) + 1)) = j_ := ⟨_, rfl⟩
            replace H : (if 0 ≤ (ji38) then (if (ji38) < (x7_1.length : Int) then ((impl_Before.f ((rd_T25 x7_1 (ji35)).f0) ((rd_T25 x7_1 (ji35)).f1) ((rd_T25 x7_1 (ji38)).f0) ((rd_T25 x7_1 (ji38)).f1)).bind fun t422 => (impl_HeapTake.j1 k1 ji6 x7_1 x8_1 ji38 t422 x411000_1 x411001_1)) else (none)) else (none)) = some (r1, r2, r3, r4) := by first | (rw [hji38] at H; exact H) | (simp only [hji38] at H ⊢; exact H)
            (try rw [hji38] at c34b0)
            have hji38w : (IntKind.i64.wrap ((wrap64 (2 * x8_1)) + 1)) = ji38 := (i64_w _).trans hji38
            (try rw [hji38] at hji35)
            (try rw [hji38] at hji35w)
            by_cases c39 : 0 ≤ (ji38)
            ·
             rw [if_pos c39] at H
             have c39b0 := decide_eq_true c39
             clear c39
             by_cases c40 : (ji38) < (x7_1.length : Int)
             ·
              rw [if_pos c40] at H
              have c40b0 := decide_eq_true c40
              clear c40
              replace H := Option.bind_eq_some_iff.mp H
              obtain ⟨t422, A410, H⟩ := H
              have A41 := Aside0.mk A410
              clear A410
              have H' := Aside0.mk H
              clear H
              try go_wp2
              have n0_ := Aside0.mk (Kd.R_drew HO_7.out)
              have n1_ := Aside0.mk (blk_drew BK408.out)
              have n2_ := Aside0.mk (blk_drew BK410.out)
              have n3_ := Aside0.mk (bd_ HB.out)
              clear HO_7 BK408 BK410 HB
              have HO_7 := n0_
              have BK408 := n1_
              have BK410 := n2_
              have HB := n3_
              clear n0_ n1_ n2_ n3_
              have p420 : 0 ≤ ((ji35) : Int) := of_decide_eq_true (by with_reducible assumption)
              have q420 : (ji35) < (x7_1.length : Int) := of_decide_eq_true (by with_reducible assumption)
              obtain ⟨ad420, e420, hx420_0, hx420_1⟩ := at_T25 (Kd.R_reads' HO_7.out).2.2 (ji35) p420 q420
              obtain rfl : (⟨go23, 0, none⟩ : Addr) = ad420 := (by injection e420)
              (first | simp only [add_plain] at hx420_0 | simp only [add_at] at hx420_0 | simp only [Addr.add, Nat.zero_add] at hx420_0 | skip)
              (first | simp only [add_plain] at hx420_1 | simp only [add_at] at hx420_1 | simp only [Addr.add, Nat.zero_add] at hx420_1 | skip)
              replace p420 := eq_true p420
              replace q420 := eq_true q420
              have p421 : 0 ≤ ((ji38) : Int) := of_decide_eq_true (by with_reducible assumption)
              have q421 : (ji38) < (x7_1.length : Int) := of_decide_eq_true (by with_reducible assumption)
              obtain ⟨ad421, e421, hx421_0, hx421_1⟩ := at_T25 (Kd.R_reads' HO_7.out).2.2 (ji38) p421 q421
              obtain rfl : (⟨go23, 0, none⟩ : Addr) = ad421 := (by injection e421)
              (first | simp only [add_plain] at hx421_0 | simp only [add_at] at hx421_0 | simp only [Addr.add, Nat.zero_add] at hx421_0 | skip)
              (first | simp only [add_plain] at hx421_1 | simp only [add_at] at hx421_1 | simp only [Addr.add, Nat.zero_add] at hx421_1 | skip)
              replace p421 := eq_true p421
              replace q421 := eq_true q421
              refine start_ (n := 16) (S := fun w' => w'.cell? ⟨go23, ((ji35)).toNat * 2, none⟩ = some (.int .i64 ((rd_T25 x7_1 (ji35)).f0)) ∧ w'.cell? ⟨go23, ((ji35)).toNat * 2 + 1, none⟩ = some (.int .i64 ((rd_T25 x7_1 (ji35)).f1)) ∧ w'.cell? ⟨go23, ((ji38)).toNat * 2, none⟩ = some (.int .i64 ((rd_T25 x7_1 (ji38)).f0)) ∧ w'.cell? ⟨go23, ((ji38)).toNat * 2 + 1, none⟩ = some (.int .i64 ((rd_T25 x7_1 (ji38)).f1))) (ds := []) #[f_,f_,f_,f_,f_,f_,f_,f_,f_,f_,f_,f_,f_,f_,f_,f_] (by kernel_rfl) rfl rfl ⟨hx420_0, hx420_1, hx421_0, hx421_1⟩ (fun hHeld => ?_); refine with_tabW impl_HeapTake.tab11 impl_HeapTake.bits11 (fun HT_ HW_ => ?_)
              generalize wr.drew = w42 at HO_7 BK408 BK410 HB hx420_0 hx420_1 hx421_0 hx421_1 hHeld ⊢
              refine pu_ 0 37 ?_ (b_ 1 15) rfl rfl HT_.out ?_ ?_ ?_ ?_; rotate_left; intro w'; go_simp; with_reducible rfl; rotate_left; simp only [fr_]; rfl
              refine pu_ 1 38 ?_ (b_ 2 14) rfl rfl HT_.out ?_ ?_ ?_ ?_; rotate_left; intro w'; go_simp; with_reducible rfl; rotate_left; simp only [fr_]; rfl
              refine pu_ 2 39 ?_ (b_ 3 13) rfl rfl HT_.out ?_ ?_ ?_ ?_; rotate_left; intro w'; go_simp; with_reducible rfl; rotate_left; simp only [fr_]; rfl
              refine pu_ 3 40 ?_ (b_ 4 12) rfl rfl HT_.out ?_ ?_ ?_ ?_; rotate_left; intro w'; go_simp; with_reducible rfl; rotate_left; simp only [fr_]; rfl
              refine pu_ 4 41 ?_ (b_ 5 11) rfl rfl HT_.out ?_ ?_ ?_ ?_; rotate_left; intro w'; go_simp; with_reducible rfl; rotate_left; simp only [fr_]; rfl
              refine pu_ 5 42 ?_ (b_ 6 10) rfl rfl HT_.out ?_ ?_ ?_ ?_; rotate_left; intro w'; go_simp; with_reducible rfl; rotate_left; simp only [fr_]; rfl
              refine pu_ 6 43 ?_ (b_ 7 9) rfl rfl HT_.out ?_ ?_ ?_ ?_; rotate_left; intro w'; go_simp; with_reducible rfl; rotate_left; simp only [fr_]; rfl
              refine pu_ 7 44 ?_ (b_ 8 8) rfl rfl HT_.out ?_ ?_ ?_ ?_; rotate_left; intro w'; go_simp; with_reducible rfl; rotate_left; simp only [fr_]; rfl
              refine pu_ 8 45 ?_ (b_ 9 7) rfl rfl HT_.out ?_ ?_ ?_ ?_; rotate_left; intro w'; go_simp; with_reducible rfl; rotate_left; simp only [fr_]; rfl
              refine pu_ 10 47 ?_ #[t_,t_,t_,t_,t_,t_,t_,t_,t_,f_,t_,f_,f_,f_,f_,f_] rfl rfl HT_.out ?_ ?_ ?_ ?_; rotate_left; intro w'; go_simp; with_reducible rfl; rotate_left; simp only [fr_]; rfl
              refine pu_ 11 48 ?_ #[t_,t_,t_,t_,t_,t_,t_,t_,t_,f_,t_,t_,f_,f_,f_,f_] rfl rfl HT_.out ?_ ?_ ?_ ?_; rotate_left; intro w'; go_simp; with_reducible rfl; rotate_left; simp only [fr_]; rfl
              refine pu_ 12 49 ?_ #[t_,t_,t_,t_,t_,t_,t_,t_,t_,f_,t_,t_,t_,f_,f_,f_] rfl rfl HT_.out ?_ ?_ ?_ ?_; rotate_left; intro w'; go_simp; with_reducible rfl; rotate_left; simp only [fr_]; rfl
              refine take_ (i := 9) (N := some 46) (v := ?_) (a' := ?_) #[t_,t_,t_,t_,t_,t_,t_,t_,t_,t_,t_,t_,t_,f_,f_,f_] rfl rfl (take_ofW HT_.out HW_.out (by kernel_rfl)) (fun _ _ _ h => h) (Or.inl ⟨by rfl, ?_⟩) hHeld ?_ ?_
              rotate_left
              ·
               rintro w' ⟨s0, s1, s2, s3⟩
               go_simp
               with_reducible rfl
              rotate_left
              ·
               simp only [fr_]
               rfl
              refine take_ (i := 13) (N := some 50) (v := ?_) (a' := ?_) #[t_,t_,t_,t_,t_,t_,t_,t_,t_,t_,t_,t_,t_,t_,f_,f_] rfl rfl (take_ofW HT_.out HW_.out (by kernel_rfl)) (fun _ _ _ h => h) (Or.inl ⟨by rfl, ?_⟩) hHeld ?_ ?_
              rotate_left
              ·
               rintro w' ⟨s0, s1, s2, s3⟩
               go_simp
               with_reducible rfl
              rotate_left
              ·
               simp only [fr_]
               rfl
              refine one_ (i := 14) (N := some 51) #[t_,t_,t_,t_,t_,t_,t_,t_,t_,t_,t_,t_,t_,t_,t_,f_] rfl rfl (one_of HT_.out (by kernel_rfl)) (by decide) (fun K hK => ?_)
              refine goes_ Try.func16 (by kernel_rfl) rfl #[.agg #[.int .i64 ((rd_T25 x7_1 (ji35)).f0), .int .i64 ((rd_T25 x7_1 (ji35)).f1)], .agg #[.int .i64 ((rd_T25 x7_1 (ji38)).f0), .int .i64 ((rd_T25 x7_1 (ji38)).f1)]] (by rfl) rfl rfl (by (try simp only [mp_]); first | done | (simp only [hji35, hji38]; rfl) | rfl | (simp only [List.length_drop, List.length_take]; rfl)) ?_
              with_reducible refine (impl_Before.calls ((rd_T25 x7_1 (ji35)).f0) ((rd_T25 x7_1 (ji35)).f1) ((rd_T25 x7_1 (ji38)).f0) ((rd_T25 x7_1 (ji38)).f1) t422 _ A41.out).mono ?_
              rintro e w43 ⟨rfl, hb⟩
              have HS0_ := (hb.cell (World.block_lt_of_cell? _ _ (hHeld.1))).trans (hHeld.1)
              have HS1_ := (hb.cell (World.block_lt_of_cell? _ _ (hHeld.2.1))).trans (hHeld.2.1)
              have HS2_ := (hb.cell (World.block_lt_of_cell? _ _ (hHeld.2.2.1))).trans (hHeld.2.2.1)
              have HS3_ := (hb.cell (World.block_lt_of_cell? _ _ (hHeld.2.2.2))).trans (hHeld.2.2.2)
              refine ⟨_, rfl, ?_⟩
              have n0_ := Aside0.mk (Kd.R_below (rp_ HO_7.out) hb)
              have n1_ := Aside0.mk (bb_ BK408.out hb)
              have n2_ := Aside0.mk (bb_ BK410.out hb)
              have n3_ := Aside0.mk (below_step (by repeat (first | (with_reducible first | exact HB.out | apply ba_ | apply bn_ | apply bd_ | refine below_set ?_ GE408.out | refine below_set ?_ GE410.out) | exact HB.out)) hb)
              clear HO_7 BK408 BK410 HB
              have HO_7 := n0_
              have BK408 := n1_
              have BK410 := n2_
              have HB := n3_
              clear n0_ n1_ n2_ n3_
              (try clear hb)
              (try clear hb2)
              (try clear hk)
              (try clear hi)
              refine hK.out _ _ ⟨HS0_, HS1_, HS2_, HS3_⟩ (fun hHeld => ?_)
              clear hK K
              refine norm_ (a' := ?_) ?_ ?_
              rotate_left
              ·
               show Act.put _ (some 51) _ = _
               simp only [fr_]
               rfl
              refine pu_ 15 52 ?_ (b_ 16 0) rfl rfl HT_.out ?_ ?_ ?_ ?_; rotate_left; intro w'; go_simp; with_reducible rfl; rotate_left; simp only [fr_]; rfl
              refine done_ (done_of HT_.out (by kernel_rfl)) ?_
              try go_wp2
              (try subst hji38)
              (try subst hji35)
              go_meet
              case rel => exact ⟨_, (t422), (by first | rfl | (simp; done) | (simp [*]; done)), H', ⟨by have := HK1.out; first | omega | exact Nat.le_refl _⟩, ⟨by (try simp only [hl7_1]); (with_reducible repeat (first | apply Kd.R_alloc | apply Kd.R_drewN | apply Kd.R_drew)); exact HO_7.out⟩, ⟨by (try simp only [hl7_1]); (with_reducible repeat (first | refine kn_ ?_ _ | refine kd_ ?_ | refine ka_ ?_ _)); exact BK408.out⟩, ⟨by (try simp only [hl7_1]); (with_reducible repeat (first | refine kn_ ?_ _ | refine kd_ ?_ | refine ka_ ?_ _)); exact BK410.out⟩, ⟨by repeat (first | (with_reducible first | exact HB.out | apply ba_ | apply bn_ | apply bd_ | refine below_set ?_ GE408.out | refine below_set ?_ GE410.out) | exact HB.out)⟩⟩
             rw [if_neg c40] at H
             exact absurd H (by simp)
            rw [if_neg c39] at H
            exact absurd H (by simp)
           rw [if_neg c37] at H
           exact absurd H (by simp)
          rw [if_neg c36] at H
          exact absurd H (by simp)
         rw [if_neg c34] at H
         have c34b0 : decide ((wrap64 ((wrap64 ((wrap64 (2 * x8_1)) + 1)) + 1)) < ji6) = false := decide_eq_false c34
         clear c34
         (first | rw [c34b0] | (simp only [i64_w, i32_w]; rw [c34b0]) | skip)
         have H' := Aside0.mk H
         clear H
         try go_wp2
         have n0_ := Aside0.mk (Kd.R_drew HO_7.out)
         have n1_ := Aside0.mk (blk_drew BK408.out)
         have n2_ := Aside0.mk (blk_drew BK410.out)
         have n3_ := Aside0.mk (bd_ HB.out)
         clear HO_7 BK408 BK410 HB
         have HO_7 := n0_
         have BK408 := n1_
         have BK410 := n2_
         have HB := n3_
         clear n0_ n1_ n2_ n3_
         refine start_ (n := 16) (S := fun w' => True) (ds := []) #[f_,f_,f_,f_,f_,f_,f_,f_,f_,f_,f_,f_,f_,f_,f_,f_] (by kernel_rfl) rfl rfl trivial (fun hHeld => ?_); refine with_tabW impl_HeapTake.tab11 impl_HeapTake.bits11 (fun HT_ HW_ => ?_)
         generalize wr.drew = w44 at HO_7 BK408 BK410 HB hHeld ⊢
         refine pu_ 0 37 ?_ (b_ 1 15) rfl rfl HT_.out ?_ ?_ ?_ ?_; rotate_left; intro w'; go_simp; with_reducible rfl; rotate_left; simp only [fr_]; rfl
         refine pu_ 1 38 ?_ (b_ 2 14) rfl rfl HT_.out ?_ ?_ ?_ ?_; rotate_left; intro w'; go_simp; with_reducible rfl; rotate_left; simp only [fr_]; rfl
         refine pu_ 2 39 ?_ (b_ 3 13) rfl rfl HT_.out ?_ ?_ ?_ ?_; rotate_left; intro w'; go_simp; with_reducible rfl; rotate_left; simp only [fr_]; rfl
         refine pu_ 3 40 ?_ (b_ 4 12) rfl rfl HT_.out ?_ ?_ ?_ ?_; rotate_left; intro w'; go_simp; with_reducible rfl; rotate_left; simp only [fr_]; rfl
         refine pu_ 4 41 ?_ (b_ 5 11) rfl rfl HT_.out ?_ ?_ ?_ ?_; rotate_left; intro w'; go_simp; with_reducible rfl; rotate_left; simp only [fr_]; rfl
         refine pv_ 5 42 ?_ (b_ 6 10) rfl rfl HT_.out ?_ ?_; rotate_left; simp only [fr_]; rfl
         refine pv_ 6 43 ?_ (b_ 7 9) rfl rfl HT_.out ?_ ?_; rotate_left; simp only [fr_]; rfl
         refine pv_ 7 44 ?_ (b_ 8 8) rfl rfl HT_.out ?_ ?_; rotate_left; simp only [fr_]; rfl
         refine pv_ 8 45 ?_ (b_ 9 7) rfl rfl HT_.out ?_ ?_; rotate_left; simp only [fr_]; rfl
         refine pv_ 9 46 ?_ (b_ 10 6) rfl rfl HT_.out ?_ ?_; rotate_left; simp only [fr_]; rfl
         refine pv_ 10 47 ?_ (b_ 11 5) rfl rfl HT_.out ?_ ?_; rotate_left; simp only [fr_]; rfl
         refine pv_ 11 48 ?_ (b_ 12 4) rfl rfl HT_.out ?_ ?_; rotate_left; simp only [fr_]; rfl
         refine pv_ 12 49 ?_ (b_ 13 3) rfl rfl HT_.out ?_ ?_; rotate_left; simp only [fr_]; rfl
         refine pv_ 13 50 ?_ (b_ 14 2) rfl rfl HT_.out ?_ ?_; rotate_left; simp only [fr_]; rfl
         refine pv_ 14 51 ?_ (b_ 15 1) rfl rfl HT_.out ?_ ?_; rotate_left; simp only [fr_]; rfl
         refine pu_ 15 52 ?_ (b_ 16 0) rfl rfl HT_.out ?_ ?_ ?_ ?_; rotate_left; intro w'; go_simp; with_reducible rfl; rotate_left; simp only [fr_]; rfl
         refine done_ (done_of HT_.out (by kernel_rfl)) ?_
         try go_wp2
         (try subst hji35)
         go_meet
         case rel => exact ⟨_, (false), (by first | rfl | (simp; done) | (simp [*]; done)), H', ⟨by have := HK1.out; first | omega | exact Nat.le_refl _⟩, ⟨by (try simp only [hl7_1]); (with_reducible repeat (first | apply Kd.R_alloc | apply Kd.R_drewN | apply Kd.R_drew)); exact HO_7.out⟩, ⟨by (try simp only [hl7_1]); (with_reducible repeat (first | refine kn_ ?_ _ | refine kd_ ?_ | refine ka_ ?_ _)); exact BK408.out⟩, ⟨by (try simp only [hl7_1]); (with_reducible repeat (first | refine kn_ ?_ _ | refine kd_ ?_ | refine ka_ ?_ _)); exact BK410.out⟩, ⟨by repeat (first | (with_reducible first | exact HB.out | apply ba_ | apply bn_ | apply bd_ | refine below_set ?_ GE408.out | refine below_set ?_ GE410.out) | exact HB.out)⟩⟩
        case rest =>
         clear HC33
         try clear c1
         try clear q1
         try clear c2
         try clear c2b0
         try clear c2b1
         try clear c2b2
         try clear p2
         try clear q2
         try clear hx2
         try clear qi2
         try clear hf2
         try clear c3
         try clear hx3
         try clear hf3
         try clear c4
         try clear p4
         try clear q4
         try clear hx4
         try clear qi4
         try clear c5
         try clear c5b0
         try clear c5b1
         try clear p6
         try clear c7
         try clear c7b0
         try clear c7b1
         try clear c8
         try clear c8b0
         try clear c8b1
         try clear c10
         try clear c10b0
         try clear c10b1
         try clear c13
         try clear c16
         try clear q16
         try clear c21
         try clear c21b0
         try clear c22
         try clear c22b0
         try clear c22b1
         try clear c23
         try clear p23
         try clear q23
         try clear hx23
         try clear qi23
         try clear hf23
         try clear c26
         try clear q29
         try clear c31
         try clear hx31
         try clear hf31
         try clear c34
         try clear c34b0
         try clear c36
         try clear c36b0
         try clear c37
         try clear c37b0
         try clear c39
         try clear c39b0
         try clear c40
         try clear c40b0
         try clear p40
         try clear q40
         try clear hx40
         try clear qi40
         try clear p41
         try clear q41
         try clear hx41
         try clear p42
         try clear q42
         try clear hx42
         try clear hx23_0
         try clear hx23_1
         try clear hx31_0
         try clear hx31_1
         try clear hx409_0
         try clear hx409_1
         try clear hx418_0
         try clear hx418_1
         try clear hx420_0
         try clear hx420_1
         try clear hx421_0
         try clear hx421_1
         try clear p2
         try clear p23
         try clear p4
         try clear p409
         try clear p418
         try clear p420
         try clear p421
         try clear p6
         try clear q1
         try clear q16
         try clear q2
         try clear q23
         try clear q29
         try clear q4
         try clear q409
         try clear q418
         try clear q420
         try clear q421
         obtain ⟨kq, x52_32, rfl, HA, HJ32, HO_7, BK408, BK410, HB⟩ := hcut
         cases kq with
         | zero => exact absurd HA.out (by simp [impl_HeapTake.j1])
         | succ kj32 =>
          have H := HA.out
          clear HA
          simp only [impl_HeapTake.j1] at H
          by_cases c45 : x52_32 = true
          ·
           subst c45
           rw [if_pos rfl] at H
           by_cases c46 : (wrap64 ((wrap64 ((wrap64 (2 * x8_1)) + 1)) + 1)) ≥ ji6
           ·
            rw [if_pos c46] at H
            have c46b0 : decide (ji6 ≤ (wrap64 ((wrap64 ((wrap64 (2 * x8_1)) + 1)) + 1))) = true := decide_eq_true c46
            clear c46
            simp only [Option.some.injEq, Prod.mk.injEq] at H
            obtain ⟨rfl, rfl, rfl, rfl⟩ := H
            try go_wp2
            have n0_ := Aside0.mk (Kd.R_drew HO_7.out)
            have n1_ := Aside0.mk (blk_drew BK408.out)
            have n2_ := Aside0.mk (blk_drew BK410.out)
            have n3_ := Aside0.mk (bd_ HB.out)
            clear HO_7 BK408 BK410 HB
            have HO_7 := n0_
            have BK408 := n1_
            have BK410 := n2_
            have HB := n3_
            clear n0_ n1_ n2_ n3_
            refine start_ (n := 15) (S := fun w' => True) (ds := []) #[f_,f_,f_,f_,f_,f_,f_,f_,f_,f_,f_,f_,f_,f_,f_] (by kernel_rfl) rfl rfl trivial (fun hHeld => ?_); refine with_tabW impl_HeapTake.tab13 impl_HeapTake.bits13 (fun HT_ HW_ => ?_)
            generalize wc.drew = w47 at HO_7 BK408 BK410 HB hHeld ⊢
            refine pu_ 0 55 ?_ (b_ 1 14) rfl rfl HT_.out ?_ ?_ ?_ ?_; rotate_left; intro w'; go_simp; with_reducible rfl; rotate_left; simp only [fr_]; rfl
            refine pu_ 1 56 ?_ (b_ 2 13) rfl rfl HT_.out ?_ ?_ ?_ ?_; rotate_left; intro w'; go_simp; with_reducible rfl; rotate_left; simp only [fr_]; rfl
            refine pu_ 2 57 ?_ (b_ 3 12) rfl rfl HT_.out ?_ ?_ ?_ ?_; rotate_left; intro w'; go_simp; with_reducible rfl; rotate_left; simp only [fr_]; rfl
            refine pu_ 3 58 ?_ (b_ 4 11) rfl rfl HT_.out ?_ ?_ ?_ ?_; rotate_left; intro w'; go_simp; with_reducible rfl; rotate_left; simp only [fr_]; rfl
            refine pv_ 4 59 ?_ (b_ 5 10) rfl rfl HT_.out ?_ ?_; rotate_left; simp only [fr_]; rfl
            refine pv_ 5 60 ?_ (b_ 6 9) rfl rfl HT_.out ?_ ?_; rotate_left; simp only [fr_]; rfl
            refine pv_ 6 61 ?_ (b_ 7 8) rfl rfl HT_.out ?_ ?_; rotate_left; simp only [fr_]; rfl
            refine pv_ 7 62 ?_ (b_ 8 7) rfl rfl HT_.out ?_ ?_; rotate_left; simp only [fr_]; rfl
            refine pv_ 8 63 ?_ (b_ 9 6) rfl rfl HT_.out ?_ ?_; rotate_left; simp only [fr_]; rfl
            refine pv_ 9 64 ?_ (b_ 10 5) rfl rfl HT_.out ?_ ?_; rotate_left; simp only [fr_]; rfl
            refine pv_ 10 65 ?_ (b_ 11 4) rfl rfl HT_.out ?_ ?_; rotate_left; simp only [fr_]; rfl
            refine pv_ 11 66 ?_ (b_ 12 3) rfl rfl HT_.out ?_ ?_; rotate_left; simp only [fr_]; rfl
            refine pv_ 12 67 ?_ (b_ 13 2) rfl rfl HT_.out ?_ ?_; rotate_left; simp only [fr_]; rfl
            refine pv_ 13 68 ?_ (b_ 14 1) rfl rfl HT_.out ?_ ?_; rotate_left; simp only [fr_]; rfl
            refine pu_ 14 69 ?_ (b_ 15 0) rfl rfl HT_.out ?_ ?_ ?_ ?_; rotate_left; intro w'; go_simp; with_reducible rfl; rotate_left; simp only [fr_]; rfl
            refine done_ (done_of HT_.out (by kernel_rfl)) ?_
            try go_wp2
            have n0_ := Aside0.mk (Kd.R_drew HO_7.out)
            have n1_ := Aside0.mk (blk_drew BK408.out)
            have n2_ := Aside0.mk (blk_drew BK410.out)
            have n3_ := Aside0.mk (bd_ HB.out)
            clear HO_7 BK408 BK410 HB
            have HO_7 := n0_
            have BK408 := n1_
            have BK410 := n2_
            have HB := n3_
            clear n0_ n1_ n2_ n3_
            refine start_ (n := 5) (S := fun w' => w'.cell? ⟨gb410, 0, none⟩ = some (.int .i64 x411000_1) ∧ w'.cell? ⟨gb410, 1, none⟩ = some (.int .i64 x411001_1)) (ds := []) #[f_,f_,f_,f_,f_] (by kernel_rfl) rfl rfl ⟨bx_ BK410.out 0, bx_ BK410.out 1⟩ (fun hHeld => ?_)
            generalize w47.drew = w48 at HO_7 BK408 BK410 HB hHeld ⊢
            refine pure_ (i := 0) (N := some 70) (v := ?_) (a' := ?_) #[t_,f_,f_,f_,f_] rfl rfl (by kernel_rfl) (fun _ _ _ h => h) (Or.inl ⟨by rfl, ?_⟩) ?_ ?_
            rotate_left
            ·
             intro w'
             go_simp
             with_reducible rfl
            rotate_left
            ·
             simp only [fr_]
             rfl
            refine pure_ (i := 2) (N := some 2) (v := ?_) (a' := ?_) #[t_,f_,t_,f_,f_] rfl rfl (by kernel_rfl) (fun _ _ _ h => h) (Or.inl ⟨by rfl, ?_⟩) ?_ ?_
            rotate_left
            ·
             intro w'
             go_simp
             with_reducible rfl
            rotate_left
            ·
             simp only [fr_]
             rfl
            refine take_ (i := 1) (N := some 71) (v := ?_) (a' := ?_) #[t_,t_,t_,f_,f_] rfl rfl (by kernel_rfl) (fun _ _ _ h => h) (Or.inl ⟨by rfl, ?_⟩) hHeld ?_ ?_
            rotate_left
            ·
             rintro w' ⟨s0, s1⟩
             go_simp
             with_reducible rfl
            rotate_left
            ·
             simp only [fr_]
             rfl
            refine one_ (i := 3) (N := none) #[t_,t_,t_,t_,f_] rfl rfl (by kernel_rfl) (by decide) (fun K hK => ?_)
            have hs49 : w48.cell? ⟨gb408, 0, none⟩ = some (.int .i64 x409000_1) := bx_ BK408.out 0
            have hfs49 := blk_frozen BK408.out 0
            have hns49_1 := NB410_408.out
            have hms49_1 := NB408_410.out
            have hs50 : w48.cell? ⟨gb408, 1, none⟩ = some (.int .i64 x409001_1) := bx_ BK408.out 1
            have hfs50 := blk_frozen BK408.out 1
            have hns50_1 := NB410_408.out
            have hms50_1 := NB408_410.out
            refine skip_ (w1 := ?_) (by rfl) rfl ?_ ?_
            rotate_left
            ·
             go_simp
             rfl
            refine hK.out _ _ ⟨((cell_far (p := ⟨gb408, _, none⟩) NB410_408.out _).trans (((cell_far (p := ⟨gb408, _, none⟩) NB410_408.out _).trans (hHeld.1)))), ((cell_far (p := ⟨gb408, _, none⟩) NB410_408.out _).trans (((cell_far (p := ⟨gb408, _, none⟩) NB410_408.out _).trans (hHeld.2))))⟩ (fun hHeld => ?_)
            clear hK K
            refine pure_ (i := 4) (N := some 4) (v := ?_) (a' := ?_) #[t_,t_,t_,t_,t_] rfl rfl (by kernel_rfl) (fun _ _ _ h => h) (Or.inl ⟨by rfl, ?_⟩) ?_ ?_
            rotate_left
            ·
             intro w'
             go_simp
             with_reducible rfl
            rotate_left
            ·
             simp only [fr_]
             rfl
            refine done_ (by kernel_rfl) ?_
            try go_wp2
            refine bodyPost_ret (results_list (rs := [.tmp 2, .cell 3 25, .tmp 4]) rfl (by simp) (.tmp (.cell gb408 25 #[.int .i64 x411000_1, .int .i64 x411001_1] (0, 0) _ rfl (by (with_reducible repeat (first | refine kn_ ?_ _ | refine kd_ ?_ | refine ka_ ?_ _)); refine blk_put (cs := #[.int .i64 x411000_1, .int .i64 x409001_1]) ?_ 1 _ rfl; (with_reducible repeat (first | refine kn_ ?_ _ | refine kd_ ?_ | refine ka_ ?_ _)); refine blk_put (cs := #[.int .i64 x409000_1, .int .i64 x409001_1]) ?_ 0 _ rfl; (with_reducible repeat (first | refine kn_ ?_ _ | refine kd_ ?_ | refine ka_ ?_ _)); exact BK408.out) Try.underlying25 rfl (by kernel_rfl) (.tmp .nil)))) rfl ?_
            exact ⟨_, by first | rfl | (simp [errW_none, errW_some] <;> rfl) | (simp only [← hji6]; first | rfl | (simp [errW_none, errW_some] <;> rfl)) | (simp [*, errW_none, errW_some] <;> rfl), by (with_reducible repeat (first | apply Kd.R_alloc | apply Kd.R_drewN | apply Kd.R_drew)); exact Kd.R_mono (Kd.R_far (p := ⟨gb408, 1, none⟩) (Kd.R_far (p := ⟨gb408, 0, none⟩) (Kd.R_mono HO_7.out (fun k_ hk => (⟨hk, hk.1⟩ : _ ∧ k_ ≠ gb408))) (fun _ hk => hk.2) (.int .i64 x411000_1)) (fun _ hk => hk.2) (.int .i64 x411001_1)) (fun _ hk => trivial), by repeat (first | (with_reducible first | exact HB.out | apply ba_ | apply bn_ | apply bd_ | refine below_set ?_ GE408.out | refine below_set ?_ GE410.out) | exact HB.out)⟩
           rw [if_neg c46] at H
           have c46b0 : decide (ji6 ≤ (wrap64 ((wrap64 ((wrap64 (2 * x8_1)) + 1)) + 1))) = false := decide_eq_false c46
           clear c46
           obtain ⟨ji51, hji51⟩ : ∃ j_ : Int, (wrap64 ((wrap64 ((wrap64 (2 * x8_1)) + 1)) + 1)) = j_ := ⟨_, rfl⟩
           replace H : (if 0 ≤ (ji51) then (if (ji51) < (x7_1.length : Int) then (if 0 ≤ x8_1 then (if x8_1 < (x7_1.length : Int) then ((impl_Before.f ((rd_T25 x7_1 (ji51)).f0) ((rd_T25 x7_1 (ji51)).f1) ((rd_T25 x7_1 x8_1).f0) ((rd_T25 x7_1 x8_1).f1)).bind fun t425 => (if t425 = true then (impl_HeapTake.l0 kj32 ji6 ((x7_1.set (x8_1 : Int).toNat (⟨(rd_T25 x7_1 (ji51)).f0, (rd_T25 x7_1 (ji51)).f1⟩ : S25)).set ((ji51) : Int).toNat (⟨(rd_T25 x7_1 x8_1).f0, (rd_T25 x7_1 x8_1).f1⟩ : S25)) ji51 x411000_1 x411001_1) else (some (x7_1, x411000_1, x411001_1, true)))) else (none)) else (none)) else (none)) else (none)) = some (r1, r2, r3, r4) := by first | (rw [hji51] at H; exact H) | (simp only [hji51] at H ⊢; exact H)
           (try rw [hji51] at c46b0)
           have hji51w : (IntKind.i64.wrap ((wrap64 ((wrap64 (2 * x8_1)) + 1)) + 1)) = ji51 := (i64_w _).trans hji51
           (try rw [hji51] at hji35)
           (try rw [hji51] at hji35w)
           by_cases c52 : 0 ≤ (ji51)
           ·
            rw [if_pos c52] at H
            have c52b0 := decide_eq_true c52
            clear c52
            by_cases c53 : (ji51) < (x7_1.length : Int)
            ·
             rw [if_pos c53] at H
             have c53b0 := decide_eq_true c53
             clear c53
             by_cases c54 : 0 ≤ x8_1
             ·
              rw [if_pos c54] at H
              have c54b0 := decide_eq_true c54
              clear c54
              by_cases c55 : x8_1 < (x7_1.length : Int)
              ·
               rw [if_pos c55] at H
               have c55b0 := decide_eq_true c55
               clear c55
               replace H := Option.bind_eq_some_iff.mp H
               obtain ⟨t425, A560, H⟩ := H
               have A56 := Aside0.mk A560
               clear A560
               by_cases c57 : t425 = true
               ·
                subst c57
                rw [if_pos rfl] at H
                obtain ⟨y428, hy428⟩ : ∃ y_ : List (S25), y_ = (x7_1.set (x8_1 : Int).toNat (⟨(rd_T25 x7_1 (ji51)).f0, (rd_T25 x7_1 (ji51)).f1⟩ : S25)) := ⟨_, rfl⟩
                replace H : (impl_HeapTake.l0 kj32 ji6 (y428.set ((ji51) : Int).toNat (⟨(rd_T25 x7_1 x8_1).f0, (rd_T25 x7_1 x8_1).f1⟩ : S25)) ji51 x411000_1 x411001_1) = some (r1, r2, r3, r4) := by first | (rw [hy428]; with_reducible exact H) | (have H2_ := (Option.bind_some _ _).symm.trans H; rw [hy428]; with_reducible exact H2_) | (have H2_ := (Option.bind_some _ _).symm.trans H; with_reducible exact H2_) | with_reducible exact H | (rw [hy428]; exact H) | exact H
                have Ny428 := Aside0.mk hy428
                clear hy428
                obtain ⟨y429, hy429⟩ : ∃ y_ : List (S25), y_ = (y428.set ((ji51) : Int).toNat (⟨(rd_T25 x7_1 x8_1).f0, (rd_T25 x7_1 x8_1).f1⟩ : S25)) := ⟨_, rfl⟩
                replace H : (impl_HeapTake.l0 kj32 ji6 y429 ji51 x411000_1 x411001_1) = some (r1, r2, r3, r4) := by first | (rw [hy429]; with_reducible exact H) | (have H2_ := (Option.bind_some _ _).symm.trans H; rw [hy429]; with_reducible exact H2_) | (have H2_ := (Option.bind_some _ _).symm.trans H; with_reducible exact H2_) | with_reducible exact H | (rw [hy429]; exact H) | exact H
                have Ny429 := Aside0.mk hy429
                clear hy429
                have H' := Aside0.mk H
                clear H
                try go_wp2
                have n0_ := Aside0.mk (Kd.R_drew HO_7.out)
                have n1_ := Aside0.mk (blk_drew BK408.out)
                have n2_ := Aside0.mk (blk_drew BK410.out)
                have n3_ := Aside0.mk (bd_ HB.out)
                clear HO_7 BK408 BK410 HB
                have HO_7 := n0_
                have BK408 := n1_
                have BK410 := n2_
                have HB := n3_
                clear n0_ n1_ n2_ n3_
                have p423 : 0 ≤ ((ji51) : Int) := of_decide_eq_true (by with_reducible assumption)
                have q423 : (ji51) < (x7_1.length : Int) := of_decide_eq_true (by with_reducible assumption)
                obtain ⟨ad423, e423, hx423_0, hx423_1⟩ := at_T25 (Kd.R_reads' HO_7.out).2.2 (ji51) p423 q423
                obtain rfl : (⟨go23, 0, none⟩ : Addr) = ad423 := (by injection e423)
                (first | simp only [add_plain] at hx423_0 | simp only [add_at] at hx423_0 | simp only [Addr.add, Nat.zero_add] at hx423_0 | skip)
                (first | simp only [add_plain] at hx423_1 | simp only [add_at] at hx423_1 | simp only [Addr.add, Nat.zero_add] at hx423_1 | skip)
                replace p423 := eq_true p423
                replace q423 := eq_true q423
                have p424 : 0 ≤ (x8_1 : Int) := of_decide_eq_true (by with_reducible assumption)
                have q424 : x8_1 < (x7_1.length : Int) := of_decide_eq_true (by with_reducible assumption)
                obtain ⟨ad424, e424, hx424_0, hx424_1⟩ := at_T25 (Kd.R_reads' HO_7.out).2.2 x8_1 p424 q424
                obtain rfl : (⟨go23, 0, none⟩ : Addr) = ad424 := (by injection e424)
                (first | simp only [add_plain] at hx424_0 | simp only [add_at] at hx424_0 | simp only [Addr.add, Nat.zero_add] at hx424_0 | skip)
                (first | simp only [add_plain] at hx424_1 | simp only [add_at] at hx424_1 | simp only [Addr.add, Nat.zero_add] at hx424_1 | skip)
                replace p424 := eq_true p424
                replace q424 := eq_true q424
                refine start_ (n := 15) (S := fun w' => w'.cell? ⟨go23, ((ji51)).toNat * 2, none⟩ = some (.int .i64 ((rd_T25 x7_1 (ji51)).f0)) ∧ w'.cell? ⟨go23, ((ji51)).toNat * 2 + 1, none⟩ = some (.int .i64 ((rd_T25 x7_1 (ji51)).f1)) ∧ w'.cell? ⟨go23, (x8_1).toNat * 2, none⟩ = some (.int .i64 ((rd_T25 x7_1 x8_1).f0)) ∧ w'.cell? ⟨go23, (x8_1).toNat * 2 + 1, none⟩ = some (.int .i64 ((rd_T25 x7_1 x8_1).f1))) (ds := []) #[f_,f_,f_,f_,f_,f_,f_,f_,f_,f_,f_,f_,f_,f_,f_] (by kernel_rfl) rfl rfl ⟨hx423_0, hx423_1, hx424_0, hx424_1⟩ (fun hHeld => ?_); refine with_tabW impl_HeapTake.tab13 impl_HeapTake.bits13 (fun HT_ HW_ => ?_)
                generalize wc.drew = w60 at HO_7 BK408 BK410 HB hx423_0 hx423_1 hx424_0 hx424_1 hHeld ⊢
                refine pu_ 0 55 ?_ (b_ 1 14) rfl rfl HT_.out ?_ ?_ ?_ ?_; rotate_left; intro w'; go_simp; with_reducible rfl; rotate_left; simp only [fr_]; rfl
                refine pu_ 1 56 ?_ (b_ 2 13) rfl rfl HT_.out ?_ ?_ ?_ ?_; rotate_left; intro w'; go_simp; with_reducible rfl; rotate_left; simp only [fr_]; rfl
                refine pu_ 2 57 ?_ (b_ 3 12) rfl rfl HT_.out ?_ ?_ ?_ ?_; rotate_left; intro w'; go_simp; with_reducible rfl; rotate_left; simp only [fr_]; rfl
                refine pu_ 3 58 ?_ (b_ 4 11) rfl rfl HT_.out ?_ ?_ ?_ ?_; rotate_left; intro w'; go_simp; with_reducible rfl; rotate_left; simp only [fr_]; rfl
                refine pu_ 4 59 ?_ (b_ 5 10) rfl rfl HT_.out ?_ ?_ ?_ ?_; rotate_left; intro w'; go_simp; with_reducible rfl; rotate_left; simp only [fr_]; rfl
                refine pu_ 5 60 ?_ (b_ 6 9) rfl rfl HT_.out ?_ ?_ ?_ ?_; rotate_left; intro w'; go_simp; with_reducible rfl; rotate_left; simp only [fr_]; rfl
                refine pu_ 6 61 ?_ (b_ 7 8) rfl rfl HT_.out ?_ ?_ ?_ ?_; rotate_left; intro w'; go_simp; with_reducible rfl; rotate_left; simp only [fr_]; rfl
                refine pu_ 8 63 ?_ #[t_,t_,t_,t_,t_,t_,t_,f_,t_,f_,f_,f_,f_,f_,f_] rfl rfl HT_.out ?_ ?_ ?_ ?_; rotate_left; intro w'; go_simp; with_reducible rfl; rotate_left; simp only [fr_]; rfl
                refine pu_ 9 64 ?_ #[t_,t_,t_,t_,t_,t_,t_,f_,t_,t_,f_,f_,f_,f_,f_] rfl rfl HT_.out ?_ ?_ ?_ ?_; rotate_left; intro w'; go_simp; with_reducible rfl; rotate_left; simp only [fr_]; rfl
                refine pu_ 10 65 ?_ #[t_,t_,t_,t_,t_,t_,t_,f_,t_,t_,t_,f_,f_,f_,f_] rfl rfl HT_.out ?_ ?_ ?_ ?_; rotate_left; intro w'; go_simp; with_reducible rfl; rotate_left; simp only [fr_]; rfl
                refine take_ (i := 7) (N := some 62) (v := ?_) (a' := ?_) #[t_,t_,t_,t_,t_,t_,t_,t_,t_,t_,t_,f_,f_,f_,f_] rfl rfl (take_ofW HT_.out HW_.out (by kernel_rfl)) (fun _ _ _ h => h) (Or.inl ⟨by rfl, ?_⟩) hHeld ?_ ?_
                rotate_left
                ·
                 rintro w' ⟨s0, s1, s2, s3⟩
                 go_simp
                 with_reducible rfl
                rotate_left
                ·
                 simp only [fr_]
                 rfl
                refine take_ (i := 11) (N := some 66) (v := ?_) (a' := ?_) #[t_,t_,t_,t_,t_,t_,t_,t_,t_,t_,t_,t_,f_,f_,f_] rfl rfl (take_ofW HT_.out HW_.out (by kernel_rfl)) (fun _ _ _ h => h) (Or.inl ⟨by rfl, ?_⟩) hHeld ?_ ?_
                rotate_left
                ·
                 rintro w' ⟨s0, s1, s2, s3⟩
                 go_simp
                 with_reducible rfl
                rotate_left
                ·
                 simp only [fr_]
                 rfl
                refine one_ (i := 12) (N := some 67) #[t_,t_,t_,t_,t_,t_,t_,t_,t_,t_,t_,t_,t_,f_,f_] rfl rfl (one_of HT_.out (by kernel_rfl)) (by decide) (fun K hK => ?_)
                refine goes_ Try.func16 (by kernel_rfl) rfl #[.agg #[.int .i64 ((rd_T25 x7_1 (ji51)).f0), .int .i64 ((rd_T25 x7_1 (ji51)).f1)], .agg #[.int .i64 ((rd_T25 x7_1 x8_1).f0), .int .i64 ((rd_T25 x7_1 x8_1).f1)]] (by rfl) rfl rfl (by (try simp only [mp_]); first | done | (simp only [hji51]; rfl) | rfl | (simp only [List.length_drop, List.length_take]; rfl)) ?_
                with_reducible refine (impl_Before.calls ((rd_T25 x7_1 (ji51)).f0) ((rd_T25 x7_1 (ji51)).f1) ((rd_T25 x7_1 x8_1).f0) ((rd_T25 x7_1 x8_1).f1) true _ A56.out).mono ?_
                rintro e w61 ⟨rfl, hb⟩
                have HS0_ := (hb.cell (World.block_lt_of_cell? _ _ (hHeld.1))).trans (hHeld.1)
                have HS1_ := (hb.cell (World.block_lt_of_cell? _ _ (hHeld.2.1))).trans (hHeld.2.1)
                have HS2_ := (hb.cell (World.block_lt_of_cell? _ _ (hHeld.2.2.1))).trans (hHeld.2.2.1)
                have HS3_ := (hb.cell (World.block_lt_of_cell? _ _ (hHeld.2.2.2))).trans (hHeld.2.2.2)
                refine ⟨_, rfl, ?_⟩
                have n0_ := Aside0.mk (Kd.R_below (rp_ HO_7.out) hb)
                have n1_ := Aside0.mk (bb_ BK408.out hb)
                have n2_ := Aside0.mk (bb_ BK410.out hb)
                have n3_ := Aside0.mk (below_step (by repeat (first | (with_reducible first | exact HB.out | apply ba_ | apply bn_ | apply bd_ | refine below_set ?_ GE408.out | refine below_set ?_ GE410.out) | exact HB.out)) hb)
                clear HO_7 BK408 BK410 HB
                have HO_7 := n0_
                have BK408 := n1_
                have BK410 := n2_
                have HB := n3_
                clear n0_ n1_ n2_ n3_
                (try clear hb)
                (try clear hb2)
                (try clear hk)
                (try clear hi)
                refine hK.out _ _ ⟨HS0_, HS1_, HS2_, HS3_⟩ (fun hHeld => ?_)
                clear hK K
                refine norm_ (a' := ?_) ?_ ?_
                rotate_left
                ·
                 show Act.put _ (some 67) _ = _
                 simp only [fr_]
                 rfl
                refine pu_ 13 68 ?_ (b_ 14 1) rfl rfl HT_.out ?_ ?_ ?_ ?_; rotate_left; intro w'; go_simp; with_reducible rfl; rotate_left; simp only [fr_]; rfl
                refine pu_ 14 69 ?_ (b_ 15 0) rfl rfl HT_.out ?_ ?_ ?_ ?_; rotate_left; intro w'; go_simp; with_reducible rfl; rotate_left; simp only [fr_]; rfl
                refine done_ (done_of HT_.out (by kernel_rfl)) ?_
                try go_wp2
                have n0_ := Aside0.mk (Kd.R_drew HO_7.out)
                have n1_ := Aside0.mk (blk_drew BK408.out)
                have n2_ := Aside0.mk (blk_drew BK410.out)
                have n3_ := Aside0.mk (bd_ HB.out)
                clear HO_7 BK408 BK410 HB
                have HO_7 := n0_
                have BK408 := n1_
                have BK410 := n2_
                have HB := n3_
                clear n0_ n1_ n2_ n3_
                have p426 : 0 ≤ ((ji51) : Int) := of_decide_eq_true (by with_reducible assumption)
                have q426 : (ji51) < (x7_1.length : Int) := of_decide_eq_true (by with_reducible assumption)
                obtain ⟨ad426, e426, hx426_0, hx426_1⟩ := at_T25 (Kd.R_reads' HO_7.out).2.2 (ji51) p426 q426
                obtain rfl : (⟨go23, 0, none⟩ : Addr) = ad426 := (by injection e426)
                (first | simp only [add_plain] at hx426_0 | simp only [add_at] at hx426_0 | simp only [Addr.add, Nat.zero_add] at hx426_0 | skip)
                (first | simp only [add_plain] at hx426_1 | simp only [add_at] at hx426_1 | simp only [Addr.add, Nat.zero_add] at hx426_1 | skip)
                replace p426 := eq_true p426
                replace q426 := eq_true q426
                have p427 : 0 ≤ (x8_1 : Int) := of_decide_eq_true (by with_reducible assumption)
                have q427 : x8_1 < (x7_1.length : Int) := of_decide_eq_true (by with_reducible assumption)
                obtain ⟨ad427, e427, hx427_0, hx427_1⟩ := at_T25 (Kd.R_reads' HO_7.out).2.2 x8_1 p427 q427
                obtain rfl : (⟨go23, 0, none⟩ : Addr) = ad427 := (by injection e427)
                (first | simp only [add_plain] at hx427_0 | simp only [add_at] at hx427_0 | simp only [Addr.add, Nat.zero_add] at hx427_0 | skip)
                (first | simp only [add_plain] at hx427_1 | simp only [add_at] at hx427_1 | simp only [Addr.add, Nat.zero_add] at hx427_1 | skip)
                replace p427 := eq_true p427
                replace q427 := eq_true q427
                have p58 : 0 ≤ (x8_1 : Int) := of_decide_eq_true (by with_reducible assumption)
                have q58 : (x8_1 : Int) < ((x7_1.length : Int) : Int) := of_decide_eq_true (by with_reducible assumption)
                obtain ⟨ce58, hcl58, hM58, hcc58, hfr58⟩ := Kd.R_elem HO_7.out z25 (x8_1 : Int) p58 q58
                obtain rfl := k25_openM hM58
                have hx58_0 : World.cell? _ ⟨go23, (x8_1 : Int).toNat * 2, none⟩ = some (.int .i64 ((rd_T25 x7_1 x8_1).f0)) := hcc58 0 _ rfl
                have hx58_1 : World.cell? _ ⟨go23, (x8_1 : Int).toNat * 2 + 1, none⟩ = some (.int .i64 ((rd_T25 x7_1 x8_1).f1)) := hcc58 1 _ rfl
                have hf58_0 : World.frozen? _ ⟨go23, (x8_1 : Int).toNat * 2, none⟩ = false := hfr58 0
                have hf58_1 : World.frozen? _ ⟨go23, (x8_1 : Int).toNat * 2 + 1, none⟩ = false := hfr58 1
                clear hcl58 hcc58 hfr58 hM58
                replace p58 := eq_true p58
                replace q58 := eq_true q58
                obtain ⟨ce63, hcl63, hM63, hcc63, hfr63⟩ := Kd.R_elem HO_7.out z25 (x8_1 : Int) (of_decide_eq_true (by with_reducible assumption)) (by have h_ : (x8_1 : Int) < ((x7_1.length : Int) : Int) := of_decide_eq_true (by with_reducible assumption); first | exact h_ | (have e_ := (Kd.R_reads' HO_7.out).1; omega) | simpa using h_)
                obtain rfl := k25_openM hM63
                have HP63 := (Kd.R_seg HO_7.out (x8_1 : Int) (of_decide_eq_true (by with_reducible assumption)) (by have h_ : (x8_1 : Int) < ((x7_1.length : Int) : Int) := of_decide_eq_true (by with_reducible assumption); first | exact h_ | (have e_ := (Kd.R_reads' HO_7.out).1; omega) | simpa using h_) (seg := [.int .i64 ((rd_T25 x7_1 (ji51)).f0), .int .i64 ((rd_T25 x7_1 (ji51)).f1)]) (j := 0) hcl63 hcc63 (show 2 ≤ 2 from by decide) (x' := (⟨(rd_T25 x7_1 (ji51)).f0, (rd_T25 x7_1 (ji51)).f1⟩ : S25)) (k25_mkM _ _ _ (⟨(rd_T25 x7_1 (ji51)).f0, (rd_T25 x7_1 (ji51)).f1⟩ : S25) ) (fun _ hk => hk)).1
                rw [← Ny428.out] at HP63
                have HQ63 := Aside0.mk HP63
                clear hcl63 hcc63 hfr63 hM63 HP63
                have p59 : 0 ≤ ((ji51) : Int) := of_decide_eq_true (by with_reducible assumption)
                have q59 : ((ji51) : Int) < ((x7_1.length : Int) : Int) := of_decide_eq_true (by with_reducible assumption)
                obtain ⟨ce59, hcl59, hM59, hcc59, hfr59⟩ := Kd.R_elem HQ63.out z25 ((ji51) : Int) p59 q59
                obtain rfl := k25_openM hM59
                have hx59_0 : World.cell? _ ⟨go23, ((ji51) : Int).toNat * 2, none⟩ = some (.int .i64 ((rd_T25 y428 (ji51)).f0)) := hcc59 0 _ rfl
                have hx59_1 : World.cell? _ ⟨go23, ((ji51) : Int).toNat * 2 + 1, none⟩ = some (.int .i64 ((rd_T25 y428 (ji51)).f1)) := hcc59 1 _ rfl
                have hf59_0 : World.frozen? _ ⟨go23, ((ji51) : Int).toNat * 2, none⟩ = false := hfr59 0
                have hf59_1 : World.frozen? _ ⟨go23, ((ji51) : Int).toNat * 2 + 1, none⟩ = false := hfr59 1
                clear hcl59 hcc59 hfr59 hM59
                replace p59 := eq_true p59
                replace q59 := eq_true q59
                obtain ⟨ce64, hcl64, hM64, hcc64, hfr64⟩ := Kd.R_elem HQ63.out z25 ((ji51) : Int) (of_decide_eq_true (by with_reducible assumption)) (by have h_ : ((ji51) : Int) < ((x7_1.length : Int) : Int) := of_decide_eq_true (by with_reducible assumption); first | exact h_ | (have e_ := (Kd.R_reads' HO_7.out).1; omega) | simpa using h_)
                obtain rfl := k25_openM hM64
                have HP64 := (Kd.R_seg HQ63.out ((ji51) : Int) (of_decide_eq_true (by with_reducible assumption)) (by have h_ : ((ji51) : Int) < ((x7_1.length : Int) : Int) := of_decide_eq_true (by with_reducible assumption); first | exact h_ | (have e_ := (Kd.R_reads' HO_7.out).1; omega) | simpa using h_) (seg := [.int .i64 ((rd_T25 x7_1 x8_1).f0), .int .i64 ((rd_T25 x7_1 x8_1).f1)]) (j := 0) hcl64 hcc64 (show 2 ≤ 2 from by decide) (x' := (⟨(rd_T25 x7_1 x8_1).f0, (rd_T25 x7_1 x8_1).f1⟩ : S25)) (k25_mkM _ _ _ (⟨(rd_T25 x7_1 x8_1).f0, (rd_T25 x7_1 x8_1).f1⟩ : S25) ) (fun _ hk => hk)).1
                rw [← Ny429.out] at HP64
                have HQ64 := Aside0.mk HP64
                clear hcl64 hcc64 hfr64 hM64 HP64
                refine start_ (n := 16) (S := fun w' => w'.cell? ⟨go23, ((ji51)).toNat * 2, none⟩ = some (.int .i64 ((rd_T25 x7_1 (ji51)).f0)) ∧ w'.cell? ⟨go23, ((ji51)).toNat * 2 + 1, none⟩ = some (.int .i64 ((rd_T25 x7_1 (ji51)).f1)) ∧ w'.cell? ⟨go23, (x8_1).toNat * 2, none⟩ = some (.int .i64 ((rd_T25 x7_1 x8_1).f0)) ∧ w'.cell? ⟨go23, (x8_1).toNat * 2 + 1, none⟩ = some (.int .i64 ((rd_T25 x7_1 x8_1).f1))) (ds := [13, 15]) #[f_,f_,f_,f_,f_,f_,f_,f_,f_,f_,f_,f_,f_,f_,f_,f_] (by kernel_rfl) rfl rfl ⟨hx426_0, hx426_1, hx427_0, hx427_1⟩ (fun hHeld => ?_); refine with_tabW impl_HeapTake.tab15 impl_HeapTake.bits15 (fun HT_ HW_ => ?_)
                generalize w61.drew = w62 at HO_7 BK408 BK410 HB HQ63 HQ64 hf58_0 hf58_1 hf59_0 hf59_1 hx426_0 hx426_1 hx427_0 hx427_1 hx58_0 hx58_1 hx59_0 hx59_1 hHeld ⊢
                refine pu_ 0 72 ?_ (b_ 1 15) rfl rfl HT_.out ?_ ?_ ?_ ?_; rotate_left; intro w'; go_simp; with_reducible rfl; rotate_left; simp only [fr_]; rfl
                refine pu_ 1 73 ?_ (b_ 2 14) rfl rfl HT_.out ?_ ?_ ?_ ?_; rotate_left; intro w'; go_simp; with_reducible rfl; rotate_left; simp only [fr_]; rfl
                refine pu_ 2 74 ?_ (b_ 3 13) rfl rfl HT_.out ?_ ?_ ?_ ?_; rotate_left; intro w'; go_simp; with_reducible rfl; rotate_left; simp only [fr_]; rfl
                refine pu_ 3 75 ?_ (b_ 4 12) rfl rfl HT_.out ?_ ?_ ?_ ?_; rotate_left; intro w'; go_simp; with_reducible rfl; rotate_left; simp only [fr_]; rfl
                refine pu_ 4 76 ?_ (b_ 5 11) rfl rfl HT_.out ?_ ?_ ?_ ?_; rotate_left; intro w'; go_simp; with_reducible rfl; rotate_left; simp only [fr_]; rfl
                refine pu_ 5 77 ?_ (b_ 6 10) rfl rfl HT_.out ?_ ?_ ?_ ?_; rotate_left; intro w'; go_simp; with_reducible rfl; rotate_left; simp only [fr_]; rfl
                refine pu_ 6 78 ?_ (b_ 7 9) rfl rfl HT_.out ?_ ?_ ?_ ?_; rotate_left; intro w'; go_simp; with_reducible rfl; rotate_left; simp only [fr_]; rfl
                refine pu_ 8 80 ?_ #[t_,t_,t_,t_,t_,t_,t_,f_,t_,f_,f_,f_,f_,f_,f_,f_] rfl rfl HT_.out ?_ ?_ ?_ ?_; rotate_left; intro w'; go_simp; with_reducible rfl; rotate_left; simp only [fr_]; rfl
                refine pu_ 9 81 ?_ #[t_,t_,t_,t_,t_,t_,t_,f_,t_,t_,f_,f_,f_,f_,f_,f_] rfl rfl HT_.out ?_ ?_ ?_ ?_; rotate_left; intro w'; go_simp; with_reducible rfl; rotate_left; simp only [fr_]; rfl
                refine pu_ 10 82 ?_ #[t_,t_,t_,t_,t_,t_,t_,f_,t_,t_,t_,f_,f_,f_,f_,f_] rfl rfl HT_.out ?_ ?_ ?_ ?_; rotate_left; intro w'; go_simp; with_reducible rfl; rotate_left; simp only [fr_]; rfl
                refine take_ (i := 7) (N := some 79) (v := ?_) (a' := ?_) #[t_,t_,t_,t_,t_,t_,t_,t_,t_,t_,t_,f_,f_,f_,f_,f_] rfl rfl (take_ofW HT_.out HW_.out (by kernel_rfl)) (fun _ _ _ h => h) (Or.inl ⟨by rfl, ?_⟩) hHeld ?_ ?_
                rotate_left
                ·
                 rintro w' ⟨s0, s1, s2, s3⟩
                 go_simp
                 with_reducible rfl
                rotate_left
                ·
                 simp only [fr_]
                 rfl
                refine take_ (i := 11) (N := some 83) (v := ?_) (a' := ?_) #[t_,t_,t_,t_,t_,t_,t_,t_,t_,t_,t_,t_,f_,f_,f_,f_] rfl rfl (take_ofW HT_.out HW_.out (by kernel_rfl)) (fun _ _ _ h => h) (Or.inl ⟨by rfl, ?_⟩) hHeld ?_ ?_
                rotate_left
                ·
                 rintro w' ⟨s0, s1, s2, s3⟩
                 go_simp
                 with_reducible rfl
                rotate_left
                ·
                 simp only [fr_]
                 rfl
                refine pu_ 12 84 ?_ (b_ 13 3) rfl rfl HT_.out ?_ ?_ ?_ ?_; rotate_left; intro w'; go_simp; with_reducible rfl; rotate_left; simp only [fr_]; rfl
                refine last_ (i := 13) (N := none) #[t_,t_,t_,t_,t_,t_,t_,t_,t_,t_,t_,t_,t_,t_,f_,f_] rfl rfl (one_of HT_.out (by kernel_rfl)) (by decide) (fun K hK => ?_)
                refine skip_ (w1 := ?_) (by rfl) rfl ?_ ?_
                rotate_left
                ·
                 go_simp
                 rfl
                refine hK.out _ _ ?_
                clear hK K
                refine pu_ 14 85 ?_ (b_ 15 1) rfl rfl HT_.out ?_ ?_ ?_ ?_; rotate_left; intro w'; go_simp; with_reducible rfl; rotate_left; simp only [fr_]; rfl
                obtain ⟨u1_, hu1_⟩ := cell?_setCell_some (p := ⟨go23, (x8_1).toNat * 2, none⟩) (x := (.int .i64 ((rd_T25 x7_1 (ji51)).f0))) (show w62.cell? ⟨go23, ((ji51)).toNat * 2, none⟩ = some (.int .i64 ((rd_T25 x7_1 (ji51)).f0)) from by assumption)
                obtain ⟨u2_, hu2_⟩ := cell?_setCell_some (p := ⟨go23, (x8_1).toNat * 2, none⟩) (x := (.int .i64 ((rd_T25 x7_1 (ji51)).f0))) (show w62.cell? ⟨go23, ((ji51)).toNat * 2 + 1, none⟩ = some (.int .i64 ((rd_T25 x7_1 (ji51)).f1)) from by assumption)
                obtain ⟨u3_, hu3_⟩ := cell?_setCell_some (p := ⟨go23, (x8_1).toNat * 2 + 1, none⟩) (x := (.int .i64 ((rd_T25 x7_1 (ji51)).f1))) hu2_
                (try simp only [World.frozen?_setCells, World.frozen?_setCell] at hf58_0)
                (try simp only [World.frozen?_setCells, World.frozen?_setCell] at hf58_1)
                (try simp only [World.frozen?_setCells, World.frozen?_setCell] at hf59_0)
                (try simp only [World.frozen?_setCells, World.frozen?_setCell] at hf59_1)
                refine last_ (i := 15) (N := none) #[t_,t_,t_,t_,t_,t_,t_,t_,t_,t_,t_,t_,t_,t_,t_,t_] rfl rfl (one_of HT_.out (by kernel_rfl)) (by decide) (fun K hK => ?_)
                refine skip_ (w1 := ?_) (by rfl) rfl ?_ ?_
                rotate_left
                ·
                 go_simp
                 rfl
                refine hK.out _ _ ?_
                clear hK K
                refine done_ (done_of HT_.out (by kernel_rfl)) ?_
                try go_wp2
                (try simp only [← hl7_1])
                go_roundg kj32
                case measure => have := HK1.out; have := HJ32.out; omega
                case rel => exact ⟨(y429), (ji51), (x409000_1), (x409001_1), (x411000_1), (x411001_1), (by first | rfl | (simp; done) | (simp only [← hji51] <;> (first | rfl | simp)) | (simp [*]; done)), H', ⟨by have := HK1.out; have := HJ32.out; omega⟩, ⟨by (try simp only [hl7_1]); (with_reducible repeat (first | apply Kd.R_alloc | apply Kd.R_drewN | apply Kd.R_drew)); exact HQ64.out⟩, ⟨by (try simp only [hl7_1]); (with_reducible repeat (first | refine kn_ ?_ _ | refine kd_ ?_ | refine ka_ ?_ _)); refine blk_far ?_ (by have h_ := Kd.R_away HO_7.out (fun _ hk => hk.1); intro e_; exact h_ (by rw [e_]; rfl)) _; (with_reducible repeat (first | refine kn_ ?_ _ | refine kd_ ?_ | refine ka_ ?_ _)); refine blk_far ?_ (by have h_ := Kd.R_away HO_7.out (fun _ hk => hk.1); intro e_; exact h_ (by rw [e_]; rfl)) _; (with_reducible repeat (first | refine kn_ ?_ _ | refine kd_ ?_ | refine ka_ ?_ _)); refine blk_far ?_ (by have h_ := Kd.R_away HO_7.out (fun _ hk => hk.1); intro e_; exact h_ (by rw [e_]; rfl)) _; (with_reducible repeat (first | refine kn_ ?_ _ | refine kd_ ?_ | refine ka_ ?_ _)); refine blk_far ?_ (by have h_ := Kd.R_away HO_7.out (fun _ hk => hk.1); intro e_; exact h_ (by rw [e_]; rfl)) _; (with_reducible repeat (first | refine kn_ ?_ _ | refine kd_ ?_ | refine ka_ ?_ _)); exact BK408.out⟩, ⟨by (try simp only [hl7_1]); (with_reducible repeat (first | refine kn_ ?_ _ | refine kd_ ?_ | refine ka_ ?_ _)); refine blk_far ?_ (by have h_ := Kd.R_away HO_7.out (fun _ hk => hk.2); intro e_; exact h_ (by rw [e_]; rfl)) _; (with_reducible repeat (first | refine kn_ ?_ _ | refine kd_ ?_ | refine ka_ ?_ _)); refine blk_far ?_ (by have h_ := Kd.R_away HO_7.out (fun _ hk => hk.2); intro e_; exact h_ (by rw [e_]; rfl)) _; (with_reducible repeat (first | refine kn_ ?_ _ | refine kd_ ?_ | refine ka_ ?_ _)); refine blk_far ?_ (by have h_ := Kd.R_away HO_7.out (fun _ hk => hk.2); intro e_; exact h_ (by rw [e_]; rfl)) _; (with_reducible repeat (first | refine kn_ ?_ _ | refine kd_ ?_ | refine ka_ ?_ _)); refine blk_far ?_ (by have h_ := Kd.R_away HO_7.out (fun _ hk => hk.2); intro e_; exact h_ (by rw [e_]; rfl)) _; (with_reducible repeat (first | refine kn_ ?_ _ | refine kd_ ?_ | refine ka_ ?_ _)); exact BK410.out⟩, ⟨by repeat (first | (with_reducible first | exact HB.out | apply ba_ | apply bn_ | apply bd_ | refine below_set ?_ GB23.out | refine below_set ?_ GB23.out | refine below_set ?_ GB23.out | refine below_set ?_ GB23.out | refine below_set ?_ GE408.out | refine below_set ?_ GE410.out) | exact HB.out)⟩⟩
               replace c57 := Bool.eq_false_iff.mpr c57
               subst c57
               rw [if_neg (show ¬ (false = true) by decide)] at H
               simp only [Option.some.injEq, Prod.mk.injEq] at H
               obtain ⟨rfl, rfl, rfl, rfl⟩ := H
               try go_wp2
               have n0_ := Aside0.mk (Kd.R_drew HO_7.out)
               have n1_ := Aside0.mk (blk_drew BK408.out)
               have n2_ := Aside0.mk (blk_drew BK410.out)
               have n3_ := Aside0.mk (bd_ HB.out)
               clear HO_7 BK408 BK410 HB
               have HO_7 := n0_
               have BK408 := n1_
               have BK410 := n2_
               have HB := n3_
               clear n0_ n1_ n2_ n3_
               have p423 : 0 ≤ ((ji51) : Int) := of_decide_eq_true (by with_reducible assumption)
               have q423 : (ji51) < (x7_1.length : Int) := of_decide_eq_true (by with_reducible assumption)
               obtain ⟨ad423, e423, hx423_0, hx423_1⟩ := at_T25 (Kd.R_reads' HO_7.out).2.2 (ji51) p423 q423
               obtain rfl : (⟨go23, 0, none⟩ : Addr) = ad423 := (by injection e423)
               (first | simp only [add_plain] at hx423_0 | simp only [add_at] at hx423_0 | simp only [Addr.add, Nat.zero_add] at hx423_0 | skip)
               (first | simp only [add_plain] at hx423_1 | simp only [add_at] at hx423_1 | simp only [Addr.add, Nat.zero_add] at hx423_1 | skip)
               replace p423 := eq_true p423
               replace q423 := eq_true q423
               have p424 : 0 ≤ (x8_1 : Int) := of_decide_eq_true (by with_reducible assumption)
               have q424 : x8_1 < (x7_1.length : Int) := of_decide_eq_true (by with_reducible assumption)
               obtain ⟨ad424, e424, hx424_0, hx424_1⟩ := at_T25 (Kd.R_reads' HO_7.out).2.2 x8_1 p424 q424
               obtain rfl : (⟨go23, 0, none⟩ : Addr) = ad424 := (by injection e424)
               (first | simp only [add_plain] at hx424_0 | simp only [add_at] at hx424_0 | simp only [Addr.add, Nat.zero_add] at hx424_0 | skip)
               (first | simp only [add_plain] at hx424_1 | simp only [add_at] at hx424_1 | simp only [Addr.add, Nat.zero_add] at hx424_1 | skip)
               replace p424 := eq_true p424
               replace q424 := eq_true q424
               refine start_ (n := 15) (S := fun w' => w'.cell? ⟨go23, ((ji51)).toNat * 2, none⟩ = some (.int .i64 ((rd_T25 x7_1 (ji51)).f0)) ∧ w'.cell? ⟨go23, ((ji51)).toNat * 2 + 1, none⟩ = some (.int .i64 ((rd_T25 x7_1 (ji51)).f1)) ∧ w'.cell? ⟨go23, (x8_1).toNat * 2, none⟩ = some (.int .i64 ((rd_T25 x7_1 x8_1).f0)) ∧ w'.cell? ⟨go23, (x8_1).toNat * 2 + 1, none⟩ = some (.int .i64 ((rd_T25 x7_1 x8_1).f1))) (ds := []) #[f_,f_,f_,f_,f_,f_,f_,f_,f_,f_,f_,f_,f_,f_,f_] (by kernel_rfl) rfl rfl ⟨hx423_0, hx423_1, hx424_0, hx424_1⟩ (fun hHeld => ?_); refine with_tabW impl_HeapTake.tab13 impl_HeapTake.bits13 (fun HT_ HW_ => ?_)
               generalize wc.drew = w65 at HO_7 BK408 BK410 HB hx423_0 hx423_1 hx424_0 hx424_1 hHeld ⊢
               refine pu_ 0 55 ?_ (b_ 1 14) rfl rfl HT_.out ?_ ?_ ?_ ?_; rotate_left; intro w'; go_simp; with_reducible rfl; rotate_left; simp only [fr_]; rfl
               refine pu_ 1 56 ?_ (b_ 2 13) rfl rfl HT_.out ?_ ?_ ?_ ?_; rotate_left; intro w'; go_simp; with_reducible rfl; rotate_left; simp only [fr_]; rfl
               refine pu_ 2 57 ?_ (b_ 3 12) rfl rfl HT_.out ?_ ?_ ?_ ?_; rotate_left; intro w'; go_simp; with_reducible rfl; rotate_left; simp only [fr_]; rfl
               refine pu_ 3 58 ?_ (b_ 4 11) rfl rfl HT_.out ?_ ?_ ?_ ?_; rotate_left; intro w'; go_simp; with_reducible rfl; rotate_left; simp only [fr_]; rfl
               refine pu_ 4 59 ?_ (b_ 5 10) rfl rfl HT_.out ?_ ?_ ?_ ?_; rotate_left; intro w'; go_simp; with_reducible rfl; rotate_left; simp only [fr_]; rfl
               refine pu_ 5 60 ?_ (b_ 6 9) rfl rfl HT_.out ?_ ?_ ?_ ?_; rotate_left; intro w'; go_simp; with_reducible rfl; rotate_left; simp only [fr_]; rfl
               refine pu_ 6 61 ?_ (b_ 7 8) rfl rfl HT_.out ?_ ?_ ?_ ?_; rotate_left; intro w'; go_simp; with_reducible rfl; rotate_left; simp only [fr_]; rfl
               refine pu_ 8 63 ?_ #[t_,t_,t_,t_,t_,t_,t_,f_,t_,f_,f_,f_,f_,f_,f_] rfl rfl HT_.out ?_ ?_ ?_ ?_; rotate_left; intro w'; go_simp; with_reducible rfl; rotate_left; simp only [fr_]; rfl
               refine pu_ 9 64 ?_ #[t_,t_,t_,t_,t_,t_,t_,f_,t_,t_,f_,f_,f_,f_,f_] rfl rfl HT_.out ?_ ?_ ?_ ?_; rotate_left; intro w'; go_simp; with_reducible rfl; rotate_left; simp only [fr_]; rfl
               refine pu_ 10 65 ?_ #[t_,t_,t_,t_,t_,t_,t_,f_,t_,t_,t_,f_,f_,f_,f_] rfl rfl HT_.out ?_ ?_ ?_ ?_; rotate_left; intro w'; go_simp; with_reducible rfl; rotate_left; simp only [fr_]; rfl
               refine take_ (i := 7) (N := some 62) (v := ?_) (a' := ?_) #[t_,t_,t_,t_,t_,t_,t_,t_,t_,t_,t_,f_,f_,f_,f_] rfl rfl (take_ofW HT_.out HW_.out (by kernel_rfl)) (fun _ _ _ h => h) (Or.inl ⟨by rfl, ?_⟩) hHeld ?_ ?_
               rotate_left
               ·
                rintro w' ⟨s0, s1, s2, s3⟩
                go_simp
                with_reducible rfl
               rotate_left
               ·
                simp only [fr_]
                rfl
               refine take_ (i := 11) (N := some 66) (v := ?_) (a' := ?_) #[t_,t_,t_,t_,t_,t_,t_,t_,t_,t_,t_,t_,f_,f_,f_] rfl rfl (take_ofW HT_.out HW_.out (by kernel_rfl)) (fun _ _ _ h => h) (Or.inl ⟨by rfl, ?_⟩) hHeld ?_ ?_
               rotate_left
               ·
                rintro w' ⟨s0, s1, s2, s3⟩
                go_simp
                with_reducible rfl
               rotate_left
               ·
                simp only [fr_]
                rfl
               refine one_ (i := 12) (N := some 67) #[t_,t_,t_,t_,t_,t_,t_,t_,t_,t_,t_,t_,t_,f_,f_] rfl rfl (one_of HT_.out (by kernel_rfl)) (by decide) (fun K hK => ?_)
               refine goes_ Try.func16 (by kernel_rfl) rfl #[.agg #[.int .i64 ((rd_T25 x7_1 (ji51)).f0), .int .i64 ((rd_T25 x7_1 (ji51)).f1)], .agg #[.int .i64 ((rd_T25 x7_1 x8_1).f0), .int .i64 ((rd_T25 x7_1 x8_1).f1)]] (by rfl) rfl rfl (by (try simp only [mp_]); first | done | (simp only [hji51]; rfl) | rfl | (simp only [List.length_drop, List.length_take]; rfl)) ?_
               with_reducible refine (impl_Before.calls ((rd_T25 x7_1 (ji51)).f0) ((rd_T25 x7_1 (ji51)).f1) ((rd_T25 x7_1 x8_1).f0) ((rd_T25 x7_1 x8_1).f1) false _ A56.out).mono ?_
               rintro e w66 ⟨rfl, hb⟩
               have HS0_ := (hb.cell (World.block_lt_of_cell? _ _ (hHeld.1))).trans (hHeld.1)
               have HS1_ := (hb.cell (World.block_lt_of_cell? _ _ (hHeld.2.1))).trans (hHeld.2.1)
               have HS2_ := (hb.cell (World.block_lt_of_cell? _ _ (hHeld.2.2.1))).trans (hHeld.2.2.1)
               have HS3_ := (hb.cell (World.block_lt_of_cell? _ _ (hHeld.2.2.2))).trans (hHeld.2.2.2)
               refine ⟨_, rfl, ?_⟩
               have n0_ := Aside0.mk (Kd.R_below (rp_ HO_7.out) hb)
               have n1_ := Aside0.mk (bb_ BK408.out hb)
               have n2_ := Aside0.mk (bb_ BK410.out hb)
               have n3_ := Aside0.mk (below_step (by repeat (first | (with_reducible first | exact HB.out | apply ba_ | apply bn_ | apply bd_ | refine below_set ?_ GE408.out | refine below_set ?_ GE410.out) | exact HB.out)) hb)
               clear HO_7 BK408 BK410 HB
               have HO_7 := n0_
               have BK408 := n1_
               have BK410 := n2_
               have HB := n3_
               clear n0_ n1_ n2_ n3_
               (try clear hb)
               (try clear hb2)
               (try clear hk)
               (try clear hi)
               refine hK.out _ _ ⟨HS0_, HS1_, HS2_, HS3_⟩ (fun hHeld => ?_)
               clear hK K
               refine norm_ (a' := ?_) ?_ ?_
               rotate_left
               ·
                show Act.put _ (some 67) _ = _
                simp only [fr_]
                rfl
               refine pu_ 13 68 ?_ (b_ 14 1) rfl rfl HT_.out ?_ ?_ ?_ ?_; rotate_left; intro w'; go_simp; with_reducible rfl; rotate_left; simp only [fr_]; rfl
               refine pu_ 14 69 ?_ (b_ 15 0) rfl rfl HT_.out ?_ ?_ ?_ ?_; rotate_left; intro w'; go_simp; with_reducible rfl; rotate_left; simp only [fr_]; rfl
               refine done_ (done_of HT_.out (by kernel_rfl)) ?_
               try go_wp2
               have n0_ := Aside0.mk (Kd.R_drew HO_7.out)
               have n1_ := Aside0.mk (blk_drew BK408.out)
               have n2_ := Aside0.mk (blk_drew BK410.out)
               have n3_ := Aside0.mk (bd_ HB.out)
               clear HO_7 BK408 BK410 HB
               have HO_7 := n0_
               have BK408 := n1_
               have BK410 := n2_
               have HB := n3_
               clear n0_ n1_ n2_ n3_
               refine start_ (n := 5) (S := fun w' => w'.cell? ⟨gb410, 0, none⟩ = some (.int .i64 x411000_1) ∧ w'.cell? ⟨gb410, 1, none⟩ = some (.int .i64 x411001_1)) (ds := []) #[f_,f_,f_,f_,f_] (by kernel_rfl) rfl rfl ⟨bx_ BK410.out 0, bx_ BK410.out 1⟩ (fun hHeld => ?_)
               generalize w66.drew = w67 at HO_7 BK408 BK410 HB hHeld ⊢
               refine pure_ (i := 0) (N := some 70) (v := ?_) (a' := ?_) #[t_,f_,f_,f_,f_] rfl rfl (by kernel_rfl) (fun _ _ _ h => h) (Or.inl ⟨by rfl, ?_⟩) ?_ ?_
               rotate_left
               ·
                intro w'
                go_simp
                with_reducible rfl
               rotate_left
               ·
                simp only [fr_]
                rfl
               refine pure_ (i := 2) (N := some 2) (v := ?_) (a' := ?_) #[t_,f_,t_,f_,f_] rfl rfl (by kernel_rfl) (fun _ _ _ h => h) (Or.inl ⟨by rfl, ?_⟩) ?_ ?_
               rotate_left
               ·
                intro w'
                go_simp
                with_reducible rfl
               rotate_left
               ·
                simp only [fr_]
                rfl
               refine take_ (i := 1) (N := some 71) (v := ?_) (a' := ?_) #[t_,t_,t_,f_,f_] rfl rfl (by kernel_rfl) (fun _ _ _ h => h) (Or.inl ⟨by rfl, ?_⟩) hHeld ?_ ?_
               rotate_left
               ·
                rintro w' ⟨s0, s1⟩
                go_simp
                with_reducible rfl
               rotate_left
               ·
                simp only [fr_]
                rfl
               refine one_ (i := 3) (N := none) #[t_,t_,t_,t_,f_] rfl rfl (by kernel_rfl) (by decide) (fun K hK => ?_)
               have hs68 : w67.cell? ⟨gb408, 0, none⟩ = some (.int .i64 x409000_1) := bx_ BK408.out 0
               have hfs68 := blk_frozen BK408.out 0
               have hns68_1 := NB410_408.out
               have hms68_1 := NB408_410.out
               have hs69 : w67.cell? ⟨gb408, 1, none⟩ = some (.int .i64 x409001_1) := bx_ BK408.out 1
               have hfs69 := blk_frozen BK408.out 1
               have hns69_1 := NB410_408.out
               have hms69_1 := NB408_410.out
               refine skip_ (w1 := ?_) (by rfl) rfl ?_ ?_
               rotate_left
               ·
                go_simp
                rfl
               refine hK.out _ _ ⟨((cell_far (p := ⟨gb408, _, none⟩) NB410_408.out _).trans (((cell_far (p := ⟨gb408, _, none⟩) NB410_408.out _).trans (hHeld.1)))), ((cell_far (p := ⟨gb408, _, none⟩) NB410_408.out _).trans (((cell_far (p := ⟨gb408, _, none⟩) NB410_408.out _).trans (hHeld.2))))⟩ (fun hHeld => ?_)
               clear hK K
               refine pure_ (i := 4) (N := some 4) (v := ?_) (a' := ?_) #[t_,t_,t_,t_,t_] rfl rfl (by kernel_rfl) (fun _ _ _ h => h) (Or.inl ⟨by rfl, ?_⟩) ?_ ?_
               rotate_left
               ·
                intro w'
                go_simp
                with_reducible rfl
               rotate_left
               ·
                simp only [fr_]
                rfl
               refine done_ (by kernel_rfl) ?_
               try go_wp2
               refine bodyPost_ret (results_list (rs := [.tmp 2, .cell 3 25, .tmp 4]) rfl (by simp) (.tmp (.cell gb408 25 #[.int .i64 x411000_1, .int .i64 x411001_1] (0, 0) _ rfl (by (with_reducible repeat (first | refine kn_ ?_ _ | refine kd_ ?_ | refine ka_ ?_ _)); refine blk_put (cs := #[.int .i64 x411000_1, .int .i64 x409001_1]) ?_ 1 _ rfl; (with_reducible repeat (first | refine kn_ ?_ _ | refine kd_ ?_ | refine ka_ ?_ _)); refine blk_put (cs := #[.int .i64 x409000_1, .int .i64 x409001_1]) ?_ 0 _ rfl; (with_reducible repeat (first | refine kn_ ?_ _ | refine kd_ ?_ | refine ka_ ?_ _)); exact BK408.out) Try.underlying25 rfl (by kernel_rfl) (.tmp .nil)))) rfl ?_
               exact ⟨_, by first | rfl | (simp [errW_none, errW_some] <;> rfl) | (simp only [← hji6, ← hji51]; first | rfl | (simp [errW_none, errW_some] <;> rfl)) | (simp [*, errW_none, errW_some] <;> rfl), by (with_reducible repeat (first | apply Kd.R_alloc | apply Kd.R_drewN | apply Kd.R_drew)); exact Kd.R_mono (Kd.R_far (p := ⟨gb408, 1, none⟩) (Kd.R_far (p := ⟨gb408, 0, none⟩) (Kd.R_mono HO_7.out (fun k_ hk => (⟨hk, hk.1⟩ : _ ∧ k_ ≠ gb408))) (fun _ hk => hk.2) (.int .i64 x411000_1)) (fun _ hk => hk.2) (.int .i64 x411001_1)) (fun _ hk => trivial), by repeat (first | (with_reducible first | exact HB.out | apply ba_ | apply bn_ | apply bd_ | refine below_set ?_ GE408.out | refine below_set ?_ GE410.out) | exact HB.out)⟩
              rw [if_neg c55] at H
              exact absurd H (by simp)
             rw [if_neg c54] at H
             exact absurd H (by simp)
            rw [if_neg c53] at H
            exact absurd H (by simp)
           rw [if_neg c52] at H
           exact absurd H (by simp)
          replace c45 := Bool.eq_false_iff.mpr c45
          subst c45
          rw [if_neg (show ¬ (false = true) by decide)] at H
          by_cases c70 : (wrap64 ((wrap64 (2 * x8_1)) + 1)) ≥ ji6
          ·
           rw [if_pos c70] at H
           have c70b0 : decide (ji6 ≤ (wrap64 ((wrap64 (2 * x8_1)) + 1))) = true := decide_eq_true c70
           clear c70
           simp only [Option.some.injEq, Prod.mk.injEq] at H
           obtain ⟨rfl, rfl, rfl, rfl⟩ := H
           try go_wp2
           have n0_ := Aside0.mk (Kd.R_drew HO_7.out)
           have n1_ := Aside0.mk (blk_drew BK408.out)
           have n2_ := Aside0.mk (blk_drew BK410.out)
           have n3_ := Aside0.mk (bd_ HB.out)
           clear HO_7 BK408 BK410 HB
           have HO_7 := n0_
           have BK408 := n1_
           have BK410 := n2_
           have HB := n3_
           clear n0_ n1_ n2_ n3_
           refine start_ (n := 15) (S := fun w' => True) (ds := []) #[f_,f_,f_,f_,f_,f_,f_,f_,f_,f_,f_,f_,f_,f_,f_] (by kernel_rfl) rfl rfl trivial (fun hHeld => ?_); refine with_tabW impl_HeapTake.tab13 impl_HeapTake.bits13 (fun HT_ HW_ => ?_)
           generalize wc.drew = w71 at HO_7 BK408 BK410 HB hHeld ⊢
           refine pu_ 0 55 ?_ (b_ 1 14) rfl rfl HT_.out ?_ ?_ ?_ ?_; rotate_left; intro w'; go_simp; with_reducible rfl; rotate_left; simp only [fr_]; rfl
           refine pu_ 1 56 ?_ (b_ 2 13) rfl rfl HT_.out ?_ ?_ ?_ ?_; rotate_left; intro w'; go_simp; with_reducible rfl; rotate_left; simp only [fr_]; rfl
           refine pu_ 2 57 ?_ (b_ 3 12) rfl rfl HT_.out ?_ ?_ ?_ ?_; rotate_left; intro w'; go_simp; with_reducible rfl; rotate_left; simp only [fr_]; rfl
           refine pu_ 3 58 ?_ (b_ 4 11) rfl rfl HT_.out ?_ ?_ ?_ ?_; rotate_left; intro w'; go_simp; with_reducible rfl; rotate_left; simp only [fr_]; rfl
           refine pv_ 4 59 ?_ (b_ 5 10) rfl rfl HT_.out ?_ ?_; rotate_left; simp only [fr_]; rfl
           refine pv_ 5 60 ?_ (b_ 6 9) rfl rfl HT_.out ?_ ?_; rotate_left; simp only [fr_]; rfl
           refine pv_ 6 61 ?_ (b_ 7 8) rfl rfl HT_.out ?_ ?_; rotate_left; simp only [fr_]; rfl
           refine pv_ 7 62 ?_ (b_ 8 7) rfl rfl HT_.out ?_ ?_; rotate_left; simp only [fr_]; rfl
           refine pv_ 8 63 ?_ (b_ 9 6) rfl rfl HT_.out ?_ ?_; rotate_left; simp only [fr_]; rfl
           refine pv_ 9 64 ?_ (b_ 10 5) rfl rfl HT_.out ?_ ?_; rotate_left; simp only [fr_]; rfl
           refine pv_ 10 65 ?_ (b_ 11 4) rfl rfl HT_.out ?_ ?_; rotate_left; simp only [fr_]; rfl
           refine pv_ 11 66 ?_ (b_ 12 3) rfl rfl HT_.out ?_ ?_; rotate_left; simp only [fr_]; rfl
           refine pv_ 12 67 ?_ (b_ 13 2) rfl rfl HT_.out ?_ ?_; rotate_left; simp only [fr_]; rfl
           refine pv_ 13 68 ?_ (b_ 14 1) rfl rfl HT_.out ?_ ?_; rotate_left; simp only [fr_]; rfl
           refine pu_ 14 69 ?_ (b_ 15 0) rfl rfl HT_.out ?_ ?_ ?_ ?_; rotate_left; intro w'; go_simp; with_reducible rfl; rotate_left; simp only [fr_]; rfl
           refine done_ (done_of HT_.out (by kernel_rfl)) ?_
           try go_wp2
           have n0_ := Aside0.mk (Kd.R_drew HO_7.out)
           have n1_ := Aside0.mk (blk_drew BK408.out)
           have n2_ := Aside0.mk (blk_drew BK410.out)
           have n3_ := Aside0.mk (bd_ HB.out)
           clear HO_7 BK408 BK410 HB
           have HO_7 := n0_
           have BK408 := n1_
           have BK410 := n2_
           have HB := n3_
           clear n0_ n1_ n2_ n3_
           refine start_ (n := 5) (S := fun w' => w'.cell? ⟨gb410, 0, none⟩ = some (.int .i64 x411000_1) ∧ w'.cell? ⟨gb410, 1, none⟩ = some (.int .i64 x411001_1)) (ds := []) #[f_,f_,f_,f_,f_] (by kernel_rfl) rfl rfl ⟨bx_ BK410.out 0, bx_ BK410.out 1⟩ (fun hHeld => ?_)
           generalize w71.drew = w72 at HO_7 BK408 BK410 HB hHeld ⊢
           refine pure_ (i := 0) (N := some 70) (v := ?_) (a' := ?_) #[t_,f_,f_,f_,f_] rfl rfl (by kernel_rfl) (fun _ _ _ h => h) (Or.inl ⟨by rfl, ?_⟩) ?_ ?_
           rotate_left
           ·
            intro w'
            go_simp
            with_reducible rfl
           rotate_left
           ·
            simp only [fr_]
            rfl
           refine pure_ (i := 2) (N := some 2) (v := ?_) (a' := ?_) #[t_,f_,t_,f_,f_] rfl rfl (by kernel_rfl) (fun _ _ _ h => h) (Or.inl ⟨by rfl, ?_⟩) ?_ ?_
           rotate_left
           ·
            intro w'
            go_simp
            with_reducible rfl
           rotate_left
           ·
            simp only [fr_]
            rfl
           refine take_ (i := 1) (N := some 71) (v := ?_) (a' := ?_) #[t_,t_,t_,f_,f_] rfl rfl (by kernel_rfl) (fun _ _ _ h => h) (Or.inl ⟨by rfl, ?_⟩) hHeld ?_ ?_
           rotate_left
           ·
            rintro w' ⟨s0, s1⟩
            go_simp
            with_reducible rfl
           rotate_left
           ·
            simp only [fr_]
            rfl
           refine one_ (i := 3) (N := none) #[t_,t_,t_,t_,f_] rfl rfl (by kernel_rfl) (by decide) (fun K hK => ?_)
           have hs73 : w72.cell? ⟨gb408, 0, none⟩ = some (.int .i64 x409000_1) := bx_ BK408.out 0
           have hfs73 := blk_frozen BK408.out 0
           have hns73_1 := NB410_408.out
           have hms73_1 := NB408_410.out
           have hs74 : w72.cell? ⟨gb408, 1, none⟩ = some (.int .i64 x409001_1) := bx_ BK408.out 1
           have hfs74 := blk_frozen BK408.out 1
           have hns74_1 := NB410_408.out
           have hms74_1 := NB408_410.out
           refine skip_ (w1 := ?_) (by rfl) rfl ?_ ?_
           rotate_left
           ·
            go_simp
            rfl
           refine hK.out _ _ ⟨((cell_far (p := ⟨gb408, _, none⟩) NB410_408.out _).trans (((cell_far (p := ⟨gb408, _, none⟩) NB410_408.out _).trans (hHeld.1)))), ((cell_far (p := ⟨gb408, _, none⟩) NB410_408.out _).trans (((cell_far (p := ⟨gb408, _, none⟩) NB410_408.out _).trans (hHeld.2))))⟩ (fun hHeld => ?_)
           clear hK K
           refine pure_ (i := 4) (N := some 4) (v := ?_) (a' := ?_) #[t_,t_,t_,t_,t_] rfl rfl (by kernel_rfl) (fun _ _ _ h => h) (Or.inl ⟨by rfl, ?_⟩) ?_ ?_
           rotate_left
           ·
            intro w'
            go_simp
            with_reducible rfl
           rotate_left
           ·
            simp only [fr_]
            rfl
           refine done_ (by kernel_rfl) ?_
           try go_wp2
           refine bodyPost_ret (results_list (rs := [.tmp 2, .cell 3 25, .tmp 4]) rfl (by simp) (.tmp (.cell gb408 25 #[.int .i64 x411000_1, .int .i64 x411001_1] (0, 0) _ rfl (by (with_reducible repeat (first | refine kn_ ?_ _ | refine kd_ ?_ | refine ka_ ?_ _)); refine blk_put (cs := #[.int .i64 x411000_1, .int .i64 x409001_1]) ?_ 1 _ rfl; (with_reducible repeat (first | refine kn_ ?_ _ | refine kd_ ?_ | refine ka_ ?_ _)); refine blk_put (cs := #[.int .i64 x409000_1, .int .i64 x409001_1]) ?_ 0 _ rfl; (with_reducible repeat (first | refine kn_ ?_ _ | refine kd_ ?_ | refine ka_ ?_ _)); exact BK408.out) Try.underlying25 rfl (by kernel_rfl) (.tmp .nil)))) rfl ?_
           exact ⟨_, by first | rfl | (simp [errW_none, errW_some] <;> rfl) | (simp only [← hji6]; first | rfl | (simp [errW_none, errW_some] <;> rfl)) | (simp [*, errW_none, errW_some] <;> rfl), by (with_reducible repeat (first | apply Kd.R_alloc | apply Kd.R_drewN | apply Kd.R_drew)); exact Kd.R_mono (Kd.R_far (p := ⟨gb408, 1, none⟩) (Kd.R_far (p := ⟨gb408, 0, none⟩) (Kd.R_mono HO_7.out (fun k_ hk => (⟨hk, hk.1⟩ : _ ∧ k_ ≠ gb408))) (fun _ hk => hk.2) (.int .i64 x411000_1)) (fun _ hk => hk.2) (.int .i64 x411001_1)) (fun _ hk => trivial), by repeat (first | (with_reducible first | exact HB.out | apply ba_ | apply bn_ | apply bd_ | refine below_set ?_ GE408.out | refine below_set ?_ GE410.out) | exact HB.out)⟩
          rw [if_neg c70] at H
          have c70b0 : decide (ji6 ≤ (wrap64 ((wrap64 (2 * x8_1)) + 1))) = false := decide_eq_false c70
          clear c70
          obtain ⟨ji75, hji75⟩ : ∃ j_ : Int, (wrap64 ((wrap64 (2 * x8_1)) + 1)) = j_ := ⟨_, rfl⟩
          replace H : (if 0 ≤ (ji75) then (if (ji75) < (x7_1.length : Int) then (if 0 ≤ x8_1 then (if x8_1 < (x7_1.length : Int) then ((impl_Before.f ((rd_T25 x7_1 (ji75)).f0) ((rd_T25 x7_1 (ji75)).f1) ((rd_T25 x7_1 x8_1).f0) ((rd_T25 x7_1 x8_1).f1)).bind fun t432 => (if t432 = true then (impl_HeapTake.l0 kj32 ji6 ((x7_1.set (x8_1 : Int).toNat (⟨(rd_T25 x7_1 (ji75)).f0, (rd_T25 x7_1 (ji75)).f1⟩ : S25)).set ((ji75) : Int).toNat (⟨(rd_T25 x7_1 x8_1).f0, (rd_T25 x7_1 x8_1).f1⟩ : S25)) (ji75) x411000_1 x411001_1) else (some (x7_1, x411000_1, x411001_1, true)))) else (none)) else (none)) else (none)) else (none)) = some (r1, r2, r3, r4) := by first | (rw [hji75] at H; exact H) | (simp only [hji75] at H ⊢; exact H)
          (try rw [hji75] at c70b0)
          have hji75w : (IntKind.i64.wrap ((wrap64 (2 * x8_1)) + 1)) = ji75 := (i64_w _).trans hji75
          (try rw [hji75] at hji35)
          (try rw [hji75] at hji35w)
          (try rw [hji75] at hji38)
          (try rw [hji75] at hji38w)
          (try rw [hji75] at hji51)
          (try rw [hji75] at hji51w)
          by_cases c76 : 0 ≤ (ji75)
          ·
           rw [if_pos c76] at H
           have c76b0 := decide_eq_true c76
           clear c76
           by_cases c77 : (ji75) < (x7_1.length : Int)
           ·
            rw [if_pos c77] at H
            have c77b0 := decide_eq_true c77
            clear c77
            by_cases c78 : 0 ≤ x8_1
            ·
             rw [if_pos c78] at H
             have c78b0 := decide_eq_true c78
             clear c78
             by_cases c79 : x8_1 < (x7_1.length : Int)
             ·
              rw [if_pos c79] at H
              have c79b0 := decide_eq_true c79
              clear c79
              replace H := Option.bind_eq_some_iff.mp H
              obtain ⟨t432, A800, H⟩ := H
              have A80 := Aside0.mk A800
              clear A800
              by_cases c81 : t432 = true
              ·
               subst c81
               rw [if_pos rfl] at H
               obtain ⟨y435, hy435⟩ : ∃ y_ : List (S25), y_ = (x7_1.set (x8_1 : Int).toNat (⟨(rd_T25 x7_1 (ji75)).f0, (rd_T25 x7_1 (ji75)).f1⟩ : S25)) := ⟨_, rfl⟩
               replace H : (impl_HeapTake.l0 kj32 ji6 (y435.set ((ji75) : Int).toNat (⟨(rd_T25 x7_1 x8_1).f0, (rd_T25 x7_1 x8_1).f1⟩ : S25)) (ji75) x411000_1 x411001_1) = some (r1, r2, r3, r4) := by first | (rw [hy435]; with_reducible exact H) | (have H2_ := (Option.bind_some _ _).symm.trans H; rw [hy435]; with_reducible exact H2_) | (have H2_ := (Option.bind_some _ _).symm.trans H; with_reducible exact H2_) | with_reducible exact H | (rw [hy435]; exact H) | exact H
               have Ny435 := Aside0.mk hy435
               clear hy435
               obtain ⟨y436, hy436⟩ : ∃ y_ : List (S25), y_ = (y435.set ((ji75) : Int).toNat (⟨(rd_T25 x7_1 x8_1).f0, (rd_T25 x7_1 x8_1).f1⟩ : S25)) := ⟨_, rfl⟩
               replace H : (impl_HeapTake.l0 kj32 ji6 y436 (ji75) x411000_1 x411001_1) = some (r1, r2, r3, r4) := by first | (rw [hy436]; with_reducible exact H) | (have H2_ := (Option.bind_some _ _).symm.trans H; rw [hy436]; with_reducible exact H2_) | (have H2_ := (Option.bind_some _ _).symm.trans H; with_reducible exact H2_) | with_reducible exact H | (rw [hy436]; exact H) | exact H
               have Ny436 := Aside0.mk hy436
               clear hy436
               have H' := Aside0.mk H
               clear H
               try go_wp2
               have n0_ := Aside0.mk (Kd.R_drew HO_7.out)
               have n1_ := Aside0.mk (blk_drew BK408.out)
               have n2_ := Aside0.mk (blk_drew BK410.out)
               have n3_ := Aside0.mk (bd_ HB.out)
               clear HO_7 BK408 BK410 HB
               have HO_7 := n0_
               have BK408 := n1_
               have BK410 := n2_
               have HB := n3_
               clear n0_ n1_ n2_ n3_
               have p430 : 0 ≤ ((ji75) : Int) := of_decide_eq_true (by with_reducible assumption)
               have q430 : (ji75) < (x7_1.length : Int) := of_decide_eq_true (by with_reducible assumption)
               obtain ⟨ad430, e430, hx430_0, hx430_1⟩ := at_T25 (Kd.R_reads' HO_7.out).2.2 (ji75) p430 q430
               obtain rfl : (⟨go23, 0, none⟩ : Addr) = ad430 := (by injection e430)
               (first | simp only [add_plain] at hx430_0 | simp only [add_at] at hx430_0 | simp only [Addr.add, Nat.zero_add] at hx430_0 | skip)
               (first | simp only [add_plain] at hx430_1 | simp only [add_at] at hx430_1 | simp only [Addr.add, Nat.zero_add] at hx430_1 | skip)
               replace p430 := eq_true p430
               replace q430 := eq_true q430
               have p431 : 0 ≤ (x8_1 : Int) := of_decide_eq_true (by with_reducible assumption)
               have q431 : x8_1 < (x7_1.length : Int) := of_decide_eq_true (by with_reducible assumption)
               obtain ⟨ad431, e431, hx431_0, hx431_1⟩ := at_T25 (Kd.R_reads' HO_7.out).2.2 x8_1 p431 q431
               obtain rfl : (⟨go23, 0, none⟩ : Addr) = ad431 := (by injection e431)
               (first | simp only [add_plain] at hx431_0 | simp only [add_at] at hx431_0 | simp only [Addr.add, Nat.zero_add] at hx431_0 | skip)
               (first | simp only [add_plain] at hx431_1 | simp only [add_at] at hx431_1 | simp only [Addr.add, Nat.zero_add] at hx431_1 | skip)
               replace p431 := eq_true p431
               replace q431 := eq_true q431
               refine start_ (n := 15) (S := fun w' => w'.cell? ⟨go23, ((ji75)).toNat * 2, none⟩ = some (.int .i64 ((rd_T25 x7_1 (ji75)).f0)) ∧ w'.cell? ⟨go23, ((ji75)).toNat * 2 + 1, none⟩ = some (.int .i64 ((rd_T25 x7_1 (ji75)).f1)) ∧ w'.cell? ⟨go23, (x8_1).toNat * 2, none⟩ = some (.int .i64 ((rd_T25 x7_1 x8_1).f0)) ∧ w'.cell? ⟨go23, (x8_1).toNat * 2 + 1, none⟩ = some (.int .i64 ((rd_T25 x7_1 x8_1).f1))) (ds := []) #[f_,f_,f_,f_,f_,f_,f_,f_,f_,f_,f_,f_,f_,f_,f_] (by kernel_rfl) rfl rfl ⟨hx430_0, hx430_1, hx431_0, hx431_1⟩ (fun hHeld => ?_); refine with_tabW impl_HeapTake.tab13 impl_HeapTake.bits13 (fun HT_ HW_ => ?_)
               generalize wc.drew = w84 at HO_7 BK408 BK410 HB hx430_0 hx430_1 hx431_0 hx431_1 hHeld ⊢
               refine pu_ 0 55 ?_ (b_ 1 14) rfl rfl HT_.out ?_ ?_ ?_ ?_; rotate_left; intro w'; go_simp; with_reducible rfl; rotate_left; simp only [fr_]; rfl
               refine pu_ 1 56 ?_ (b_ 2 13) rfl rfl HT_.out ?_ ?_ ?_ ?_; rotate_left; intro w'; go_simp; with_reducible rfl; rotate_left; simp only [fr_]; rfl
               refine pu_ 2 57 ?_ (b_ 3 12) rfl rfl HT_.out ?_ ?_ ?_ ?_; rotate_left; intro w'; go_simp; with_reducible rfl; rotate_left; simp only [fr_]; rfl
               refine pu_ 3 58 ?_ (b_ 4 11) rfl rfl HT_.out ?_ ?_ ?_ ?_; rotate_left; intro w'; go_simp; with_reducible rfl; rotate_left; simp only [fr_]; rfl
               refine pu_ 4 59 ?_ (b_ 5 10) rfl rfl HT_.out ?_ ?_ ?_ ?_; rotate_left; intro w'; go_simp; with_reducible rfl; rotate_left; simp only [fr_]; rfl
               refine pu_ 5 60 ?_ (b_ 6 9) rfl rfl HT_.out ?_ ?_ ?_ ?_; rotate_left; intro w'; go_simp; with_reducible rfl; rotate_left; simp only [fr_]; rfl
               refine pu_ 6 61 ?_ (b_ 7 8) rfl rfl HT_.out ?_ ?_ ?_ ?_; rotate_left; intro w'; go_simp; with_reducible rfl; rotate_left; simp only [fr_]; rfl
               refine pu_ 8 63 ?_ #[t_,t_,t_,t_,t_,t_,t_,f_,t_,f_,f_,f_,f_,f_,f_] rfl rfl HT_.out ?_ ?_ ?_ ?_; rotate_left; intro w'; go_simp; with_reducible rfl; rotate_left; simp only [fr_]; rfl
               refine pu_ 9 64 ?_ #[t_,t_,t_,t_,t_,t_,t_,f_,t_,t_,f_,f_,f_,f_,f_] rfl rfl HT_.out ?_ ?_ ?_ ?_; rotate_left; intro w'; go_simp; with_reducible rfl; rotate_left; simp only [fr_]; rfl
               refine pu_ 10 65 ?_ #[t_,t_,t_,t_,t_,t_,t_,f_,t_,t_,t_,f_,f_,f_,f_] rfl rfl HT_.out ?_ ?_ ?_ ?_; rotate_left; intro w'; go_simp; with_reducible rfl; rotate_left; simp only [fr_]; rfl
               refine take_ (i := 7) (N := some 62) (v := ?_) (a' := ?_) #[t_,t_,t_,t_,t_,t_,t_,t_,t_,t_,t_,f_,f_,f_,f_] rfl rfl (take_ofW HT_.out HW_.out (by kernel_rfl)) (fun _ _ _ h => h) (Or.inl ⟨by rfl, ?_⟩) hHeld ?_ ?_
               rotate_left
               ·
                rintro w' ⟨s0, s1, s2, s3⟩
                go_simp
                with_reducible rfl
               rotate_left
               ·
                simp only [fr_]
                rfl
               refine take_ (i := 11) (N := some 66) (v := ?_) (a' := ?_) #[t_,t_,t_,t_,t_,t_,t_,t_,t_,t_,t_,t_,f_,f_,f_] rfl rfl (take_ofW HT_.out HW_.out (by kernel_rfl)) (fun _ _ _ h => h) (Or.inl ⟨by rfl, ?_⟩) hHeld ?_ ?_
               rotate_left
               ·
                rintro w' ⟨s0, s1, s2, s3⟩
                go_simp
                with_reducible rfl
               rotate_left
               ·
                simp only [fr_]
                rfl
               refine one_ (i := 12) (N := some 67) #[t_,t_,t_,t_,t_,t_,t_,t_,t_,t_,t_,t_,t_,f_,f_] rfl rfl (one_of HT_.out (by kernel_rfl)) (by decide) (fun K hK => ?_)
               refine goes_ Try.func16 (by kernel_rfl) rfl #[.agg #[.int .i64 ((rd_T25 x7_1 (ji75)).f0), .int .i64 ((rd_T25 x7_1 (ji75)).f1)], .agg #[.int .i64 ((rd_T25 x7_1 x8_1).f0), .int .i64 ((rd_T25 x7_1 x8_1).f1)]] (by rfl) rfl rfl (by (try simp only [mp_]); first | done | (simp only [hji75]; rfl) | rfl | (simp only [List.length_drop, List.length_take]; rfl)) ?_
               with_reducible refine (impl_Before.calls ((rd_T25 x7_1 (ji75)).f0) ((rd_T25 x7_1 (ji75)).f1) ((rd_T25 x7_1 x8_1).f0) ((rd_T25 x7_1 x8_1).f1) true _ A80.out).mono ?_
               rintro e w85 ⟨rfl, hb⟩
               have HS0_ := (hb.cell (World.block_lt_of_cell? _ _ (hHeld.1))).trans (hHeld.1)
               have HS1_ := (hb.cell (World.block_lt_of_cell? _ _ (hHeld.2.1))).trans (hHeld.2.1)
               have HS2_ := (hb.cell (World.block_lt_of_cell? _ _ (hHeld.2.2.1))).trans (hHeld.2.2.1)
               have HS3_ := (hb.cell (World.block_lt_of_cell? _ _ (hHeld.2.2.2))).trans (hHeld.2.2.2)
               refine ⟨_, rfl, ?_⟩
               have n0_ := Aside0.mk (Kd.R_below (rp_ HO_7.out) hb)
               have n1_ := Aside0.mk (bb_ BK408.out hb)
               have n2_ := Aside0.mk (bb_ BK410.out hb)
               have n3_ := Aside0.mk (below_step (by repeat (first | (with_reducible first | exact HB.out | apply ba_ | apply bn_ | apply bd_ | refine below_set ?_ GE408.out | refine below_set ?_ GE410.out) | exact HB.out)) hb)
               clear HO_7 BK408 BK410 HB
               have HO_7 := n0_
               have BK408 := n1_
               have BK410 := n2_
               have HB := n3_
               clear n0_ n1_ n2_ n3_
               (try clear hb)
               (try clear hb2)
               (try clear hk)
               (try clear hi)
               refine hK.out _ _ ⟨HS0_, HS1_, HS2_, HS3_⟩ (fun hHeld => ?_)
               clear hK K
               refine norm_ (a' := ?_) ?_ ?_
               rotate_left
               ·
                show Act.put _ (some 67) _ = _
                simp only [fr_]
                rfl
               refine pu_ 13 68 ?_ (b_ 14 1) rfl rfl HT_.out ?_ ?_ ?_ ?_; rotate_left; intro w'; go_simp; with_reducible rfl; rotate_left; simp only [fr_]; rfl
               refine pu_ 14 69 ?_ (b_ 15 0) rfl rfl HT_.out ?_ ?_ ?_ ?_; rotate_left; intro w'; go_simp; with_reducible rfl; rotate_left; simp only [fr_]; rfl
               refine done_ (done_of HT_.out (by kernel_rfl)) ?_
               try go_wp2
               have n0_ := Aside0.mk (Kd.R_drew HO_7.out)
               have n1_ := Aside0.mk (blk_drew BK408.out)
               have n2_ := Aside0.mk (blk_drew BK410.out)
               have n3_ := Aside0.mk (bd_ HB.out)
               clear HO_7 BK408 BK410 HB
               have HO_7 := n0_
               have BK408 := n1_
               have BK410 := n2_
               have HB := n3_
               clear n0_ n1_ n2_ n3_
               have p433 : 0 ≤ ((ji75) : Int) := of_decide_eq_true (by with_reducible assumption)
               have q433 : (ji75) < (x7_1.length : Int) := of_decide_eq_true (by with_reducible assumption)
               obtain ⟨ad433, e433, hx433_0, hx433_1⟩ := at_T25 (Kd.R_reads' HO_7.out).2.2 (ji75) p433 q433
               obtain rfl : (⟨go23, 0, none⟩ : Addr) = ad433 := (by injection e433)
               (first | simp only [add_plain] at hx433_0 | simp only [add_at] at hx433_0 | simp only [Addr.add, Nat.zero_add] at hx433_0 | skip)
               (first | simp only [add_plain] at hx433_1 | simp only [add_at] at hx433_1 | simp only [Addr.add, Nat.zero_add] at hx433_1 | skip)
               replace p433 := eq_true p433
               replace q433 := eq_true q433
               have p434 : 0 ≤ (x8_1 : Int) := of_decide_eq_true (by with_reducible assumption)
               have q434 : x8_1 < (x7_1.length : Int) := of_decide_eq_true (by with_reducible assumption)
               obtain ⟨ad434, e434, hx434_0, hx434_1⟩ := at_T25 (Kd.R_reads' HO_7.out).2.2 x8_1 p434 q434
               obtain rfl : (⟨go23, 0, none⟩ : Addr) = ad434 := (by injection e434)
               (first | simp only [add_plain] at hx434_0 | simp only [add_at] at hx434_0 | simp only [Addr.add, Nat.zero_add] at hx434_0 | skip)
               (first | simp only [add_plain] at hx434_1 | simp only [add_at] at hx434_1 | simp only [Addr.add, Nat.zero_add] at hx434_1 | skip)
               replace p434 := eq_true p434
               replace q434 := eq_true q434
               have p82 : 0 ≤ (x8_1 : Int) := of_decide_eq_true (by with_reducible assumption)
               have q82 : (x8_1 : Int) < ((x7_1.length : Int) : Int) := of_decide_eq_true (by with_reducible assumption)
               obtain ⟨ce82, hcl82, hM82, hcc82, hfr82⟩ := Kd.R_elem HO_7.out z25 (x8_1 : Int) p82 q82
               obtain rfl := k25_openM hM82
               have hx82_0 : World.cell? _ ⟨go23, (x8_1 : Int).toNat * 2, none⟩ = some (.int .i64 ((rd_T25 x7_1 x8_1).f0)) := hcc82 0 _ rfl
               have hx82_1 : World.cell? _ ⟨go23, (x8_1 : Int).toNat * 2 + 1, none⟩ = some (.int .i64 ((rd_T25 x7_1 x8_1).f1)) := hcc82 1 _ rfl
               have hf82_0 : World.frozen? _ ⟨go23, (x8_1 : Int).toNat * 2, none⟩ = false := hfr82 0
               have hf82_1 : World.frozen? _ ⟨go23, (x8_1 : Int).toNat * 2 + 1, none⟩ = false := hfr82 1
               clear hcl82 hcc82 hfr82 hM82
               replace p82 := eq_true p82
               replace q82 := eq_true q82
               obtain ⟨ce87, hcl87, hM87, hcc87, hfr87⟩ := Kd.R_elem HO_7.out z25 (x8_1 : Int) (of_decide_eq_true (by with_reducible assumption)) (by have h_ : (x8_1 : Int) < ((x7_1.length : Int) : Int) := of_decide_eq_true (by with_reducible assumption); first | exact h_ | (have e_ := (Kd.R_reads' HO_7.out).1; omega) | simpa using h_)
               obtain rfl := k25_openM hM87
               have HP87 := (Kd.R_seg HO_7.out (x8_1 : Int) (of_decide_eq_true (by with_reducible assumption)) (by have h_ : (x8_1 : Int) < ((x7_1.length : Int) : Int) := of_decide_eq_true (by with_reducible assumption); first | exact h_ | (have e_ := (Kd.R_reads' HO_7.out).1; omega) | simpa using h_) (seg := [.int .i64 ((rd_T25 x7_1 (ji75)).f0), .int .i64 ((rd_T25 x7_1 (ji75)).f1)]) (j := 0) hcl87 hcc87 (show 2 ≤ 2 from by decide) (x' := (⟨(rd_T25 x7_1 (ji75)).f0, (rd_T25 x7_1 (ji75)).f1⟩ : S25)) (k25_mkM _ _ _ (⟨(rd_T25 x7_1 (ji75)).f0, (rd_T25 x7_1 (ji75)).f1⟩ : S25) ) (fun _ hk => hk)).1
               rw [← Ny435.out] at HP87
               have HQ87 := Aside0.mk HP87
               clear hcl87 hcc87 hfr87 hM87 HP87
               have p83 : 0 ≤ ((ji75) : Int) := of_decide_eq_true (by with_reducible assumption)
               have q83 : ((ji75) : Int) < ((x7_1.length : Int) : Int) := of_decide_eq_true (by with_reducible assumption)
               obtain ⟨ce83, hcl83, hM83, hcc83, hfr83⟩ := Kd.R_elem HQ87.out z25 ((ji75) : Int) p83 q83
               obtain rfl := k25_openM hM83
               have hx83_0 : World.cell? _ ⟨go23, ((ji75) : Int).toNat * 2, none⟩ = some (.int .i64 ((rd_T25 y435 (ji75)).f0)) := hcc83 0 _ rfl
               have hx83_1 : World.cell? _ ⟨go23, ((ji75) : Int).toNat * 2 + 1, none⟩ = some (.int .i64 ((rd_T25 y435 (ji75)).f1)) := hcc83 1 _ rfl
               have hf83_0 : World.frozen? _ ⟨go23, ((ji75) : Int).toNat * 2, none⟩ = false := hfr83 0
               have hf83_1 : World.frozen? _ ⟨go23, ((ji75) : Int).toNat * 2 + 1, none⟩ = false := hfr83 1
               clear hcl83 hcc83 hfr83 hM83
               replace p83 := eq_true p83
               replace q83 := eq_true q83
               obtain ⟨ce88, hcl88, hM88, hcc88, hfr88⟩ := Kd.R_elem HQ87.out z25 ((ji75) : Int) (of_decide_eq_true (by with_reducible assumption)) (by have h_ : ((ji75) : Int) < ((x7_1.length : Int) : Int) := of_decide_eq_true (by with_reducible assumption); first | exact h_ | (have e_ := (Kd.R_reads' HO_7.out).1; omega) | simpa using h_)
               obtain rfl := k25_openM hM88
               have HP88 := (Kd.R_seg HQ87.out ((ji75) : Int) (of_decide_eq_true (by with_reducible assumption)) (by have h_ : ((ji75) : Int) < ((x7_1.length : Int) : Int) := of_decide_eq_true (by with_reducible assumption); first | exact h_ | (have e_ := (Kd.R_reads' HO_7.out).1; omega) | simpa using h_) (seg := [.int .i64 ((rd_T25 x7_1 x8_1).f0), .int .i64 ((rd_T25 x7_1 x8_1).f1)]) (j := 0) hcl88 hcc88 (show 2 ≤ 2 from by decide) (x' := (⟨(rd_T25 x7_1 x8_1).f0, (rd_T25 x7_1 x8_1).f1⟩ : S25)) (k25_mkM _ _ _ (⟨(rd_T25 x7_1 x8_1).f0, (rd_T25 x7_1 x8_1).f1⟩ : S25) ) (fun _ hk => hk)).1
               rw [← Ny436.out] at HP88
               have HQ88 := Aside0.mk HP88
               clear hcl88 hcc88 hfr88 hM88 HP88
               refine start_ (n := 16) (S := fun w' => w'.cell? ⟨go23, ((ji75)).toNat * 2, none⟩ = some (.int .i64 ((rd_T25 x7_1 (ji75)).f0)) ∧ w'.cell? ⟨go23, ((ji75)).toNat * 2 + 1, none⟩ = some (.int .i64 ((rd_T25 x7_1 (ji75)).f1)) ∧ w'.cell? ⟨go23, (x8_1).toNat * 2, none⟩ = some (.int .i64 ((rd_T25 x7_1 x8_1).f0)) ∧ w'.cell? ⟨go23, (x8_1).toNat * 2 + 1, none⟩ = some (.int .i64 ((rd_T25 x7_1 x8_1).f1))) (ds := [13, 15]) #[f_,f_,f_,f_,f_,f_,f_,f_,f_,f_,f_,f_,f_,f_,f_,f_] (by kernel_rfl) rfl rfl ⟨hx433_0, hx433_1, hx434_0, hx434_1⟩ (fun hHeld => ?_); refine with_tabW impl_HeapTake.tab15 impl_HeapTake.bits15 (fun HT_ HW_ => ?_)
               generalize w85.drew = w86 at HO_7 BK408 BK410 HB HQ87 HQ88 hf82_0 hf82_1 hf83_0 hf83_1 hx433_0 hx433_1 hx434_0 hx434_1 hx82_0 hx82_1 hx83_0 hx83_1 hHeld ⊢
               refine pu_ 0 72 ?_ (b_ 1 15) rfl rfl HT_.out ?_ ?_ ?_ ?_; rotate_left; intro w'; go_simp; with_reducible rfl; rotate_left; simp only [fr_]; rfl
               refine pu_ 1 73 ?_ (b_ 2 14) rfl rfl HT_.out ?_ ?_ ?_ ?_; rotate_left; intro w'; go_simp; with_reducible rfl; rotate_left; simp only [fr_]; rfl
               refine pu_ 2 74 ?_ (b_ 3 13) rfl rfl HT_.out ?_ ?_ ?_ ?_; rotate_left; intro w'; go_simp; with_reducible rfl; rotate_left; simp only [fr_]; rfl
               refine pu_ 3 75 ?_ (b_ 4 12) rfl rfl HT_.out ?_ ?_ ?_ ?_; rotate_left; intro w'; go_simp; with_reducible rfl; rotate_left; simp only [fr_]; rfl
               refine pu_ 4 76 ?_ (b_ 5 11) rfl rfl HT_.out ?_ ?_ ?_ ?_; rotate_left; intro w'; go_simp; with_reducible rfl; rotate_left; simp only [fr_]; rfl
               refine pu_ 5 77 ?_ (b_ 6 10) rfl rfl HT_.out ?_ ?_ ?_ ?_; rotate_left; intro w'; go_simp; with_reducible rfl; rotate_left; simp only [fr_]; rfl
               refine pu_ 6 78 ?_ (b_ 7 9) rfl rfl HT_.out ?_ ?_ ?_ ?_; rotate_left; intro w'; go_simp; with_reducible rfl; rotate_left; simp only [fr_]; rfl
               refine pu_ 8 80 ?_ #[t_,t_,t_,t_,t_,t_,t_,f_,t_,f_,f_,f_,f_,f_,f_,f_] rfl rfl HT_.out ?_ ?_ ?_ ?_; rotate_left; intro w'; go_simp; with_reducible rfl; rotate_left; simp only [fr_]; rfl
               refine pu_ 9 81 ?_ #[t_,t_,t_,t_,t_,t_,t_,f_,t_,t_,f_,f_,f_,f_,f_,f_] rfl rfl HT_.out ?_ ?_ ?_ ?_; rotate_left; intro w'; go_simp; with_reducible rfl; rotate_left; simp only [fr_]; rfl
               refine pu_ 10 82 ?_ #[t_,t_,t_,t_,t_,t_,t_,f_,t_,t_,t_,f_,f_,f_,f_,f_] rfl rfl HT_.out ?_ ?_ ?_ ?_; rotate_left; intro w'; go_simp; with_reducible rfl; rotate_left; simp only [fr_]; rfl
               refine take_ (i := 7) (N := some 79) (v := ?_) (a' := ?_) #[t_,t_,t_,t_,t_,t_,t_,t_,t_,t_,t_,f_,f_,f_,f_,f_] rfl rfl (take_ofW HT_.out HW_.out (by kernel_rfl)) (fun _ _ _ h => h) (Or.inl ⟨by rfl, ?_⟩) hHeld ?_ ?_
               rotate_left
               ·
                rintro w' ⟨s0, s1, s2, s3⟩
                go_simp
                with_reducible rfl
               rotate_left
               ·
                simp only [fr_]
                rfl
               refine take_ (i := 11) (N := some 83) (v := ?_) (a' := ?_) #[t_,t_,t_,t_,t_,t_,t_,t_,t_,t_,t_,t_,f_,f_,f_,f_] rfl rfl (take_ofW HT_.out HW_.out (by kernel_rfl)) (fun _ _ _ h => h) (Or.inl ⟨by rfl, ?_⟩) hHeld ?_ ?_
               rotate_left
               ·
                rintro w' ⟨s0, s1, s2, s3⟩
                go_simp
                with_reducible rfl
               rotate_left
               ·
                simp only [fr_]
                rfl
               refine pu_ 12 84 ?_ (b_ 13 3) rfl rfl HT_.out ?_ ?_ ?_ ?_; rotate_left; intro w'; go_simp; with_reducible rfl; rotate_left; simp only [fr_]; rfl
               refine last_ (i := 13) (N := none) #[t_,t_,t_,t_,t_,t_,t_,t_,t_,t_,t_,t_,t_,t_,f_,f_] rfl rfl (one_of HT_.out (by kernel_rfl)) (by decide) (fun K hK => ?_)
               refine skip_ (w1 := ?_) (by rfl) rfl ?_ ?_
               rotate_left
               ·
                go_simp
                rfl
               refine hK.out _ _ ?_
               clear hK K
               refine pu_ 14 85 ?_ (b_ 15 1) rfl rfl HT_.out ?_ ?_ ?_ ?_; rotate_left; intro w'; go_simp; with_reducible rfl; rotate_left; simp only [fr_]; rfl
               obtain ⟨u1_, hu1_⟩ := cell?_setCell_some (p := ⟨go23, (x8_1).toNat * 2, none⟩) (x := (.int .i64 ((rd_T25 x7_1 (ji75)).f0))) (show w86.cell? ⟨go23, ((ji75)).toNat * 2, none⟩ = some (.int .i64 ((rd_T25 x7_1 (ji75)).f0)) from by assumption)
               obtain ⟨u2_, hu2_⟩ := cell?_setCell_some (p := ⟨go23, (x8_1).toNat * 2, none⟩) (x := (.int .i64 ((rd_T25 x7_1 (ji75)).f0))) (show w86.cell? ⟨go23, ((ji75)).toNat * 2 + 1, none⟩ = some (.int .i64 ((rd_T25 x7_1 (ji75)).f1)) from by assumption)
               obtain ⟨u3_, hu3_⟩ := cell?_setCell_some (p := ⟨go23, (x8_1).toNat * 2 + 1, none⟩) (x := (.int .i64 ((rd_T25 x7_1 (ji75)).f1))) hu2_
               (try simp only [World.frozen?_setCells, World.frozen?_setCell] at hf82_0)
               (try simp only [World.frozen?_setCells, World.frozen?_setCell] at hf82_1)
               (try simp only [World.frozen?_setCells, World.frozen?_setCell] at hf83_0)
               (try simp only [World.frozen?_setCells, World.frozen?_setCell] at hf83_1)
               refine last_ (i := 15) (N := none) #[t_,t_,t_,t_,t_,t_,t_,t_,t_,t_,t_,t_,t_,t_,t_,t_] rfl rfl (one_of HT_.out (by kernel_rfl)) (by decide) (fun K hK => ?_)
               refine skip_ (w1 := ?_) (by rfl) rfl ?_ ?_
               rotate_left
               ·
                go_simp
                rfl
               refine hK.out _ _ ?_
               clear hK K
               refine done_ (done_of HT_.out (by kernel_rfl)) ?_
               try go_wp2
               (try simp only [← hl7_1])
               go_roundg kj32
               case measure => have := HK1.out; have := HJ32.out; omega
               case rel => exact ⟨(y436), ((ji75)), (x409000_1), (x409001_1), (x411000_1), (x411001_1), (by first | rfl | (simp; done) | (simp only [← hji75] <;> (first | rfl | simp)) | (simp [*]; done)), H', ⟨by have := HK1.out; have := HJ32.out; omega⟩, ⟨by (try simp only [hl7_1]); (with_reducible repeat (first | apply Kd.R_alloc | apply Kd.R_drewN | apply Kd.R_drew)); exact HQ88.out⟩, ⟨by (try simp only [hl7_1]); (with_reducible repeat (first | refine kn_ ?_ _ | refine kd_ ?_ | refine ka_ ?_ _)); refine blk_far ?_ (by have h_ := Kd.R_away HO_7.out (fun _ hk => hk.1); intro e_; exact h_ (by rw [e_]; rfl)) _; (with_reducible repeat (first | refine kn_ ?_ _ | refine kd_ ?_ | refine ka_ ?_ _)); refine blk_far ?_ (by have h_ := Kd.R_away HO_7.out (fun _ hk => hk.1); intro e_; exact h_ (by rw [e_]; rfl)) _; (with_reducible repeat (first | refine kn_ ?_ _ | refine kd_ ?_ | refine ka_ ?_ _)); refine blk_far ?_ (by have h_ := Kd.R_away HO_7.out (fun _ hk => hk.1); intro e_; exact h_ (by rw [e_]; rfl)) _; (with_reducible repeat (first | refine kn_ ?_ _ | refine kd_ ?_ | refine ka_ ?_ _)); refine blk_far ?_ (by have h_ := Kd.R_away HO_7.out (fun _ hk => hk.1); intro e_; exact h_ (by rw [e_]; rfl)) _; (with_reducible repeat (first | refine kn_ ?_ _ | refine kd_ ?_ | refine ka_ ?_ _)); exact BK408.out⟩, ⟨by (try simp only [hl7_1]); (with_reducible repeat (first | refine kn_ ?_ _ | refine kd_ ?_ | refine ka_ ?_ _)); refine blk_far ?_ (by have h_ := Kd.R_away HO_7.out (fun _ hk => hk.2); intro e_; exact h_ (by rw [e_]; rfl)) _; (with_reducible repeat (first | refine kn_ ?_ _ | refine kd_ ?_ | refine ka_ ?_ _)); refine blk_far ?_ (by have h_ := Kd.R_away HO_7.out (fun _ hk => hk.2); intro e_; exact h_ (by rw [e_]; rfl)) _; (with_reducible repeat (first | refine kn_ ?_ _ | refine kd_ ?_ | refine ka_ ?_ _)); refine blk_far ?_ (by have h_ := Kd.R_away HO_7.out (fun _ hk => hk.2); intro e_; exact h_ (by rw [e_]; rfl)) _; (with_reducible repeat (first | refine kn_ ?_ _ | refine kd_ ?_ | refine ka_ ?_ _)); refine blk_far ?_ (by have h_ := Kd.R_away HO_7.out (fun _ hk => hk.2); intro e_; exact h_ (by rw [e_]; rfl)) _; (with_reducible repeat (first | refine kn_ ?_ _ | refine kd_ ?_ | refine ka_ ?_ _)); exact BK410.out⟩, ⟨by repeat (first | (with_reducible first | exact HB.out | apply ba_ | apply bn_ | apply bd_ | refine below_set ?_ GB23.out | refine below_set ?_ GB23.out | refine below_set ?_ GB23.out | refine below_set ?_ GB23.out | refine below_set ?_ GE408.out | refine below_set ?_ GE410.out) | exact HB.out)⟩⟩
              replace c81 := Bool.eq_false_iff.mpr c81
              subst c81
              rw [if_neg (show ¬ (false = true) by decide)] at H
              simp only [Option.some.injEq, Prod.mk.injEq] at H
              obtain ⟨rfl, rfl, rfl, rfl⟩ := H
              try go_wp2
              have n0_ := Aside0.mk (Kd.R_drew HO_7.out)
              have n1_ := Aside0.mk (blk_drew BK408.out)
              have n2_ := Aside0.mk (blk_drew BK410.out)
              have n3_ := Aside0.mk (bd_ HB.out)
              clear HO_7 BK408 BK410 HB
              have HO_7 := n0_
              have BK408 := n1_
              have BK410 := n2_
              have HB := n3_
              clear n0_ n1_ n2_ n3_
              have p430 : 0 ≤ ((ji75) : Int) := of_decide_eq_true (by with_reducible assumption)
              have q430 : (ji75) < (x7_1.length : Int) := of_decide_eq_true (by with_reducible assumption)
              obtain ⟨ad430, e430, hx430_0, hx430_1⟩ := at_T25 (Kd.R_reads' HO_7.out).2.2 (ji75) p430 q430
              obtain rfl : (⟨go23, 0, none⟩ : Addr) = ad430 := (by injection e430)
              (first | simp only [add_plain] at hx430_0 | simp only [add_at] at hx430_0 | simp only [Addr.add, Nat.zero_add] at hx430_0 | skip)
              (first | simp only [add_plain] at hx430_1 | simp only [add_at] at hx430_1 | simp only [Addr.add, Nat.zero_add] at hx430_1 | skip)
              replace p430 := eq_true p430
              replace q430 := eq_true q430
              have p431 : 0 ≤ (x8_1 : Int) := of_decide_eq_true (by with_reducible assumption)
              have q431 : x8_1 < (x7_1.length : Int) := of_decide_eq_true (by with_reducible assumption)
              obtain ⟨ad431, e431, hx431_0, hx431_1⟩ := at_T25 (Kd.R_reads' HO_7.out).2.2 x8_1 p431 q431
              obtain rfl : (⟨go23, 0, none⟩ : Addr) = ad431 := (by injection e431)
              (first | simp only [add_plain] at hx431_0 | simp only [add_at] at hx431_0 | simp only [Addr.add, Nat.zero_add] at hx431_0 | skip)
              (first | simp only [add_plain] at hx431_1 | simp only [add_at] at hx431_1 | simp only [Addr.add, Nat.zero_add] at hx431_1 | skip)
              replace p431 := eq_true p431
              replace q431 := eq_true q431
              refine start_ (n := 15) (S := fun w' => w'.cell? ⟨go23, ((ji75)).toNat * 2, none⟩ = some (.int .i64 ((rd_T25 x7_1 (ji75)).f0)) ∧ w'.cell? ⟨go23, ((ji75)).toNat * 2 + 1, none⟩ = some (.int .i64 ((rd_T25 x7_1 (ji75)).f1)) ∧ w'.cell? ⟨go23, (x8_1).toNat * 2, none⟩ = some (.int .i64 ((rd_T25 x7_1 x8_1).f0)) ∧ w'.cell? ⟨go23, (x8_1).toNat * 2 + 1, none⟩ = some (.int .i64 ((rd_T25 x7_1 x8_1).f1))) (ds := []) #[f_,f_,f_,f_,f_,f_,f_,f_,f_,f_,f_,f_,f_,f_,f_] (by kernel_rfl) rfl rfl ⟨hx430_0, hx430_1, hx431_0, hx431_1⟩ (fun hHeld => ?_); refine with_tabW impl_HeapTake.tab13 impl_HeapTake.bits13 (fun HT_ HW_ => ?_)
              generalize wc.drew = w89 at HO_7 BK408 BK410 HB hx430_0 hx430_1 hx431_0 hx431_1 hHeld ⊢
              refine pu_ 0 55 ?_ (b_ 1 14) rfl rfl HT_.out ?_ ?_ ?_ ?_; rotate_left; intro w'; go_simp; with_reducible rfl; rotate_left; simp only [fr_]; rfl
              refine pu_ 1 56 ?_ (b_ 2 13) rfl rfl HT_.out ?_ ?_ ?_ ?_; rotate_left; intro w'; go_simp; with_reducible rfl; rotate_left; simp only [fr_]; rfl
              refine pu_ 2 57 ?_ (b_ 3 12) rfl rfl HT_.out ?_ ?_ ?_ ?_; rotate_left; intro w'; go_simp; with_reducible rfl; rotate_left; simp only [fr_]; rfl
              refine pu_ 3 58 ?_ (b_ 4 11) rfl rfl HT_.out ?_ ?_ ?_ ?_; rotate_left; intro w'; go_simp; with_reducible rfl; rotate_left; simp only [fr_]; rfl
              refine pu_ 4 59 ?_ (b_ 5 10) rfl rfl HT_.out ?_ ?_ ?_ ?_; rotate_left; intro w'; go_simp; with_reducible rfl; rotate_left; simp only [fr_]; rfl
              refine pu_ 5 60 ?_ (b_ 6 9) rfl rfl HT_.out ?_ ?_ ?_ ?_; rotate_left; intro w'; go_simp; with_reducible rfl; rotate_left; simp only [fr_]; rfl
              refine pu_ 6 61 ?_ (b_ 7 8) rfl rfl HT_.out ?_ ?_ ?_ ?_; rotate_left; intro w'; go_simp; with_reducible rfl; rotate_left; simp only [fr_]; rfl
              refine pu_ 8 63 ?_ #[t_,t_,t_,t_,t_,t_,t_,f_,t_,f_,f_,f_,f_,f_,f_] rfl rfl HT_.out ?_ ?_ ?_ ?_; rotate_left; intro w'; go_simp; with_reducible rfl; rotate_left; simp only [fr_]; rfl
              refine pu_ 9 64 ?_ #[t_,t_,t_,t_,t_,t_,t_,f_,t_,t_,f_,f_,f_,f_,f_] rfl rfl HT_.out ?_ ?_ ?_ ?_; rotate_left; intro w'; go_simp; with_reducible rfl; rotate_left; simp only [fr_]; rfl
              refine pu_ 10 65 ?_ #[t_,t_,t_,t_,t_,t_,t_,f_,t_,t_,t_,f_,f_,f_,f_] rfl rfl HT_.out ?_ ?_ ?_ ?_; rotate_left; intro w'; go_simp; with_reducible rfl; rotate_left; simp only [fr_]; rfl
              refine take_ (i := 7) (N := some 62) (v := ?_) (a' := ?_) #[t_,t_,t_,t_,t_,t_,t_,t_,t_,t_,t_,f_,f_,f_,f_] rfl rfl (take_ofW HT_.out HW_.out (by kernel_rfl)) (fun _ _ _ h => h) (Or.inl ⟨by rfl, ?_⟩) hHeld ?_ ?_
              rotate_left
              ·
               rintro w' ⟨s0, s1, s2, s3⟩
               go_simp
               with_reducible rfl
              rotate_left
              ·
               simp only [fr_]
               rfl
              refine take_ (i := 11) (N := some 66) (v := ?_) (a' := ?_) #[t_,t_,t_,t_,t_,t_,t_,t_,t_,t_,t_,t_,f_,f_,f_] rfl rfl (take_ofW HT_.out HW_.out (by kernel_rfl)) (fun _ _ _ h => h) (Or.inl ⟨by rfl, ?_⟩) hHeld ?_ ?_
              rotate_left
              ·
               rintro w' ⟨s0, s1, s2, s3⟩
               go_simp
               with_reducible rfl
              rotate_left
              ·
               simp only [fr_]
               rfl
              refine one_ (i := 12) (N := some 67) #[t_,t_,t_,t_,t_,t_,t_,t_,t_,t_,t_,t_,t_,f_,f_] rfl rfl (one_of HT_.out (by kernel_rfl)) (by decide) (fun K hK => ?_)
              refine goes_ Try.func16 (by kernel_rfl) rfl #[.agg #[.int .i64 ((rd_T25 x7_1 (ji75)).f0), .int .i64 ((rd_T25 x7_1 (ji75)).f1)], .agg #[.int .i64 ((rd_T25 x7_1 x8_1).f0), .int .i64 ((rd_T25 x7_1 x8_1).f1)]] (by rfl) rfl rfl (by (try simp only [mp_]); first | done | (simp only [hji75]; rfl) | rfl | (simp only [List.length_drop, List.length_take]; rfl)) ?_
              with_reducible refine (impl_Before.calls ((rd_T25 x7_1 (ji75)).f0) ((rd_T25 x7_1 (ji75)).f1) ((rd_T25 x7_1 x8_1).f0) ((rd_T25 x7_1 x8_1).f1) false _ A80.out).mono ?_
              rintro e w90 ⟨rfl, hb⟩
              have HS0_ := (hb.cell (World.block_lt_of_cell? _ _ (hHeld.1))).trans (hHeld.1)
              have HS1_ := (hb.cell (World.block_lt_of_cell? _ _ (hHeld.2.1))).trans (hHeld.2.1)
              have HS2_ := (hb.cell (World.block_lt_of_cell? _ _ (hHeld.2.2.1))).trans (hHeld.2.2.1)
              have HS3_ := (hb.cell (World.block_lt_of_cell? _ _ (hHeld.2.2.2))).trans (hHeld.2.2.2)
              refine ⟨_, rfl, ?_⟩
              have n0_ := Aside0.mk (Kd.R_below (rp_ HO_7.out) hb)
              have n1_ := Aside0.mk (bb_ BK408.out hb)
              have n2_ := Aside0.mk (bb_ BK410.out hb)
              have n3_ := Aside0.mk (below_step (by repeat (first | (with_reducible first | exact HB.out | apply ba_ | apply bn_ | apply bd_ | refine below_set ?_ GE408.out | refine below_set ?_ GE410.out) | exact HB.out)) hb)
              clear HO_7 BK408 BK410 HB
              have HO_7 := n0_
              have BK408 := n1_
              have BK410 := n2_
              have HB := n3_
              clear n0_ n1_ n2_ n3_
              (try clear hb)
              (try clear hb2)
              (try clear hk)
              (try clear hi)
              refine hK.out _ _ ⟨HS0_, HS1_, HS2_, HS3_⟩ (fun hHeld => ?_)
              clear hK K
              refine norm_ (a' := ?_) ?_ ?_
              rotate_left
              ·
               show Act.put _ (some 67) _ = _
               simp only [fr_]
               rfl
              refine pu_ 13 68 ?_ (b_ 14 1) rfl rfl HT_.out ?_ ?_ ?_ ?_; rotate_left; intro w'; go_simp; with_reducible rfl; rotate_left; simp only [fr_]; rfl
              refine pu_ 14 69 ?_ (b_ 15 0) rfl rfl HT_.out ?_ ?_ ?_ ?_; rotate_left; intro w'; go_simp; with_reducible rfl; rotate_left; simp only [fr_]; rfl
              refine done_ (done_of HT_.out (by kernel_rfl)) ?_
              try go_wp2
              have n0_ := Aside0.mk (Kd.R_drew HO_7.out)
              have n1_ := Aside0.mk (blk_drew BK408.out)
              have n2_ := Aside0.mk (blk_drew BK410.out)
              have n3_ := Aside0.mk (bd_ HB.out)
              clear HO_7 BK408 BK410 HB
              have HO_7 := n0_
              have BK408 := n1_
              have BK410 := n2_
              have HB := n3_
              clear n0_ n1_ n2_ n3_
              refine start_ (n := 5) (S := fun w' => w'.cell? ⟨gb410, 0, none⟩ = some (.int .i64 x411000_1) ∧ w'.cell? ⟨gb410, 1, none⟩ = some (.int .i64 x411001_1)) (ds := []) #[f_,f_,f_,f_,f_] (by kernel_rfl) rfl rfl ⟨bx_ BK410.out 0, bx_ BK410.out 1⟩ (fun hHeld => ?_)
              generalize w90.drew = w91 at HO_7 BK408 BK410 HB hHeld ⊢
              refine pure_ (i := 0) (N := some 70) (v := ?_) (a' := ?_) #[t_,f_,f_,f_,f_] rfl rfl (by kernel_rfl) (fun _ _ _ h => h) (Or.inl ⟨by rfl, ?_⟩) ?_ ?_
              rotate_left
              ·
               intro w'
               go_simp
               with_reducible rfl
              rotate_left
              ·
               simp only [fr_]
               rfl
              refine pure_ (i := 2) (N := some 2) (v := ?_) (a' := ?_) #[t_,f_,t_,f_,f_] rfl rfl (by kernel_rfl) (fun _ _ _ h => h) (Or.inl ⟨by rfl, ?_⟩) ?_ ?_
              rotate_left
              ·
               intro w'
               go_simp
               with_reducible rfl
              rotate_left
              ·
               simp only [fr_]
               rfl
              refine take_ (i := 1) (N := some 71) (v := ?_) (a' := ?_) #[t_,t_,t_,f_,f_] rfl rfl (by kernel_rfl) (fun _ _ _ h => h) (Or.inl ⟨by rfl, ?_⟩) hHeld ?_ ?_
              rotate_left
              ·
               rintro w' ⟨s0, s1⟩
               go_simp
               with_reducible rfl
              rotate_left
              ·
               simp only [fr_]
               rfl
              refine one_ (i := 3) (N := none) #[t_,t_,t_,t_,f_] rfl rfl (by kernel_rfl) (by decide) (fun K hK => ?_)
              have hs92 : w91.cell? ⟨gb408, 0, none⟩ = some (.int .i64 x409000_1) := bx_ BK408.out 0
              have hfs92 := blk_frozen BK408.out 0
              have hns92_1 := NB410_408.out
              have hms92_1 := NB408_410.out
              have hs93 : w91.cell? ⟨gb408, 1, none⟩ = some (.int .i64 x409001_1) := bx_ BK408.out 1
              have hfs93 := blk_frozen BK408.out 1
              have hns93_1 := NB410_408.out
              have hms93_1 := NB408_410.out
              refine skip_ (w1 := ?_) (by rfl) rfl ?_ ?_
              rotate_left
              ·
               go_simp
               rfl
              refine hK.out _ _ ⟨((cell_far (p := ⟨gb408, _, none⟩) NB410_408.out _).trans (((cell_far (p := ⟨gb408, _, none⟩) NB410_408.out _).trans (hHeld.1)))), ((cell_far (p := ⟨gb408, _, none⟩) NB410_408.out _).trans (((cell_far (p := ⟨gb408, _, none⟩) NB410_408.out _).trans (hHeld.2))))⟩ (fun hHeld => ?_)
              clear hK K
              refine pure_ (i := 4) (N := some 4) (v := ?_) (a' := ?_) #[t_,t_,t_,t_,t_] rfl rfl (by kernel_rfl) (fun _ _ _ h => h) (Or.inl ⟨by rfl, ?_⟩) ?_ ?_
              rotate_left
              ·
               intro w'
               go_simp
               with_reducible rfl
              rotate_left
              ·
               simp only [fr_]
               rfl
              refine done_ (by kernel_rfl) ?_
              try go_wp2
              refine bodyPost_ret (results_list (rs := [.tmp 2, .cell 3 25, .tmp 4]) rfl (by simp) (.tmp (.cell gb408 25 #[.int .i64 x411000_1, .int .i64 x411001_1] (0, 0) _ rfl (by (with_reducible repeat (first | refine kn_ ?_ _ | refine kd_ ?_ | refine ka_ ?_ _)); refine blk_put (cs := #[.int .i64 x411000_1, .int .i64 x409001_1]) ?_ 1 _ rfl; (with_reducible repeat (first | refine kn_ ?_ _ | refine kd_ ?_ | refine ka_ ?_ _)); refine blk_put (cs := #[.int .i64 x409000_1, .int .i64 x409001_1]) ?_ 0 _ rfl; (with_reducible repeat (first | refine kn_ ?_ _ | refine kd_ ?_ | refine ka_ ?_ _)); exact BK408.out) Try.underlying25 rfl (by kernel_rfl) (.tmp .nil)))) rfl ?_
              exact ⟨_, by first | rfl | (simp [errW_none, errW_some] <;> rfl) | (simp only [← hji6, ← hji75]; first | rfl | (simp [errW_none, errW_some] <;> rfl)) | (simp [*, errW_none, errW_some] <;> rfl), by (with_reducible repeat (first | apply Kd.R_alloc | apply Kd.R_drewN | apply Kd.R_drew)); exact Kd.R_mono (Kd.R_far (p := ⟨gb408, 1, none⟩) (Kd.R_far (p := ⟨gb408, 0, none⟩) (Kd.R_mono HO_7.out (fun k_ hk => (⟨hk, hk.1⟩ : _ ∧ k_ ≠ gb408))) (fun _ hk => hk.2) (.int .i64 x411000_1)) (fun _ hk => hk.2) (.int .i64 x411001_1)) (fun _ hk => trivial), by repeat (first | (with_reducible first | exact HB.out | apply ba_ | apply bn_ | apply bd_ | refine below_set ?_ GE408.out | refine below_set ?_ GE410.out) | exact HB.out)⟩
             rw [if_neg c79] at H
             exact absurd H (by simp)
            rw [if_neg c78] at H
            exact absurd H (by simp)
           rw [if_neg c77] at H
           exact absurd H (by simp)
          rw [if_neg c76] at H
          exact absurd H (by simp)
     rw [if_neg c22] at H
     exact absurd H (by simp)
    rw [if_neg c21] at H
    exact absurd H (by simp)
   rw [if_neg c8] at H
   exact absurd H (by simp)
  rw [if_neg c7] at H
  exact absurd H (by simp)
 rw [if_neg c5] at H
 exact absurd H (by simp)
def laws_big.f (l0 : List Int) : Option (Bool) := some (decide ((l0.length : Int) > 1048576))
theorem laws_big.calls (A0 : Option Addr) (c0 : Nat) (l0 : List Int) (r : Bool) (w : World) (hr0 : Kd.C (Kd.int .u8) w A0 l0.length l0) (hc0 : l0.length ≤ c0) (h : laws_big.f l0 = some r) :
  Calls Try.prog 36 #[.slice A0 l0.length c0] w fun e w' => e = .returned (.bool r) ∧ Drawn0 w w' := by
 have HR0 := Aside0.mk hr0
 have HC0 := Aside0.mk hc0
 clear hr0 hc0
 have H : (some (decide ((l0.length : Int) > 1048576))) = some r := h
 clear h
 obtain rfl := Option.some.inj H
 go_enter Try.func36, Try.ntmps36
 go_wp2
 go_ret
 exact ⟨by first | rfl | (simp; done) | (simp [*]; done), by repeat (first | exact Drawn0.refl _ | apply Drawn0.step)⟩
/-- A state of type 93 at block g of W; what its slices lead to came in by w0. -/
def IsS93 (w0 W : World) (g : Nat) (f0 : List Int) (f1 : Int) (f2 : Int) : Prop := ∃ A0 c0, W.heap[g]? = some (.cells #[.slice A0 f0.length c0, .int .i64 f1, .int .i64 f2] 93 (0, 0)) ∧ w0.heap.size ≤ g ∧ Kd.C (Kd.int .u8) w0 A0 f0.length f0
theorem IsS93.grown {w0 W : World} {g : Nat} {f0 : List Int} {f1 : Int} {f2 : Int} {W1 : World} {row : Option Nat} (h : IsS93 w0 W g f0 f1 f2) (hw : W.grownBy W1 row) (hne : some g ≠ row) : IsS93 w0 W1 g f0 f1 f2 := by
 obtain ⟨A0, c0, hb, hg, hr0⟩ := h
 exact ⟨A0, c0, blk_grown hb hw hne, hg, hr0⟩
theorem IsS93.own_neN {w0 W : World} {g : Nat} {f0 : List Int} {f1 : Int} {f2 : Int} {α : Type} {d : Kd α} {e : Nat} {base : Nat} {ok : Nat → Prop} {v : Value} {xs : List α} (h : IsS93 w0 W g f0 f1 f2) (ho : Kd.N d e W base ok v xs) (ht : e ≠ 93) : some g ≠ v.ownBlock := by
 obtain ⟨A0, c0, hb, hg, hr0⟩ := h
 exact Kd.N_ne ho hb ht
theorem IsS93.fresh {w0 W : World} {g : Nat} {f0 : List Int} {f1 : Int} {f2 : Int} (h : IsS93 w0 W g f0 f1 f2) : ∀ k, W.heap.size ≤ k → k ≠ g := by
 obtain ⟨A0, c0, hb, hg, hr0⟩ := h
 exact Kd.freshB hb
theorem IsS93.kept {w0 W : World} {g : Nat} {f0 : List Int} {f1 : Int} {f2 : Int} {W1 : World} {S : Nat → Prop} (h : IsS93 w0 W g f0 f1 f2) (hk : Kept W W1 S) (hne : ¬ S g) : IsS93 w0 W1 g f0 f1 f2 := by
 obtain ⟨A0, c0, hb, hg, hr0⟩ := h
 exact ⟨A0, c0, blk_kept hb hk hne, hg, hr0⟩
theorem IsS93.below {w0 W : World} {g : Nat} {f0 : List Int} {f1 : Int} {f2 : Int} {W1 : World} (h : IsS93 w0 W g f0 f1 f2) (hw : Below W.heap.size W W1) : IsS93 w0 W1 g f0 f1 f2 := h.grown (grown_of_below hw none) (by simp)
theorem IsS93.alloc {w0 W : World} {g : Nat} {f0 : List Int} {f1 : Int} {f2 : Int} (h : IsS93 w0 W g f0 f1 f2) (o : Obj) : IsS93 w0 (W.alloc o) g f0 f1 f2 := h.below (ba_ (Below.refl _ _) o)
theorem IsS93.drewN {w0 W : World} {g : Nat} {f0 : List Int} {f1 : Int} {f2 : Int} (h : IsS93 w0 W g f0 f1 f2) (m : Nat) : IsS93 w0 (W.drewN m) g f0 f1 f2 := h
theorem IsS93.drew {w0 W : World} {g : Nat} {f0 : List Int} {f1 : Int} {f2 : Int} (h : IsS93 w0 W g f0 f1 f2) : IsS93 w0 W.drew g f0 f1 f2 := h
theorem IsS93.at_ {w0 W : World} {g : Nat} {f0 : List Int} {f1 : Int} {f2 : Int} {w' : World} {m : Nat} (hq : W.drewN m = w') (h : IsS93 w0 W g f0 f1 f2) : IsS93 w0 w' g f0 f1 f2 := by subst hq; exact IsS93.drewN h m
theorem IsS93.apart {w0 W : World} {g : Nat} {f0 : List Int} {f1 : Int} {f2 : Int} {α : Type} {d : Kd α} {e : Nat} {base : Nat} {ok : Nat → Prop} {v : Value} {xs : List α} (h : IsS93 w0 W g f0 f1 f2) (ho : d.R e W base ok v xs) (ht : ∀ q, q ∈ e :: d.E → q ≠ 93) : d.R e W base (fun k => ok k ∧ k ≠ g) v xs := by
 obtain ⟨A0, c0, hb, hg, hr0⟩ := h
 exact Kd.R_types ho hb ht
theorem IsS93.own_ne {w0 W : World} {g : Nat} {f0 : List Int} {f1 : Int} {f2 : Int} {α : Type} {d : Kd α} {e : Nat} {base : Nat} {ok : Nat → Prop} {v : Value} {xs : List α} (h : IsS93 w0 W g f0 f1 f2) (ho : d.R e W base ok v xs) (ht : e ≠ 93) : some g ≠ v.ownBlock := by
 obtain ⟨A0, c0, hb, hg, hr0⟩ := h
 exact Kd.R_ne ho hb ht
theorem IsS93.apartQ {w0 W : World} {g : Nat} {f0 : List Int} {f1 : Int} {f2 : Int} {α : Type} {d : Kd α} {e : Nat} {base : Nat} {ok : Nat → Prop} {v : Value} {xs : List α} (h : IsS93 w0 W g f0 f1 f2) (ho : d.Q e W base ok v xs) (ht : ∀ q, q ∈ e :: d.E → q ≠ 93) : d.Q e W base (fun k => ok k ∧ k ≠ g) v xs := by
 obtain ⟨A0, c0, hb, hg, hr0⟩ := h
 exact Kd.Q_types ho hb ht
theorem IsS93.own_neQ {w0 W : World} {g : Nat} {f0 : List Int} {f1 : Int} {f2 : Int} {α : Type} {d : Kd α} {e : Nat} {base : Nat} {ok : Nat → Prop} {v : Value} {xs : List α} (h : IsS93 w0 W g f0 f1 f2) (ho : d.Q e W base ok v xs) (ht : e ≠ 93) : some g ≠ v.ownBlock := by
 obtain ⟨A0, c0, hb, hg, hr0⟩ := h
 exact Kd.Q_ne ho hb ht
theorem IsS93.apartS {w0 W : World} {g : Nat} {f0 : List Int} {f1 : Int} {f2 : Int} {α : Type} {d : Kd α} {e : Nat} {base : Nat} {ok : Nat → Prop} {v : Value} {xs : List α} (h : IsS93 w0 W g f0 f1 f2) (ho : d.S e W base ok v xs) (ht : ∀ q, q ∈ e :: d.E → q ≠ 93) : d.S e W base (fun k => ok k ∧ k ≠ g) v xs := by
 obtain ⟨A0, c0, hb, hg, hr0⟩ := h
 exact Kd.S_types ho hb ht
theorem IsS93.own_neS {w0 W : World} {g : Nat} {f0 : List Int} {f1 : Int} {f2 : Int} {α : Type} {d : Kd α} {e : Nat} {base : Nat} {ok : Nat → Prop} {v : Value} {xs : List α} (h : IsS93 w0 W g f0 f1 f2) (ho : d.S e W base ok v xs) (ht : e ≠ 93) : some g ≠ v.ownBlock := by
 obtain ⟨A0, c0, hb, hg, hr0⟩ := h
 exact Kd.S_ne ho hb ht
theorem IsS93.lt {w0 W : World} {g : Nat} {f0 : List Int} {f1 : Int} {f2 : Int} (h : IsS93 w0 W g f0 f1 f2) : g < W.heap.size := by
 obtain ⟨A0, c0, hb, hg, hr0⟩ := h
 exact blk_lt hb
theorem IsS93.ge {w0 W : World} {g : Nat} {f0 : List Int} {f1 : Int} {f2 : Int} (h : IsS93 w0 W g f0 f1 f2) : w0.heap.size ≤ g := by
 obtain ⟨A0, c0, hb, hg, hr0⟩ := h
 exact hg
theorem IsS93.ne_blk {w0 W : World} {g : Nat} {f0 : List Int} {f1 : Int} {f2 : Int} {a : Nat} {cs : Array Value} {t : TypeId} {fr : Nat × Nat} (h : IsS93 w0 W g f0 f1 f2) (hb2 : W.heap[a]? = some (.cells cs t fr)) (ht : t ≠ 93) : g ≠ a := by
 obtain ⟨A0, c0, hb, hg, hr0⟩ := h
 rintro rfl
 rw [hb] at hb2
 injection hb2 with hb2
 injection hb2 with _ ht2
 exact ht ht2.symm
theorem IsS93.far {w0 W : World} {g : Nat} {f0 : List Int} {f1 : Int} {f2 : Int} {p : Addr} (h : IsS93 w0 W g f0 f1 f2) (hne : g ≠ p.block) (u : Value) : IsS93 w0 (W.setCell p u) g f0 f1 f2 := by
 obtain ⟨A0, c0, hb, hg, hr0⟩ := h
 exact ⟨A0, c0, blk_far hb hne u, hg, hr0⟩
theorem cellS93_0 {W : World} {g : Nat} {A0 : Option Addr} {c0 : Nat} {f0 : List Int} {f1 : Int} {f2 : Int} (h : W.heap[g]? = some (.cells #[.slice A0 f0.length c0, .int .i64 f1, .int .i64 f2] 93 (0, 0))) : W.cell? ⟨g, 0, none⟩ = some (.slice A0 f0.length c0) := (blk_cell h 0).trans rfl
theorem cellS93_1 {W : World} {g : Nat} {A0 : Option Addr} {c0 : Nat} {f0 : List Int} {f1 : Int} {f2 : Int} (h : W.heap[g]? = some (.cells #[.slice A0 f0.length c0, .int .i64 f1, .int .i64 f2] 93 (0, 0))) : W.cell? ⟨g, 1, none⟩ = some (.int .i64 f1) := (blk_cell h 1).trans rfl
theorem IsS93.set_1 {w0 W : World} {g : Nat} {f0 : List Int} {f1 : Int} {f2 : Int} (h : IsS93 w0 W g f0 f1 f2) (x : Int) : IsS93 w0 (W.setCell ⟨g, 1, none⟩ (.int .i64 x)) g f0 x f2 := by
 obtain ⟨A0, c0, hb, hg, hr0⟩ := h
 exact ⟨A0, c0, by simpa using blk_set hb 1 (.int .i64 x), hg, hr0⟩
theorem cellS93_2 {W : World} {g : Nat} {A0 : Option Addr} {c0 : Nat} {f0 : List Int} {f1 : Int} {f2 : Int} (h : W.heap[g]? = some (.cells #[.slice A0 f0.length c0, .int .i64 f1, .int .i64 f2] 93 (0, 0))) : W.cell? ⟨g, 2, none⟩ = some (.int .i64 f2) := (blk_cell h 2).trans rfl
theorem IsS93.set_2 {w0 W : World} {g : Nat} {f0 : List Int} {f1 : Int} {f2 : Int} (h : IsS93 w0 W g f0 f1 f2) (x : Int) : IsS93 w0 (W.setCell ⟨g, 2, none⟩ (.int .i64 x)) g f0 f1 x := by
 obtain ⟨A0, c0, hb, hg, hr0⟩ := h
 exact ⟨A0, c0, by simpa using blk_set hb 2 (.int .i64 x), hg, hr0⟩
theorem IsS93.new (w0 W : World) (A0 : Option Addr) (c0 : Nat) (f0 : List Int) (f1 : Int) (f2 : Int) (hB : Below w0.heap.size w0 W) (hr0 : Kd.C (Kd.int .u8) w0 A0 f0.length f0) : IsS93 w0 (W.alloc (.cells #[.slice A0 f0.length c0, .int .i64 f1, .int .i64 f2] 93)) W.heap.size f0 f1 f2 := ⟨A0, c0, by simpa using heap_alloc_new W _, hB.size, hr0⟩

def spec_l1New.l0 : Nat → List Int → Int → Int → Option (List Int × Int × Int)
 | 0, _, _, _ => none
 | k + 1, x0, x3, x4 => if x4 < (x0.length : Int) then (if x4 < 4000 then (if 0 ≤ x4 then (spec_l1New.l0 k x0 (Go.bits .and .i64 (wrap64 ((wrap64 ((wrap64 (x3 * 137)) + (wrap64 (rd x0 x4)))) + 11)) 1073741823) (wrap64 (x4 + 1))) else (none)) else (some (x0, 0, x3))) else (some (x0, 0, x3))
def spec_l1New.f (k : Nat) (l0 : List Int) : Option (List Int × Int × Int) := spec_l1New.l0 k l0 (wrap64 (140873 + (l0.length : Int))) 0
theorem spec_l1New.mono_l : ∀ k, (∀ y0 y1 y2, LeO (spec_l1New.l0 k y0 y1 y2) (spec_l1New.l0 (k + 1) y0 y1 y2))
 | 0 => fun _ _ _ r h => by simp [spec_l1New.l0] at h
 | k + 1 => by
  have ih0 := spec_l1New.mono_l k
  intro y0 y1 y2
  unfold spec_l1New.l0
  repeat' first
  | (with_reducible exact ih0 _ _ _)
  | (with_reducible exact LeO.refl _)
  | (with_reducible exact LeO.none _)
  | (with_reducible refine LeO.ite ?_ ?_)
  | (with_reducible refine LeO.bind ?_ (fun _ => ?_))
  | exact ih0 _ _ _
theorem spec_l1New.mono : ∀ a0 k, LeO (spec_l1New.f k a0) (spec_l1New.f (k + 1) a0) := by
 intro a0 k
 have ih0 := spec_l1New.mono_l k
 unfold spec_l1New.f
 repeat' first
   | (with_reducible exact ih0 _ _ _)
   | (with_reducible exact LeO.refl _)
   | (with_reducible exact LeO.none _)
   | (with_reducible refine LeO.ite ?_ ?_)
   | (with_reducible refine LeO.bind ?_ (fun _ => ?_))
   | exact ih0 _ _ _
theorem spec_l1New.calls (k : Nat) (A0 : Option Addr) (c0 : Nat) (l0 : List Int) (r1 : List Int) (r2 : Int) (r3 : Int) (w0 w : World) (hB : Below w0.heap.size w0 w) (hr0 : Kd.C (Kd.int .u8) w0 A0 l0.length l0) (hc0 : l0.length ≤ c0) (h : spec_l1New.f k l0 = some (r1, r2, r3)) :
  Calls Try.prog 60 #[.slice A0 l0.length c0] w fun e w' => ∃ g_ : Nat, e = .returned (.pointer (some ⟨g_, 0, none⟩)) ∧ IsS93 w0 w' g_ r1 r2 r3 ∧ Below w0.heap.size w0 w' ∧ Below w.heap.size w w' := by
 have hu93 := Try.underlying93
 have HR0 := Aside0.mk hr0
 have HC0 := Aside0.mk hc0
 clear hr0 hc0
 have HBW := Aside0.mk (Below.refl w.heap.size w)
 have HW0 := Aside0.mk hB.size
 have HB := Aside0.mk hB
 clear hB
 have H : (spec_l1New.l0 k l0 (wrap64 (140873 + (l0.length : Int))) 0) = some (r1, r2, r3) := h
 clear h
 have H' := Aside0.mk H
 clear H
 go_enter Try.func60, Try.ntmps60
 go_wp2
 go_loopg [3, 4] k (fun kq v3 v4 w' => ∃ (x3_1 : Int) (x4_1 : Int), v3 = .int .i64 x3_1 ∧ v4 = .int .i64 x4_1 ∧ Aside0 (spec_l1New.l0 kq l0 x3_1 x4_1 = some (r1, r2, r3)) ∧ Aside0 (kq ≤ k) ∧ Aside0 (Below w.heap.size w w') ∧ Aside0 (Below w0.heap.size w0 w'))
 case atStart => exact ⟨(wrap64 (140873 + (l0.length : Int))), (0), (by first | rfl | (simp; done) | (simp [*]; done)), (by first | rfl | (simp; done) | (simp [*]; done)), H', ⟨Nat.le_refl _⟩, ⟨by repeat (first | (with_reducible first | exact HBW.out | apply ba_ | apply bn_ | apply bd_) | exact HBW.out)⟩, ⟨by repeat (first | (with_reducible first | exact HB.out | apply ba_ | apply bn_ | apply bd_) | exact HB.out)⟩⟩
 case round =>
  clear H'
  obtain ⟨x3_1, x4_1, rfl, rfl, HA, HK1, HBW, HB⟩ := hrel
  cases gk with
  | zero => exact absurd HA.out (by simp [spec_l1New.l0])
  | succ k1 =>
   have H := HA.out
   clear HA
   simp only [spec_l1New.l0] at H
   by_cases c2 : x4_1 < (l0.length : Int)
   ·
    rw [if_pos c2] at H
    have c2b0 := decide_eq_true c2
    clear c2
    by_cases c3 : x4_1 < 4000
    ·
     rw [if_pos c3] at H
     have c3b0 := decide_eq_true c3
     clear c3
     by_cases c4 : 0 ≤ x4_1
     ·
      rw [if_pos c4] at H
      have c4b0 := decide_eq_true c4
      clear c4
      have H' := Aside0.mk H
      clear H
      have p484 : 0 ≤ (x4_1 : Int) := of_decide_eq_true (by with_reducible assumption)
      have q484 : x4_1 < (l0.length : Int) := of_decide_eq_true (by with_reducible assumption)
      obtain ⟨ad484, e484, hx484_0⟩ := Kd.at_int HR0.out x4_1 p484 q484
      cases e484
      replace hx484_0 := pw_cell_below HB.out hx484_0
      replace p484 := eq_true p484
      replace q484 := eq_true q484
      go_wp2
      go_roundg k1
      case measure => have := HK1.out; omega
      case rel => exact ⟨(Go.bits .and .i64 (wrap64 ((wrap64 ((wrap64 (x3_1 * 137)) + (wrap64 (rd l0 x4_1)))) + 11)) 1073741823), (wrap64 (x4_1 + 1)), (by first | rfl | (simp; done) | (simp [*]; done)), (by first | rfl | (simp; done) | (simp [*]; done)), H', ⟨by have := HK1.out; omega⟩, ⟨by repeat (first | (with_reducible first | exact HBW.out | apply ba_ | apply bn_ | apply bd_) | exact HBW.out)⟩, ⟨by repeat (first | (with_reducible first | exact HB.out | apply ba_ | apply bn_ | apply bd_) | exact HB.out)⟩⟩
     rw [if_neg c4] at H
     exact absurd H (by simp)
    rw [if_neg c3] at H
    have c3b0 : decide (x4_1 < 4000) = false := decide_eq_false c3
    clear c3
    simp only [Option.some.injEq, Prod.mk.injEq] at H
    obtain ⟨rfl, rfl, rfl⟩ := H
    go_wp2_with (first | ((with_reducible refine gate_dst (N := 31) rfl ?_); refine box_event ?hg (N := 31) ?hd (cs := #[.slice A0 l0.length c0, .int .i64 0, .int .i64 x3_1]) (t := 93) ?hr ?_; (case hd => rfl); (case hg => rfl); (case hr => first | (go_simp; done) | (go_simp; rfl)); intro gb485 hg w5 hbox hb; have n0_ := Aside0.mk (below_step HBW.out hb); have n1_ := Aside0.mk (below_step (by repeat (first | (with_reducible first | exact HB.out | apply ba_ | apply bn_ | apply bd_) | exact HB.out)) hb); have BK485 := Aside0.mk (hbox); have GW485 := Aside0.mk ((by rw [hg]; exact (below_size (by repeat (first | (with_reducible first | exact HBW.out | apply ba_ | apply bn_ | apply bd_) | exact HBW.out))) : w.heap.size ≤ gb485)); have GE485 := Aside0.mk (Nat.le_trans HW0.out GW485.out); clear HBW HB; have HBW := n0_; have HB := n1_; clear n0_ n1_; clear hb hbox hg))
    go_ret
    exact ⟨_, rfl, (show IsS93 w0 _ gb485 l0 0 x3_1 from ⟨_, _, by (with_reducible repeat (first | refine kn_ ?_ _ | refine kd_ ?_ | refine ka_ ?_ _)); exact BK485.out, GE485.out, HR0.out⟩), by repeat (first | (with_reducible first | exact HB.out | apply ba_ | apply bn_ | apply bd_ | refine below_set ?_ GE485.out) | exact HB.out), by repeat (first | (with_reducible first | exact HBW.out | apply ba_ | apply bn_ | apply bd_ | refine below_set ?_ GW485.out) | exact HBW.out)⟩
   rw [if_neg c2] at H
   have c2b0 : decide (x4_1 < (l0.length : Int)) = false := decide_eq_false c2
   clear c2
   simp only [Option.some.injEq, Prod.mk.injEq] at H
   obtain ⟨rfl, rfl, rfl⟩ := H
   go_wp2_with (first | ((with_reducible refine gate_dst (N := 31) rfl ?_); refine box_event ?hg (N := 31) ?hd (cs := #[.slice A0 l0.length c0, .int .i64 0, .int .i64 x3_1]) (t := 93) ?hr ?_; (case hd => rfl); (case hg => rfl); (case hr => first | (go_simp; done) | (go_simp; rfl)); intro gb486 hg w6 hbox hb; have n0_ := Aside0.mk (below_step HBW.out hb); have n1_ := Aside0.mk (below_step (by repeat (first | (with_reducible first | exact HB.out | apply ba_ | apply bn_ | apply bd_) | exact HB.out)) hb); have BK486 := Aside0.mk (hbox); have GW486 := Aside0.mk ((by rw [hg]; exact (below_size (by repeat (first | (with_reducible first | exact HBW.out | apply ba_ | apply bn_ | apply bd_) | exact HBW.out))) : w.heap.size ≤ gb486)); have GE486 := Aside0.mk (Nat.le_trans HW0.out GW486.out); clear HBW HB; have HBW := n0_; have HB := n1_; clear n0_ n1_; clear hb hbox hg))
   go_ret
   exact ⟨_, rfl, (show IsS93 w0 _ gb486 l0 0 x3_1 from ⟨_, _, by (with_reducible repeat (first | refine kn_ ?_ _ | refine kd_ ?_ | refine ka_ ?_ _)); exact BK486.out, GE486.out, HR0.out⟩), by repeat (first | (with_reducible first | exact HB.out | apply ba_ | apply bn_ | apply bd_ | refine below_set ?_ GE486.out) | exact HB.out), by repeat (first | (with_reducible first | exact HBW.out | apply ba_ | apply bn_ | apply bd_ | refine below_set ?_ GW486.out) | exact HBW.out)⟩
def spec_l1Byte.f (s0_0 : List Int) (s0_1 : Int) (s0_2 : Int) : Option (Int × Int × Int) := if s0_1 < (s0_0.length : Int) then (if 0 ≤ s0_1 then (some (Go.bits .and .i64 (wrap64 ((Go.bits .and .i64 (Go.bits .xor .i64 ((wrap64 ((wrap64 (s0_2 * 6364136223846793005)) + 1442695040888963407)) / 8589934592) ((wrap64 ((wrap64 (s0_2 * 6364136223846793005)) + 1442695040888963407)) / 140737488355328)) 255) + (wrap64 (rd s0_0 s0_1)))) 255, wrap64 (s0_1 + 1), wrap64 ((wrap64 (s0_2 * 6364136223846793005)) + 1442695040888963407))) else (none)) else (some (Go.bits .and .i64 (Go.bits .xor .i64 ((wrap64 ((wrap64 (s0_2 * 6364136223846793005)) + 1442695040888963407)) / 8589934592) ((wrap64 ((wrap64 (s0_2 * 6364136223846793005)) + 1442695040888963407)) / 140737488355328)) 255, s0_1, wrap64 ((wrap64 (s0_2 * 6364136223846793005)) + 1442695040888963407)))
theorem spec_l1Byte.calls (g : Nat) (s0_0 : List Int) (s0_1 : Int) (s0_2 : Int) (r1 : Int) (r2 : Int) (r3 : Int) (w0 w : World) (hI : IsS93 w0 w g s0_0 s0_1 s0_2) (hB : Below w0.heap.size w0 w) (h : spec_l1Byte.f s0_0 s0_1 s0_2 = some (r1, r2, r3)) :
  Calls Try.prog 86 #[.pointer (some ⟨g, 0, none⟩)] w fun e w' => e = .returned (.int .i64 r1) ∧ IsS93 w0 w' g s0_0 r2 r3 ∧ Below w0.heap.size w0 w' ∧ KeepBut w w' g none := by
 have HI0 := Aside0.mk hI
 have HK := Aside0.mk (KeepBut.refl w g none)
 have HL := Aside0.mk hB.size
 clear hI
 have HW0 := Aside0.mk hB.size
 have HB := Aside0.mk hB
 clear hB
 have H : (if s0_1 < (s0_0.length : Int) then (if 0 ≤ s0_1 then (some (Go.bits .and .i64 (wrap64 ((Go.bits .and .i64 (Go.bits .xor .i64 ((wrap64 ((wrap64 (s0_2 * 6364136223846793005)) + 1442695040888963407)) / 8589934592) ((wrap64 ((wrap64 (s0_2 * 6364136223846793005)) + 1442695040888963407)) / 140737488355328)) 255) + (wrap64 (rd s0_0 s0_1)))) 255, wrap64 (s0_1 + 1), wrap64 ((wrap64 (s0_2 * 6364136223846793005)) + 1442695040888963407))) else (none)) else (some (Go.bits .and .i64 (Go.bits .xor .i64 ((wrap64 ((wrap64 (s0_2 * 6364136223846793005)) + 1442695040888963407)) / 8589934592) ((wrap64 ((wrap64 (s0_2 * 6364136223846793005)) + 1442695040888963407)) / 140737488355328)) 255, s0_1, wrap64 ((wrap64 (s0_2 * 6364136223846793005)) + 1442695040888963407)))) = some (r1, r2, r3) := h
 clear h
 by_cases c2 : s0_1 < (s0_0.length : Int)
 ·
  rw [if_pos c2] at H
  have c2b0 := decide_eq_true c2
  clear c2
  by_cases c3 : 0 ≤ s0_1
  ·
   rw [if_pos c3] at H
   have c3b0 := decide_eq_true c3
   clear c3
   simp only [Option.some.injEq, Prod.mk.injEq] at H
   obtain ⟨rfl, rfl, rfl⟩ := H
   obtain ⟨ASz4_0, cSz4_0, HGz4, hgz4, HSz4_0⟩ := HI0.out
   have hcz4_0 := cellS93_0 HGz4
   have hcz4_1 := cellS93_1 HGz4
   have hcz4_2 := cellS93_2 HGz4
   have hfz4_1 := blk_frozen HGz4 1
   have hfz4_2 := blk_frozen HGz4 2
   clear HGz4 hgz4
   have p487 : 0 ≤ (s0_1 : Int) := of_decide_eq_true (by with_reducible assumption)
   have q487 : s0_1 < (s0_0.length : Int) := of_decide_eq_true (by with_reducible assumption)
   obtain ⟨ad487, e487, hx487_0⟩ := Kd.at_int HSz4_0 s0_1 p487 q487
   cases e487
   have hn487_0 : ad487.block ≠ g := Nat.ne_of_lt (Nat.lt_of_lt_of_le (by have := World.block_lt_of_cell? _ _ hx487_0; first | rwa [add_block] at this | exact this) (IsS93.ge HI0.out))
   replace hx487_0 := pw_cell_below HB.out hx487_0
   replace hx487_0 := (cell_far (p := ⟨g, 2, none⟩) (by first | (rw [add_block]; exact hn487_0) | (show (Addr.add _ _).block ≠ _; rw [add_block]; exact hn487_0) | exact hn487_0) (.int .i64 (wrap64 ((wrap64 (s0_2 * 6364136223846793005)) + 1442695040888963407)))).trans hx487_0
   (try have hy487_0 := fun (n_ : Nat) => (show (((w.drewN n_).setCell ⟨g, 2, none⟩ (.int .i64 (wrap64 ((wrap64 (s0_2 * 6364136223846793005)) + 1442695040888963407))))).cell? _ = some _ from hx487_0))
   clear hn487_0
   replace p487 := eq_true p487
   replace q487 := eq_true q487
   go_enter Try.func86, Try.ntmps86
   go_wp2
   repeat (go_quiet (fail); try go_wp2)
   go_ret
   exact ⟨by first | rfl | (simp [errW_none, errW_some] <;> rfl) | (simp [*, errW_none, errW_some] <;> rfl), by repeat (first | (with_reducible first | exact HI0.out | apply IsS93.alloc | apply IsS93.drewN | apply IsS93.drew | apply IsS93.set_1 | apply IsS93.set_2) | exact HI0.out), by repeat (first | (with_reducible first | exact HB.out | apply ba_ | apply bn_ | apply bd_ | refine below_set ?_ (IsS93.ge HI0.out)) | exact HB.out), by repeat (first | (with_reducible first | exact HK.out | apply KeepBut.set_ | apply keep_drewN | apply keep_drew | apply keep_alloc) | exact HK.out)⟩
  rw [if_neg c3] at H
  exact absurd H (by simp)
 rw [if_neg c2] at H
 have c2b0 : decide (s0_1 < (s0_0.length : Int)) = false := decide_eq_false c2
 clear c2
 simp only [Option.some.injEq, Prod.mk.injEq] at H
 obtain ⟨rfl, rfl, rfl⟩ := H
 obtain ⟨ASz5_0, cSz5_0, HGz5, hgz5, HSz5_0⟩ := HI0.out
 have hcz5_0 := cellS93_0 HGz5
 have hcz5_1 := cellS93_1 HGz5
 have hcz5_2 := cellS93_2 HGz5
 have hfz5_1 := blk_frozen HGz5 1
 have hfz5_2 := blk_frozen HGz5 2
 clear HGz5 hgz5
 go_enter Try.func86, Try.ntmps86
 go_wp2
 repeat (go_quiet (fail); try go_wp2)
 go_ret
 exact ⟨by first | rfl | (simp [errW_none, errW_some] <;> rfl) | (simp [*, errW_none, errW_some] <;> rfl), by repeat (first | (with_reducible first | exact HI0.out | apply IsS93.alloc | apply IsS93.drewN | apply IsS93.drew | apply IsS93.set_1 | apply IsS93.set_2) | exact HI0.out), by repeat (first | (with_reducible first | exact HB.out | apply ba_ | apply bn_ | apply bd_ | refine below_set ?_ (IsS93.ge HI0.out)) | exact HB.out), by repeat (first | (with_reducible first | exact HK.out | apply KeepBut.set_ | apply keep_drewN | apply keep_drew | apply keep_alloc) | exact HK.out)⟩
def spec_l1Below.f (s0_0 : List Int) (s0_1 : Int) (s0_2 : Int) (a1 : Int) : Option (Int × Int × Int) := if a1 ≤ 0 then (some (0, s0_1, s0_2)) else (if a1 ≤ 256 then ((spec_l1Byte.f s0_0 s0_1 s0_2).bind fun bt488 => (if a1 = 0 then (none) else (some (Int.tmod bt488.1 a1, bt488.2.1, bt488.2.2)))) else ((spec_l1Byte.f s0_0 s0_1 s0_2).bind fun bt491 => ((spec_l1Byte.f s0_0 bt491.2.1 bt491.2.2).bind fun bt494 => ((spec_l1Byte.f s0_0 bt494.2.1 bt494.2.2).bind fun bt497 => (if a1 = 0 then (none) else (some (Int.tmod (wrap64 ((wrap64 ((wrap64 (bt491.1 * 65536)) + (wrap64 (bt494.1 * 256)))) + bt497.1)) a1, bt497.2.1, bt497.2.2)))))))
theorem spec_l1Below.calls (g : Nat) (s0_0 : List Int) (s0_1 : Int) (s0_2 : Int) (a1 : Int) (r1 : Int) (r2 : Int) (r3 : Int) (w0 w : World) (hI : IsS93 w0 w g s0_0 s0_1 s0_2) (hB : Below w0.heap.size w0 w) (h : spec_l1Below.f s0_0 s0_1 s0_2 a1 = some (r1, r2, r3)) :
  Calls Try.prog 74 #[.pointer (some ⟨g, 0, none⟩), .int .i64 a1] w fun e w' => e = .returned (.int .i64 r1) ∧ IsS93 w0 w' g s0_0 r2 r3 ∧ Below w0.heap.size w0 w' ∧ KeepBut w w' g none := by
 have HI0 := Aside0.mk hI
 have HK := Aside0.mk (KeepBut.refl w g none)
 have HL := Aside0.mk hB.size
 clear hI
 have HW0 := Aside0.mk hB.size
 have HB := Aside0.mk hB
 clear hB
 have H : (if a1 ≤ 0 then (some (0, s0_1, s0_2)) else (if a1 ≤ 256 then ((spec_l1Byte.f s0_0 s0_1 s0_2).bind fun bt488 => (if a1 = 0 then (none) else (some (Int.tmod bt488.1 a1, bt488.2.1, bt488.2.2)))) else ((spec_l1Byte.f s0_0 s0_1 s0_2).bind fun bt491 => ((spec_l1Byte.f s0_0 bt491.2.1 bt491.2.2).bind fun bt494 => ((spec_l1Byte.f s0_0 bt494.2.1 bt494.2.2).bind fun bt497 => (if a1 = 0 then (none) else (some (Int.tmod (wrap64 ((wrap64 ((wrap64 (bt491.1 * 65536)) + (wrap64 (bt494.1 * 256)))) + bt497.1)) a1, bt497.2.1, bt497.2.2)))))))) = some (r1, r2, r3) := h
 clear h
 by_cases c3 : a1 ≤ 0
 ·
  rw [if_pos c3] at H
  have c3b0 := decide_eq_true c3
  clear c3
  simp only [Option.some.injEq, Prod.mk.injEq] at H
  obtain ⟨rfl, rfl, rfl⟩ := H
  go_enter Try.func74, Try.ntmps74
  go_wp2
  go_ret
  exact ⟨by first | rfl | (simp [errW_none, errW_some] <;> rfl) | (simp [*, errW_none, errW_some] <;> rfl), by repeat (first | (with_reducible first | exact HI0.out | apply IsS93.alloc | apply IsS93.drewN | apply IsS93.drew | apply IsS93.set_1 | apply IsS93.set_2) | exact HI0.out), by repeat (first | (with_reducible first | exact HB.out | apply ba_ | apply bn_ | apply bd_ | refine below_set ?_ (IsS93.ge HI0.out)) | exact HB.out), by repeat (first | (with_reducible first | exact HK.out | apply KeepBut.set_ | apply keep_drewN | apply keep_drew | apply keep_alloc) | exact HK.out)⟩
 rw [if_neg c3] at H
 have c3b0 : decide (a1 ≤ 0) = false := decide_eq_false c3
 clear c3
 by_cases c4 : a1 ≤ 256
 ·
  rw [if_pos c4] at H
  have c4b0 := decide_eq_true c4
  clear c4
  replace H := Option.bind_eq_some_iff.mp H
  obtain ⟨⟨t488, t489, t490⟩, A50, H⟩ := H
  have A5 := Aside0.mk A50
  clear A50
  by_cases c6 : a1 = 0
  ·
   rw [if_pos c6] at H
   exact absurd H (by simp)
  rw [if_neg c6] at H
  have c6b0 : (a1 == 0) = false := beq_eq_false_iff_ne.mpr c6
  have c6b1 : (a1 != 0) = true := bne_iff_ne.mpr c6
  simp only [Option.some.injEq, Prod.mk.injEq] at H
  obtain ⟨rfl, rfl, rfl⟩ := H
  go_enter Try.func74, Try.ntmps74
  go_wp2_with (first | ((with_reducible refine gate_callee (f := 86) rfl ?_); refine goesL_ (some 13) rfl rfl Try.func86 (by kernel_rfl) rfl #[.pointer (some ⟨g, 0, none⟩)] rfl (by (try simp only [mp_]); first | done | rfl | (simp only [List.length_drop, List.length_take]; rfl)) ?_; (with_reducible refine (spec_l1Byte.calls g s0_0 s0_1 s0_2 t488 t489 t490 w0 _ ?side1 ?side2 A5.out).mono ?_); (case side1 => repeat (first | (with_reducible first | exact HI0.out | apply IsS93.alloc | apply IsS93.drewN | apply IsS93.drew | apply IsS93.set_1 | apply IsS93.set_2) | exact HI0.out)); (case side2 => repeat (first | (with_reducible first | exact HB.out | apply ba_ | apply bn_ | apply bd_ | refine below_set ?_ (IsS93.ge HI0.out)) | exact HB.out)); rintro e w7 ⟨rfl, hi, hb, hk⟩; refine ⟨_, rfl, ?_⟩; have n0_ := Aside0.mk (KeepBut.trans (by repeat (first | (with_reducible first | exact HK.out | apply KeepBut.set_ | apply keep_drewN | apply keep_drew | apply keep_alloc) | exact HK.out)) hk (.inl rfl)); have n1_ := Aside0.mk (hb); have n2_ := Aside0.mk (hi); clear HK HB HI0; have HK := n0_; have HB := n1_; have HI0 := n2_; clear n0_ n1_ n2_; (try clear hb); (try clear hb2); (try clear hk); (try clear hi)))
  go_ret
  exact ⟨by first | rfl | (simp [errW_none, errW_some] <;> rfl) | (simp [*, errW_none, errW_some] <;> rfl), by repeat (first | (with_reducible first | exact HI0.out | apply IsS93.alloc | apply IsS93.drewN | apply IsS93.drew | apply IsS93.set_1 | apply IsS93.set_2) | exact HI0.out), by repeat (first | (with_reducible first | exact HB.out | apply ba_ | apply bn_ | apply bd_ | refine below_set ?_ (IsS93.ge HI0.out)) | exact HB.out), by repeat (first | (with_reducible first | exact HK.out | apply KeepBut.set_ | apply keep_drewN | apply keep_drew | apply keep_alloc) | exact HK.out)⟩
 rw [if_neg c4] at H
 have c4b0 : decide (a1 ≤ 256) = false := decide_eq_false c4
 clear c4
 replace H := Option.bind_eq_some_iff.mp H
 obtain ⟨⟨t491, t492, t493⟩, A80, H⟩ := H
 have A8 := Aside0.mk A80
 clear A80
 replace H := Option.bind_eq_some_iff.mp H
 obtain ⟨⟨t494, t495, t496⟩, A90, H⟩ := H
 have A9 := Aside0.mk A90
 clear A90
 replace H := Option.bind_eq_some_iff.mp H
 obtain ⟨⟨t497, t498, t499⟩, A100, H⟩ := H
 have A10 := Aside0.mk A100
 clear A100
 by_cases c11 : a1 = 0
 ·
  rw [if_pos c11] at H
  exact absurd H (by simp)
 rw [if_neg c11] at H
 have c11b0 : (a1 == 0) = false := beq_eq_false_iff_ne.mpr c11
 have c11b1 : (a1 != 0) = true := bne_iff_ne.mpr c11
 simp only [Option.some.injEq, Prod.mk.injEq] at H
 obtain ⟨rfl, rfl, rfl⟩ := H
 go_enter Try.func74, Try.ntmps74
 go_wp2_with (first | ((with_reducible refine gate_callee (f := 86) rfl ?_); refine goesL_ (some 17) rfl rfl Try.func86 (by kernel_rfl) rfl #[.pointer (some ⟨g, 0, none⟩)] rfl (by (try simp only [mp_]); first | done | rfl | (simp only [List.length_drop, List.length_take]; rfl)) ?_; (with_reducible refine (spec_l1Byte.calls g s0_0 s0_1 s0_2 t491 t492 t493 w0 _ ?side1 ?side2 A8.out).mono ?_); (case side1 => repeat (first | (with_reducible first | exact HI0.out | apply IsS93.alloc | apply IsS93.drewN | apply IsS93.drew | apply IsS93.set_1 | apply IsS93.set_2) | exact HI0.out)); (case side2 => repeat (first | (with_reducible first | exact HB.out | apply ba_ | apply bn_ | apply bd_ | refine below_set ?_ (IsS93.ge HI0.out)) | exact HB.out)); rintro e w12 ⟨rfl, hi, hb, hk⟩; refine ⟨_, rfl, ?_⟩; have n0_ := Aside0.mk (KeepBut.trans (by repeat (first | (with_reducible first | exact HK.out | apply KeepBut.set_ | apply keep_drewN | apply keep_drew | apply keep_alloc) | exact HK.out)) hk (.inl rfl)); have n1_ := Aside0.mk (hb); have n2_ := Aside0.mk (hi); clear HK HB HI0; have HK := n0_; have HB := n1_; have HI0 := n2_; clear n0_ n1_ n2_; (try clear hb); (try clear hb2); (try clear hk); (try clear hi)) | ((with_reducible refine gate_callee (f := 86) rfl ?_); refine goesL_ (some 19) rfl rfl Try.func86 (by kernel_rfl) rfl #[.pointer (some ⟨g, 0, none⟩)] rfl (by (try simp only [mp_]); first | done | rfl | (simp only [List.length_drop, List.length_take]; rfl)) ?_; (with_reducible refine (spec_l1Byte.calls g s0_0 t492 t493 t494 t495 t496 w0 _ ?side1 ?side2 A9.out).mono ?_); (case side1 => repeat (first | (with_reducible first | exact HI0.out | apply IsS93.alloc | apply IsS93.drewN | apply IsS93.drew | apply IsS93.set_1 | apply IsS93.set_2) | exact HI0.out)); (case side2 => repeat (first | (with_reducible first | exact HB.out | apply ba_ | apply bn_ | apply bd_ | refine below_set ?_ (IsS93.ge HI0.out)) | exact HB.out)); rintro e w13 ⟨rfl, hi, hb, hk⟩; refine ⟨_, rfl, ?_⟩; have n0_ := Aside0.mk (KeepBut.trans (by repeat (first | (with_reducible first | exact HK.out | apply KeepBut.set_ | apply keep_drewN | apply keep_drew | apply keep_alloc) | exact HK.out)) hk (.inl rfl)); have n1_ := Aside0.mk (hb); have n2_ := Aside0.mk (hi); clear HK HB HI0; have HK := n0_; have HB := n1_; have HI0 := n2_; clear n0_ n1_ n2_; (try clear hb); (try clear hb2); (try clear hk); (try clear hi)) | ((with_reducible refine gate_callee (f := 86) rfl ?_); refine goesL_ (some 21) rfl rfl Try.func86 (by kernel_rfl) rfl #[.pointer (some ⟨g, 0, none⟩)] rfl (by (try simp only [mp_]); first | done | rfl | (simp only [List.length_drop, List.length_take]; rfl)) ?_; (with_reducible refine (spec_l1Byte.calls g s0_0 t495 t496 t497 t498 t499 w0 _ ?side1 ?side2 A10.out).mono ?_); (case side1 => repeat (first | (with_reducible first | exact HI0.out | apply IsS93.alloc | apply IsS93.drewN | apply IsS93.drew | apply IsS93.set_1 | apply IsS93.set_2) | exact HI0.out)); (case side2 => repeat (first | (with_reducible first | exact HB.out | apply ba_ | apply bn_ | apply bd_ | refine below_set ?_ (IsS93.ge HI0.out)) | exact HB.out)); rintro e w14 ⟨rfl, hi, hb, hk⟩; refine ⟨_, rfl, ?_⟩; have n0_ := Aside0.mk (KeepBut.trans (by repeat (first | (with_reducible first | exact HK.out | apply KeepBut.set_ | apply keep_drewN | apply keep_drew | apply keep_alloc) | exact HK.out)) hk (.inl rfl)); have n1_ := Aside0.mk (hb); have n2_ := Aside0.mk (hi); clear HK HB HI0; have HK := n0_; have HB := n1_; have HI0 := n2_; clear n0_ n1_ n2_; (try clear hb); (try clear hb2); (try clear hk); (try clear hi)))
 go_ret
 exact ⟨by first | rfl | (simp [errW_none, errW_some] <;> rfl) | (simp [*, errW_none, errW_some] <;> rfl), by repeat (first | (with_reducible first | exact HI0.out | apply IsS93.alloc | apply IsS93.drewN | apply IsS93.drew | apply IsS93.set_1 | apply IsS93.set_2) | exact HI0.out), by repeat (first | (with_reducible first | exact HB.out | apply ba_ | apply bn_ | apply bd_ | refine below_set ?_ (IsS93.ge HI0.out)) | exact HB.out), by repeat (first | (with_reducible first | exact HK.out | apply KeepBut.set_ | apply keep_drewN | apply keep_drew | apply keep_alloc) | exact HK.out)⟩
def spec_l10Timer.f (s0_0 : List Int) (s0_1 : Int) (s0_2 : Int) : Option (Int × Int × Int × Int) := (spec_l1Below.f s0_0 s0_1 s0_2 9).bind fun bt501 => ((spec_l1Below.f s0_0 bt501.2.1 bt501.2.2 9).bind fun bt504 => (some (bt501.1, bt504.1, bt504.2.1, bt504.2.2)))
theorem spec_l10Timer.calls (g : Nat) (s0_0 : List Int) (s0_1 : Int) (s0_2 : Int) (r1 : Int) (r2 : Int) (r3 : Int) (r4 : Int) (w0 w : World) (hI : IsS93 w0 w g s0_0 s0_1 s0_2) (hB : Below w0.heap.size w0 w) (h : spec_l10Timer.f s0_0 s0_1 s0_2 = some (r1, r2, r3, r4)) :
  Calls Try.prog 62 #[.pointer (some ⟨g, 0, none⟩)] w fun e w' => e = .returned (.agg #[.int .i64 r1, .int .i64 r2]) ∧ IsS93 w0 w' g s0_0 r3 r4 ∧ Below w0.heap.size w0 w' ∧ KeepBut w w' g none := by
 have hu25 := Try.underlying25
 have HI0 := Aside0.mk hI
 have HK := Aside0.mk (KeepBut.refl w g none)
 have HL := Aside0.mk hB.size
 clear hI
 have HW0 := Aside0.mk hB.size
 have HB := Aside0.mk hB
 clear hB
 have H : ((spec_l1Below.f s0_0 s0_1 s0_2 9).bind fun bt501 => ((spec_l1Below.f s0_0 bt501.2.1 bt501.2.2 9).bind fun bt504 => (some (bt501.1, bt504.1, bt504.2.1, bt504.2.2)))) = some (r1, r2, r3, r4) := h
 clear h
 replace H := Option.bind_eq_some_iff.mp H
 obtain ⟨⟨t501, t502, t503⟩, A20, H⟩ := H
 have A2 := Aside0.mk A20
 clear A20
 replace H := Option.bind_eq_some_iff.mp H
 obtain ⟨⟨t504, t505, t506⟩, A30, H⟩ := H
 have A3 := Aside0.mk A30
 clear A30
 simp only [Option.some.injEq, Prod.mk.injEq] at H
 obtain ⟨rfl, rfl, rfl, rfl⟩ := H
 go_enter Try.func62, Try.ntmps62
 go_wp2_with (first | ((with_reducible refine gate_dst (N := 2) rfl ?_); refine box_event ?hg (N := 2) ?hd (cs := #[.int .i64 0, .int .i64 0]) (t := 25) ?hr ?_; (case hd => rfl); (case hg => rfl); (case hr => first | (go_simp; done) | (go_simp; rfl)); intro gb500 hg w4 hbox hb; have n0_ := Aside0.mk (IsS93.below (by repeat (first | (with_reducible first | exact HI0.out | apply IsS93.alloc | apply IsS93.drewN | apply IsS93.drew | apply IsS93.set_1 | apply IsS93.set_2) | exact HI0.out)) hb); have n1_ := Aside0.mk (KeepBut.trans (by repeat (first | (with_reducible first | exact HK.out | apply KeepBut.set_ | apply keep_drewN | apply keep_drew | apply keep_alloc) | exact HK.out)) (KeepBut.of_below hb g none) (.inl rfl)); have n2_ := Aside0.mk (below_step (by repeat (first | (with_reducible first | exact HB.out | apply ba_ | apply bn_ | apply bd_ | refine below_set ?_ (IsS93.ge HI0.out)) | exact HB.out)) hb); have BK500 := Aside0.mk (hbox); have GW500 := Aside0.mk ((by rw [hg]; exact (keep_size (w := w) (g := g) (row := none) (by repeat (first | (with_reducible first | exact HK.out | apply KeepBut.set_ | apply keep_drewN | apply keep_drew | apply keep_alloc) | exact HK.out))) : w.heap.size ≤ gb500)); have GE500 := Aside0.mk (Nat.le_trans HW0.out GW500.out); have NB0_500 := Aside0.mk ((by rw [hg]; exact Nat.ne_of_lt (IsS93.lt (show IsS93 w0 _ g s0_0 s0_1 s0_2 from by repeat (first | (with_reducible first | exact HI0.out | apply IsS93.alloc | apply IsS93.drewN | apply IsS93.drew | apply IsS93.set_1 | apply IsS93.set_2) | exact HI0.out))) : g ≠ gb500)); have NB500_0 := Aside0.mk (NB0_500.out.symm); clear HI0 HK HB; have HI0 := n0_; have HK := n1_; have HB := n2_; clear n0_ n1_ n2_; clear hb hbox hg) | ((with_reducible refine gate_callee (f := 74) rfl ?_); refine goesL_ (some 4) rfl rfl Try.func74 (by kernel_rfl) rfl #[.pointer (some ⟨g, 0, none⟩), .int .i64 9] rfl (by (try simp only [mp_]); first | done | rfl | (simp only [List.length_drop, List.length_take]; rfl)) ?_; (with_reducible refine (spec_l1Below.calls g s0_0 s0_1 s0_2 9 t501 t502 t503 w0 _ ?side1 ?side2 A2.out).mono ?_); (case side1 => repeat (first | (with_reducible first | exact HI0.out | apply IsS93.alloc | apply IsS93.drewN | apply IsS93.drew | apply IsS93.set_1 | apply IsS93.set_2 | refine IsS93.far ?_ NB0_500.out _) | exact HI0.out)); (case side2 => repeat (first | (with_reducible first | exact HB.out | apply ba_ | apply bn_ | apply bd_ | refine below_set ?_ (IsS93.ge HI0.out) | refine below_set ?_ GE500.out) | exact HB.out)); rintro e w5 ⟨rfl, hi, hb, hk⟩; refine ⟨_, rfl, ?_⟩; have n0_ := Aside0.mk (KeepBut.blk hk (g' := gb500) (o := .cells #[.int .i64 0, .int .i64 0] 25 (0, 0)) (pb_ BK500.out) NB500_0.out (by simp)); have n1_ := Aside0.mk (KeepBut.trans (by repeat (first | (with_reducible first | exact HK.out | apply KeepBut.set_ | apply keep_drewN | apply keep_drew | apply keep_alloc | refine keep_far ?_ GW500.out _) | exact HK.out)) hk (.inl rfl)); have n2_ := Aside0.mk (hb); have n3_ := Aside0.mk (hi); clear BK500 HK HB HI0; have BK500 := n0_; have HK := n1_; have HB := n2_; have HI0 := n3_; clear n0_ n1_ n2_ n3_; (try clear hb); (try clear hb2); (try clear hk); (try clear hi)) | ((with_reducible refine gate_callee (f := 74) rfl ?_); refine goesL_ (some 6) rfl rfl Try.func74 (by kernel_rfl) rfl #[.pointer (some ⟨g, 0, none⟩), .int .i64 9] rfl (by (try simp only [mp_]); first | done | rfl | (simp only [List.length_drop, List.length_take]; rfl)) ?_; (with_reducible refine (spec_l1Below.calls g s0_0 t502 t503 9 t504 t505 t506 w0 _ ?side1 ?side2 A3.out).mono ?_); (case side1 => repeat (first | (with_reducible first | exact HI0.out | apply IsS93.alloc | apply IsS93.drewN | apply IsS93.drew | apply IsS93.set_1 | apply IsS93.set_2 | refine IsS93.far ?_ NB0_500.out _) | exact HI0.out)); (case side2 => repeat (first | (with_reducible first | exact HB.out | apply ba_ | apply bn_ | apply bd_ | refine below_set ?_ (IsS93.ge HI0.out) | refine below_set ?_ GE500.out) | exact HB.out)); rintro e w6 ⟨rfl, hi, hb, hk⟩; refine ⟨_, rfl, ?_⟩; have n0_ := Aside0.mk (KeepBut.blk hk (g' := gb500) (o := .cells #[.int .i64 0, .int .i64 0] 25 (0, 0)) (pb_ BK500.out) NB500_0.out (by simp)); have n1_ := Aside0.mk (KeepBut.trans (by repeat (first | (with_reducible first | exact HK.out | apply KeepBut.set_ | apply keep_drewN | apply keep_drew | apply keep_alloc | refine keep_far ?_ GW500.out _) | exact HK.out)) hk (.inl rfl)); have n2_ := Aside0.mk (hb); have n3_ := Aside0.mk (hi); clear BK500 HK HB HI0; have BK500 := n0_; have HK := n1_; have HB := n2_; have HI0 := n3_; clear n0_ n1_ n2_ n3_; (try clear hb); (try clear hb2); (try clear hk); (try clear hi); have hnb7 := NB500_0.out; have hnc7 := NB0_500.out; obtain ⟨hcz8_0, hcz8_1, hfz8_0, hfz8_1⟩ := bc2_ BK500.out))
 refine bodyPost_ret (results_cell_row rfl _ _ gb500 25 #[.int .i64 t501, .int .i64 t504] (0, 0) _ rfl (by (with_reducible repeat (first | refine kn_ ?_ _ | refine kd_ ?_ | refine ka_ ?_ _)); refine blk_put (cs := #[.int .i64 t501, .int .i64 0]) ?_ 1 _ rfl; (with_reducible repeat (first | refine kn_ ?_ _ | refine kd_ ?_ | refine ka_ ?_ _)); refine blk_put (cs := #[.int .i64 0, .int .i64 0]) ?_ 0 _ rfl; (with_reducible repeat (first | refine kn_ ?_ _ | refine kd_ ?_ | refine ka_ ?_ _)); exact BK500.out) Try.underlying25 rfl (by kernel_rfl)) rfl ?_
 exact ⟨by first | rfl | (simp [errW_none, errW_some] <;> rfl) | (simp [*, errW_none, errW_some] <;> rfl), by repeat (first | (with_reducible first | exact HI0.out | apply IsS93.alloc | apply IsS93.drewN | apply IsS93.drew | apply IsS93.set_1 | apply IsS93.set_2 | refine IsS93.far ?_ NB0_500.out _) | exact HI0.out), by repeat (first | (with_reducible first | exact HB.out | apply ba_ | apply bn_ | apply bd_ | refine below_set ?_ (IsS93.ge HI0.out) | refine below_set ?_ GE500.out) | exact HB.out), by repeat (first | (with_reducible first | exact HK.out | apply KeepBut.set_ | apply keep_drewN | apply keep_drew | apply keep_alloc | refine keep_far ?_ GW500.out _) | exact HK.out)⟩
def spec_Before.f (a0_0 : Int) (a0_1 : Int) (a1_0 : Int) (a1_1 : Int) : Option (Bool) := if a0_0 < a1_0 then (some true) else (if a0_0 = a1_0 then (some (decide (a0_1 < a1_1))) else (some false))
theorem spec_Before.calls (a0_0 : Int) (a0_1 : Int) (a1_0 : Int) (a1_1 : Int) (r : Bool) (w : World) (h : spec_Before.f a0_0 a0_1 a1_0 a1_1 = some r) :
  Calls Try.prog 14 #[.agg #[.int .i64 a0_0, .int .i64 a0_1], .agg #[.int .i64 a1_0, .int .i64 a1_1]] w fun e w' => e = .returned (.bool r) ∧ Below w.heap.size w w' := by
 have hu25 := Try.underlying25
 have HB := Aside0.mk (Below.refl w.heap.size w)
 have H : (if a0_0 < a1_0 then (some true) else (if a0_0 = a1_0 then (some (decide (a0_1 < a1_1))) else (some false))) = some r := h
 clear h
 by_cases c3 : a0_0 < a1_0
 ·
  rw [if_pos c3] at H
  have c3b0 := decide_eq_true c3
  clear c3
  obtain rfl := Option.some.inj H
  go_enter Try.func14, Try.ntmps14
  go_wp2_with (first | ((with_reducible refine gate_dst (N := 2) rfl ?_); refine box_event ?hg (N := 2) ?hd (cs := #[.int .i64 a0_0, .int .i64 a0_1]) (t := 25) ?hr ?_; (case hd => rfl); (case hg => rfl); (case hr => first | (go_simp; done) | (go_simp; rfl)); intro gb101 hg w4 hbox hb; have n0_ := Aside0.mk (below_step (by repeat (first | (with_reducible first | exact HB.out | apply ba_ | apply bn_ | apply bd_) | exact HB.out)) hb); have BK101 := Aside0.mk (hbox); have GW101 := Aside0.mk ((by rw [hg]; exact (below_size (by repeat (first | (with_reducible first | exact HB.out | apply ba_ | apply bn_ | apply bd_) | exact HB.out))) : w.heap.size ≤ gb101)); have GE101 := GW101; clear HB; have HB := n0_; clear n0_; clear hb hbox hg) | ((with_reducible refine gate_dst (N := 3) rfl ?_); refine box_event ?hg (N := 3) ?hd (cs := #[.int .i64 a1_0, .int .i64 a1_1]) (t := 25) ?hr ?_; (case hd => rfl); (case hg => rfl); (case hr => first | (go_simp; done) | (go_simp; rfl)); intro gb102 hg w5 hbox hb; have n0_ := Aside0.mk (bb_ BK101.out hb); have n1_ := Aside0.mk (below_step (by repeat (first | (with_reducible first | exact HB.out | apply ba_ | apply bn_ | apply bd_ | refine below_set ?_ GE101.out) | exact HB.out)) hb); have n2_ := Aside0.mk (hbox); have n3_ := Aside0.mk ((by rw [hg]; exact (below_size (by repeat (first | (with_reducible first | exact HB.out | apply ba_ | apply bn_ | apply bd_ | refine below_set ?_ GE101.out) | exact HB.out))) : w.heap.size ≤ gb102)); have n4_ := n3_; have n5_ := Aside0.mk (nl_ BK101.out hg); have n6_ := Aside0.mk (n5_.out.symm); clear BK101 HB; have BK101 := n0_; have HB := n1_; have BK102 := n2_; have GW102 := n3_; have GE102 := n4_; have NB101_102 := n5_; have NB102_101 := n6_; clear n0_ n1_ n2_ n3_ n4_ n5_ n6_; clear hb hbox hg; have hnb6 := NB101_102.out; have hnc6 := NB102_101.out; obtain ⟨hcz7_0, hcz7_1, hfz7_0, hfz7_1⟩ := bc2_ BK101.out; obtain ⟨hcz8_0, hcz8_1, hfz8_0, hfz8_1⟩ := bc2_ BK102.out))
  go_ret
  exact ⟨by first | rfl | (simp [errW_none, errW_some] <;> rfl) | (simp [*, errW_none, errW_some] <;> rfl), by repeat (first | (with_reducible first | exact HB.out | apply ba_ | apply bn_ | apply bd_ | refine below_set ?_ GE101.out | refine below_set ?_ GE102.out) | exact HB.out)⟩
 rw [if_neg c3] at H
 have c3b0 : decide (a0_0 < a1_0) = false := decide_eq_false c3
 clear c3
 by_cases c9 : a0_0 = a1_0
 ·
  rw [if_pos c9] at H
  have c9b0 : (a0_0 == a1_0) = true := beq_iff_eq.mpr c9
  have c9b1 : (a0_0 != a1_0) = false := bne_eq_false_iff_eq.mpr c9
  clear c9
  obtain rfl := Option.some.inj H
  go_enter Try.func14, Try.ntmps14
  go_wp2_with (first | ((with_reducible refine gate_dst (N := 2) rfl ?_); refine box_event ?hg (N := 2) ?hd (cs := #[.int .i64 a0_0, .int .i64 a0_1]) (t := 25) ?hr ?_; (case hd => rfl); (case hg => rfl); (case hr => first | (go_simp; done) | (go_simp; rfl)); intro gb101 hg w10 hbox hb; have n0_ := Aside0.mk (below_step (by repeat (first | (with_reducible first | exact HB.out | apply ba_ | apply bn_ | apply bd_) | exact HB.out)) hb); have BK101 := Aside0.mk (hbox); have GW101 := Aside0.mk ((by rw [hg]; exact (below_size (by repeat (first | (with_reducible first | exact HB.out | apply ba_ | apply bn_ | apply bd_) | exact HB.out))) : w.heap.size ≤ gb101)); have GE101 := GW101; clear HB; have HB := n0_; clear n0_; clear hb hbox hg) | ((with_reducible refine gate_dst (N := 3) rfl ?_); refine box_event ?hg (N := 3) ?hd (cs := #[.int .i64 a1_0, .int .i64 a1_1]) (t := 25) ?hr ?_; (case hd => rfl); (case hg => rfl); (case hr => first | (go_simp; done) | (go_simp; rfl)); intro gb102 hg w11 hbox hb; have n0_ := Aside0.mk (bb_ BK101.out hb); have n1_ := Aside0.mk (below_step (by repeat (first | (with_reducible first | exact HB.out | apply ba_ | apply bn_ | apply bd_ | refine below_set ?_ GE101.out) | exact HB.out)) hb); have n2_ := Aside0.mk (hbox); have n3_ := Aside0.mk ((by rw [hg]; exact (below_size (by repeat (first | (with_reducible first | exact HB.out | apply ba_ | apply bn_ | apply bd_ | refine below_set ?_ GE101.out) | exact HB.out))) : w.heap.size ≤ gb102)); have n4_ := n3_; have n5_ := Aside0.mk (nl_ BK101.out hg); have n6_ := Aside0.mk (n5_.out.symm); clear BK101 HB; have BK101 := n0_; have HB := n1_; have BK102 := n2_; have GW102 := n3_; have GE102 := n4_; have NB101_102 := n5_; have NB102_101 := n6_; clear n0_ n1_ n2_ n3_ n4_ n5_ n6_; clear hb hbox hg; have hnb12 := NB101_102.out; have hnc12 := NB102_101.out; obtain ⟨hcz13_0, hcz13_1, hfz13_0, hfz13_1⟩ := bc2_ BK101.out; obtain ⟨hcz14_0, hcz14_1, hfz14_0, hfz14_1⟩ := bc2_ BK102.out))
  go_ret
  exact ⟨by first | rfl | (simp [errW_none, errW_some] <;> rfl) | (simp [*, errW_none, errW_some] <;> rfl), by repeat (first | (with_reducible first | exact HB.out | apply ba_ | apply bn_ | apply bd_ | refine below_set ?_ GE101.out | refine below_set ?_ GE102.out) | exact HB.out)⟩
 rw [if_neg c9] at H
 have c9b0 : (a0_0 == a1_0) = false := beq_eq_false_iff_ne.mpr c9
 have c9b1 : (a0_0 != a1_0) = true := bne_iff_ne.mpr c9
 obtain rfl := Option.some.inj H
 go_enter Try.func14, Try.ntmps14
 go_wp2_with (first | ((with_reducible refine gate_dst (N := 2) rfl ?_); refine box_event ?hg (N := 2) ?hd (cs := #[.int .i64 a0_0, .int .i64 a0_1]) (t := 25) ?hr ?_; (case hd => rfl); (case hg => rfl); (case hr => first | (go_simp; done) | (go_simp; rfl)); intro gb101 hg w15 hbox hb; have n0_ := Aside0.mk (below_step (by repeat (first | (with_reducible first | exact HB.out | apply ba_ | apply bn_ | apply bd_) | exact HB.out)) hb); have BK101 := Aside0.mk (hbox); have GW101 := Aside0.mk ((by rw [hg]; exact (below_size (by repeat (first | (with_reducible first | exact HB.out | apply ba_ | apply bn_ | apply bd_) | exact HB.out))) : w.heap.size ≤ gb101)); have GE101 := GW101; clear HB; have HB := n0_; clear n0_; clear hb hbox hg) | ((with_reducible refine gate_dst (N := 3) rfl ?_); refine box_event ?hg (N := 3) ?hd (cs := #[.int .i64 a1_0, .int .i64 a1_1]) (t := 25) ?hr ?_; (case hd => rfl); (case hg => rfl); (case hr => first | (go_simp; done) | (go_simp; rfl)); intro gb102 hg w16 hbox hb; have n0_ := Aside0.mk (bb_ BK101.out hb); have n1_ := Aside0.mk (below_step (by repeat (first | (with_reducible first | exact HB.out | apply ba_ | apply bn_ | apply bd_ | refine below_set ?_ GE101.out) | exact HB.out)) hb); have n2_ := Aside0.mk (hbox); have n3_ := Aside0.mk ((by rw [hg]; exact (below_size (by repeat (first | (with_reducible first | exact HB.out | apply ba_ | apply bn_ | apply bd_ | refine below_set ?_ GE101.out) | exact HB.out))) : w.heap.size ≤ gb102)); have n4_ := n3_; have n5_ := Aside0.mk (nl_ BK101.out hg); have n6_ := Aside0.mk (n5_.out.symm); clear BK101 HB; have BK101 := n0_; have HB := n1_; have BK102 := n2_; have GW102 := n3_; have GE102 := n4_; have NB101_102 := n5_; have NB102_101 := n6_; clear n0_ n1_ n2_ n3_ n4_ n5_ n6_; clear hb hbox hg; have hnb17 := NB101_102.out; have hnc17 := NB102_101.out; obtain ⟨hcz18_0, hcz18_1, hfz18_0, hfz18_1⟩ := bc2_ BK101.out; obtain ⟨hcz19_0, hcz19_1, hfz19_0, hfz19_1⟩ := bc2_ BK102.out))
 go_ret
 exact ⟨by first | rfl | (simp [errW_none, errW_some] <;> rfl) | (simp [*, errW_none, errW_some] <;> rfl), by repeat (first | (with_reducible first | exact HB.out | apply ba_ | apply bn_ | apply bd_ | refine below_set ?_ GE101.out | refine below_set ?_ GE102.out) | exact HB.out)⟩
def spec_HeapPut.l0 : Nat → List (S25) → Int → Option ((List (S25)))
 | 0, _, _ => none
 | k + 1, x5, x6 => if x6 > 0 then (if 0 ≤ x6 then (if x6 < (x5.length : Int) then (if 0 ≤ (wrap64 (Int.tdiv (wrap64 (x6 - 1)) 2)) then (if (wrap64 (Int.tdiv (wrap64 (x6 - 1)) 2)) < (x5.length : Int) then ((spec_Before.f ((rd_T25 x5 x6).f0) ((rd_T25 x5 x6).f1) ((rd_T25 x5 (wrap64 (Int.tdiv (wrap64 (x6 - 1)) 2))).f0) ((rd_T25 x5 (wrap64 (Int.tdiv (wrap64 (x6 - 1)) 2))).f1)).bind fun t169 => (if t169 = true then (spec_HeapPut.l0 k ((x5.set (x6 : Int).toNat (⟨(rd_T25 x5 (wrap64 (Int.tdiv (wrap64 (x6 - 1)) 2))).f0, (rd_T25 x5 (wrap64 (Int.tdiv (wrap64 (x6 - 1)) 2))).f1⟩ : S25)).set ((wrap64 (Int.tdiv (wrap64 (x6 - 1)) 2)) : Int).toNat (⟨(rd_T25 x5 x6).f0, (rd_T25 x5 x6).f1⟩ : S25)) (wrap64 (Int.tdiv (wrap64 (x6 - 1)) 2))) else (some x5))) else (none)) else (none)) else (none)) else (none)) else (some x5)
def spec_HeapPut.f (k : Nat) (l0 : List (S25)) (a1_0 : Int) (a1_1 : Int) : Option ((List (S25))) := (some (([] : List (S25)) : List (S25))).bind fun y155 => (if y155.length + l0.length < 8796093022208 then ((some (y155 ++ l0 : List (S25))).bind fun y158 => ((some (([(⟨a1_0, a1_1⟩ : S25)] : List (S25)) : List (S25))).bind fun y161 => (if y158.length + y161.length < 8796093022208 then ((some (y158 ++ y161 : List (S25))).bind fun y164 => (spec_HeapPut.l0 k y164 (wrap64 ((y164.length : Int) - 1)))) else (none)))) else (none))
theorem spec_HeapPut.mono_l : ∀ k, (∀ y0 y1, LeO (spec_HeapPut.l0 k y0 y1) (spec_HeapPut.l0 (k + 1) y0 y1))
 | 0 => fun _ _ r h => by simp [spec_HeapPut.l0] at h
 | k + 1 => by
  have ih0 := spec_HeapPut.mono_l k
  intro y0 y1
  unfold spec_HeapPut.l0
  repeat' first
  | (with_reducible exact ih0 _ _)
  | (with_reducible exact LeO.refl _)
  | (with_reducible exact LeO.none _)
  | (with_reducible refine LeO.ite ?_ ?_)
  | (with_reducible refine LeO.bind ?_ (fun _ => ?_))
  | exact ih0 _ _
theorem spec_HeapPut.mono : ∀ a0 a1 a2 k, LeO (spec_HeapPut.f k a0 a1 a2) (spec_HeapPut.f (k + 1) a0 a1 a2) := by
 intro a0 a1 a2 k
 have ih0 := spec_HeapPut.mono_l k
 unfold spec_HeapPut.f
 repeat' first
   | (with_reducible exact ih0 _ _)
   | (with_reducible exact LeO.refl _)
   | (with_reducible exact LeO.none _)
   | (with_reducible refine LeO.ite ?_ ?_)
   | (with_reducible refine LeO.bind ?_ (fun _ => ?_))
   | exact ih0 _ _
def spec_HeapPut.T3 : Bool × List (List Nat × List Nat) := (true, [([], []), ([0], [0]), ([1], [1]), ([2], [2]), ([2], [2]), ([3, 4, 2], [2, 3, 4]), ([5, 2], [2, 5]), ([2], [2]), ([2], [2]), ([8, 2], [2, 8]), ([9, 2], [2, 9]), ([7, 10, 2], [2, 7, 10]), ([11, 2], [2, 11]), ([6, 12, 2, 2], [2, 6, 12]), ([2, 13], [2, 13])])
def spec_HeapPut.B3 : List Nat := [0, 1, 3, 7, 7, 31, 63, 7, 7, 263, 775, 1927, 3975, 8191, 16383]
theorem spec_HeapPut.tab3 : rtab .any (opsOf Try.f22 3) = spec_HeapPut.T3 := by kernel_rfl
theorem spec_HeapPut.bits3 : waitsOk spec_HeapPut.T3.2 spec_HeapPut.B3 = true := by kernel_rfl
theorem spec_HeapPut.calls (k : Nat) (A0 : Option Addr) (c0 : Nat) (l0 : List (S25)) (a1_0 : Int) (a1_1 : Int) (r : List (S25)) (w : World) (hr0 : Kd.C k25 w A0 l0.length l0) (hc0 : l0.length ≤ c0) (h : spec_HeapPut.f k l0 a1_0 a1_1 = some r) :
  Calls Try.prog 22 #[.slice A0 l0.length c0, .agg #[.int .i64 a1_0, .int .i64 a1_1]] w fun e w' => ∃ v0_ : Value, e = .returned (v0_) ∧ Kd.R k25 25 w' w.heap.size (fun _ => True) v0_ r ∧ Below w.heap.size w w' := by
 have hu25 := Try.underlying25
 have HR0 := Aside0.mk hr0
 have HC0 := Aside0.mk hc0
 clear hr0 hc0
 have HB := Aside0.mk (Below.refl w.heap.size w)
 have H : ((some (([] : List (S25)) : List (S25))).bind fun y155 => (if y155.length + l0.length < 8796093022208 then ((some (y155 ++ l0 : List (S25))).bind fun y158 => ((some (([(⟨a1_0, a1_1⟩ : S25)] : List (S25)) : List (S25))).bind fun y161 => (if y158.length + y161.length < 8796093022208 then ((some (y158 ++ y161 : List (S25))).bind fun y164 => (spec_HeapPut.l0 k y164 (wrap64 ((y164.length : Int) - 1)))) else (none)))) else (none))) = some r := h
 clear h
 obtain ⟨y155, hy155⟩ : ∃ y_ : List (S25), y_ = (([] : List (S25))) := ⟨_, rfl⟩
 replace H : (if y155.length + l0.length < 8796093022208 then ((some (y155 ++ l0 : List (S25))).bind fun y158 => ((some (([(⟨a1_0, a1_1⟩ : S25)] : List (S25)) : List (S25))).bind fun y161 => (if y158.length + y161.length < 8796093022208 then ((some (y158 ++ y161 : List (S25))).bind fun y164 => (spec_HeapPut.l0 k y164 (wrap64 ((y164.length : Int) - 1)))) else (none)))) else (none)) = some r := by first | (rw [hy155]; with_reducible exact H) | (have H2_ := (Option.bind_some _ _).symm.trans H; rw [hy155]; with_reducible exact H2_) | (have H2_ := (Option.bind_some _ _).symm.trans H; with_reducible exact H2_) | with_reducible exact H | (rw [hy155]; exact H) | exact H
 have Ny155 := Aside0.mk hy155
 clear hy155
 by_cases c3 : y155.length + l0.length < 8796093022208
 ·
  rw [if_pos c3] at H
  have LMc3 := Aside0.mk c3
  clear c3
  obtain ⟨y158, hy158⟩ : ∃ y_ : List (S25), y_ = (y155 ++ l0) := ⟨_, rfl⟩
  replace H : ((some (([(⟨a1_0, a1_1⟩ : S25)] : List (S25)) : List (S25))).bind fun y161 => (if y158.length + y161.length < 8796093022208 then ((some (y158 ++ y161 : List (S25))).bind fun y164 => (spec_HeapPut.l0 k y164 (wrap64 ((y164.length : Int) - 1)))) else (none))) = some r := by first | (rw [hy158]; with_reducible exact H) | (have H2_ := (Option.bind_some _ _).symm.trans H; rw [hy158]; with_reducible exact H2_) | (have H2_ := (Option.bind_some _ _).symm.trans H; with_reducible exact H2_) | with_reducible exact H | (rw [hy158]; exact H) | exact H
  have Ny158 := Aside0.mk hy158
  clear hy158
  obtain ⟨y161, hy161⟩ : ∃ y_ : List (S25), y_ = (([(⟨a1_0, a1_1⟩ : S25)] : List (S25))) := ⟨_, rfl⟩
  replace H : (if y158.length + y161.length < 8796093022208 then ((some (y158 ++ y161 : List (S25))).bind fun y164 => (spec_HeapPut.l0 k y164 (wrap64 ((y164.length : Int) - 1)))) else (none)) = some r := by first | (rw [hy161]; with_reducible exact H) | (have H2_ := (Option.bind_some _ _).symm.trans H; rw [hy161]; with_reducible exact H2_) | (have H2_ := (Option.bind_some _ _).symm.trans H; with_reducible exact H2_) | with_reducible exact H | (rw [hy161]; exact H) | exact H
  have Ny161 := Aside0.mk hy161
  clear hy161
  by_cases c4 : y158.length + y161.length < 8796093022208
  ·
   rw [if_pos c4] at H
   have LMc4 := Aside0.mk c4
   clear c4
   obtain ⟨y164, hy164⟩ : ∃ y_ : List (S25), y_ = (y158 ++ y161) := ⟨_, rfl⟩
   replace H : (spec_HeapPut.l0 k y164 (wrap64 ((y164.length : Int) - 1))) = some r := by first | (rw [hy164]; with_reducible exact H) | (have H2_ := (Option.bind_some _ _).symm.trans H; rw [hy164]; with_reducible exact H2_) | (have H2_ := (Option.bind_some _ _).symm.trans H; with_reducible exact H2_) | with_reducible exact H | (rw [hy164]; exact H) | exact H
   have Ny164 := Aside0.mk hy164
   clear hy164
   have H' := Aside0.mk H
   clear H
   go_enter Try.func22, Try.ntmps22
   try go_wp2_with (first | ((with_reducible refine gate_dst (N := 3) rfl ?_); refine box_event ?hg (N := 3) ?hd (cs := #[.int .i64 a1_0, .int .i64 a1_1]) (t := 25) ?hr ?_; (case hd => rfl); (case hg => rfl); (case hr => first | (go_simp; done) | (go_simp; rfl)); intro gb154 hg w5 hbox hb; have n0_ := Aside0.mk (below_step (by repeat (first | (with_reducible first | exact HB.out | apply ba_ | apply bn_ | apply bd_) | exact HB.out)) hb); have BK154 := Aside0.mk (hbox); have GW154 := Aside0.mk ((by rw [hg]; exact (below_size (by repeat (first | (with_reducible first | exact HB.out | apply ba_ | apply bn_ | apply bd_) | exact HB.out))) : w.heap.size ≤ gb154)); have GE154 := GW154; clear HB; have HB := n0_; clear n0_; clear hb hbox hg))
   have n0_ := Aside0.mk (blk_drew BK154.out)
   have n1_ := Aside0.mk (bd_ HB.out)
   clear BK154 HB
   have BK154 := n0_
   have HB := n1_
   clear n0_ n1_
   refine start_ (n := 7) (S := fun w' => w'.cell? ⟨gb154, 0, none⟩ = some (.int .i64 a1_0) ∧ w'.cell? ⟨gb154, 1, none⟩ = some (.int .i64 a1_1)) (ds := []) #[f_,f_,f_,f_,f_,f_,f_] (by kernel_rfl) rfl rfl ⟨bx_ BK154.out 0, bx_ BK154.out 1⟩ (fun hHeld => ?_)
   generalize w5.drew = w6 at BK154 HB hHeld ⊢
   refine pure_ (i := 1) (N := some 9) (v := ?_) (a' := ?_) #[f_,t_,f_,f_,f_,f_,f_] rfl rfl (by kernel_rfl) (fun _ _ _ h => h) (Or.inl ⟨by rfl, ?_⟩) ?_ ?_
   rotate_left
   ·
    intro w'
    go_simp
    with_reducible rfl
   rotate_left
   ·
    simp only [fr_]
    rfl
   refine take_ (i := 3) (N := some 11) (v := ?_) (a' := ?_) #[f_,t_,f_,t_,f_,f_,f_] rfl rfl (by kernel_rfl) (fun _ _ _ h => h) (Or.inl ⟨by rfl, ?_⟩) hHeld ?_ ?_
   rotate_left
   ·
    rintro w' ⟨s0, s1⟩
    go_simp
    with_reducible rfl
   rotate_left
   ·
    simp only [fr_]
    rfl
   refine join_ (σ := Value × Value × Value) 2 #[t_,t_,t_,t_,t_,f_,f_] (fun s_ => [(8, s_.1), (10, s_.2.1), (12, s_.2.2)]) (fun s_ w' => (w'.cell? ⟨gb154, 0, none⟩ = some (.int .i64 a1_0) ∧ w'.cell? ⟨gb154, 1, none⟩ = some (.int .i64 a1_1)) ∧ (Kd.R k25 25 w' w.heap.size (fun k_ => some k_ ≠ (s_.2.2 : Value).ownBlock ∧ k_ ≠ gb154) s_.2.1 y158) ∧ (Kd.R k25 25 w' w.heap.size (fun k_ => some k_ ≠ (s_.2.1 : Value).ownBlock ∧ k_ ≠ gb154) s_.2.2 y161) ∧ (w'.heap[gb154]? = some (.cells #[.int .i64 a1_0, .int .i64 a1_1] 25 (0, 0))) ∧ (Below w.heap.size w w')) ?_ ?_
   rotate_left
   ·
    intro hCont
    refine two_ (i := 0) (j := 4) (Ni := some 8) (Nj := some 12) #[t_,t_,f_,t_,f_,f_,f_] #[f_,t_,f_,t_,t_,f_,f_] rfl rfl rfl rfl (by kernel_rfl) (by decide) (by decide) (fun K hK => ?_) (fun K hK => ?_)
    ·
     skip
     refine Kd.R_lit_step k25 _ 25 ?hg (N := 8) ?hd (xs := ([] : List (S25))) (inner := []) (ok := fun _ => True) (okp := fun _ => True) ?hr ?hp (fun _ hk => hk) trivial (Below.refl _ _) (Nat.le_refl _) (by simp) ?_; (case hd => rfl); (case hg => rfl); (case hr => first | (go_simp; done) | (go_simp; rfl)); (case hp => exact (Reps.none _ _))
     intro v156 w7 ho8 hb hg_ hnew_
     clear hg_ hnew_
     (first | rw [← Ny155.out] at ho8 | (simp only [Int.reduceToNat] at ho8; rw [← Ny155.out] at ho8))
     have n0_ := Aside0.mk (Kd.R_lower (Kd.R_newB ho8 (g := gb154) (o := .cells #[.int .i64 a1_0, .int .i64 a1_1] 25 (0, 0)) (pb_ BK154.out)) (below_size (by repeat (first | (with_reducible first | exact HB.out | apply ba_ | apply bn_ | apply bd_ | refine below_set ?_ GE154.out) | exact HB.out))))
     have n1_ := Aside0.mk (bb_ BK154.out hb)
     have n2_ := Aside0.mk (below_step (by repeat (first | (with_reducible first | exact HB.out | apply ba_ | apply bn_ | apply bd_ | refine below_set ?_ GE154.out) | exact HB.out)) hb)
     clear BK154 HB
     have HO157 := n0_
     have BK154 := n1_
     have HB := n2_
     clear n0_ n1_ n2_ hb ho8
     refine hK.out _ _ ⟨bx_ BK154.out 0, bx_ BK154.out 1⟩ (fun hHeld => ?_)
     clear hK K
     refine norm_ (a' := ?_) ?_ ?_
     rotate_left
     ·
      show Act.put _ (some 8) _ = _
      simp only [fr_]
      rfl
     refine two_ (i := 2) (j := 4) (Ni := some 10) (Nj := some 12) #[t_,t_,t_,t_,f_,f_,f_] #[t_,t_,f_,t_,t_,f_,f_] rfl rfl rfl rfl (by kernel_rfl) (by decide) (by decide) (fun K hK => ?_) (fun K hK => ?_)
     ·
      skip
      refine Kd.R_append_rows_step k25 (w0 := w) w.heap.size (by rfl) (.tmp 8) (.tmp 9) 31 25 (.agg #[(.int .i64 0), (.int .i64 0)]) 16 rfl Try.underlying31 info25 rfl (by decide) (by omega) v156 y155 l0 _ _ _ (fun k_ => k_ ≠ gb154) (fun _ => False) rfl rfl ?aO ?aR (fun _ _ h => h) (fun _ h => h.elim) ?aF ?aB ?aS ?aL ?_
      (case aR => repeat (first | exact (Kd.C_below HR0.out HB.out) | (with_reducible first | refine ca_ ?_ _ | refine cn_ ?_ _ | refine cd_ ?_)))
      (case aB => exact (by repeat (first | (with_reducible first | exact HB.out | apply ba_ | apply bn_ | apply bd_ | refine below_set ?_ GE154.out) | exact HB.out)))
      (case aF => exact (fun k_ hk => Kd.freshB (g := gb154) (o := .cells #[.int .i64 a1_0, .int .i64 a1_1] 25 (0, 0)) (pb_ BK154.out) k_ hk))
      (case aO => exact (by (with_reducible repeat (first | apply Kd.R_alloc | apply Kd.R_drewN | apply Kd.R_drew)); exact Kd.R_mono HO157.out (fun _ hk => hk.2)))
      (case aS => exact (below_size (by repeat (first | (with_reducible first | exact HB.out | apply ba_ | apply bn_ | apply bd_ | refine below_set ?_ GE154.out) | exact HB.out))))
      (case aL => have := LMc3.out; omega)
      intro v159 w9 ho hb hg hat
      rw [← Ny158.out] at ho
      have n0_ := Aside0.mk (blk_grown (g := gb154) (o := .cells #[.int .i64 a1_0, .int .i64 a1_1] 25 (0, 0)) (pb_ BK154.out) hg (Kd.R_away HO157.out (fun _ hk => hk.2)))
      have n1_ := Aside0.mk (hb)
      have n2_ := Aside0.mk (ho)
      clear BK154 HB HO157
      have BK154 := n0_
      have HB := n1_
      have HO160 := n2_
      clear n0_ n1_ n2_ ho hb hg hat
      refine hK.out _ _ ⟨bx_ BK154.out 0, bx_ BK154.out 1⟩ (fun hHeld => ?_)
      clear hK K
      refine norm_ (a' := ?_) ?_ ?_
      rotate_left
      ·
       show Act.put _ (some 10) _ = _
       simp only [fr_]
       rfl
      refine one_ (i := 4) (N := some 12) #[t_,t_,t_,t_,t_,f_,f_] rfl rfl (by kernel_rfl) (by decide) (fun K hK => ?_)
      refine Kd.R_lit_step k25 _ 25 ?hg (N := 12) ?hd (xs := ([(⟨a1_0, a1_1⟩ : S25)] : List (S25))) (inner := [.int .i64 a1_0, .int .i64 a1_1]) (ok := fun _ => True) (okp := fun _ => True) ?hr ?hp (fun _ hk => hk) trivial (Below.refl _ _) (Nat.le_refl _) (by simp) ?_; (case hd => rfl); (case hg => rfl); (case hr => first | (go_simp; done) | (go_simp; rfl)); (case hp => exact (Reps.c2 (show Kd.M k25 _ _ _ (⟨a1_0, a1_1⟩ : S25) [.int .i64 a1_0, .int .i64 a1_1] from (k25_mkM _ _ _ (⟨a1_0, a1_1⟩ : S25) )) (Reps.none _ _)))
      intro v162 w10 ho11 hb hg_ hnew_
      clear hg_ hnew_
      (first | rw [← Ny161.out] at ho11 | (simp only [Int.reduceToNat] at ho11; rw [← Ny161.out] at ho11))
      have n0_ := Aside0.mk (Kd.R_elder' (rp_ HO160.out) (Kd.R_base ho11) hb)
      have n1_ := Aside0.mk (Kd.R_lower (Kd.R_newB (Kd.R_new' ho11 (Kd.R_lt (rp_ HO160.out))) (g := gb154) (o := .cells #[.int .i64 a1_0, .int .i64 a1_1] 25 (0, 0)) (pb_ BK154.out)) (below_size (by repeat (first | (with_reducible first | exact HB.out | apply ba_ | apply bn_ | apply bd_ | refine below_set ?_ GE154.out) | exact HB.out))))
      have n2_ := Aside0.mk (bb_ BK154.out hb)
      have n3_ := Aside0.mk (below_step (by repeat (first | (with_reducible first | exact HB.out | apply ba_ | apply bn_ | apply bd_ | refine below_set ?_ GE154.out) | exact HB.out)) hb)
      clear HO160 BK154 HB
      have HO160 := n0_
      have HO163 := n1_
      have BK154 := n2_
      have HB := n3_
      clear n0_ n1_ n2_ n3_ hb ho11
      refine hK.out _ _ ⟨bx_ BK154.out 0, bx_ BK154.out 1⟩ (fun hHeld => ?_)
      clear hK K
      refine norm_ (a' := ?_) ?_ ?_
      rotate_left
      ·
       show Act.put _ (some 12) _ = _
       simp only [fr_]
       rfl
      exact norm_ (by simp only [putAll, Act.put, List.setIfInBounds_toArray, List.set_cons_zero, List.set_cons_succ]) (hCont (v156, v159, v162) _ ⟨hHeld, (by (with_reducible repeat (first | apply Kd.R_alloc | apply Kd.R_drewN | apply Kd.R_drew)); exact Kd.R_mono HO160.out (fun _ hk => ⟨hk.2, hk.1⟩)), (by (with_reducible repeat (first | apply Kd.R_alloc | apply Kd.R_drewN | apply Kd.R_drew)); exact Kd.R_mono HO163.out (fun _ hk => ⟨hk.1.2, hk.2⟩)), (pb_ BK154.out), (by repeat (first | (with_reducible first | exact HB.out | apply ba_ | apply bn_ | apply bd_ | refine below_set ?_ GE154.out) | exact HB.out))⟩)
     skip
     refine Kd.R_lit_step k25 _ 25 ?hg (N := 12) ?hd (xs := ([(⟨a1_0, a1_1⟩ : S25)] : List (S25))) (inner := [.int .i64 a1_0, .int .i64 a1_1]) (ok := fun _ => True) (okp := fun _ => True) ?hr ?hp (fun _ hk => hk) trivial (Below.refl _ _) (Nat.le_refl _) (by simp) ?_; (case hd => rfl); (case hg => rfl); (case hr => first | (go_simp; done) | (go_simp; rfl)); (case hp => exact (Reps.c2 (show Kd.M k25 _ _ _ (⟨a1_0, a1_1⟩ : S25) [.int .i64 a1_0, .int .i64 a1_1] from (k25_mkM _ _ _ (⟨a1_0, a1_1⟩ : S25) )) (Reps.none _ _)))
     intro v162 w9 ho10 hb hg_ hnew_
     clear hg_ hnew_
     (first | rw [← Ny161.out] at ho10 | (simp only [Int.reduceToNat] at ho10; rw [← Ny161.out] at ho10))
     have n0_ := Aside0.mk (Kd.R_elder' (rp_ HO157.out) (Kd.R_base ho10) hb)
     have n1_ := Aside0.mk (Kd.R_lower (Kd.R_newB (Kd.R_new' ho10 (Kd.R_lt (rp_ HO157.out))) (g := gb154) (o := .cells #[.int .i64 a1_0, .int .i64 a1_1] 25 (0, 0)) (pb_ BK154.out)) (below_size (by repeat (first | (with_reducible first | exact HB.out | apply ba_ | apply bn_ | apply bd_ | refine below_set ?_ GE154.out) | exact HB.out))))
     have n2_ := Aside0.mk (bb_ BK154.out hb)
     have n3_ := Aside0.mk (below_step (by repeat (first | (with_reducible first | exact HB.out | apply ba_ | apply bn_ | apply bd_ | refine below_set ?_ GE154.out) | exact HB.out)) hb)
     clear HO157 BK154 HB
     have HO157 := n0_
     have HO163 := n1_
     have BK154 := n2_
     have HB := n3_
     clear n0_ n1_ n2_ n3_ hb ho10
     refine hK.out _ _ ⟨bx_ BK154.out 0, bx_ BK154.out 1⟩ (fun hHeld => ?_)
     clear hK K
     refine norm_ (a' := ?_) ?_ ?_
     rotate_left
     ·
      show Act.put _ (some 12) _ = _
      simp only [fr_]
      rfl
     refine one_ (i := 2) (N := some 10) #[t_,t_,t_,t_,t_,f_,f_] rfl rfl (by kernel_rfl) (by decide) (fun K hK => ?_)
     refine Kd.R_append_rows_step k25 (w0 := w) w.heap.size (by rfl) (.tmp 8) (.tmp 9) 31 25 (.agg #[(.int .i64 0), (.int .i64 0)]) 16 rfl Try.underlying31 info25 rfl (by decide) (by omega) v156 y155 l0 _ _ _ (fun k_ => some k_ ≠ (v162 : Value).ownBlock ∧ k_ ≠ gb154) (fun _ => False) rfl rfl ?aO ?aR (fun _ _ h => h) (fun _ h => h.elim) ?aF ?aB ?aS ?aL ?_
     (case aR => repeat (first | exact (Kd.C_below HR0.out HB.out) | (with_reducible first | refine ca_ ?_ _ | refine cn_ ?_ _ | refine cd_ ?_)))
     (case aB => exact (by repeat (first | (with_reducible first | exact HB.out | apply ba_ | apply bn_ | apply bd_ | refine below_set ?_ GE154.out) | exact HB.out)))
     (case aF => exact (fun k_ hk => ⟨Kd.fresh' (Kd.R_lt (rp_ HO163.out)) k_ hk, Kd.freshB (g := gb154) (o := .cells #[.int .i64 a1_0, .int .i64 a1_1] 25 (0, 0)) (pb_ BK154.out) k_ hk⟩))
     (case aO => exact (by (with_reducible repeat (first | apply Kd.R_alloc | apply Kd.R_drewN | apply Kd.R_drew)); exact Kd.R_mono HO157.out (fun _ hk => ⟨hk.2, hk.1.2⟩)))
     (case aS => exact (below_size (by repeat (first | (with_reducible first | exact HB.out | apply ba_ | apply bn_ | apply bd_ | refine below_set ?_ GE154.out) | exact HB.out))))
     (case aL => have := LMc3.out; omega)
     intro v159 w11 ho hb hg hat
     rw [← Ny158.out] at ho
     have n0_ := Aside0.mk (blk_grown (g := gb154) (o := .cells #[.int .i64 a1_0, .int .i64 a1_1] 25 (0, 0)) (pb_ BK154.out) hg (Kd.R_away HO157.out (fun _ hk => hk.1.2)))
     have n1_ := Aside0.mk (Kd.R_after (ok := (fun k_ => k_ ≠ gb154)) (by (with_reducible repeat (first | apply Kd.R_alloc | apply Kd.R_drewN | apply Kd.R_drew)); exact Kd.R_mono HO163.out (fun _ hk => ⟨hk.2, hk.1.2⟩)) hg hat)
     have n2_ := Aside0.mk (hb)
     have n3_ := Aside0.mk (ho)
     clear BK154 HO163 HB HO157
     have BK154 := n0_
     have HO163 := n1_
     have HB := n2_
     have HO160 := n3_
     clear n0_ n1_ n2_ n3_ ho hb hg hat
     refine hK.out _ _ ⟨bx_ BK154.out 0, bx_ BK154.out 1⟩ (fun hHeld => ?_)
     clear hK K
     refine norm_ (a' := ?_) ?_ ?_
     rotate_left
     ·
      show Act.put _ (some 10) _ = _
      simp only [fr_]
      rfl
     exact norm_ (by simp only [putAll, Act.put, List.setIfInBounds_toArray, List.set_cons_zero, List.set_cons_succ]) (hCont (v156, v159, v162) _ ⟨hHeld, (rp_ HO160.out), (by (with_reducible repeat (first | apply Kd.R_alloc | apply Kd.R_drewN | apply Kd.R_drew)); exact Kd.R_mono HO163.out (fun _ hk => ⟨hk.2, hk.1⟩)), (pb_ BK154.out), (by repeat (first | (with_reducible first | exact HB.out | apply ba_ | apply bn_ | apply bd_ | refine below_set ?_ GE154.out) | exact HB.out))⟩)
    skip
    refine Kd.R_lit_step k25 _ 25 ?hg (N := 12) ?hd (xs := ([(⟨a1_0, a1_1⟩ : S25)] : List (S25))) (inner := [.int .i64 a1_0, .int .i64 a1_1]) (ok := fun _ => True) (okp := fun _ => True) ?hr ?hp (fun _ hk => hk) trivial (Below.refl _ _) (Nat.le_refl _) (by simp) ?_; (case hd => rfl); (case hg => rfl); (case hr => first | (go_simp; done) | (go_simp; rfl)); (case hp => exact (Reps.c2 (show Kd.M k25 _ _ _ (⟨a1_0, a1_1⟩ : S25) [.int .i64 a1_0, .int .i64 a1_1] from (k25_mkM _ _ _ (⟨a1_0, a1_1⟩ : S25) )) (Reps.none _ _)))
    intro v162 w7 ho8 hb hg_ hnew_
    clear hg_ hnew_
    (first | rw [← Ny161.out] at ho8 | (simp only [Int.reduceToNat] at ho8; rw [← Ny161.out] at ho8))
    have n0_ := Aside0.mk (Kd.R_lower (Kd.R_newB ho8 (g := gb154) (o := .cells #[.int .i64 a1_0, .int .i64 a1_1] 25 (0, 0)) (pb_ BK154.out)) (below_size (by repeat (first | (with_reducible first | exact HB.out | apply ba_ | apply bn_ | apply bd_ | refine below_set ?_ GE154.out) | exact HB.out))))
    have n1_ := Aside0.mk (bb_ BK154.out hb)
    have n2_ := Aside0.mk (below_step (by repeat (first | (with_reducible first | exact HB.out | apply ba_ | apply bn_ | apply bd_ | refine below_set ?_ GE154.out) | exact HB.out)) hb)
    clear BK154 HB
    have HO163 := n0_
    have BK154 := n1_
    have HB := n2_
    clear n0_ n1_ n2_ hb ho8
    refine hK.out _ _ ⟨bx_ BK154.out 0, bx_ BK154.out 1⟩ (fun hHeld => ?_)
    clear hK K
    refine norm_ (a' := ?_) ?_ ?_
    rotate_left
    ·
     show Act.put _ (some 12) _ = _
     simp only [fr_]
     rfl
    refine one_ (i := 0) (N := some 8) #[t_,t_,f_,t_,t_,f_,f_] rfl rfl (by kernel_rfl) (by decide) (fun K hK => ?_)
    refine Kd.R_lit_step k25 _ 25 ?hg (N := 8) ?hd (xs := ([] : List (S25))) (inner := []) (ok := fun _ => True) (okp := fun _ => True) ?hr ?hp (fun _ hk => hk) trivial (Below.refl _ _) (Nat.le_refl _) (by simp) ?_; (case hd => rfl); (case hg => rfl); (case hr => first | (go_simp; done) | (go_simp; rfl)); (case hp => exact (Reps.none _ _))
    intro v156 w9 ho10 hb hg_ hnew_
    clear hg_ hnew_
    (first | rw [← Ny155.out] at ho10 | (simp only [Int.reduceToNat] at ho10; rw [← Ny155.out] at ho10))
    have n0_ := Aside0.mk (Kd.R_elder' (rp_ HO163.out) (Kd.R_base ho10) hb)
    have n1_ := Aside0.mk (Kd.R_lower (Kd.R_newB (Kd.R_new' ho10 (Kd.R_lt (rp_ HO163.out))) (g := gb154) (o := .cells #[.int .i64 a1_0, .int .i64 a1_1] 25 (0, 0)) (pb_ BK154.out)) (below_size (by repeat (first | (with_reducible first | exact HB.out | apply ba_ | apply bn_ | apply bd_ | refine below_set ?_ GE154.out) | exact HB.out))))
    have n2_ := Aside0.mk (bb_ BK154.out hb)
    have n3_ := Aside0.mk (below_step (by repeat (first | (with_reducible first | exact HB.out | apply ba_ | apply bn_ | apply bd_ | refine below_set ?_ GE154.out) | exact HB.out)) hb)
    clear HO163 BK154 HB
    have HO163 := n0_
    have HO157 := n1_
    have BK154 := n2_
    have HB := n3_
    clear n0_ n1_ n2_ n3_ hb ho10
    refine hK.out _ _ ⟨bx_ BK154.out 0, bx_ BK154.out 1⟩ (fun hHeld => ?_)
    clear hK K
    refine norm_ (a' := ?_) ?_ ?_
    rotate_left
    ·
     show Act.put _ (some 8) _ = _
     simp only [fr_]
     rfl
    refine one_ (i := 2) (N := some 10) #[t_,t_,t_,t_,t_,f_,f_] rfl rfl (by kernel_rfl) (by decide) (fun K hK => ?_)
    refine Kd.R_append_rows_step k25 (w0 := w) w.heap.size (by rfl) (.tmp 8) (.tmp 9) 31 25 (.agg #[(.int .i64 0), (.int .i64 0)]) 16 rfl Try.underlying31 info25 rfl (by decide) (by omega) v156 y155 l0 _ _ _ (fun k_ => some k_ ≠ (v162 : Value).ownBlock ∧ k_ ≠ gb154) (fun _ => False) rfl rfl ?aO ?aR (fun _ _ h => h) (fun _ h => h.elim) ?aF ?aB ?aS ?aL ?_
    (case aR => repeat (first | exact (Kd.C_below HR0.out HB.out) | (with_reducible first | refine ca_ ?_ _ | refine cn_ ?_ _ | refine cd_ ?_)))
    (case aB => exact (by repeat (first | (with_reducible first | exact HB.out | apply ba_ | apply bn_ | apply bd_ | refine below_set ?_ GE154.out) | exact HB.out)))
    (case aF => exact (fun k_ hk => ⟨Kd.fresh' (Kd.R_lt (rp_ HO163.out)) k_ hk, Kd.freshB (g := gb154) (o := .cells #[.int .i64 a1_0, .int .i64 a1_1] 25 (0, 0)) (pb_ BK154.out) k_ hk⟩))
    (case aO => exact (by (with_reducible repeat (first | apply Kd.R_alloc | apply Kd.R_drewN | apply Kd.R_drew)); exact Kd.R_mono HO157.out (fun _ hk => ⟨hk.1.2, hk.2⟩)))
    (case aS => exact (below_size (by repeat (first | (with_reducible first | exact HB.out | apply ba_ | apply bn_ | apply bd_ | refine below_set ?_ GE154.out) | exact HB.out))))
    (case aL => have := LMc3.out; omega)
    intro v159 w11 ho hb hg hat
    rw [← Ny158.out] at ho
    have n0_ := Aside0.mk (blk_grown (g := gb154) (o := .cells #[.int .i64 a1_0, .int .i64 a1_1] 25 (0, 0)) (pb_ BK154.out) hg (Kd.R_away HO157.out (fun _ hk => hk.2)))
    have n1_ := Aside0.mk (Kd.R_after (ok := (fun k_ => k_ ≠ gb154)) (by (with_reducible repeat (first | apply Kd.R_alloc | apply Kd.R_drewN | apply Kd.R_drew)); exact Kd.R_mono HO163.out (fun _ hk => ⟨hk.1.2, hk.2⟩)) hg hat)
    have n2_ := Aside0.mk (hb)
    have n3_ := Aside0.mk (ho)
    clear BK154 HO163 HB HO157
    have BK154 := n0_
    have HO163 := n1_
    have HB := n2_
    have HO160 := n3_
    clear n0_ n1_ n2_ n3_ ho hb hg hat
    refine hK.out _ _ ⟨bx_ BK154.out 0, bx_ BK154.out 1⟩ (fun hHeld => ?_)
    clear hK K
    refine norm_ (a' := ?_) ?_ ?_
    rotate_left
    ·
     show Act.put _ (some 10) _ = _
     simp only [fr_]
     rfl
    exact norm_ (by simp only [putAll, Act.put, List.setIfInBounds_toArray, List.set_cons_zero, List.set_cons_succ]) (hCont (v156, v159, v162) _ ⟨hHeld, (rp_ HO160.out), (by (with_reducible repeat (first | apply Kd.R_alloc | apply Kd.R_drewN | apply Kd.R_drew)); exact Kd.R_mono HO163.out (fun _ hk => ⟨hk.2, hk.1⟩)), (pb_ BK154.out), (by repeat (first | (with_reducible first | exact HB.out | apply ba_ | apply bn_ | apply bd_ | refine below_set ?_ GE154.out) | exact HB.out))⟩)
   rintro ⟨v156, v159, v162⟩ w12 ⟨hS_, h0_, h1_, h2_, h3_⟩
   have n0_ : Aside0 (Kd.R k25 25 w12 w.heap.size (fun k_ => some k_ ≠ (v162 : Value).ownBlock ∧ k_ ≠ gb154) v159 y158) := ⟨h0_⟩
   have n1_ : Aside0 (Kd.R k25 25 w12 w.heap.size (fun k_ => some k_ ≠ (v159 : Value).ownBlock ∧ k_ ≠ gb154) v162 y161) := ⟨h1_⟩
   have n2_ : Aside0 (w12.heap[gb154]? = some (.cells #[.int .i64 a1_0, .int .i64 a1_1] 25 (0, 0))) := ⟨h2_⟩
   have n3_ : Aside0 (Below w.heap.size w w12) := ⟨h3_⟩
   clear BK154 HB h0_ h1_ h2_ h3_
   have HO160 := n0_
   have HO163 := n1_
   have BK154 := n2_
   have HB := n3_
   clear n0_ n1_ n2_ n3_
   have hHeld : w12.cell? ⟨gb154, 0, none⟩ = some (.int .i64 a1_0) ∧ w12.cell? ⟨gb154, 1, none⟩ = some (.int .i64 a1_1) := hS_
   obtain ⟨Ao14, co14, eo14⟩ := Kd.R_slice HO163.out
   (first | subst eo14 | (injection eo14 with f1_ f2_ f3_; have f4_ := f1_.symm; have f5_ := f3_.symm; clear f1_ f2_ f3_; subst f4_; subst f5_))
   refine norm_ (a' := ?_) ?_ ?_
   rotate_left
   ·
    simp only [putAll, Act.put, List.setIfInBounds_toArray, List.set_cons_zero, List.set_cons_succ]
    rfl
   refine one_ (i := 5) (N := some 13) #[t_,t_,t_,t_,t_,t_,f_] rfl rfl (by kernel_rfl) (by decide) (fun K hK => ?_)
   refine Kd.R_append_rows_step k25 (w0 := w) w.heap.size (by rfl) (.tmp 10) (.tmp 12) 31 25 (.agg #[(.int .i64 0), (.int .i64 0)]) 16 rfl Try.underlying31 info25 rfl (by decide) (by omega) v159 y158 y161 _ _ _ (fun k_ => some k_ ≠ (.slice Ao14 y161.length co14 : Value).ownBlock ∧ k_ ≠ gb154) (fun _ => False) rfl rfl ?aO ?aR (fun _ _ h => h) (fun _ h => h.elim) ?aF ?aB ?aS ?aL ?_
   (case aR => repeat (first | exact (Kd.R_reads' HO163.out).2.2 | (with_reducible first | refine ca_ ?_ _ | refine cn_ ?_ _ | refine cd_ ?_)))
   (case aB => exact (by repeat (first | (with_reducible first | exact HB.out | apply ba_ | apply bn_ | apply bd_ | refine below_set ?_ GE154.out) | exact HB.out)))
   (case aF => exact (fun k_ hk => ⟨Kd.fresh' (Kd.R_lt (rp_ HO163.out)) k_ hk, Kd.freshB (g := gb154) (o := .cells #[.int .i64 a1_0, .int .i64 a1_1] 25 (0, 0)) (pb_ BK154.out) k_ hk⟩))
   (case aO => exact (rp_ HO160.out))
   (case aS => exact (below_size (by repeat (first | (with_reducible first | exact HB.out | apply ba_ | apply bn_ | apply bd_ | refine below_set ?_ GE154.out) | exact HB.out))))
   (case aL => have := LMc4.out; omega)
   intro v165 w13 ho hb hg hat
   rw [← Ny164.out] at ho
   have n0_ := Aside0.mk (blk_grown (g := gb154) (o := .cells #[.int .i64 a1_0, .int .i64 a1_1] 25 (0, 0)) (pb_ BK154.out) hg (Kd.R_away HO160.out (fun _ hk => hk.2)))
   have n1_ := Aside0.mk (Kd.R_after (ok := (fun k_ => k_ ≠ gb154)) (by (with_reducible repeat (first | apply Kd.R_alloc | apply Kd.R_drewN | apply Kd.R_drew)); exact Kd.R_mono HO163.out (fun _ hk => ⟨hk.2, hk.1⟩)) hg hat)
   have n2_ := Aside0.mk (hb)
   have n3_ := Aside0.mk (ho)
   clear BK154 HO163 HB HO160
   have BK154 := n0_
   have HO163 := n1_
   have HB := n2_
   have HO166 := n3_
   clear n0_ n1_ n2_ n3_ ho hb hg hat
   refine hK.out _ _ ⟨bx_ BK154.out 0, bx_ BK154.out 1⟩ (fun hHeld => ?_)
   clear hK K
   refine norm_ (a' := ?_) ?_ ?_
   rotate_left
   ·
    show Act.put _ (some 13) _ = _
    simp only [fr_]
    rfl
   refine pure_ (i := 6) (N := some 5) (v := ?_) (a' := ?_) #[t_,t_,t_,t_,t_,t_,t_] rfl rfl (by kernel_rfl) (fun _ _ _ h => h) (Or.inl ⟨by rfl, ?_⟩) ?_ ?_
   rotate_left
   ·
    intro w'
    go_simp
    with_reducible rfl
   rotate_left
   ·
    simp only [fr_]
    rfl
   refine done_ (by kernel_rfl) ?_
   obtain ⟨Ao15, co15, eo15⟩ := Kd.R_slice HO166.out
   subst eo15
   try go_wp2
   go_loopg [6] k (fun kq v6 w' => ∃ (x5_1 : List (S25)) (x6_1 : Int) (x155000_1 : Int) (x155001_1 : Int), v6 = .int .i64 x6_1 ∧ Aside0 (spec_HeapPut.l0 kq x5_1 x6_1 = some r) ∧ Aside0 (kq ≤ k) ∧ Aside0 (Kd.R k25 25 w' w.heap.size (fun k_ => k_ ≠ gb154) (.slice Ao15 y164.length co15) x5_1) ∧ Aside0 (w'.heap[gb154]? = some (.cells #[.int .i64 x155000_1, .int .i64 x155001_1] 25 (0, 0))) ∧ Aside0 (Below w.heap.size w w'))
   case atStart => exact ⟨(y164), (wrap64 ((y164.length : Int) - 1)), (a1_0), (a1_1), (by first | rfl | (simp; done) | (simp [*]; done)), H', ⟨Nat.le_refl _⟩, ⟨by (with_reducible repeat (first | apply Kd.R_alloc | apply Kd.R_drewN | apply Kd.R_drew)); exact Kd.R_mono HO166.out (fun _ hk => hk.2)⟩, ⟨by (with_reducible repeat (first | refine kn_ ?_ _ | refine kd_ ?_ | refine ka_ ?_ _)); exact BK154.out⟩, ⟨by repeat (first | (with_reducible first | exact HB.out | apply ba_ | apply bn_ | apply bd_ | refine below_set ?_ GE154.out) | exact HB.out)⟩⟩
   case round =>
    clear H'
    try clear c2
    try clear p2
    try clear c3
    try clear c4
    try clear p6
    obtain ⟨x5_1, x6_1, x155000_1, x155001_1, rfl, HA, HK1, HO_5, BK154, HB⟩ := hrel
    have hl5_1 := (Kd.R_reads' HO_5.out).1
    rw [hl5_1] at HO_5
    (try simp only [hl5_1])
    (try simp only [hl5_1] at BK154)
    cases gk with
    | zero => exact absurd HA.out (by simp [spec_HeapPut.l0])
    | succ k1 =>
     have H := HA.out
     clear HA
     simp only [spec_HeapPut.l0] at H
     by_cases c16 : x6_1 > 0
     ·
      rw [if_pos c16] at H
      have c16b0 : decide (0 < x6_1) = true := decide_eq_true c16
      clear c16
      by_cases c17 : 0 ≤ x6_1
      ·
       rw [if_pos c17] at H
       have c17b0 := decide_eq_true c17
       clear c17
       by_cases c18 : x6_1 < (x5_1.length : Int)
       ·
        rw [if_pos c18] at H
        have c18b0 := decide_eq_true c18
        clear c18
        obtain ⟨ji19, hji19⟩ : ∃ j_ : Int, (wrap64 (Int.tdiv (wrap64 (x6_1 - 1)) 2)) = j_ := ⟨_, rfl⟩
        replace H : (if 0 ≤ (ji19) then (if (ji19) < (x5_1.length : Int) then ((spec_Before.f ((rd_T25 x5_1 x6_1).f0) ((rd_T25 x5_1 x6_1).f1) ((rd_T25 x5_1 (ji19)).f0) ((rd_T25 x5_1 (ji19)).f1)).bind fun t169 => (if t169 = true then (spec_HeapPut.l0 k1 ((x5_1.set (x6_1 : Int).toNat (⟨(rd_T25 x5_1 (ji19)).f0, (rd_T25 x5_1 (ji19)).f1⟩ : S25)).set ((ji19) : Int).toNat (⟨(rd_T25 x5_1 x6_1).f0, (rd_T25 x5_1 x6_1).f1⟩ : S25)) ji19) else (some x5_1))) else (none)) else (none)) = some r := by first | (rw [hji19] at H; exact H) | (simp only [hji19] at H ⊢; exact H)
        have hji19w : (IntKind.i64.wrap (Int.tdiv (wrap64 (x6_1 - 1)) 2)) = ji19 := (i64_w _).trans hji19
        by_cases c20 : 0 ≤ (ji19)
        ·
         rw [if_pos c20] at H
         have c20b0 := decide_eq_true c20
         clear c20
         by_cases c21 : (ji19) < (x5_1.length : Int)
         ·
          rw [if_pos c21] at H
          have c21b0 := decide_eq_true c21
          clear c21
          replace H := Option.bind_eq_some_iff.mp H
          obtain ⟨t169, A220, H⟩ := H
          have A22 := Aside0.mk A220
          clear A220
          by_cases c23 : t169 = true
          ·
           subst c23
           rw [if_pos rfl] at H
           obtain ⟨y173, hy173⟩ : ∃ y_ : List (S25), y_ = (x5_1.set (x6_1 : Int).toNat (⟨(rd_T25 x5_1 (ji19)).f0, (rd_T25 x5_1 (ji19)).f1⟩ : S25)) := ⟨_, rfl⟩
           replace H : (spec_HeapPut.l0 k1 (y173.set ((ji19) : Int).toNat (⟨(rd_T25 x5_1 x6_1).f0, (rd_T25 x5_1 x6_1).f1⟩ : S25)) ji19) = some r := by first | (rw [hy173]; with_reducible exact H) | (have H2_ := (Option.bind_some _ _).symm.trans H; rw [hy173]; with_reducible exact H2_) | (have H2_ := (Option.bind_some _ _).symm.trans H; with_reducible exact H2_) | with_reducible exact H | (rw [hy173]; exact H) | exact H
           have Ny173 := Aside0.mk hy173
           clear hy173
           obtain ⟨y174, hy174⟩ : ∃ y_ : List (S25), y_ = (y173.set ((ji19) : Int).toNat (⟨(rd_T25 x5_1 x6_1).f0, (rd_T25 x5_1 x6_1).f1⟩ : S25)) := ⟨_, rfl⟩
           replace H : (spec_HeapPut.l0 k1 y174 ji19) = some r := by first | (rw [hy174]; with_reducible exact H) | (have H2_ := (Option.bind_some _ _).symm.trans H; rw [hy174]; with_reducible exact H2_) | (have H2_ := (Option.bind_some _ _).symm.trans H; with_reducible exact H2_) | with_reducible exact H | (rw [hy174]; exact H) | exact H
           have Ny174 := Aside0.mk hy174
           clear hy174
           have H' := Aside0.mk H
           clear H
           try go_wp2
           have n0_ := Aside0.mk (Kd.R_drew HO_5.out)
           have n1_ := Aside0.mk (blk_drew BK154.out)
           have n2_ := Aside0.mk (bd_ HB.out)
           clear HO_5 BK154 HB
           have HO_5 := n0_
           have BK154 := n1_
           have HB := n2_
           clear n0_ n1_ n2_
           have p167 : 0 ≤ (x6_1 : Int) := of_decide_eq_true (by with_reducible assumption)
           have q167 : x6_1 < (x5_1.length : Int) := of_decide_eq_true (by with_reducible assumption)
           obtain ⟨ad167, e167, hx167_0, hx167_1⟩ := at_T25 (Kd.R_reads' HO_5.out).2.2 x6_1 p167 q167
           cases e167
           replace p167 := eq_true p167
           replace q167 := eq_true q167
           have p168 : 0 ≤ ((ji19) : Int) := of_decide_eq_true (by with_reducible assumption)
           have q168 : (ji19) < (x5_1.length : Int) := of_decide_eq_true (by with_reducible assumption)
           obtain ⟨ad168, e168, hx168_0, hx168_1⟩ := at_T25 (Kd.R_reads' HO_5.out).2.2 (ji19) p168 q168
           obtain rfl : ad167 = ad168 := (by injection e168)
           replace p168 := eq_true p168
           replace q168 := eq_true q168
           refine start_ (n := 15) (S := fun w' => w'.cell? (ad167.add ((x6_1).toNat * 2)) = some (.int .i64 ((rd_T25 x5_1 x6_1).f0)) ∧ w'.cell? ⟨(ad167.add ((x6_1).toNat * 2)).block, (ad167.add ((x6_1).toNat * 2)).off + 1, none⟩ = some (.int .i64 ((rd_T25 x5_1 x6_1).f1)) ∧ w'.cell? (ad167.add (((ji19)).toNat * 2)) = some (.int .i64 ((rd_T25 x5_1 (ji19)).f0)) ∧ w'.cell? ⟨(ad167.add (((ji19)).toNat * 2)).block, (ad167.add (((ji19)).toNat * 2)).off + 1, none⟩ = some (.int .i64 ((rd_T25 x5_1 (ji19)).f1))) (ds := []) #[f_,f_,f_,f_,f_,f_,f_,f_,f_,f_,f_,f_,f_,f_,f_] (by kernel_rfl) rfl rfl ⟨hx167_0, hx167_1, hx168_0, hx168_1⟩ (fun hHeld => ?_); refine with_tabW spec_HeapPut.tab3 spec_HeapPut.bits3 (fun HT_ HW_ => ?_)
           generalize wr.drew = w26 at HO_5 BK154 HB hx167_0 hx167_1 hx168_0 hx168_1 hHeld ⊢
           refine pu_ 0 17 ?_ (b_ 1 14) rfl rfl HT_.out ?_ ?_ ?_ ?_; rotate_left; intro w'; go_simp; with_reducible rfl; rotate_left; simp only [fr_]; rfl
           refine pu_ 1 18 ?_ (b_ 2 13) rfl rfl HT_.out ?_ ?_ ?_ ?_; rotate_left; intro w'; go_simp; with_reducible rfl; rotate_left; simp only [fr_]; rfl
           refine pu_ 2 19 ?_ (b_ 3 12) rfl rfl HT_.out ?_ ?_ ?_ ?_; rotate_left; intro w'; go_simp; with_reducible rfl; rotate_left; simp only [fr_]; rfl
           refine pu_ 3 20 ?_ (b_ 4 11) rfl rfl HT_.out ?_ ?_ ?_ ?_; rotate_left; intro w'; go_simp; with_reducible rfl; rotate_left; simp only [fr_]; rfl
           refine pu_ 4 21 ?_ (b_ 5 10) rfl rfl HT_.out ?_ ?_ ?_ ?_; rotate_left; intro w'; go_simp; with_reducible rfl; rotate_left; simp only [fr_]; rfl
           refine pu_ 5 22 ?_ (b_ 6 9) rfl rfl HT_.out ?_ ?_ ?_ ?_; rotate_left; intro w'; go_simp; with_reducible rfl; rotate_left; simp only [fr_]; rfl
           refine pu_ 7 24 ?_ #[t_,t_,t_,t_,t_,t_,f_,t_,f_,f_,f_,f_,f_,f_,f_] rfl rfl HT_.out ?_ ?_ ?_ ?_; rotate_left; intro w'; go_simp; with_reducible rfl; rotate_left; simp only [fr_]; rfl
           refine pu_ 8 25 ?_ #[t_,t_,t_,t_,t_,t_,f_,t_,t_,f_,f_,f_,f_,f_,f_] rfl rfl HT_.out ?_ ?_ ?_ ?_; rotate_left; intro w'; go_simp; with_reducible rfl; rotate_left; simp only [fr_]; rfl
           refine pu_ 9 26 ?_ #[t_,t_,t_,t_,t_,t_,f_,t_,t_,t_,f_,f_,f_,f_,f_] rfl rfl HT_.out ?_ ?_ ?_ ?_; rotate_left; intro w'; go_simp; with_reducible rfl; rotate_left; simp only [fr_]; rfl
           refine pu_ 10 27 ?_ #[t_,t_,t_,t_,t_,t_,f_,t_,t_,t_,t_,f_,f_,f_,f_] rfl rfl HT_.out ?_ ?_ ?_ ?_; rotate_left; intro w'; go_simp; with_reducible rfl; rotate_left; simp only [fr_]; rfl
           refine pu_ 11 28 ?_ #[t_,t_,t_,t_,t_,t_,f_,t_,t_,t_,t_,t_,f_,f_,f_] rfl rfl HT_.out ?_ ?_ ?_ ?_; rotate_left; intro w'; go_simp; with_reducible rfl; rotate_left; simp only [fr_]; rfl
           refine take_ (i := 6) (N := some 23) (v := ?_) (a' := ?_) #[t_,t_,t_,t_,t_,t_,t_,t_,t_,t_,t_,t_,f_,f_,f_] rfl rfl (take_ofW HT_.out HW_.out (by kernel_rfl)) (fun _ _ _ h => h) (Or.inl ⟨by rfl, ?_⟩) hHeld ?_ ?_
           rotate_left
           ·
            rintro w' ⟨s0, s1, s2, s3⟩
            go_simp
            with_reducible rfl
           rotate_left
           ·
            simp only [fr_]
            rfl
           refine take_ (i := 12) (N := some 29) (v := ?_) (a' := ?_) #[t_,t_,t_,t_,t_,t_,t_,t_,t_,t_,t_,t_,t_,f_,f_] rfl rfl (take_ofW HT_.out HW_.out (by kernel_rfl)) (fun _ _ _ h => h) (Or.inl ⟨by rfl, ?_⟩) hHeld ?_ ?_
           rotate_left
           ·
            rintro w' ⟨s0, s1, s2, s3⟩
            go_simp
            with_reducible rfl
           rotate_left
           ·
            simp only [fr_]
            rfl
           refine one_ (i := 13) (N := some 30) #[t_,t_,t_,t_,t_,t_,t_,t_,t_,t_,t_,t_,t_,t_,f_] rfl rfl (one_of HT_.out (by kernel_rfl)) (by decide) (fun K hK => ?_)
           refine goes_ Try.func14 (by kernel_rfl) rfl #[.agg #[.int .i64 ((rd_T25 x5_1 x6_1).f0), .int .i64 ((rd_T25 x5_1 x6_1).f1)], .agg #[.int .i64 ((rd_T25 x5_1 (ji19)).f0), .int .i64 ((rd_T25 x5_1 (ji19)).f1)]] (by rfl) rfl rfl (by (try simp only [mp_]); first | done | (simp only [hji19]; rfl) | rfl | (simp only [List.length_drop, List.length_take]; rfl)) ?_
           with_reducible refine (spec_Before.calls ((rd_T25 x5_1 x6_1).f0) ((rd_T25 x5_1 x6_1).f1) ((rd_T25 x5_1 (ji19)).f0) ((rd_T25 x5_1 (ji19)).f1) true _ A22.out).mono ?_
           rintro e w27 ⟨rfl, hb⟩
           have HS0_ := (hb.cell (World.block_lt_of_cell? _ _ (hHeld.1))).trans (hHeld.1)
           have HS1_ := (hb.cell (World.block_lt_of_cell? _ _ (hHeld.2.1))).trans (hHeld.2.1)
           have HS2_ := (hb.cell (World.block_lt_of_cell? _ _ (hHeld.2.2.1))).trans (hHeld.2.2.1)
           have HS3_ := (hb.cell (World.block_lt_of_cell? _ _ (hHeld.2.2.2))).trans (hHeld.2.2.2)
           refine ⟨_, rfl, ?_⟩
           have n0_ := Aside0.mk (Kd.R_below (rp_ HO_5.out) hb)
           have n1_ := Aside0.mk (bb_ BK154.out hb)
           have n2_ := Aside0.mk (below_step (by repeat (first | (with_reducible first | exact HB.out | apply ba_ | apply bn_ | apply bd_ | refine below_set ?_ GE154.out) | exact HB.out)) hb)
           clear HO_5 BK154 HB
           have HO_5 := n0_
           have BK154 := n1_
           have HB := n2_
           clear n0_ n1_ n2_
           (try clear hb)
           (try clear hb2)
           (try clear hk)
           (try clear hi)
           refine hK.out _ _ ⟨HS0_, HS1_, HS2_, HS3_⟩ (fun hHeld => ?_)
           clear hK K
           refine norm_ (a' := ?_) ?_ ?_
           rotate_left
           ·
            show Act.put _ (some 30) _ = _
            simp only [fr_]
            rfl
           refine pu_ 14 31 ?_ (b_ 15 0) rfl rfl HT_.out ?_ ?_ ?_ ?_; rotate_left; intro w'; go_simp; with_reducible rfl; rotate_left; simp only [fr_]; rfl
           refine done_ (done_of HT_.out (by kernel_rfl)) ?_
           have p170 : 0 ≤ (x6_1 : Int) := of_decide_eq_true (by with_reducible assumption)
           have q170 : x6_1 < (x5_1.length : Int) := of_decide_eq_true (by with_reducible assumption)
           obtain ⟨ad170, e170, hx170_0, hx170_1⟩ := at_T25 (Kd.R_reads' HO_5.out).2.2 x6_1 p170 q170
           obtain rfl : ad167 = ad170 := (by injection e170)
           replace p170 := eq_true p170
           replace q170 := eq_true q170
           try go_wp2_with (first | ((with_reducible refine gate_dst (N := 7) rfl ?_); refine box_event ?hg (N := 7) ?hd (cs := #[.int .i64 0, .int .i64 0]) (t := 25) ?hr ?_; (case hd => rfl); (case hg => rfl); (case hr => first | (go_simp; done) | (go_simp; rfl)); intro gb171 hg w28 hbox hb; have n0_ := Aside0.mk (Kd.R_below (Kd.R_elderB (rp_ HO_5.out) gb171 (Nat.le_of_eq hg.symm)) hb); have n1_ := Aside0.mk (bb_ BK154.out hb); have n2_ := Aside0.mk (below_step (by repeat (first | (with_reducible first | exact HB.out | apply ba_ | apply bn_ | apply bd_ | refine below_set ?_ GE154.out) | exact HB.out)) hb); have n3_ := Aside0.mk (hbox); have n4_ := Aside0.mk ((by rw [hg]; exact (below_size (by repeat (first | (with_reducible first | exact HB.out | apply ba_ | apply bn_ | apply bd_ | refine below_set ?_ GE154.out) | exact HB.out))) : w.heap.size ≤ gb171)); have n5_ := n4_; have n6_ := Aside0.mk (nl_ BK154.out hg); have n7_ := Aside0.mk (n6_.out.symm); clear HO_5 BK154 HB; have HO_5 := n0_; have BK154 := n1_; have HB := n2_; have BK171 := n3_; have GW171 := n4_; have GE171 := n5_; have NB154_171 := n6_; have NB171_154 := n7_; clear n0_ n1_ n2_ n3_ n4_ n5_ n6_ n7_; clear hb hbox hg; have hnb29 := NB171_154.out; have hnc29 := NB154_171.out; obtain ⟨hcz30_0, hcz30_1, hfz30_0, hfz30_1⟩ := bc2_ BK171.out) | ((with_reducible refine gate_store (t := 25) (p := 7) rfl ?_); refine store_event (t := 25) (p := 7) (v := ?vo_w31) (w1 := ((w28.setCell ⟨gb171, 0, none⟩ (.int .i64 ((rd_T25 x5_1 x6_1).f0))).setCell ⟨gb171, 1, none⟩ (.int .i64 ((rd_T25 x5_1 x6_1).f1)))) ?hg ?ho ?hn ?hr ?_; (case ho => rfl); (case hg => rfl); (case hn => rfl); (case hr => first | (go_simp; done) | (go_simp; rfl)); intro w31 hw; have n0_ : Aside0 (Kd.R k25 25 w31 w.heap.size (fun k_ => k_ ≠ gb154 ∧ k_ ≠ gb171) (.slice (some ad167) x5_1.length co15) x5_1) := ⟨(by rw [hw]; exact (by (with_reducible repeat (first | apply Kd.R_alloc | apply Kd.R_drewN | apply Kd.R_drew)); exact Kd.R_mono (Kd.R_far (p := ⟨gb171, 1, none⟩) (Kd.R_far (p := ⟨gb171, 0, none⟩) (Kd.R_mono HO_5.out (fun k_ hk => (⟨hk, hk.2⟩ : _ ∧ k_ ≠ gb171))) (fun _ hk => hk.2) (.int .i64 ((rd_T25 x5_1 x6_1).f0))) (fun _ hk => hk.2) (.int .i64 ((rd_T25 x5_1 x6_1).f1))) (fun _ hk => ⟨hk.1.1, hk.1.2⟩)))⟩; have n1_ : Aside0 (w31.heap[gb154]? = some (.cells #[.int .i64 x155000_1, .int .i64 x155001_1] 25 (0, 0))) := ⟨(by rw [hw]; exact (by (with_reducible repeat (first | refine kn_ ?_ _ | refine kd_ ?_ | refine ka_ ?_ _)); refine blk_far ?_ NB154_171.out _; (with_reducible repeat (first | refine kn_ ?_ _ | refine kd_ ?_ | refine ka_ ?_ _)); refine blk_far ?_ NB154_171.out _; (with_reducible repeat (first | refine kn_ ?_ _ | refine kd_ ?_ | refine ka_ ?_ _)); exact BK154.out))⟩; have n2_ : Aside0 (w31.heap[gb171]? = some (.cells #[.int .i64 ((rd_T25 x5_1 x6_1).f0), .int .i64 ((rd_T25 x5_1 x6_1).f1)] 25 (0, 0))) := ⟨(by rw [hw]; exact (by (with_reducible repeat (first | refine kn_ ?_ _ | refine kd_ ?_ | refine ka_ ?_ _)); refine blk_put (cs := #[.int .i64 ((rd_T25 x5_1 x6_1).f0), .int .i64 0]) ?_ 1 _ rfl; (with_reducible repeat (first | refine kn_ ?_ _ | refine kd_ ?_ | refine ka_ ?_ _)); refine blk_put (cs := #[.int .i64 0, .int .i64 0]) ?_ 0 _ rfl; (with_reducible repeat (first | refine kn_ ?_ _ | refine kd_ ?_ | refine ka_ ?_ _)); exact BK171.out))⟩; have n3_ : Aside0 (Below w.heap.size w w31) := ⟨(by rw [hw]; exact (by repeat (first | (with_reducible first | exact HB.out | apply ba_ | apply bn_ | apply bd_ | refine below_set ?_ GE154.out | refine below_set ?_ GE171.out) | exact HB.out)))⟩; clear hw HO_5 BK154 BK171 HB; have HO_5 := n0_; have BK154 := n1_; have BK171 := n2_; have HB := n3_; clear n0_ n1_ n2_ n3_; have p172 : 0 ≤ ((ji19) : Int) := of_decide_eq_true (by with_reducible assumption); have q172 : (ji19) < (x5_1.length : Int) := of_decide_eq_true (by with_reducible assumption); obtain ⟨ad172, e172, hx172_0, hx172_1⟩ := at_T25 (Kd.R_reads' HO_5.out).2.2 (ji19) p172 q172; obtain rfl : ad167 = ad172 := (by injection e172); replace p172 := eq_true p172; replace q172 := eq_true q172; have p24 : 0 ≤ (x6_1 : Int) := of_decide_eq_true (by with_reducible assumption); have q24 : (x6_1 : Int) < ((x5_1.length : Int) : Int) := of_decide_eq_true (by with_reducible assumption); obtain ⟨go24, co24, eo24, gb24, gl24, cl24, HG24⟩ := Kd.R_form HO_5.out (by omega); (first | cases eo24 | (injection eo24 with ea_ en_ ec_; (first | subst ea_ | (injection ea_ with ea_; subst ea_)); subst ec_; clear en_)); have GB24 := Aside0.mk gb24; have GG24 := Aside0.mk HG24; clear gb24 gl24 HG24; (first | simp only [add_plain] at hx167_0 | skip); (first | simp only [add_plain] at hx167_1 | skip); (first | simp only [add_plain] at hx168_0 | skip); (first | simp only [add_plain] at hx168_1 | skip); (first | simp only [add_plain] at hx170_0 | skip); (first | simp only [add_plain] at hx170_1 | skip); (first | simp only [add_plain] at hx172_0 | skip); (first | simp only [add_plain] at hx172_1 | skip); obtain ⟨ce24, hcl24, hM24, hcc24, hfr24⟩ := Kd.R_elem HO_5.out z25 (x6_1 : Int) p24 q24; obtain rfl := k25_openM hM24; have hx24_0 : w31.cell? ⟨go24, (x6_1 : Int).toNat * 2, none⟩ = some (.int .i64 ((rd_T25 x5_1 x6_1).f0)) := hcc24 0 _ rfl; have hx24_1 : w31.cell? ⟨go24, (x6_1 : Int).toNat * 2 + 1, none⟩ = some (.int .i64 ((rd_T25 x5_1 x6_1).f1)) := hcc24 1 _ rfl; have hf24_0 : w31.frozen? ⟨go24, (x6_1 : Int).toNat * 2, none⟩ = false := hfr24 0; have hf24_1 : w31.frozen? ⟨go24, (x6_1 : Int).toNat * 2 + 1, none⟩ = false := hfr24 1; clear hcl24 hcc24 hfr24 hM24; replace p24 := eq_true p24; replace q24 := eq_true q24; have HX32 := Aside0.mk (show Kd.R k25 25 w31 w.heap.size (fun k_ => k_ ≠ gb154 ∧ k_ ≠ gb171) (.slice (some ⟨go24, 0, none⟩) x5_1.length co15) x5_1 from (rp_ HO_5.out)); obtain ⟨ce32, hcl32, hM32, hcc32, hfr32⟩ := Kd.R_elem HX32.out z25 (x6_1 : Int) (of_decide_eq_true (by with_reducible assumption)) (by have h_ : (x6_1 : Int) < ((x5_1.length : Int) : Int) := of_decide_eq_true (by with_reducible assumption); first | exact h_ | (have e_ := (Kd.R_reads' HO_5.out).1; omega) | simpa using h_); obtain rfl := k25_openM hM32; have HP32 := Kd.R_seg HX32.out (x6_1 : Int) (of_decide_eq_true (by with_reducible assumption)) (by have h_ : (x6_1 : Int) < ((x5_1.length : Int) : Int) := of_decide_eq_true (by with_reducible assumption); first | exact h_ | (have e_ := (Kd.R_reads' HO_5.out).1; omega) | simpa using h_) (seg := [.int .i64 ((rd_T25 x5_1 (ji19)).f0), .int .i64 ((rd_T25 x5_1 (ji19)).f1)]) (j := 0) hcl32 hcc32 (show 2 ≤ 2 from by decide) (x' := (⟨(rd_T25 x5_1 (ji19)).f0, (rd_T25 x5_1 (ji19)).f1⟩ : S25)) (k25_mkM _ _ _ (⟨(rd_T25 x5_1 (ji19)).f0, (rd_T25 x5_1 (ji19)).f1⟩ : S25) ) (fun _ hk => hk); have hx32_0 := hcc32 0 _ rfl; (try simp only [show (k25).sz = 2 from rfl, Nat.mul_one, Nat.add_zero] at hx32_0); have hf32_0 := hfr32 0; (try simp only [show (k25).sz = 2 from rfl, Nat.mul_one, Nat.add_zero] at hf32_0); have hx32_1 := hcc32 1 _ rfl; (try simp only [show (k25).sz = 2 from rfl, Nat.mul_one, Nat.add_zero] at hx32_1); have hf32_1 := hfr32 1; (try simp only [show (k25).sz = 2 from rfl, Nat.mul_one, Nat.add_zero] at hf32_1); clear hcl32 hcc32 hfr32 hM32) | ((with_reducible refine gate_store (t := 25) (p := 47) rfl ?_); refine store_event (t := 25) (p := 47) (v := ?vo_w33) (w1 := ((w31.setCell ⟨go24, (x6_1 : Int).toNat * 2, none⟩ (.int .i64 ((rd_T25 x5_1 (ji19)).f0))).setCell ⟨go24, (x6_1 : Int).toNat * 2 + 1, none⟩ (.int .i64 ((rd_T25 x5_1 (ji19)).f1)))) ?hg ?ho ?hn ?hr ?_; (case ho => rfl); (case hg => rfl); (case hn => rfl); (case hr => first | (go_simp; done) | (go_simp; rfl)); intro w33 hw; have hg : w31.grownBy w33 (some go24) := (by rw [hw]; exact HP32.2); have hp_ : Kd.R k25 25 w33 w.heap.size (fun k_ => k_ ≠ gb154 ∧ k_ ≠ gb171) (.slice (some ⟨go24, 0, none⟩) x5_1.length co15) y173 := (by rw [hw, Ny173.out]; exact HP32.1); clear HP32; have n0_ := Aside0.mk (hp_); have n1_ := Aside0.mk (blk_grown (g := gb154) (o := .cells #[.int .i64 x155000_1, .int .i64 x155001_1] 25 (0, 0)) (pb_ BK154.out) hg (Kd.R_away HO_5.out (fun _ hk => hk.1))); have n2_ := Aside0.mk (blk_grown (g := gb171) (o := .cells #[.int .i64 ((rd_T25 x5_1 x6_1).f0), .int .i64 ((rd_T25 x5_1 x6_1).f1)] 25 (0, 0)) (pb_ BK171.out) hg (Kd.R_away HO_5.out (fun _ hk => hk.2))); have n3_ := Aside0.mk ((by rw [hw]; exact below_set (below_set (HB.out) GB24.out) GB24.out : Below w.heap.size w w33)); clear HO_5 BK154 BK171 HB; have HO_5 := n0_; have BK154 := n1_; have BK171 := n2_; have HB := n3_; clear n0_ n1_ n2_ n3_; clear hg hw hp_; obtain ⟨hcz34_0, hcz34_1, hfz34_0, hfz34_1⟩ := bc2_ BK171.out; have p25 : 0 ≤ ((ji19) : Int) := of_decide_eq_true (by with_reducible assumption); have q25 : ((ji19) : Int) < ((x5_1.length : Int) : Int) := of_decide_eq_true (by with_reducible assumption); obtain ⟨ce25, hcl25, hM25, hcc25, hfr25⟩ := Kd.R_elem HO_5.out z25 ((ji19) : Int) p25 q25; obtain rfl := k25_openM hM25; have hx25_0 : w33.cell? ⟨go24, ((ji19) : Int).toNat * 2, none⟩ = some (.int .i64 ((rd_T25 y173 (ji19)).f0)) := hcc25 0 _ rfl; have hx25_1 : w33.cell? ⟨go24, ((ji19) : Int).toNat * 2 + 1, none⟩ = some (.int .i64 ((rd_T25 y173 (ji19)).f1)) := hcc25 1 _ rfl; have hf25_0 : w33.frozen? ⟨go24, ((ji19) : Int).toNat * 2, none⟩ = false := hfr25 0; have hf25_1 : w33.frozen? ⟨go24, ((ji19) : Int).toNat * 2 + 1, none⟩ = false := hfr25 1; clear hcl25 hcc25 hfr25 hM25; replace p25 := eq_true p25; replace q25 := eq_true q25; have HX35 := Aside0.mk (show Kd.R k25 25 w33 w.heap.size (fun k_ => k_ ≠ gb154 ∧ k_ ≠ gb171) (.slice (some ⟨go24, 0, none⟩) x5_1.length co15) y173 from (rp_ HO_5.out)); obtain ⟨ce35, hcl35, hM35, hcc35, hfr35⟩ := Kd.R_elem HX35.out z25 ((ji19) : Int) (of_decide_eq_true (by with_reducible assumption)) (by have h_ : ((ji19) : Int) < ((x5_1.length : Int) : Int) := of_decide_eq_true (by with_reducible assumption); first | exact h_ | (have e_ := (Kd.R_reads' HO_5.out).1; omega) | simpa using h_); obtain rfl := k25_openM hM35; have HP35 := Kd.R_seg HX35.out ((ji19) : Int) (of_decide_eq_true (by with_reducible assumption)) (by have h_ : ((ji19) : Int) < ((x5_1.length : Int) : Int) := of_decide_eq_true (by with_reducible assumption); first | exact h_ | (have e_ := (Kd.R_reads' HO_5.out).1; omega) | simpa using h_) (seg := [.int .i64 ((rd_T25 x5_1 x6_1).f0), .int .i64 ((rd_T25 x5_1 x6_1).f1)]) (j := 0) hcl35 hcc35 (show 2 ≤ 2 from by decide) (x' := (⟨(rd_T25 x5_1 x6_1).f0, (rd_T25 x5_1 x6_1).f1⟩ : S25)) (k25_mkM _ _ _ (⟨(rd_T25 x5_1 x6_1).f0, (rd_T25 x5_1 x6_1).f1⟩ : S25) ) (fun _ hk => hk); have hx35_0 := hcc35 0 _ rfl; (try simp only [show (k25).sz = 2 from rfl, Nat.mul_one, Nat.add_zero] at hx35_0); have hf35_0 := hfr35 0; (try simp only [show (k25).sz = 2 from rfl, Nat.mul_one, Nat.add_zero] at hf35_0); have hx35_1 := hcc35 1 _ rfl; (try simp only [show (k25).sz = 2 from rfl, Nat.mul_one, Nat.add_zero] at hx35_1); have hf35_1 := hfr35 1; (try simp only [show (k25).sz = 2 from rfl, Nat.mul_one, Nat.add_zero] at hf35_1); clear hcl35 hcc35 hfr35 hM35) | ((with_reducible refine gate_store (t := 25) (p := 53) rfl ?_); refine store_event (t := 25) (p := 53) (v := ?vo_w36) (w1 := ((w33.setCell ⟨go24, ((ji19) : Int).toNat * 2, none⟩ (.int .i64 ((rd_T25 x5_1 x6_1).f0))).setCell ⟨go24, ((ji19) : Int).toNat * 2 + 1, none⟩ (.int .i64 ((rd_T25 x5_1 x6_1).f1)))) ?hg ?ho ?hn ?hr ?_; (case ho => rfl); (case hg => rfl); (case hn => rfl); (case hr => first | (go_simp; done) | (go_simp; rfl)); intro w36 hw; have hg : w33.grownBy w36 (some go24) := (by rw [hw]; exact HP35.2); have hp_ : Kd.R k25 25 w36 w.heap.size (fun k_ => k_ ≠ gb154 ∧ k_ ≠ gb171) (.slice (some ⟨go24, 0, none⟩) x5_1.length co15) y174 := (by rw [hw, Ny174.out]; exact HP35.1); clear HP35; have n0_ := Aside0.mk (hp_); have n1_ := Aside0.mk (blk_grown (g := gb154) (o := .cells #[.int .i64 x155000_1, .int .i64 x155001_1] 25 (0, 0)) (pb_ BK154.out) hg (Kd.R_away HO_5.out (fun _ hk => hk.1))); have n2_ := Aside0.mk (blk_grown (g := gb171) (o := .cells #[.int .i64 ((rd_T25 x5_1 x6_1).f0), .int .i64 ((rd_T25 x5_1 x6_1).f1)] 25 (0, 0)) (pb_ BK171.out) hg (Kd.R_away HO_5.out (fun _ hk => hk.2))); have n3_ := Aside0.mk ((by rw [hw]; exact below_set (below_set (HB.out) GB24.out) GB24.out : Below w.heap.size w w36)); clear HO_5 BK154 BK171 HB; have HO_5 := n0_; have BK154 := n1_; have BK171 := n2_; have HB := n3_; clear n0_ n1_ n2_ n3_; clear hg hw hp_))
           (try simp only [← hl5_1])
           go_roundg k1
           case measure => have := HK1.out; omega
           case rel => exact ⟨(y174), (ji19), (x155000_1), (x155001_1), (by first | rfl | (simp; done) | (simp only [← hji19] <;> (first | rfl | simp)) | (simp [*]; done)), H', ⟨by have := HK1.out; omega⟩, ⟨by (try simp only [hl5_1]); (with_reducible repeat (first | apply Kd.R_alloc | apply Kd.R_drewN | apply Kd.R_drew)); exact Kd.R_mono HO_5.out (fun _ hk => hk.1)⟩, ⟨by (try simp only [hl5_1]); (with_reducible repeat (first | refine kn_ ?_ _ | refine kd_ ?_ | refine ka_ ?_ _)); exact BK154.out⟩, ⟨by repeat (first | (with_reducible first | exact HB.out | apply ba_ | apply bn_ | apply bd_ | refine below_set ?_ GE154.out | refine below_set ?_ GE171.out) | exact HB.out)⟩⟩
          replace c23 := Bool.eq_false_iff.mpr c23
          subst c23
          rw [if_neg (show ¬ (false = true) by decide)] at H
          obtain rfl := Option.some.inj H
          try go_wp2
          have n0_ := Aside0.mk (Kd.R_drew HO_5.out)
          have n1_ := Aside0.mk (blk_drew BK154.out)
          have n2_ := Aside0.mk (bd_ HB.out)
          clear HO_5 BK154 HB
          have HO_5 := n0_
          have BK154 := n1_
          have HB := n2_
          clear n0_ n1_ n2_
          have p167 : 0 ≤ (x6_1 : Int) := of_decide_eq_true (by with_reducible assumption)
          have q167 : x6_1 < (x5_1.length : Int) := of_decide_eq_true (by with_reducible assumption)
          obtain ⟨ad167, e167, hx167_0, hx167_1⟩ := at_T25 (Kd.R_reads' HO_5.out).2.2 x6_1 p167 q167
          cases e167
          replace p167 := eq_true p167
          replace q167 := eq_true q167
          have p168 : 0 ≤ ((ji19) : Int) := of_decide_eq_true (by with_reducible assumption)
          have q168 : (ji19) < (x5_1.length : Int) := of_decide_eq_true (by with_reducible assumption)
          obtain ⟨ad168, e168, hx168_0, hx168_1⟩ := at_T25 (Kd.R_reads' HO_5.out).2.2 (ji19) p168 q168
          obtain rfl : ad167 = ad168 := (by injection e168)
          replace p168 := eq_true p168
          replace q168 := eq_true q168
          refine start_ (n := 15) (S := fun w' => w'.cell? (ad167.add ((x6_1).toNat * 2)) = some (.int .i64 ((rd_T25 x5_1 x6_1).f0)) ∧ w'.cell? ⟨(ad167.add ((x6_1).toNat * 2)).block, (ad167.add ((x6_1).toNat * 2)).off + 1, none⟩ = some (.int .i64 ((rd_T25 x5_1 x6_1).f1)) ∧ w'.cell? (ad167.add (((ji19)).toNat * 2)) = some (.int .i64 ((rd_T25 x5_1 (ji19)).f0)) ∧ w'.cell? ⟨(ad167.add (((ji19)).toNat * 2)).block, (ad167.add (((ji19)).toNat * 2)).off + 1, none⟩ = some (.int .i64 ((rd_T25 x5_1 (ji19)).f1))) (ds := []) #[f_,f_,f_,f_,f_,f_,f_,f_,f_,f_,f_,f_,f_,f_,f_] (by kernel_rfl) rfl rfl ⟨hx167_0, hx167_1, hx168_0, hx168_1⟩ (fun hHeld => ?_); refine with_tabW spec_HeapPut.tab3 spec_HeapPut.bits3 (fun HT_ HW_ => ?_)
          generalize wr.drew = w37 at HO_5 BK154 HB hx167_0 hx167_1 hx168_0 hx168_1 hHeld ⊢
          refine pu_ 0 17 ?_ (b_ 1 14) rfl rfl HT_.out ?_ ?_ ?_ ?_; rotate_left; intro w'; go_simp; with_reducible rfl; rotate_left; simp only [fr_]; rfl
          refine pu_ 1 18 ?_ (b_ 2 13) rfl rfl HT_.out ?_ ?_ ?_ ?_; rotate_left; intro w'; go_simp; with_reducible rfl; rotate_left; simp only [fr_]; rfl
          refine pu_ 2 19 ?_ (b_ 3 12) rfl rfl HT_.out ?_ ?_ ?_ ?_; rotate_left; intro w'; go_simp; with_reducible rfl; rotate_left; simp only [fr_]; rfl
          refine pu_ 3 20 ?_ (b_ 4 11) rfl rfl HT_.out ?_ ?_ ?_ ?_; rotate_left; intro w'; go_simp; with_reducible rfl; rotate_left; simp only [fr_]; rfl
          refine pu_ 4 21 ?_ (b_ 5 10) rfl rfl HT_.out ?_ ?_ ?_ ?_; rotate_left; intro w'; go_simp; with_reducible rfl; rotate_left; simp only [fr_]; rfl
          refine pu_ 5 22 ?_ (b_ 6 9) rfl rfl HT_.out ?_ ?_ ?_ ?_; rotate_left; intro w'; go_simp; with_reducible rfl; rotate_left; simp only [fr_]; rfl
          refine pu_ 7 24 ?_ #[t_,t_,t_,t_,t_,t_,f_,t_,f_,f_,f_,f_,f_,f_,f_] rfl rfl HT_.out ?_ ?_ ?_ ?_; rotate_left; intro w'; go_simp; with_reducible rfl; rotate_left; simp only [fr_]; rfl
          refine pu_ 8 25 ?_ #[t_,t_,t_,t_,t_,t_,f_,t_,t_,f_,f_,f_,f_,f_,f_] rfl rfl HT_.out ?_ ?_ ?_ ?_; rotate_left; intro w'; go_simp; with_reducible rfl; rotate_left; simp only [fr_]; rfl
          refine pu_ 9 26 ?_ #[t_,t_,t_,t_,t_,t_,f_,t_,t_,t_,f_,f_,f_,f_,f_] rfl rfl HT_.out ?_ ?_ ?_ ?_; rotate_left; intro w'; go_simp; with_reducible rfl; rotate_left; simp only [fr_]; rfl
          refine pu_ 10 27 ?_ #[t_,t_,t_,t_,t_,t_,f_,t_,t_,t_,t_,f_,f_,f_,f_] rfl rfl HT_.out ?_ ?_ ?_ ?_; rotate_left; intro w'; go_simp; with_reducible rfl; rotate_left; simp only [fr_]; rfl
          refine pu_ 11 28 ?_ #[t_,t_,t_,t_,t_,t_,f_,t_,t_,t_,t_,t_,f_,f_,f_] rfl rfl HT_.out ?_ ?_ ?_ ?_; rotate_left; intro w'; go_simp; with_reducible rfl; rotate_left; simp only [fr_]; rfl
          refine take_ (i := 6) (N := some 23) (v := ?_) (a' := ?_) #[t_,t_,t_,t_,t_,t_,t_,t_,t_,t_,t_,t_,f_,f_,f_] rfl rfl (take_ofW HT_.out HW_.out (by kernel_rfl)) (fun _ _ _ h => h) (Or.inl ⟨by rfl, ?_⟩) hHeld ?_ ?_
          rotate_left
          ·
           rintro w' ⟨s0, s1, s2, s3⟩
           go_simp
           with_reducible rfl
          rotate_left
          ·
           simp only [fr_]
           rfl
          refine take_ (i := 12) (N := some 29) (v := ?_) (a' := ?_) #[t_,t_,t_,t_,t_,t_,t_,t_,t_,t_,t_,t_,t_,f_,f_] rfl rfl (take_ofW HT_.out HW_.out (by kernel_rfl)) (fun _ _ _ h => h) (Or.inl ⟨by rfl, ?_⟩) hHeld ?_ ?_
          rotate_left
          ·
           rintro w' ⟨s0, s1, s2, s3⟩
           go_simp
           with_reducible rfl
          rotate_left
          ·
           simp only [fr_]
           rfl
          refine one_ (i := 13) (N := some 30) #[t_,t_,t_,t_,t_,t_,t_,t_,t_,t_,t_,t_,t_,t_,f_] rfl rfl (one_of HT_.out (by kernel_rfl)) (by decide) (fun K hK => ?_)
          refine goes_ Try.func14 (by kernel_rfl) rfl #[.agg #[.int .i64 ((rd_T25 x5_1 x6_1).f0), .int .i64 ((rd_T25 x5_1 x6_1).f1)], .agg #[.int .i64 ((rd_T25 x5_1 (ji19)).f0), .int .i64 ((rd_T25 x5_1 (ji19)).f1)]] (by rfl) rfl rfl (by (try simp only [mp_]); first | done | (simp only [hji19]; rfl) | rfl | (simp only [List.length_drop, List.length_take]; rfl)) ?_
          with_reducible refine (spec_Before.calls ((rd_T25 x5_1 x6_1).f0) ((rd_T25 x5_1 x6_1).f1) ((rd_T25 x5_1 (ji19)).f0) ((rd_T25 x5_1 (ji19)).f1) false _ A22.out).mono ?_
          rintro e w38 ⟨rfl, hb⟩
          have HS0_ := (hb.cell (World.block_lt_of_cell? _ _ (hHeld.1))).trans (hHeld.1)
          have HS1_ := (hb.cell (World.block_lt_of_cell? _ _ (hHeld.2.1))).trans (hHeld.2.1)
          have HS2_ := (hb.cell (World.block_lt_of_cell? _ _ (hHeld.2.2.1))).trans (hHeld.2.2.1)
          have HS3_ := (hb.cell (World.block_lt_of_cell? _ _ (hHeld.2.2.2))).trans (hHeld.2.2.2)
          refine ⟨_, rfl, ?_⟩
          have n0_ := Aside0.mk (Kd.R_below (rp_ HO_5.out) hb)
          have n1_ := Aside0.mk (bb_ BK154.out hb)
          have n2_ := Aside0.mk (below_step (by repeat (first | (with_reducible first | exact HB.out | apply ba_ | apply bn_ | apply bd_ | refine below_set ?_ GE154.out) | exact HB.out)) hb)
          clear HO_5 BK154 HB
          have HO_5 := n0_
          have BK154 := n1_
          have HB := n2_
          clear n0_ n1_ n2_
          (try clear hb)
          (try clear hb2)
          (try clear hk)
          (try clear hi)
          refine hK.out _ _ ⟨HS0_, HS1_, HS2_, HS3_⟩ (fun hHeld => ?_)
          clear hK K
          refine norm_ (a' := ?_) ?_ ?_
          rotate_left
          ·
           show Act.put _ (some 30) _ = _
           simp only [fr_]
           rfl
          refine pu_ 14 31 ?_ (b_ 15 0) rfl rfl HT_.out ?_ ?_ ?_ ?_; rotate_left; intro w'; go_simp; with_reducible rfl; rotate_left; simp only [fr_]; rfl
          refine done_ (done_of HT_.out (by kernel_rfl)) ?_
          try go_wp2
          go_ret
          exact ⟨_, by first | rfl | (simp [errW_none, errW_some] <;> rfl) | (simp only [← hji19]; first | rfl | (simp [errW_none, errW_some] <;> rfl)) | (simp [*, errW_none, errW_some] <;> rfl), by (with_reducible repeat (first | apply Kd.R_alloc | apply Kd.R_drewN | apply Kd.R_drew)); exact Kd.R_mono HO_5.out (fun _ hk => trivial), by repeat (first | (with_reducible first | exact HB.out | apply ba_ | apply bn_ | apply bd_ | refine below_set ?_ GE154.out) | exact HB.out)⟩
         rw [if_neg c21] at H
         exact absurd H (by simp)
        rw [if_neg c20] at H
        exact absurd H (by simp)
       rw [if_neg c18] at H
       exact absurd H (by simp)
      rw [if_neg c17] at H
      exact absurd H (by simp)
     rw [if_neg c16] at H
     have c16b0 : decide (0 < x6_1) = false := decide_eq_false c16
     clear c16
     obtain rfl := Option.some.inj H
     try go_wp2
     have n0_ := Aside0.mk (Kd.R_drew HO_5.out)
     have n1_ := Aside0.mk (blk_drew BK154.out)
     have n2_ := Aside0.mk (bd_ HB.out)
     clear HO_5 BK154 HB
     have HO_5 := n0_
     have BK154 := n1_
     have HB := n2_
     clear n0_ n1_ n2_
     refine start_ (n := 15) (S := fun w' => True) (ds := []) #[f_,f_,f_,f_,f_,f_,f_,f_,f_,f_,f_,f_,f_,f_,f_] (by kernel_rfl) rfl rfl trivial (fun hHeld => ?_); refine with_tabW spec_HeapPut.tab3 spec_HeapPut.bits3 (fun HT_ HW_ => ?_)
     generalize wr.drew = w39 at HO_5 BK154 HB hHeld ⊢
     refine pu_ 0 17 ?_ (b_ 1 14) rfl rfl HT_.out ?_ ?_ ?_ ?_; rotate_left; intro w'; go_simp; with_reducible rfl; rotate_left; simp only [fr_]; rfl
     refine pu_ 1 18 ?_ (b_ 2 13) rfl rfl HT_.out ?_ ?_ ?_ ?_; rotate_left; intro w'; go_simp; with_reducible rfl; rotate_left; simp only [fr_]; rfl
     refine pu_ 2 19 ?_ (b_ 3 12) rfl rfl HT_.out ?_ ?_ ?_ ?_; rotate_left; intro w'; go_simp; with_reducible rfl; rotate_left; simp only [fr_]; rfl
     refine pv_ 3 20 ?_ (b_ 4 11) rfl rfl HT_.out ?_ ?_; rotate_left; simp only [fr_]; rfl
     refine pv_ 4 21 ?_ (b_ 5 10) rfl rfl HT_.out ?_ ?_; rotate_left; simp only [fr_]; rfl
     refine pv_ 5 22 ?_ (b_ 6 9) rfl rfl HT_.out ?_ ?_; rotate_left; simp only [fr_]; rfl
     refine pv_ 6 23 ?_ (b_ 7 8) rfl rfl HT_.out ?_ ?_; rotate_left; simp only [fr_]; rfl
     refine pv_ 7 24 ?_ (b_ 8 7) rfl rfl HT_.out ?_ ?_; rotate_left; simp only [fr_]; rfl
     refine pv_ 8 25 ?_ (b_ 9 6) rfl rfl HT_.out ?_ ?_; rotate_left; simp only [fr_]; rfl
     refine pv_ 9 26 ?_ (b_ 10 5) rfl rfl HT_.out ?_ ?_; rotate_left; simp only [fr_]; rfl
     refine pv_ 10 27 ?_ (b_ 11 4) rfl rfl HT_.out ?_ ?_; rotate_left; simp only [fr_]; rfl
     refine pv_ 11 28 ?_ (b_ 12 3) rfl rfl HT_.out ?_ ?_; rotate_left; simp only [fr_]; rfl
     refine pv_ 12 29 ?_ (b_ 13 2) rfl rfl HT_.out ?_ ?_; rotate_left; simp only [fr_]; rfl
     refine pv_ 13 30 ?_ (b_ 14 1) rfl rfl HT_.out ?_ ?_; rotate_left; simp only [fr_]; rfl
     refine pu_ 14 31 ?_ (b_ 15 0) rfl rfl HT_.out ?_ ?_ ?_ ?_; rotate_left; intro w'; go_simp; with_reducible rfl; rotate_left; simp only [fr_]; rfl
     refine done_ (done_of HT_.out (by kernel_rfl)) ?_
     try go_wp2
     go_ret
     exact ⟨_, by first | rfl | (simp [errW_none, errW_some] <;> rfl) | (simp [*, errW_none, errW_some] <;> rfl), by (with_reducible repeat (first | apply Kd.R_alloc | apply Kd.R_drewN | apply Kd.R_drew)); exact Kd.R_mono HO_5.out (fun _ hk => trivial), by repeat (first | (with_reducible first | exact HB.out | apply ba_ | apply bn_ | apply bd_ | refine below_set ?_ GE154.out) | exact HB.out)⟩
  rw [if_neg c4] at H
  exact absurd H (by simp)
 rw [if_neg c3] at H
 exact absurd H (by simp)
end Go.Proofs.Ytkjakmbmnbjpbaa.Print
end
