import Derived.Test.YtfholjcelnkleaaMFnExactGroupOk1
import Derived.Test.YtfholjcelnkleaaMFnExactGroupOk3
section
namespace Go.Proofs.Ytfholjcelnkleaa.Print
open Go.RowKit Go.Proofs.YtfholjcelnkleaaV.PrintWords Go.Proofs.YtfholjcelnkleaaV.PrintLast Go.Proofs.YtfholjcelnkleaaV.PrintMore
attribute [local go_sem] max2_int min2_int max_two min_two max_three min_three max_four min_four   -- for this text's walks alone
set_option linter.unusedVariables false
set_option linter.unusedSimpArgs false

/-! ### impl_keyedOk: function 112 -/
def impl_keyedOk.l0 : Nat → List (S44) → List (S164) → List ByteArray → List (S44) → Int → Int → Option (Bool)
 | 0, _, _, _, _, _, _ => none
 | k + 1, x0, x1, x2, x9, x10, x11 => if x11 < x10 then (if 0 ≤ x11 then (if x11 < (x9.length : Int) then ((impl_AlarmOk.f k ((rd_T44 x9 x11).f0) ((rd_T44 x9 x11).f1) ((rd_T44 x9 x11).f2) ((rd_T44 x9 x11).f3)).bind fun t729 => (if t729 = true then ((impl_KeyOf.f k ((rd_T44 x9 x11).f0) ((rd_T44 x9 x11).f1) ((rd_T44 x9 x11).f2) ((rd_T44 x9 x11).f3) x2).bind fun t730 => ((impl_SameSet.f k t730 x1).bind fun t733 => (if t733 = true then (if x11 > 0 then (if 0 ≤ (wrap64 (x11 - 1)) then (if (wrap64 (x11 - 1)) < (x0.length : Int) then ((impl_SetLess.f k ((rd_T44 x0 (wrap64 (x11 - 1))).f0) ((rd_T44 x9 x11).f0)).bind fun t735 => (if t735 = true then (impl_keyedOk.l0 k x0 x1 x2 x9 x10 (wrap64 (x11 + 1))) else (some false))) else (none)) else (none)) else (impl_keyedOk.l0 k x0 x1 x2 x9 x10 (wrap64 (x11 + 1)))) else (some false)))) else (some false))) else (none)) else (none)) else (some true)
def impl_keyedOk.f (k : Nat) (l0 : List (S44)) (l1 : List (S164)) (l2 : List ByteArray) : Option (Bool) := impl_keyedOk.l0 k l0 l1 l2 l0 (l0.length : Int) 0
theorem impl_keyedOk.mono_l : ∀ k, (∀ y0 y1 y2 y3 y4 y5, LeO (impl_keyedOk.l0 k y0 y1 y2 y3 y4 y5) (impl_keyedOk.l0 (k + 1) y0 y1 y2 y3 y4 y5))
 | 0 => fun _ _ _ _ _ _ r h => by simp [impl_keyedOk.l0] at h
 | k + 1 => by
  have ih0 := impl_keyedOk.mono_l k
  intro y0 y1 y2 y3 y4 y5
  unfold impl_keyedOk.l0
  repeat' first
  | (with_reducible exact ih0 _ _ _ _ _ _)
  | (with_reducible exact impl_AlarmOk.mono _ _ _ _ _)
  | (with_reducible exact impl_KeyOf.mono _ _ _ _ _ _)
  | (with_reducible exact impl_SameSet.mono _ _ _)
  | (with_reducible exact impl_SetLess.mono _ _ _)
  | (with_reducible exact LeO.refl _)
  | (with_reducible exact LeO.none _)
  | (with_reducible refine LeO.ite ?_ ?_)
  | (with_reducible refine LeO.bind ?_ (fun _ => ?_))
  | exact ih0 _ _ _ _ _ _
  | exact impl_AlarmOk.mono _ _ _ _ _
  | exact impl_KeyOf.mono _ _ _ _ _ _
  | exact impl_SameSet.mono _ _ _
  | exact impl_SetLess.mono _ _ _
  | exact LeO.none _
  | refine LeO.ite ?_ ?_
  | refine LeO.bind ?_ (fun _ => ?_)
theorem impl_keyedOk.mono : ∀ a0 a1 a2 k, LeO (impl_keyedOk.f k a0 a1 a2) (impl_keyedOk.f (k + 1) a0 a1 a2) := by
 intro a0 a1 a2 k
 have ih0 := impl_keyedOk.mono_l k
 unfold impl_keyedOk.f
 repeat' first
   | (with_reducible exact ih0 _ _ _ _ _ _)
   | (with_reducible exact impl_AlarmOk.mono _ _ _ _ _)
   | (with_reducible exact impl_KeyOf.mono _ _ _ _ _ _)
   | (with_reducible exact impl_SameSet.mono _ _ _)
   | (with_reducible exact impl_SetLess.mono _ _ _)
   | (with_reducible exact LeO.refl _)
   | (with_reducible exact LeO.none _)
   | (with_reducible refine LeO.ite ?_ ?_)
   | (with_reducible refine LeO.bind ?_ (fun _ => ?_))
   | exact ih0 _ _ _ _ _ _
   | exact impl_AlarmOk.mono _ _ _ _ _
   | exact impl_KeyOf.mono _ _ _ _ _ _
   | exact impl_SameSet.mono _ _ _
   | exact impl_SetLess.mono _ _ _
   | exact LeO.none _
   | refine LeO.ite ?_ ?_
   | refine LeO.bind ?_ (fun _ => ?_)
def impl_keyedOk.T4 : Bool × List (List Nat × List Nat) := (true, [([], []), ([0], [0]), ([1], [1]), ([2, 1], [2]), ([3], [3]), ([3], [3]), ([4, 5, 3, 3], [3, 4, 5]), ([3], [3]), ([6, 7, 6, 3], [3, 6, 7]), ([8, 3], [3, 8]), ([3, 9], [3, 9]), ([10, 8], [10]), ([11], [11]), ([12, 11], [11, 12]), ([13, 11, 11], [11, 13]), ([14], [14]), ([14], [14]), ([16, 14], [14, 16]), ([15, 17, 14], [14, 15, 17]), ([18, 14], [14, 18]), ([19, 14], [14, 19]), ([14], [14]), ([21, 14], [14, 21]), ([20, 22, 14, 14], [14, 20, 22]), ([23, 14], [14, 23]), ([14, 24, 11], [11, 14, 24]), ([11, 25], [11, 25])])
def impl_keyedOk.B4 : List Nat := [0, 1, 3, 7, 15, 15, 63, 15, 255, 511, 1023, 2047, 4095, 8191, 16383, 32767, 32767, 98303, 262143, 524287, 1048575, 32767, 2129919, 8388607, 16777215, 33554431, 67108863]
theorem impl_keyedOk.tab4 : rtab .any (opsOf Try.f112 4) = impl_keyedOk.T4 := by kernel_rfl
theorem impl_keyedOk.bits4 : waitsOk impl_keyedOk.T4.2 impl_keyedOk.B4 = true := by kernel_rfl
set_option maxHeartbeats 8000000 in
set_option maxRecDepth 100000 in
theorem impl_keyedOk.calls (k : Nat) (A0 : Option Addr) (c0 : Nat) (l0 : List (S44)) (A1 : Option Addr) (c1 : Nat) (l1 : List (S164)) (A2 : Option Addr) (c2 : Nat) (l2 : List ByteArray) (r : Bool) (w : World) (hr0 : Kd.C k44 w A0 l0.length l0) (hc0 : l0.length ≤ c0) (hr1 : Kd.C k164 w A1 l1.length l1) (hc1 : l1.length ≤ c1) (hr2 : Kd.C Kd.string w A2 l2.length l2) (hc2 : l2.length ≤ c2) (h : impl_keyedOk.f k l0 l1 l2 = some r) :
  Calls Try.prog 112 #[.slice A0 l0.length c0, .slice A1 l1.length c1, .slice A2 l2.length c2] w fun e w' => e = .returned (.bool r) ∧ Below w.heap.size w w' := by
 have hu44 := Try.underlying44
 have HR0 := Aside0.mk hr0
 have HC0 := Aside0.mk hc0
 clear hr0 hc0
 have HR1 := Aside0.mk hr1
 have HC1 := Aside0.mk hc1
 clear hr1 hc1
 have HR2 := Aside0.mk hr2
 have HC2 := Aside0.mk hc2
 clear hr2 hc2
 have HB := Aside0.mk (Below.refl w.heap.size w)
 have H : (impl_keyedOk.l0 k l0 l1 l2 l0 (l0.length : Int) 0) = some r := h
 clear h
 have H' := Aside0.mk H
 clear H
 go_enter Try.func112, Try.ntmps112
 go_wp2
 go_loopg [11] k (fun kq v11 w' => ∃ (x11_1 : Int), v11 = .int .i64 x11_1 ∧ Aside0 (impl_keyedOk.l0 kq l0 l1 l2 l0 (l0.length : Int) x11_1 = some r) ∧ Aside0 (kq ≤ k) ∧ Aside0 (Below w.heap.size w w'))
 case atStart => exact ⟨(0), (by first | rfl | (simp; done) | (simp [*]; done)), H', ⟨Nat.le_refl _⟩, ⟨by repeat (first | (with_reducible first | exact HB.out | apply below_alloc | apply pw_below_drewN | apply below_drew1) | exact HB.out)⟩⟩
 case round =>
  clear H'
  try clear c1
  try clear c2
  try clear p2
  obtain ⟨x11_1, rfl, HA, HK1, HB⟩ := hrel
  cases gk with
  | zero => exact absurd HA.out (by simp [impl_keyedOk.l0])
  | succ k1 =>
   have H := HA.out
   clear HA
   simp only [impl_keyedOk.l0] at H
   by_cases c4 : x11_1 < (l0.length : Int)
   ·
    rw [if_pos c4] at H
    have c4b0 : decide (x11_1 < (l0.length : Int)) = true := decide_eq_true c4
    clear c4
    by_cases c5 : 0 ≤ x11_1
    ·
     rw [if_pos c5] at H
     have c5b0 : decide (0 ≤ x11_1) = true := decide_eq_true c5
     clear c5
     by_cases c6 : x11_1 < (l0.length : Int)
     ·
      rw [if_pos c6] at H
      have c6b0 : decide (x11_1 < (l0.length : Int)) = true := decide_eq_true c6
      clear c6
      replace H := Option.bind_eq_some_iff.mp H
      obtain ⟨t729, A70, H⟩ := H
      replace H : (if t729 = true then ((impl_KeyOf.f k1 ((rd_T44 l0 x11_1).f0) ((rd_T44 l0 x11_1).f1) ((rd_T44 l0 x11_1).f2) ((rd_T44 l0 x11_1).f3) l2).bind fun t730 => ((impl_SameSet.f k1 t730 l1).bind fun t733 => (if t733 = true then (if x11_1 > 0 then (if 0 ≤ (wrap64 (x11_1 - 1)) then (if (wrap64 (x11_1 - 1)) < (l0.length : Int) then ((impl_SetLess.f k1 ((rd_T44 l0 (wrap64 (x11_1 - 1))).f0) ((rd_T44 l0 x11_1).f0)).bind fun t735 => (if t735 = true then (impl_keyedOk.l0 k1 l0 l1 l2 l0 (l0.length : Int) (wrap64 (x11_1 + 1))) else (some false))) else (none)) else (none)) else (impl_keyedOk.l0 k1 l0 l1 l2 l0 (l0.length : Int) (wrap64 (x11_1 + 1)))) else (some false)))) else (some false)) = some r := H
      have A7 := Aside0.mk A70
      clear A70
      by_cases c8 : t729 = true
      ·
       subst c8
       have H1 : ((impl_KeyOf.f k1 ((rd_T44 l0 x11_1).f0) ((rd_T44 l0 x11_1).f1) ((rd_T44 l0 x11_1).f2) ((rd_T44 l0 x11_1).f3) l2).bind fun t730 => ((impl_SameSet.f k1 t730 l1).bind fun t733 => (if t733 = true then (if x11_1 > 0 then (if 0 ≤ (wrap64 (x11_1 - 1)) then (if (wrap64 (x11_1 - 1)) < (l0.length : Int) then ((impl_SetLess.f k1 ((rd_T44 l0 (wrap64 (x11_1 - 1))).f0) ((rd_T44 l0 x11_1).f0)).bind fun t735 => (if t735 = true then (impl_keyedOk.l0 k1 l0 l1 l2 l0 (l0.length : Int) (wrap64 (x11_1 + 1))) else (some false))) else (none)) else (none)) else (impl_keyedOk.l0 k1 l0 l1 l2 l0 (l0.length : Int) (wrap64 (x11_1 + 1)))) else (some false)))) = some r := by rw [if_pos rfl] at H; exact H
       clear H
       have H := H1
       clear H1
       replace H := Option.bind_eq_some_iff.mp H
       obtain ⟨t730, A90, H⟩ := H
       replace H : ((impl_SameSet.f k1 t730 l1).bind fun t733 => (if t733 = true then (if x11_1 > 0 then (if 0 ≤ (wrap64 (x11_1 - 1)) then (if (wrap64 (x11_1 - 1)) < (l0.length : Int) then ((impl_SetLess.f k1 ((rd_T44 l0 (wrap64 (x11_1 - 1))).f0) ((rd_T44 l0 x11_1).f0)).bind fun t735 => (if t735 = true then (impl_keyedOk.l0 k1 l0 l1 l2 l0 (l0.length : Int) (wrap64 (x11_1 + 1))) else (some false))) else (none)) else (none)) else (impl_keyedOk.l0 k1 l0 l1 l2 l0 (l0.length : Int) (wrap64 (x11_1 + 1)))) else (some false))) = some r := H
       have A9 := Aside0.mk A90
       clear A90
       replace H := Option.bind_eq_some_iff.mp H
       obtain ⟨t733, A100, H⟩ := H
       replace H : (if t733 = true then (if x11_1 > 0 then (if 0 ≤ (wrap64 (x11_1 - 1)) then (if (wrap64 (x11_1 - 1)) < (l0.length : Int) then ((impl_SetLess.f k1 ((rd_T44 l0 (wrap64 (x11_1 - 1))).f0) ((rd_T44 l0 x11_1).f0)).bind fun t735 => (if t735 = true then (impl_keyedOk.l0 k1 l0 l1 l2 l0 (l0.length : Int) (wrap64 (x11_1 + 1))) else (some false))) else (none)) else (none)) else (impl_keyedOk.l0 k1 l0 l1 l2 l0 (l0.length : Int) (wrap64 (x11_1 + 1)))) else (some false)) = some r := H
       have A10 := Aside0.mk A100
       clear A100
       by_cases c11 : t733 = true
       ·
        subst c11
        have H1 : (if x11_1 > 0 then (if 0 ≤ (wrap64 (x11_1 - 1)) then (if (wrap64 (x11_1 - 1)) < (l0.length : Int) then ((impl_SetLess.f k1 ((rd_T44 l0 (wrap64 (x11_1 - 1))).f0) ((rd_T44 l0 x11_1).f0)).bind fun t735 => (if t735 = true then (impl_keyedOk.l0 k1 l0 l1 l2 l0 (l0.length : Int) (wrap64 (x11_1 + 1))) else (some false))) else (none)) else (none)) else (impl_keyedOk.l0 k1 l0 l1 l2 l0 (l0.length : Int) (wrap64 (x11_1 + 1)))) = some r := by rw [if_pos rfl] at H; exact H
        clear H
        have H := H1
        clear H1
        by_cases c12 : x11_1 > 0
        ·
         rw [if_pos c12] at H
         have c12b0 : decide (0 < x11_1) = true := decide_eq_true c12
         clear c12
         obtain ⟨ji13, hji13⟩ : ∃ j_ : Int, (wrap64 (x11_1 - 1)) = j_ := ⟨_, rfl⟩
         replace H : (if 0 ≤ (ji13) then (if (ji13) < (l0.length : Int) then ((impl_SetLess.f k1 ((rd_T44 l0 (ji13)).f0) ((rd_T44 l0 x11_1).f0)).bind fun t735 => (if t735 = true then (impl_keyedOk.l0 k1 l0 l1 l2 l0 (l0.length : Int) (wrap64 (x11_1 + 1))) else (some false))) else (none)) else (none)) = some r := by first | (rw [hji13] at H; exact H) | (simp only [hji13] at H ⊢; exact H)
         (try rw [hji13] at A7)
         (try rw [hji13] at A9)
         (try rw [hji13] at A10)
         have hji13w : (IntKind.i64.wrap (x11_1 - 1)) = ji13 := (i64_w _).trans hji13
         by_cases c14 : 0 ≤ (ji13)
         ·
          rw [if_pos c14] at H
          have c14b0 : decide (0 ≤ (ji13)) = true := decide_eq_true c14
          clear c14
          by_cases c15 : (ji13) < (l0.length : Int)
          ·
           rw [if_pos c15] at H
           have c15b0 : decide ((ji13) < (l0.length : Int)) = true := decide_eq_true c15
           clear c15
           replace H := Option.bind_eq_some_iff.mp H
           obtain ⟨t735, A160, H⟩ := H
           replace H : (if t735 = true then (impl_keyedOk.l0 k1 l0 l1 l2 l0 (l0.length : Int) (wrap64 (x11_1 + 1))) else (some false)) = some r := H
           have A16 := Aside0.mk A160
           clear A160
           by_cases c17 : t735 = true
           ·
            subst c17
            have H1 : (impl_keyedOk.l0 k1 l0 l1 l2 l0 (l0.length : Int) (wrap64 (x11_1 + 1))) = some r := by rw [if_pos rfl] at H; exact H
            clear H
            have H := H1
            clear H1
            have H' := Aside0.mk H
            clear H
            have p727 : 0 ≤ (x11_1 : Int) := of_decide_eq_true (by first | (with_reducible assumption) | assumption)
            have q727 : x11_1 < (l0.length : Int) := of_decide_eq_true (by first | (with_reducible assumption) | assumption)
            obtain ⟨ad727, A727_0, c727_0, e727, hx727_0, hx727_1, hx727_2, hx727_3, hl727_0, hi727_0⟩ := at_T44 HR0.out x11_1 p727 q727
            cases e727
            replace hx727_0 := (HB.out.cell (World.block_lt_of_cell? w _ hx727_0)).trans hx727_0
            replace hx727_1 := (HB.out.cell (World.block_lt_of_cell? w _ hx727_1)).trans hx727_1
            replace hx727_2 := (HB.out.cell (World.block_lt_of_cell? w _ hx727_2)).trans hx727_2
            replace hx727_3 := (HB.out.cell (World.block_lt_of_cell? w _ hx727_3)).trans hx727_3
            have HR727_0 := Aside0.mk hi727_0
            have HC727_0 := Aside0.mk hl727_0
            clear hi727_0 hl727_0
            replace p727 := eq_true p727
            replace q727 := eq_true q727
            try go_wp2_with (first | ((with_reducible refine gate_dst (N := 8) rfl ?_); refine box_event ?hg (N := 8) ?hd (cs := #[.slice none 0 0, .int .i64 0, .int .i64 0, .string (⟨#[]⟩ : ByteArray)]) (t := 44) ?hr ?_; (case hd => rfl); (case hg => rfl); (case hr => first | (go_simp; done) | (go_simp; rfl)); intro gb728 hg w18 hbox hb; have n0_ := Aside0.mk (below_step (by repeat (first | (with_reducible first | exact HB.out | apply below_alloc | apply pw_below_drewN | apply below_drew1) | exact HB.out)) hb); have n1_ := Aside0.mk (hbox); have n2_ := Aside0.mk ((by rw [hg]; exact (below_size (by repeat (first | (with_reducible first | exact HB.out | apply below_alloc | apply pw_below_drewN | apply below_drew1) | exact HB.out))) : w.heap.size ≤ gb728)); have n3_ := n2_; clear HB; have HB := n0_; have BK728 := n1_; have GW728 := n2_; have GE728 := n3_; clear n0_ n1_ n2_ n3_; clear hb hbox hg; have hcz19_0 : w18.cell? ⟨gb728, 0, none⟩ = some (.slice none 0 0) := (blk_cell BK728.out 0).trans rfl; have hcz19_1 : w18.cell? ⟨gb728, 1, none⟩ = some (.int .i64 0) := (blk_cell BK728.out 1).trans rfl; have hcz19_2 : w18.cell? ⟨gb728, 2, none⟩ = some (.int .i64 0) := (blk_cell BK728.out 2).trans rfl; have hcz19_3 : w18.cell? ⟨gb728, 3, none⟩ = some (.string (⟨#[]⟩ : ByteArray)) := (blk_cell BK728.out 3).trans rfl; have hfz19_0 := blk_frozen BK728.out 0; have hfz19_1 := blk_frozen BK728.out 1; have hfz19_2 := blk_frozen BK728.out 2; have hfz19_3 := blk_frozen BK728.out 3))
            have n0_ : Aside0 (((((w18.setCell ⟨gb728, 0, none⟩ (.slice A727_0 ((rd_T44 l0 x11_1).f0).length c727_0)).setCell ⟨gb728, 1, none⟩ (.int .i64 ((rd_T44 l0 x11_1).f1))).setCell ⟨gb728, 2, none⟩ (.int .i64 ((rd_T44 l0 x11_1).f2))).setCell ⟨gb728, 3, none⟩ (.string ((rd_T44 l0 x11_1).f3))).heap[gb728]? = some (.cells #[.slice A727_0 ((rd_T44 l0 x11_1).f0).length c727_0, .int .i64 ((rd_T44 l0 x11_1).f1), .int .i64 ((rd_T44 l0 x11_1).f2), .string ((rd_T44 l0 x11_1).f3)] 44 (0, 0))) := ⟨by (with_reducible repeat (first | refine blk_drewN ?_ _ | refine blk_drew ?_ | refine blk_alloc ?_ _)); refine blk_put (cs := #[.slice A727_0 ((rd_T44 l0 x11_1).f0).length c727_0, .int .i64 ((rd_T44 l0 x11_1).f1), .int .i64 ((rd_T44 l0 x11_1).f2), .string (⟨#[]⟩ : ByteArray)]) ?_ 3 _ rfl; (with_reducible repeat (first | refine blk_drewN ?_ _ | refine blk_drew ?_ | refine blk_alloc ?_ _)); refine blk_put (cs := #[.slice A727_0 ((rd_T44 l0 x11_1).f0).length c727_0, .int .i64 ((rd_T44 l0 x11_1).f1), .int .i64 0, .string (⟨#[]⟩ : ByteArray)]) ?_ 2 _ rfl; (with_reducible repeat (first | refine blk_drewN ?_ _ | refine blk_drew ?_ | refine blk_alloc ?_ _)); refine blk_put (cs := #[.slice A727_0 ((rd_T44 l0 x11_1).f0).length c727_0, .int .i64 0, .int .i64 0, .string (⟨#[]⟩ : ByteArray)]) ?_ 1 _ rfl; (with_reducible repeat (first | refine blk_drewN ?_ _ | refine blk_drew ?_ | refine blk_alloc ?_ _)); refine blk_put (cs := #[.slice none 0 0, .int .i64 0, .int .i64 0, .string (⟨#[]⟩ : ByteArray)]) ?_ 0 _ rfl; (with_reducible repeat (first | refine blk_drewN ?_ _ | refine blk_drew ?_ | refine blk_alloc ?_ _)); exact BK728.out⟩
            have n1_ : Aside0 (Below w.heap.size w ((((w18.setCell ⟨gb728, 0, none⟩ (.slice A727_0 ((rd_T44 l0 x11_1).f0).length c727_0)).setCell ⟨gb728, 1, none⟩ (.int .i64 ((rd_T44 l0 x11_1).f1))).setCell ⟨gb728, 2, none⟩ (.int .i64 ((rd_T44 l0 x11_1).f2))).setCell ⟨gb728, 3, none⟩ (.string ((rd_T44 l0 x11_1).f3)))) := ⟨by repeat (first | (with_reducible first | exact HB.out | apply below_alloc | apply pw_below_drewN | apply below_drew1 | refine below_set ?_ GE728.out) | exact HB.out)⟩
            (try clear BK728)
            (try clear HB)
            generalize ((((w18.setCell ⟨gb728, 0, none⟩ (.slice A727_0 ((rd_T44 l0 x11_1).f0).length c727_0)).setCell ⟨gb728, 1, none⟩ (.int .i64 ((rd_T44 l0 x11_1).f1))).setCell ⟨gb728, 2, none⟩ (.int .i64 ((rd_T44 l0 x11_1).f2))).setCell ⟨gb728, 3, none⟩ (.string ((rd_T44 l0 x11_1).f3))) = w20 at n0_ n1_ ⊢
            have BK728 := n0_
            have HB := n1_
            clear n0_ n1_
            have n0_ := Aside0.mk (blk_drew BK728.out)
            have n1_ := Aside0.mk (below_drew1 HB.out)
            clear BK728
            clear HB
            have BK728 := n0_
            have HB := n1_
            clear n0_ n1_
            have p734 : 0 ≤ ((ji13) : Int) := of_decide_eq_true (by first | (with_reducible assumption) | assumption)
            have q734 : (ji13) < (l0.length : Int) := of_decide_eq_true (by first | (with_reducible assumption) | assumption)
            obtain ⟨ad734, A734_0, c734_0, e734, hx734_0, hx734_1, hx734_2, hx734_3, hl734_0, hi734_0⟩ := at_T44 HR0.out (ji13) p734 q734
            have hw734_3 := hx734_3
            have hw734_2 := hx734_2
            have hw734_1 := hx734_1
            have hw734_0 := hx734_0
            obtain rfl : ad727 = ad734 := (by injection e734)
            replace hx734_0 := (HB.out.cell (World.block_lt_of_cell? w _ hx734_0)).trans hx734_0
            replace hx734_1 := (HB.out.cell (World.block_lt_of_cell? w _ hx734_1)).trans hx734_1
            replace hx734_2 := (HB.out.cell (World.block_lt_of_cell? w _ hx734_2)).trans hx734_2
            replace hx734_3 := (HB.out.cell (World.block_lt_of_cell? w _ hx734_3)).trans hx734_3
            have HR734_0 := Aside0.mk hi734_0
            have HC734_0 := Aside0.mk hl734_0
            clear hi734_0 hl734_0
            replace p734 := eq_true p734
            replace q734 := eq_true q734
            refine start_ (n := 27) (S := fun w' => w'.cell? ⟨gb728, 0, none⟩ = some (.slice A727_0 ((rd_T44 l0 x11_1).f0).length c727_0) ∧ w'.cell? ⟨gb728, 1, none⟩ = some (.int .i64 ((rd_T44 l0 x11_1).f1)) ∧ w'.cell? ⟨gb728, 2, none⟩ = some (.int .i64 ((rd_T44 l0 x11_1).f2)) ∧ w'.cell? ⟨gb728, 3, none⟩ = some (.string ((rd_T44 l0 x11_1).f3)) ∧ w'.cell? (ad727.add (((ji13)).toNat * 4)) = some (.slice A734_0 ((rd_T44 l0 (ji13)).f0).length c734_0) ∧ w'.cell? ⟨(ad727.add (((ji13)).toNat * 4)).block, (ad727.add (((ji13)).toNat * 4)).off + 1, none⟩ = some (.int .i64 ((rd_T44 l0 (ji13)).f1)) ∧ w'.cell? ⟨(ad727.add (((ji13)).toNat * 4)).block, (ad727.add (((ji13)).toNat * 4)).off + 2, none⟩ = some (.int .i64 ((rd_T44 l0 (ji13)).f2)) ∧ w'.cell? ⟨(ad727.add (((ji13)).toNat * 4)).block, (ad727.add (((ji13)).toNat * 4)).off + 3, none⟩ = some (.string ((rd_T44 l0 (ji13)).f3))) (ds := []) #[f_,f_,f_,f_,f_,f_,f_,f_,f_,f_,f_,f_,f_,f_,f_,f_,f_,f_,f_,f_,f_,f_,f_,f_,f_,f_,f_] (by kernel_rfl) rfl rfl ⟨(blk_cell BK728.out 0).trans rfl, (blk_cell BK728.out 1).trans rfl, (blk_cell BK728.out 2).trans rfl, (blk_cell BK728.out 3).trans rfl, ((HB.out.cell (World.block_lt_of_cell? w _ hw734_0)).trans hw734_0), ((HB.out.cell (World.block_lt_of_cell? w _ hw734_1)).trans hw734_1), ((HB.out.cell (World.block_lt_of_cell? w _ hw734_2)).trans hw734_2), ((HB.out.cell (World.block_lt_of_cell? w _ hw734_3)).trans hw734_3)⟩ (fun hHeld => ?_); refine with_tabW impl_keyedOk.tab4 impl_keyedOk.bits4 (fun HT_ HW_ => ?_)
            generalize w20.drew = w21 at BK728 HB HR734_0 hx734_0 hx734_1 hx734_2 hx734_3 hHeld ⊢
            refine take_ (i := 0) (N := some 16) (v := ?_) (a' := ?_) #[t_,f_,f_,f_,f_,f_,f_,f_,f_,f_,f_,f_,f_,f_,f_,f_,f_,f_,f_,f_,f_,f_,f_,f_,f_,f_,f_] rfl rfl (take_ofW HT_.out HW_.out (by kernel_rfl)) (fun _ _ _ h => h) (Or.inl ⟨by rfl, ?_⟩) hHeld ?_ ?_
            rotate_left
            ·
             rintro w' ⟨s0, s1, s2, s3, s4, s5, s6, s7⟩
             go_simp
             with_reducible rfl
            rotate_left
            ·
             simp only [fr_]
             rfl
            refine one_ (i := 1) (N := some 17) #[t_,t_,f_,f_,f_,f_,f_,f_,f_,f_,f_,f_,f_,f_,f_,f_,f_,f_,f_,f_,f_,f_,f_,f_,f_,f_,f_] rfl rfl (one_of HT_.out (by kernel_rfl)) (by decide) (fun K hK => ?_)
            refine goes_ Try.func124 (by kernel_rfl) rfl #[.agg #[.slice A727_0 ((rd_T44 l0 x11_1).f0).length c727_0, .int .i64 ((rd_T44 l0 x11_1).f1), .int .i64 ((rd_T44 l0 x11_1).f2), .string ((rd_T44 l0 x11_1).f3)]] (by rfl) rfl rfl (by (try simp only [List.map_toArray, List.map_cons, List.map_nil]); first | done | rfl | (simp only [List.length_drop, List.length_take]; rfl)) ?_
            with_reducible refine (impl_AlarmOk.calls k1 _ _ ((rd_T44 l0 x11_1).f0) ((rd_T44 l0 x11_1).f1) ((rd_T44 l0 x11_1).f2) ((rd_T44 l0 x11_1).f3) true _ ?side1 ?side2 A7.out).mono ?_
            (case side1 => repeat (first | exact (Kd.C_below HR727_0.out HB.out) | (with_reducible refine Kd.C_alloc ?_ _) | (with_reducible refine Kd.C_drewN ?_ _) | (with_reducible refine Kd.C_drew ?_)))
            (case side2 => exact HC727_0.out)
            rintro e w22 ⟨rfl, hb⟩
            refine ⟨_, rfl, ?_⟩
            have n0_ := Aside0.mk (blk_below (g := gb728) (o := .cells #[.slice A727_0 ((rd_T44 l0 x11_1).f0).length c727_0, .int .i64 ((rd_T44 l0 x11_1).f1), .int .i64 ((rd_T44 l0 x11_1).f2), .string ((rd_T44 l0 x11_1).f3)] 44 (0, 0)) (by (with_reducible repeat (first | refine blk_drewN ?_ _ | refine blk_drew ?_ | refine blk_alloc ?_ _)); exact BK728.out) hb)
            have n1_ := Aside0.mk (below_step (by repeat (first | (with_reducible first | exact HB.out | apply below_alloc | apply pw_below_drewN | apply below_drew1 | refine below_set ?_ GE728.out) | exact HB.out)) hb)
            clear BK728
            clear HB
            have BK728 := n0_
            have HB := n1_
            clear n0_ n1_
            (try clear hb)
            (try clear hb2)
            (try clear hk)
            (try clear hi)
            refine hK.out _ _ ⟨(blk_cell BK728.out 0).trans rfl, (blk_cell BK728.out 1).trans rfl, (blk_cell BK728.out 2).trans rfl, (blk_cell BK728.out 3).trans rfl, ((HB.out.cell (World.block_lt_of_cell? w _ hw734_0)).trans hw734_0), ((HB.out.cell (World.block_lt_of_cell? w _ hw734_1)).trans hw734_1), ((HB.out.cell (World.block_lt_of_cell? w _ hw734_2)).trans hw734_2), ((HB.out.cell (World.block_lt_of_cell? w _ hw734_3)).trans hw734_3)⟩ (fun hHeld => ?_)
            clear hK K
            refine norm_ (a' := ?_) ?_ ?_
            rotate_left
            ·
             show Act.put _ (some 17) _ = _
             simp only [fr_]
             rfl
            refine pu_ 2 18 ?_ (b_ 3 24) rfl rfl (any_of HT_.out (by kernel_rfl)) (fun _ _ _ h => h) (by rfl) ?_ ?_ ?_ ?_; rotate_left; intro w'; go_simp; with_reducible rfl; rotate_left; simp only [fr_]; rfl
            refine pu_ 3 19 ?_ (b_ 4 23) rfl rfl (any_of HT_.out (by kernel_rfl)) (fun _ _ _ h => h) (by rfl) ?_ ?_ ?_ ?_; rotate_left; intro w'; go_simp; with_reducible rfl; rotate_left; simp only [fr_]; rfl
            refine pu_ 5 21 ?_ #[t_,t_,t_,t_,f_,t_,f_,f_,f_,f_,f_,f_,f_,f_,f_,f_,f_,f_,f_,f_,f_,f_,f_,f_,f_,f_,f_] rfl rfl (any_of HT_.out (by kernel_rfl)) (fun _ _ _ h => h) (by rfl) ?_ ?_ ?_ ?_; rotate_left; intro w'; go_simp; with_reducible rfl; rotate_left; simp only [fr_]; rfl
            refine pu_ 7 23 ?_ #[t_,t_,t_,t_,f_,t_,f_,t_,f_,f_,f_,f_,f_,f_,f_,f_,f_,f_,f_,f_,f_,f_,f_,f_,f_,f_,f_] rfl rfl (any_of HT_.out (by kernel_rfl)) (fun _ _ _ h => h) (by rfl) ?_ ?_ ?_ ?_; rotate_left; intro w'; go_simp; with_reducible rfl; rotate_left; simp only [fr_]; rfl
            refine take_ (i := 4) (N := some 20) (v := ?_) (a' := ?_) #[t_,t_,t_,t_,t_,t_,f_,t_,f_,f_,f_,f_,f_,f_,f_,f_,f_,f_,f_,f_,f_,f_,f_,f_,f_,f_,f_] rfl rfl (take_ofW HT_.out HW_.out (by kernel_rfl)) (fun _ _ _ h => h) (Or.inl ⟨by rfl, ?_⟩) hHeld ?_ ?_
            rotate_left
            ·
             rintro w' ⟨s0, s1, s2, s3, s4, s5, s6, s7⟩
             go_simp
             with_reducible rfl
            rotate_left
            ·
             simp only [fr_]
             rfl
            refine one_ (i := 6) (N := some 22) #[t_,t_,t_,t_,t_,t_,t_,t_,f_,f_,f_,f_,f_,f_,f_,f_,f_,f_,f_,f_,f_,f_,f_,f_,f_,f_,f_] rfl rfl (one_of HT_.out (by kernel_rfl)) (by decide) (fun K hK => ?_)
            refine goes_ Try.func130 (by kernel_rfl) rfl #[.agg #[.slice A727_0 ((rd_T44 l0 x11_1).f0).length c727_0, .int .i64 ((rd_T44 l0 x11_1).f1), .int .i64 ((rd_T44 l0 x11_1).f2), .string ((rd_T44 l0 x11_1).f3)], .slice A2 l2.length c2] (by rfl) rfl rfl (by (try simp only [List.map_toArray, List.map_cons, List.map_nil]); first | done | rfl | (simp only [List.length_drop, List.length_take]; rfl)) ?_
            with_reducible refine (impl_KeyOf.calls k1 _ _ ((rd_T44 l0 x11_1).f0) ((rd_T44 l0 x11_1).f1) ((rd_T44 l0 x11_1).f2) ((rd_T44 l0 x11_1).f3) _ _ l2 t730 _ ?side1 ?side2 ?side3 ?side4 A9.out).mono ?_
            (case side1 => repeat (first | exact (Kd.C_below HR727_0.out HB.out) | (with_reducible refine Kd.C_alloc ?_ _) | (with_reducible refine Kd.C_drewN ?_ _) | (with_reducible refine Kd.C_drew ?_)))
            (case side2 => exact HC727_0.out)
            (case side3 => repeat (first | exact (Kd.C_below HR2.out HB.out) | (with_reducible refine Kd.C_alloc ?_ _) | (with_reducible refine Kd.C_drewN ?_ _) | (with_reducible refine Kd.C_drew ?_)))
            (case side4 => exact HC2.out)
            rintro e w23 ⟨v731, rfl, ho0, hb⟩
            refine ⟨_, rfl, ?_⟩
            have n0_ := Aside0.mk (Kd.R_lower ho0 (below_size (by repeat (first | (with_reducible first | exact HB.out | apply below_alloc | apply pw_below_drewN | apply below_drew1 | refine below_set ?_ GE728.out) | exact HB.out))))
            have n1_ := Aside0.mk (blk_below (g := gb728) (o := .cells #[.slice A727_0 ((rd_T44 l0 x11_1).f0).length c727_0, .int .i64 ((rd_T44 l0 x11_1).f1), .int .i64 ((rd_T44 l0 x11_1).f2), .string ((rd_T44 l0 x11_1).f3)] 44 (0, 0)) (by (with_reducible repeat (first | refine blk_drewN ?_ _ | refine blk_drew ?_ | refine blk_alloc ?_ _)); exact BK728.out) hb)
            have n2_ := Aside0.mk (below_step (by repeat (first | (with_reducible first | exact HB.out | apply below_alloc | apply pw_below_drewN | apply below_drew1 | refine below_set ?_ GE728.out) | exact HB.out)) hb)
            clear BK728
            clear HB
            have HO732 := n0_
            have BK728 := n1_
            have HB := n2_
            clear n0_ n1_ n2_
            (try clear hb)
            (try clear hb2)
            (try clear hk)
            (try clear hi)
            (try clear ho0)
            obtain ⟨Ao24, co24, eo24⟩ := Kd.R_slice HO732.out
            (first | subst eo24 | (injection eo24 with f1_ f2_ f3_; have f4_ := f1_.symm; have f5_ := f3_.symm; clear f1_ f2_ f3_; subst f4_; subst f5_))
            refine hK.out _ _ ⟨(blk_cell BK728.out 0).trans rfl, (blk_cell BK728.out 1).trans rfl, (blk_cell BK728.out 2).trans rfl, (blk_cell BK728.out 3).trans rfl, ((HB.out.cell (World.block_lt_of_cell? w _ hw734_0)).trans hw734_0), ((HB.out.cell (World.block_lt_of_cell? w _ hw734_1)).trans hw734_1), ((HB.out.cell (World.block_lt_of_cell? w _ hw734_2)).trans hw734_2), ((HB.out.cell (World.block_lt_of_cell? w _ hw734_3)).trans hw734_3)⟩ (fun hHeld => ?_)
            clear hK K
            refine norm_ (a' := ?_) ?_ ?_
            rotate_left
            ·
             show Act.put _ (some 22) _ = _
             simp only [fr_]
             rfl
            refine one_ (i := 8) (N := some 24) #[t_,t_,t_,t_,t_,t_,t_,t_,t_,f_,f_,f_,f_,f_,f_,f_,f_,f_,f_,f_,f_,f_,f_,f_,f_,f_,f_] rfl rfl (one_of HT_.out (by kernel_rfl)) (by decide) (fun K hK => ?_)
            refine goes_ Try.func139 (by kernel_rfl) rfl #[.slice Ao24 t730.length co24, .slice A1 l1.length c1] (by rfl) rfl rfl (by (try simp only [List.map_toArray, List.map_cons, List.map_nil]); first | done | rfl | (simp only [List.length_drop, List.length_take]; rfl)) ?_
            with_reducible refine (impl_SameSet.calls k1 _ _ t730 _ _ l1 true _ ?side1 ?side2 ?side3 ?side4 A10.out).mono ?_
            (case side1 => repeat (first | exact (Kd.R_reads' HO732.out).2.2 | (with_reducible refine Kd.C_alloc ?_ _) | (with_reducible refine Kd.C_drewN ?_ _) | (with_reducible refine Kd.C_drew ?_)))
            (case side2 => exact (Kd.R_reads' HO732.out).2.1)
            (case side3 => repeat (first | exact (Kd.C_below HR1.out HB.out) | (with_reducible refine Kd.C_alloc ?_ _) | (with_reducible refine Kd.C_drewN ?_ _) | (with_reducible refine Kd.C_drew ?_)))
            (case side4 => exact HC1.out)
            rintro e w' ⟨rfl, ⟨nd, rfl⟩⟩
            refine ⟨_, rfl, ?_⟩
            refine hK.out _ _ ⟨(blk_cell BK728.out 0).trans rfl, (blk_cell BK728.out 1).trans rfl, (blk_cell BK728.out 2).trans rfl, (blk_cell BK728.out 3).trans rfl, ((HB.out.cell (World.block_lt_of_cell? w _ hw734_0)).trans hw734_0), ((HB.out.cell (World.block_lt_of_cell? w _ hw734_1)).trans hw734_1), ((HB.out.cell (World.block_lt_of_cell? w _ hw734_2)).trans hw734_2), ((HB.out.cell (World.block_lt_of_cell? w _ hw734_3)).trans hw734_3)⟩ (fun hHeld => ?_)
            clear hK K
            refine norm_ (a' := ?_) ?_ ?_
            rotate_left
            ·
             show Act.put _ (some 24) _ = _
             simp only [fr_]
             rfl
            refine pu_ 9 25 ?_ (b_ 10 17) rfl rfl (any_of HT_.out (by kernel_rfl)) (fun _ _ _ h => h) (by rfl) ?_ ?_ ?_ ?_; rotate_left; intro w'; go_simp; with_reducible rfl; rotate_left; simp only [fr_]; rfl
            refine pu_ 10 26 ?_ (b_ 11 16) rfl rfl (any_of HT_.out (by kernel_rfl)) (fun _ _ _ h => h) (by rfl) ?_ ?_ ?_ ?_; rotate_left; intro w'; go_simp; with_reducible rfl; rotate_left; simp only [fr_]; rfl
            refine pu_ 11 27 ?_ (b_ 12 15) rfl rfl (any_of HT_.out (by kernel_rfl)) (fun _ _ _ h => h) (by rfl) ?_ ?_ ?_ ?_; rotate_left; intro w'; go_simp; with_reducible rfl; rotate_left; simp only [fr_]; rfl
            refine pu_ 12 28 ?_ (b_ 13 14) rfl rfl (any_of HT_.out (by kernel_rfl)) (fun _ _ _ h => h) (by rfl) ?_ ?_ ?_ ?_; rotate_left; intro w'; go_simp; with_reducible rfl; rotate_left; simp only [fr_]; rfl
            refine pu_ 13 29 ?_ (b_ 14 13) rfl rfl (any_of HT_.out (by kernel_rfl)) (fun _ _ _ h => h) (by rfl) ?_ ?_ ?_ ?_; rotate_left; intro w'; go_simp; with_reducible rfl; rotate_left; simp only [fr_]; rfl
            refine pu_ 14 30 ?_ (b_ 15 12) rfl rfl (any_of HT_.out (by kernel_rfl)) (fun _ _ _ h => h) (by rfl) ?_ ?_ ?_ ?_; rotate_left; intro w'; go_simp; with_reducible rfl; rotate_left; simp only [fr_]; rfl
            refine pu_ 15 31 ?_ (b_ 16 11) rfl rfl (any_of HT_.out (by kernel_rfl)) (fun _ _ _ h => h) (by rfl) ?_ ?_ ?_ ?_; rotate_left; intro w'; go_simp; with_reducible rfl; rotate_left; simp only [fr_]; rfl
            refine pu_ 16 32 ?_ (b_ 17 10) rfl rfl (any_of HT_.out (by kernel_rfl)) (fun _ _ _ h => h) (by rfl) ?_ ?_ ?_ ?_; rotate_left; intro w'; go_simp; with_reducible rfl; rotate_left; simp only [fr_]; rfl
            refine pu_ 17 33 ?_ (b_ 18 9) rfl rfl (any_of HT_.out (by kernel_rfl)) (fun _ _ _ h => h) (by rfl) ?_ ?_ ?_ ?_; rotate_left; intro w'; go_simp; with_reducible rfl; rotate_left; simp only [fr_]; rfl
            refine pu_ 18 34 ?_ (b_ 19 8) rfl rfl (any_of HT_.out (by kernel_rfl)) (fun _ _ _ h => h) (by rfl) ?_ ?_ ?_ ?_; rotate_left; intro w'; go_simp; with_reducible rfl; rotate_left; simp only [fr_]; rfl
            refine pu_ 19 35 ?_ (b_ 20 7) rfl rfl (any_of HT_.out (by kernel_rfl)) (fun _ _ _ h => h) (by rfl) ?_ ?_ ?_ ?_; rotate_left; intro w'; go_simp; with_reducible rfl; rotate_left; simp only [fr_]; rfl
            refine pu_ 21 37 ?_ #[t_,t_,t_,t_,t_,t_,t_,t_,t_,t_,t_,t_,t_,t_,t_,t_,t_,t_,t_,t_,f_,t_,f_,f_,f_,f_,f_] rfl rfl (any_of HT_.out (by kernel_rfl)) (fun _ _ _ h => h) (by rfl) ?_ ?_ ?_ ?_; rotate_left; intro w'; go_simp; with_reducible rfl; rotate_left; simp only [fr_]; rfl
            refine take_ (i := 20) (N := some 36) (v := ?_) (a' := ?_) #[t_,t_,t_,t_,t_,t_,t_,t_,t_,t_,t_,t_,t_,t_,t_,t_,t_,t_,t_,t_,t_,t_,f_,f_,f_,f_,f_] rfl rfl (take_ofW HT_.out HW_.out (by kernel_rfl)) (fun _ _ _ h => h) (Or.inl ⟨by rfl, ?_⟩) hHeld ?_ ?_
            rotate_left
            ·
             rintro w' ⟨s0, s1, s2, s3, s4, s5, s6, s7⟩
             go_simp
             with_reducible rfl
            rotate_left
            ·
             simp only [fr_]
             rfl
            refine take_ (i := 22) (N := some 38) (v := ?_) (a' := ?_) #[t_,t_,t_,t_,t_,t_,t_,t_,t_,t_,t_,t_,t_,t_,t_,t_,t_,t_,t_,t_,t_,t_,t_,f_,f_,f_,f_] rfl rfl (take_ofW HT_.out HW_.out (by kernel_rfl)) (fun _ _ _ h => h) (Or.inl ⟨by rfl, ?_⟩) hHeld ?_ ?_
            rotate_left
            ·
             rintro w' ⟨s0, s1, s2, s3, s4, s5, s6, s7⟩
             go_simp
             with_reducible rfl
            rotate_left
            ·
             simp only [fr_]
             rfl
            refine one_ (i := 23) (N := some 39) #[t_,t_,t_,t_,t_,t_,t_,t_,t_,t_,t_,t_,t_,t_,t_,t_,t_,t_,t_,t_,t_,t_,t_,t_,f_,f_,f_] rfl rfl (one_of HT_.out (by kernel_rfl)) (by decide) (fun K hK => ?_)
            refine goes_ Try.func153 (by kernel_rfl) rfl #[.slice A734_0 ((rd_T44 l0 (ji13)).f0).length c734_0, .slice A727_0 ((rd_T44 l0 x11_1).f0).length c727_0] (by rfl) rfl rfl (by (try simp only [List.map_toArray, List.map_cons, List.map_nil]); first | done | (simp only [hji13]; rfl) | rfl | (simp only [List.length_drop, List.length_take]; rfl)) ?_
            with_reducible refine (impl_SetLess.calls k1 _ _ ((rd_T44 l0 (ji13)).f0) _ _ ((rd_T44 l0 x11_1).f0) true _ ?side1 ?side2 ?side3 ?side4 A16.out).mono ?_
            (case side1 => repeat (first | exact (Kd.C_below HR734_0.out (by repeat (first | (with_reducible first | exact HB.out | apply below_alloc | apply pw_below_drewN | apply below_drew1 | refine below_set ?_ GE728.out) | exact HB.out))) | (with_reducible refine Kd.C_alloc ?_ _) | (with_reducible refine Kd.C_drewN ?_ _) | (with_reducible refine Kd.C_drew ?_)))
            (case side2 => exact HC734_0.out)
            (case side3 => repeat (first | exact (Kd.C_below HR727_0.out (by repeat (first | (with_reducible first | exact HB.out | apply below_alloc | apply pw_below_drewN | apply below_drew1 | refine below_set ?_ GE728.out) | exact HB.out))) | (with_reducible refine Kd.C_alloc ?_ _) | (with_reducible refine Kd.C_drewN ?_ _) | (with_reducible refine Kd.C_drew ?_)))
            (case side4 => exact HC727_0.out)
            rintro e w' ⟨rfl, ⟨nd, rfl⟩⟩
            refine ⟨_, rfl, ?_⟩
            refine hK.out _ _ ⟨(blk_cell BK728.out 0).trans rfl, (blk_cell BK728.out 1).trans rfl, (blk_cell BK728.out 2).trans rfl, (blk_cell BK728.out 3).trans rfl, ((HB.out.cell (World.block_lt_of_cell? w _ hw734_0)).trans hw734_0), ((HB.out.cell (World.block_lt_of_cell? w _ hw734_1)).trans hw734_1), ((HB.out.cell (World.block_lt_of_cell? w _ hw734_2)).trans hw734_2), ((HB.out.cell (World.block_lt_of_cell? w _ hw734_3)).trans hw734_3)⟩ (fun hHeld => ?_)
            clear hK K
            refine norm_ (a' := ?_) ?_ ?_
            rotate_left
            ·
             show Act.put _ (some 39) _ = _
             simp only [fr_]
             rfl
            refine pu_ 24 40 ?_ (b_ 25 2) rfl rfl (any_of HT_.out (by kernel_rfl)) (fun _ _ _ h => h) (by rfl) ?_ ?_ ?_ ?_; rotate_left; intro w'; go_simp; with_reducible rfl; rotate_left; simp only [fr_]; rfl
            refine pu_ 25 41 ?_ (b_ 26 1) rfl rfl (any_of HT_.out (by kernel_rfl)) (fun _ _ _ h => h) (by rfl) ?_ ?_ ?_ ?_; rotate_left; intro w'; go_simp; with_reducible rfl; rotate_left; simp only [fr_]; rfl
            refine pu_ 26 42 ?_ (b_ 27 0) rfl rfl (any_of HT_.out (by kernel_rfl)) (fun _ _ _ h => h) (by rfl) ?_ ?_ ?_ ?_; rotate_left; intro w'; go_simp; with_reducible rfl; rotate_left; simp only [fr_]; rfl
            refine done_ (done_of HT_.out (by kernel_rfl)) ?_
            try go_wp2
            go_roundg k1
            case measure => have := HK1.out; omega
            case rel => exact ⟨(wrap64 (x11_1 + 1)), (by first | rfl | (simp; done) | (simp [*]; done)), H', ⟨by have := HK1.out; omega⟩, ⟨by repeat (first | (with_reducible first | exact HB.out | apply below_alloc | apply pw_below_drewN | apply below_drew1 | refine below_set ?_ GE728.out) | exact HB.out)⟩⟩
           replace c17 := Bool.eq_false_iff.mpr c17
           subst c17
           have H1 : (some false) = some r := by rw [if_neg (show ¬ (false = true) by decide)] at H; exact H
           clear H
           have H := H1
           clear H1
           obtain rfl := Option.some.inj H
           have p727 : 0 ≤ (x11_1 : Int) := of_decide_eq_true (by first | (with_reducible assumption) | assumption)
           have q727 : x11_1 < (l0.length : Int) := of_decide_eq_true (by first | (with_reducible assumption) | assumption)
           obtain ⟨ad727, A727_0, c727_0, e727, hx727_0, hx727_1, hx727_2, hx727_3, hl727_0, hi727_0⟩ := at_T44 HR0.out x11_1 p727 q727
           cases e727
           replace hx727_0 := (HB.out.cell (World.block_lt_of_cell? w _ hx727_0)).trans hx727_0
           replace hx727_1 := (HB.out.cell (World.block_lt_of_cell? w _ hx727_1)).trans hx727_1
           replace hx727_2 := (HB.out.cell (World.block_lt_of_cell? w _ hx727_2)).trans hx727_2
           replace hx727_3 := (HB.out.cell (World.block_lt_of_cell? w _ hx727_3)).trans hx727_3
           have HR727_0 := Aside0.mk hi727_0
           have HC727_0 := Aside0.mk hl727_0
           clear hi727_0 hl727_0
           replace p727 := eq_true p727
           replace q727 := eq_true q727
           try go_wp2_with (first | ((with_reducible refine gate_dst (N := 8) rfl ?_); refine box_event ?hg (N := 8) ?hd (cs := #[.slice none 0 0, .int .i64 0, .int .i64 0, .string (⟨#[]⟩ : ByteArray)]) (t := 44) ?hr ?_; (case hd => rfl); (case hg => rfl); (case hr => first | (go_simp; done) | (go_simp; rfl)); intro gb728 hg w25 hbox hb; have n0_ := Aside0.mk (below_step (by repeat (first | (with_reducible first | exact HB.out | apply below_alloc | apply pw_below_drewN | apply below_drew1) | exact HB.out)) hb); have n1_ := Aside0.mk (hbox); have n2_ := Aside0.mk ((by rw [hg]; exact (below_size (by repeat (first | (with_reducible first | exact HB.out | apply below_alloc | apply pw_below_drewN | apply below_drew1) | exact HB.out))) : w.heap.size ≤ gb728)); have n3_ := n2_; clear HB; have HB := n0_; have BK728 := n1_; have GW728 := n2_; have GE728 := n3_; clear n0_ n1_ n2_ n3_; clear hb hbox hg; have hcz26_0 : w25.cell? ⟨gb728, 0, none⟩ = some (.slice none 0 0) := (blk_cell BK728.out 0).trans rfl; have hcz26_1 : w25.cell? ⟨gb728, 1, none⟩ = some (.int .i64 0) := (blk_cell BK728.out 1).trans rfl; have hcz26_2 : w25.cell? ⟨gb728, 2, none⟩ = some (.int .i64 0) := (blk_cell BK728.out 2).trans rfl; have hcz26_3 : w25.cell? ⟨gb728, 3, none⟩ = some (.string (⟨#[]⟩ : ByteArray)) := (blk_cell BK728.out 3).trans rfl; have hfz26_0 := blk_frozen BK728.out 0; have hfz26_1 := blk_frozen BK728.out 1; have hfz26_2 := blk_frozen BK728.out 2; have hfz26_3 := blk_frozen BK728.out 3))
           have n0_ : Aside0 (((((w25.setCell ⟨gb728, 0, none⟩ (.slice A727_0 ((rd_T44 l0 x11_1).f0).length c727_0)).setCell ⟨gb728, 1, none⟩ (.int .i64 ((rd_T44 l0 x11_1).f1))).setCell ⟨gb728, 2, none⟩ (.int .i64 ((rd_T44 l0 x11_1).f2))).setCell ⟨gb728, 3, none⟩ (.string ((rd_T44 l0 x11_1).f3))).heap[gb728]? = some (.cells #[.slice A727_0 ((rd_T44 l0 x11_1).f0).length c727_0, .int .i64 ((rd_T44 l0 x11_1).f1), .int .i64 ((rd_T44 l0 x11_1).f2), .string ((rd_T44 l0 x11_1).f3)] 44 (0, 0))) := ⟨by (with_reducible repeat (first | refine blk_drewN ?_ _ | refine blk_drew ?_ | refine blk_alloc ?_ _)); refine blk_put (cs := #[.slice A727_0 ((rd_T44 l0 x11_1).f0).length c727_0, .int .i64 ((rd_T44 l0 x11_1).f1), .int .i64 ((rd_T44 l0 x11_1).f2), .string (⟨#[]⟩ : ByteArray)]) ?_ 3 _ rfl; (with_reducible repeat (first | refine blk_drewN ?_ _ | refine blk_drew ?_ | refine blk_alloc ?_ _)); refine blk_put (cs := #[.slice A727_0 ((rd_T44 l0 x11_1).f0).length c727_0, .int .i64 ((rd_T44 l0 x11_1).f1), .int .i64 0, .string (⟨#[]⟩ : ByteArray)]) ?_ 2 _ rfl; (with_reducible repeat (first | refine blk_drewN ?_ _ | refine blk_drew ?_ | refine blk_alloc ?_ _)); refine blk_put (cs := #[.slice A727_0 ((rd_T44 l0 x11_1).f0).length c727_0, .int .i64 0, .int .i64 0, .string (⟨#[]⟩ : ByteArray)]) ?_ 1 _ rfl; (with_reducible repeat (first | refine blk_drewN ?_ _ | refine blk_drew ?_ | refine blk_alloc ?_ _)); refine blk_put (cs := #[.slice none 0 0, .int .i64 0, .int .i64 0, .string (⟨#[]⟩ : ByteArray)]) ?_ 0 _ rfl; (with_reducible repeat (first | refine blk_drewN ?_ _ | refine blk_drew ?_ | refine blk_alloc ?_ _)); exact BK728.out⟩
           have n1_ : Aside0 (Below w.heap.size w ((((w25.setCell ⟨gb728, 0, none⟩ (.slice A727_0 ((rd_T44 l0 x11_1).f0).length c727_0)).setCell ⟨gb728, 1, none⟩ (.int .i64 ((rd_T44 l0 x11_1).f1))).setCell ⟨gb728, 2, none⟩ (.int .i64 ((rd_T44 l0 x11_1).f2))).setCell ⟨gb728, 3, none⟩ (.string ((rd_T44 l0 x11_1).f3)))) := ⟨by repeat (first | (with_reducible first | exact HB.out | apply below_alloc | apply pw_below_drewN | apply below_drew1 | refine below_set ?_ GE728.out) | exact HB.out)⟩
           (try clear BK728)
           (try clear HB)
           generalize ((((w25.setCell ⟨gb728, 0, none⟩ (.slice A727_0 ((rd_T44 l0 x11_1).f0).length c727_0)).setCell ⟨gb728, 1, none⟩ (.int .i64 ((rd_T44 l0 x11_1).f1))).setCell ⟨gb728, 2, none⟩ (.int .i64 ((rd_T44 l0 x11_1).f2))).setCell ⟨gb728, 3, none⟩ (.string ((rd_T44 l0 x11_1).f3))) = w27 at n0_ n1_ ⊢
           have BK728 := n0_
           have HB := n1_
           clear n0_ n1_
           have n0_ := Aside0.mk (blk_drew BK728.out)
           have n1_ := Aside0.mk (below_drew1 HB.out)
           clear BK728
           clear HB
           have BK728 := n0_
           have HB := n1_
           clear n0_ n1_
           have p734 : 0 ≤ ((ji13) : Int) := of_decide_eq_true (by first | (with_reducible assumption) | assumption)
           have q734 : (ji13) < (l0.length : Int) := of_decide_eq_true (by first | (with_reducible assumption) | assumption)
           obtain ⟨ad734, A734_0, c734_0, e734, hx734_0, hx734_1, hx734_2, hx734_3, hl734_0, hi734_0⟩ := at_T44 HR0.out (ji13) p734 q734
           have hw734_3 := hx734_3
           have hw734_2 := hx734_2
           have hw734_1 := hx734_1
           have hw734_0 := hx734_0
           obtain rfl : ad727 = ad734 := (by injection e734)
           replace hx734_0 := (HB.out.cell (World.block_lt_of_cell? w _ hx734_0)).trans hx734_0
           replace hx734_1 := (HB.out.cell (World.block_lt_of_cell? w _ hx734_1)).trans hx734_1
           replace hx734_2 := (HB.out.cell (World.block_lt_of_cell? w _ hx734_2)).trans hx734_2
           replace hx734_3 := (HB.out.cell (World.block_lt_of_cell? w _ hx734_3)).trans hx734_3
           have HR734_0 := Aside0.mk hi734_0
           have HC734_0 := Aside0.mk hl734_0
           clear hi734_0 hl734_0
           replace p734 := eq_true p734
           replace q734 := eq_true q734
           refine start_ (n := 27) (S := fun w' => w'.cell? ⟨gb728, 0, none⟩ = some (.slice A727_0 ((rd_T44 l0 x11_1).f0).length c727_0) ∧ w'.cell? ⟨gb728, 1, none⟩ = some (.int .i64 ((rd_T44 l0 x11_1).f1)) ∧ w'.cell? ⟨gb728, 2, none⟩ = some (.int .i64 ((rd_T44 l0 x11_1).f2)) ∧ w'.cell? ⟨gb728, 3, none⟩ = some (.string ((rd_T44 l0 x11_1).f3)) ∧ w'.cell? (ad727.add (((ji13)).toNat * 4)) = some (.slice A734_0 ((rd_T44 l0 (ji13)).f0).length c734_0) ∧ w'.cell? ⟨(ad727.add (((ji13)).toNat * 4)).block, (ad727.add (((ji13)).toNat * 4)).off + 1, none⟩ = some (.int .i64 ((rd_T44 l0 (ji13)).f1)) ∧ w'.cell? ⟨(ad727.add (((ji13)).toNat * 4)).block, (ad727.add (((ji13)).toNat * 4)).off + 2, none⟩ = some (.int .i64 ((rd_T44 l0 (ji13)).f2)) ∧ w'.cell? ⟨(ad727.add (((ji13)).toNat * 4)).block, (ad727.add (((ji13)).toNat * 4)).off + 3, none⟩ = some (.string ((rd_T44 l0 (ji13)).f3))) (ds := []) #[f_,f_,f_,f_,f_,f_,f_,f_,f_,f_,f_,f_,f_,f_,f_,f_,f_,f_,f_,f_,f_,f_,f_,f_,f_,f_,f_] (by kernel_rfl) rfl rfl ⟨(blk_cell BK728.out 0).trans rfl, (blk_cell BK728.out 1).trans rfl, (blk_cell BK728.out 2).trans rfl, (blk_cell BK728.out 3).trans rfl, ((HB.out.cell (World.block_lt_of_cell? w _ hw734_0)).trans hw734_0), ((HB.out.cell (World.block_lt_of_cell? w _ hw734_1)).trans hw734_1), ((HB.out.cell (World.block_lt_of_cell? w _ hw734_2)).trans hw734_2), ((HB.out.cell (World.block_lt_of_cell? w _ hw734_3)).trans hw734_3)⟩ (fun hHeld => ?_); refine with_tabW impl_keyedOk.tab4 impl_keyedOk.bits4 (fun HT_ HW_ => ?_)
           generalize w27.drew = w28 at BK728 HB HR734_0 hx734_0 hx734_1 hx734_2 hx734_3 hHeld ⊢
           refine take_ (i := 0) (N := some 16) (v := ?_) (a' := ?_) #[t_,f_,f_,f_,f_,f_,f_,f_,f_,f_,f_,f_,f_,f_,f_,f_,f_,f_,f_,f_,f_,f_,f_,f_,f_,f_,f_] rfl rfl (take_ofW HT_.out HW_.out (by kernel_rfl)) (fun _ _ _ h => h) (Or.inl ⟨by rfl, ?_⟩) hHeld ?_ ?_
           rotate_left
           ·
            rintro w' ⟨s0, s1, s2, s3, s4, s5, s6, s7⟩
            go_simp
            with_reducible rfl
           rotate_left
           ·
            simp only [fr_]
            rfl
           refine one_ (i := 1) (N := some 17) #[t_,t_,f_,f_,f_,f_,f_,f_,f_,f_,f_,f_,f_,f_,f_,f_,f_,f_,f_,f_,f_,f_,f_,f_,f_,f_,f_] rfl rfl (one_of HT_.out (by kernel_rfl)) (by decide) (fun K hK => ?_)
           refine goes_ Try.func124 (by kernel_rfl) rfl #[.agg #[.slice A727_0 ((rd_T44 l0 x11_1).f0).length c727_0, .int .i64 ((rd_T44 l0 x11_1).f1), .int .i64 ((rd_T44 l0 x11_1).f2), .string ((rd_T44 l0 x11_1).f3)]] (by rfl) rfl rfl (by (try simp only [List.map_toArray, List.map_cons, List.map_nil]); first | done | rfl | (simp only [List.length_drop, List.length_take]; rfl)) ?_
           with_reducible refine (impl_AlarmOk.calls k1 _ _ ((rd_T44 l0 x11_1).f0) ((rd_T44 l0 x11_1).f1) ((rd_T44 l0 x11_1).f2) ((rd_T44 l0 x11_1).f3) true _ ?side1 ?side2 A7.out).mono ?_
           (case side1 => repeat (first | exact (Kd.C_below HR727_0.out HB.out) | (with_reducible refine Kd.C_alloc ?_ _) | (with_reducible refine Kd.C_drewN ?_ _) | (with_reducible refine Kd.C_drew ?_)))
           (case side2 => exact HC727_0.out)
           rintro e w29 ⟨rfl, hb⟩
           refine ⟨_, rfl, ?_⟩
           have n0_ := Aside0.mk (blk_below (g := gb728) (o := .cells #[.slice A727_0 ((rd_T44 l0 x11_1).f0).length c727_0, .int .i64 ((rd_T44 l0 x11_1).f1), .int .i64 ((rd_T44 l0 x11_1).f2), .string ((rd_T44 l0 x11_1).f3)] 44 (0, 0)) (by (with_reducible repeat (first | refine blk_drewN ?_ _ | refine blk_drew ?_ | refine blk_alloc ?_ _)); exact BK728.out) hb)
           have n1_ := Aside0.mk (below_step (by repeat (first | (with_reducible first | exact HB.out | apply below_alloc | apply pw_below_drewN | apply below_drew1 | refine below_set ?_ GE728.out) | exact HB.out)) hb)
           clear BK728
           clear HB
           have BK728 := n0_
           have HB := n1_
           clear n0_ n1_
           (try clear hb)
           (try clear hb2)
           (try clear hk)
           (try clear hi)
           refine hK.out _ _ ⟨(blk_cell BK728.out 0).trans rfl, (blk_cell BK728.out 1).trans rfl, (blk_cell BK728.out 2).trans rfl, (blk_cell BK728.out 3).trans rfl, ((HB.out.cell (World.block_lt_of_cell? w _ hw734_0)).trans hw734_0), ((HB.out.cell (World.block_lt_of_cell? w _ hw734_1)).trans hw734_1), ((HB.out.cell (World.block_lt_of_cell? w _ hw734_2)).trans hw734_2), ((HB.out.cell (World.block_lt_of_cell? w _ hw734_3)).trans hw734_3)⟩ (fun hHeld => ?_)
           clear hK K
           refine norm_ (a' := ?_) ?_ ?_
           rotate_left
           ·
            show Act.put _ (some 17) _ = _
            simp only [fr_]
            rfl
           refine pu_ 2 18 ?_ (b_ 3 24) rfl rfl (any_of HT_.out (by kernel_rfl)) (fun _ _ _ h => h) (by rfl) ?_ ?_ ?_ ?_; rotate_left; intro w'; go_simp; with_reducible rfl; rotate_left; simp only [fr_]; rfl
           refine pu_ 3 19 ?_ (b_ 4 23) rfl rfl (any_of HT_.out (by kernel_rfl)) (fun _ _ _ h => h) (by rfl) ?_ ?_ ?_ ?_; rotate_left; intro w'; go_simp; with_reducible rfl; rotate_left; simp only [fr_]; rfl
           refine pu_ 5 21 ?_ #[t_,t_,t_,t_,f_,t_,f_,f_,f_,f_,f_,f_,f_,f_,f_,f_,f_,f_,f_,f_,f_,f_,f_,f_,f_,f_,f_] rfl rfl (any_of HT_.out (by kernel_rfl)) (fun _ _ _ h => h) (by rfl) ?_ ?_ ?_ ?_; rotate_left; intro w'; go_simp; with_reducible rfl; rotate_left; simp only [fr_]; rfl
           refine pu_ 7 23 ?_ #[t_,t_,t_,t_,f_,t_,f_,t_,f_,f_,f_,f_,f_,f_,f_,f_,f_,f_,f_,f_,f_,f_,f_,f_,f_,f_,f_] rfl rfl (any_of HT_.out (by kernel_rfl)) (fun _ _ _ h => h) (by rfl) ?_ ?_ ?_ ?_; rotate_left; intro w'; go_simp; with_reducible rfl; rotate_left; simp only [fr_]; rfl
           refine take_ (i := 4) (N := some 20) (v := ?_) (a' := ?_) #[t_,t_,t_,t_,t_,t_,f_,t_,f_,f_,f_,f_,f_,f_,f_,f_,f_,f_,f_,f_,f_,f_,f_,f_,f_,f_,f_] rfl rfl (take_ofW HT_.out HW_.out (by kernel_rfl)) (fun _ _ _ h => h) (Or.inl ⟨by rfl, ?_⟩) hHeld ?_ ?_
           rotate_left
           ·
            rintro w' ⟨s0, s1, s2, s3, s4, s5, s6, s7⟩
            go_simp
            with_reducible rfl
           rotate_left
           ·
            simp only [fr_]
            rfl
           refine one_ (i := 6) (N := some 22) #[t_,t_,t_,t_,t_,t_,t_,t_,f_,f_,f_,f_,f_,f_,f_,f_,f_,f_,f_,f_,f_,f_,f_,f_,f_,f_,f_] rfl rfl (one_of HT_.out (by kernel_rfl)) (by decide) (fun K hK => ?_)
           refine goes_ Try.func130 (by kernel_rfl) rfl #[.agg #[.slice A727_0 ((rd_T44 l0 x11_1).f0).length c727_0, .int .i64 ((rd_T44 l0 x11_1).f1), .int .i64 ((rd_T44 l0 x11_1).f2), .string ((rd_T44 l0 x11_1).f3)], .slice A2 l2.length c2] (by rfl) rfl rfl (by (try simp only [List.map_toArray, List.map_cons, List.map_nil]); first | done | rfl | (simp only [List.length_drop, List.length_take]; rfl)) ?_
           with_reducible refine (impl_KeyOf.calls k1 _ _ ((rd_T44 l0 x11_1).f0) ((rd_T44 l0 x11_1).f1) ((rd_T44 l0 x11_1).f2) ((rd_T44 l0 x11_1).f3) _ _ l2 t730 _ ?side1 ?side2 ?side3 ?side4 A9.out).mono ?_
           (case side1 => repeat (first | exact (Kd.C_below HR727_0.out HB.out) | (with_reducible refine Kd.C_alloc ?_ _) | (with_reducible refine Kd.C_drewN ?_ _) | (with_reducible refine Kd.C_drew ?_)))
           (case side2 => exact HC727_0.out)
           (case side3 => repeat (first | exact (Kd.C_below HR2.out HB.out) | (with_reducible refine Kd.C_alloc ?_ _) | (with_reducible refine Kd.C_drewN ?_ _) | (with_reducible refine Kd.C_drew ?_)))
           (case side4 => exact HC2.out)
           rintro e w30 ⟨v731, rfl, ho0, hb⟩
           refine ⟨_, rfl, ?_⟩
           have n0_ := Aside0.mk (Kd.R_lower ho0 (below_size (by repeat (first | (with_reducible first | exact HB.out | apply below_alloc | apply pw_below_drewN | apply below_drew1 | refine below_set ?_ GE728.out) | exact HB.out))))
           have n1_ := Aside0.mk (blk_below (g := gb728) (o := .cells #[.slice A727_0 ((rd_T44 l0 x11_1).f0).length c727_0, .int .i64 ((rd_T44 l0 x11_1).f1), .int .i64 ((rd_T44 l0 x11_1).f2), .string ((rd_T44 l0 x11_1).f3)] 44 (0, 0)) (by (with_reducible repeat (first | refine blk_drewN ?_ _ | refine blk_drew ?_ | refine blk_alloc ?_ _)); exact BK728.out) hb)
           have n2_ := Aside0.mk (below_step (by repeat (first | (with_reducible first | exact HB.out | apply below_alloc | apply pw_below_drewN | apply below_drew1 | refine below_set ?_ GE728.out) | exact HB.out)) hb)
           clear BK728
           clear HB
           have HO732 := n0_
           have BK728 := n1_
           have HB := n2_
           clear n0_ n1_ n2_
           (try clear hb)
           (try clear hb2)
           (try clear hk)
           (try clear hi)
           (try clear ho0)
           obtain ⟨Ao31, co31, eo31⟩ := Kd.R_slice HO732.out
           (first | subst eo31 | (injection eo31 with f1_ f2_ f3_; have f4_ := f1_.symm; have f5_ := f3_.symm; clear f1_ f2_ f3_; subst f4_; subst f5_))
           refine hK.out _ _ ⟨(blk_cell BK728.out 0).trans rfl, (blk_cell BK728.out 1).trans rfl, (blk_cell BK728.out 2).trans rfl, (blk_cell BK728.out 3).trans rfl, ((HB.out.cell (World.block_lt_of_cell? w _ hw734_0)).trans hw734_0), ((HB.out.cell (World.block_lt_of_cell? w _ hw734_1)).trans hw734_1), ((HB.out.cell (World.block_lt_of_cell? w _ hw734_2)).trans hw734_2), ((HB.out.cell (World.block_lt_of_cell? w _ hw734_3)).trans hw734_3)⟩ (fun hHeld => ?_)
           clear hK K
           refine norm_ (a' := ?_) ?_ ?_
           rotate_left
           ·
            show Act.put _ (some 22) _ = _
            simp only [fr_]
            rfl
           refine one_ (i := 8) (N := some 24) #[t_,t_,t_,t_,t_,t_,t_,t_,t_,f_,f_,f_,f_,f_,f_,f_,f_,f_,f_,f_,f_,f_,f_,f_,f_,f_,f_] rfl rfl (one_of HT_.out (by kernel_rfl)) (by decide) (fun K hK => ?_)
           refine goes_ Try.func139 (by kernel_rfl) rfl #[.slice Ao31 t730.length co31, .slice A1 l1.length c1] (by rfl) rfl rfl (by (try simp only [List.map_toArray, List.map_cons, List.map_nil]); first | done | rfl | (simp only [List.length_drop, List.length_take]; rfl)) ?_
           with_reducible refine (impl_SameSet.calls k1 _ _ t730 _ _ l1 true _ ?side1 ?side2 ?side3 ?side4 A10.out).mono ?_
           (case side1 => repeat (first | exact (Kd.R_reads' HO732.out).2.2 | (with_reducible refine Kd.C_alloc ?_ _) | (with_reducible refine Kd.C_drewN ?_ _) | (with_reducible refine Kd.C_drew ?_)))
           (case side2 => exact (Kd.R_reads' HO732.out).2.1)
           (case side3 => repeat (first | exact (Kd.C_below HR1.out HB.out) | (with_reducible refine Kd.C_alloc ?_ _) | (with_reducible refine Kd.C_drewN ?_ _) | (with_reducible refine Kd.C_drew ?_)))
           (case side4 => exact HC1.out)
           rintro e w' ⟨rfl, ⟨nd, rfl⟩⟩
           refine ⟨_, rfl, ?_⟩
           refine hK.out _ _ ⟨(blk_cell BK728.out 0).trans rfl, (blk_cell BK728.out 1).trans rfl, (blk_cell BK728.out 2).trans rfl, (blk_cell BK728.out 3).trans rfl, ((HB.out.cell (World.block_lt_of_cell? w _ hw734_0)).trans hw734_0), ((HB.out.cell (World.block_lt_of_cell? w _ hw734_1)).trans hw734_1), ((HB.out.cell (World.block_lt_of_cell? w _ hw734_2)).trans hw734_2), ((HB.out.cell (World.block_lt_of_cell? w _ hw734_3)).trans hw734_3)⟩ (fun hHeld => ?_)
           clear hK K
           refine norm_ (a' := ?_) ?_ ?_
           rotate_left
           ·
            show Act.put _ (some 24) _ = _
            simp only [fr_]
            rfl
           refine pu_ 9 25 ?_ (b_ 10 17) rfl rfl (any_of HT_.out (by kernel_rfl)) (fun _ _ _ h => h) (by rfl) ?_ ?_ ?_ ?_; rotate_left; intro w'; go_simp; with_reducible rfl; rotate_left; simp only [fr_]; rfl
           refine pu_ 10 26 ?_ (b_ 11 16) rfl rfl (any_of HT_.out (by kernel_rfl)) (fun _ _ _ h => h) (by rfl) ?_ ?_ ?_ ?_; rotate_left; intro w'; go_simp; with_reducible rfl; rotate_left; simp only [fr_]; rfl
           refine pu_ 11 27 ?_ (b_ 12 15) rfl rfl (any_of HT_.out (by kernel_rfl)) (fun _ _ _ h => h) (by rfl) ?_ ?_ ?_ ?_; rotate_left; intro w'; go_simp; with_reducible rfl; rotate_left; simp only [fr_]; rfl
           refine pu_ 12 28 ?_ (b_ 13 14) rfl rfl (any_of HT_.out (by kernel_rfl)) (fun _ _ _ h => h) (by rfl) ?_ ?_ ?_ ?_; rotate_left; intro w'; go_simp; with_reducible rfl; rotate_left; simp only [fr_]; rfl
           refine pu_ 13 29 ?_ (b_ 14 13) rfl rfl (any_of HT_.out (by kernel_rfl)) (fun _ _ _ h => h) (by rfl) ?_ ?_ ?_ ?_; rotate_left; intro w'; go_simp; with_reducible rfl; rotate_left; simp only [fr_]; rfl
           refine pu_ 14 30 ?_ (b_ 15 12) rfl rfl (any_of HT_.out (by kernel_rfl)) (fun _ _ _ h => h) (by rfl) ?_ ?_ ?_ ?_; rotate_left; intro w'; go_simp; with_reducible rfl; rotate_left; simp only [fr_]; rfl
           refine pu_ 15 31 ?_ (b_ 16 11) rfl rfl (any_of HT_.out (by kernel_rfl)) (fun _ _ _ h => h) (by rfl) ?_ ?_ ?_ ?_; rotate_left; intro w'; go_simp; with_reducible rfl; rotate_left; simp only [fr_]; rfl
           refine pu_ 16 32 ?_ (b_ 17 10) rfl rfl (any_of HT_.out (by kernel_rfl)) (fun _ _ _ h => h) (by rfl) ?_ ?_ ?_ ?_; rotate_left; intro w'; go_simp; with_reducible rfl; rotate_left; simp only [fr_]; rfl
           refine pu_ 17 33 ?_ (b_ 18 9) rfl rfl (any_of HT_.out (by kernel_rfl)) (fun _ _ _ h => h) (by rfl) ?_ ?_ ?_ ?_; rotate_left; intro w'; go_simp; with_reducible rfl; rotate_left; simp only [fr_]; rfl
           refine pu_ 18 34 ?_ (b_ 19 8) rfl rfl (any_of HT_.out (by kernel_rfl)) (fun _ _ _ h => h) (by rfl) ?_ ?_ ?_ ?_; rotate_left; intro w'; go_simp; with_reducible rfl; rotate_left; simp only [fr_]; rfl
           refine pu_ 19 35 ?_ (b_ 20 7) rfl rfl (any_of HT_.out (by kernel_rfl)) (fun _ _ _ h => h) (by rfl) ?_ ?_ ?_ ?_; rotate_left; intro w'; go_simp; with_reducible rfl; rotate_left; simp only [fr_]; rfl
           refine pu_ 21 37 ?_ #[t_,t_,t_,t_,t_,t_,t_,t_,t_,t_,t_,t_,t_,t_,t_,t_,t_,t_,t_,t_,f_,t_,f_,f_,f_,f_,f_] rfl rfl (any_of HT_.out (by kernel_rfl)) (fun _ _ _ h => h) (by rfl) ?_ ?_ ?_ ?_; rotate_left; intro w'; go_simp; with_reducible rfl; rotate_left; simp only [fr_]; rfl
           refine take_ (i := 20) (N := some 36) (v := ?_) (a' := ?_) #[t_,t_,t_,t_,t_,t_,t_,t_,t_,t_,t_,t_,t_,t_,t_,t_,t_,t_,t_,t_,t_,t_,f_,f_,f_,f_,f_] rfl rfl (take_ofW HT_.out HW_.out (by kernel_rfl)) (fun _ _ _ h => h) (Or.inl ⟨by rfl, ?_⟩) hHeld ?_ ?_
           rotate_left
           ·
            rintro w' ⟨s0, s1, s2, s3, s4, s5, s6, s7⟩
            go_simp
            with_reducible rfl
           rotate_left
           ·
            simp only [fr_]
            rfl
           refine take_ (i := 22) (N := some 38) (v := ?_) (a' := ?_) #[t_,t_,t_,t_,t_,t_,t_,t_,t_,t_,t_,t_,t_,t_,t_,t_,t_,t_,t_,t_,t_,t_,t_,f_,f_,f_,f_] rfl rfl (take_ofW HT_.out HW_.out (by kernel_rfl)) (fun _ _ _ h => h) (Or.inl ⟨by rfl, ?_⟩) hHeld ?_ ?_
           rotate_left
           ·
            rintro w' ⟨s0, s1, s2, s3, s4, s5, s6, s7⟩
            go_simp
            with_reducible rfl
           rotate_left
           ·
            simp only [fr_]
            rfl
           refine one_ (i := 23) (N := some 39) #[t_,t_,t_,t_,t_,t_,t_,t_,t_,t_,t_,t_,t_,t_,t_,t_,t_,t_,t_,t_,t_,t_,t_,t_,f_,f_,f_] rfl rfl (one_of HT_.out (by kernel_rfl)) (by decide) (fun K hK => ?_)
           refine goes_ Try.func153 (by kernel_rfl) rfl #[.slice A734_0 ((rd_T44 l0 (ji13)).f0).length c734_0, .slice A727_0 ((rd_T44 l0 x11_1).f0).length c727_0] (by rfl) rfl rfl (by (try simp only [List.map_toArray, List.map_cons, List.map_nil]); first | done | (simp only [hji13]; rfl) | rfl | (simp only [List.length_drop, List.length_take]; rfl)) ?_
           with_reducible refine (impl_SetLess.calls k1 _ _ ((rd_T44 l0 (ji13)).f0) _ _ ((rd_T44 l0 x11_1).f0) false _ ?side1 ?side2 ?side3 ?side4 A16.out).mono ?_
           (case side1 => repeat (first | exact (Kd.C_below HR734_0.out (by repeat (first | (with_reducible first | exact HB.out | apply below_alloc | apply pw_below_drewN | apply below_drew1 | refine below_set ?_ GE728.out) | exact HB.out))) | (with_reducible refine Kd.C_alloc ?_ _) | (with_reducible refine Kd.C_drewN ?_ _) | (with_reducible refine Kd.C_drew ?_)))
           (case side2 => exact HC734_0.out)
           (case side3 => repeat (first | exact (Kd.C_below HR727_0.out (by repeat (first | (with_reducible first | exact HB.out | apply below_alloc | apply pw_below_drewN | apply below_drew1 | refine below_set ?_ GE728.out) | exact HB.out))) | (with_reducible refine Kd.C_alloc ?_ _) | (with_reducible refine Kd.C_drewN ?_ _) | (with_reducible refine Kd.C_drew ?_)))
           (case side4 => exact HC727_0.out)
           rintro e w' ⟨rfl, ⟨nd, rfl⟩⟩
           refine ⟨_, rfl, ?_⟩
           refine hK.out _ _ ⟨(blk_cell BK728.out 0).trans rfl, (blk_cell BK728.out 1).trans rfl, (blk_cell BK728.out 2).trans rfl, (blk_cell BK728.out 3).trans rfl, ((HB.out.cell (World.block_lt_of_cell? w _ hw734_0)).trans hw734_0), ((HB.out.cell (World.block_lt_of_cell? w _ hw734_1)).trans hw734_1), ((HB.out.cell (World.block_lt_of_cell? w _ hw734_2)).trans hw734_2), ((HB.out.cell (World.block_lt_of_cell? w _ hw734_3)).trans hw734_3)⟩ (fun hHeld => ?_)
           clear hK K
           refine norm_ (a' := ?_) ?_ ?_
           rotate_left
           ·
            show Act.put _ (some 39) _ = _
            simp only [fr_]
            rfl
           refine pu_ 24 40 ?_ (b_ 25 2) rfl rfl (any_of HT_.out (by kernel_rfl)) (fun _ _ _ h => h) (by rfl) ?_ ?_ ?_ ?_; rotate_left; intro w'; go_simp; with_reducible rfl; rotate_left; simp only [fr_]; rfl
           refine pu_ 25 41 ?_ (b_ 26 1) rfl rfl (any_of HT_.out (by kernel_rfl)) (fun _ _ _ h => h) (by rfl) ?_ ?_ ?_ ?_; rotate_left; intro w'; go_simp; with_reducible rfl; rotate_left; simp only [fr_]; rfl
           refine pu_ 26 42 ?_ (b_ 27 0) rfl rfl (any_of HT_.out (by kernel_rfl)) (fun _ _ _ h => h) (by rfl) ?_ ?_ ?_ ?_; rotate_left; intro w'; go_simp; with_reducible rfl; rotate_left; simp only [fr_]; rfl
           refine done_ (done_of HT_.out (by kernel_rfl)) ?_
           try go_wp2
           go_ret
           exact ⟨by first | rfl | (simp [errW_none, errW_some] <;> rfl) | (simp only [← hji13]; first | rfl | (simp [errW_none, errW_some] <;> rfl)) | (simp [*, errW_none, errW_some] <;> rfl), by repeat (first | (with_reducible first | exact HB.out | apply below_alloc | apply pw_below_drewN | apply below_drew1 | refine below_set ?_ GE728.out) | exact HB.out)⟩
          rw [if_neg c15] at H
          exact absurd H (by simp)
         rw [if_neg c14] at H
         exact absurd H (by simp)
        rw [if_neg c12] at H
        have c12b0 : decide (0 < x11_1) = false := decide_eq_false c12
        clear c12
        have H' := Aside0.mk H
        clear H
        have p727 : 0 ≤ (x11_1 : Int) := of_decide_eq_true (by first | (with_reducible assumption) | assumption)
        have q727 : x11_1 < (l0.length : Int) := of_decide_eq_true (by first | (with_reducible assumption) | assumption)
        obtain ⟨ad727, A727_0, c727_0, e727, hx727_0, hx727_1, hx727_2, hx727_3, hl727_0, hi727_0⟩ := at_T44 HR0.out x11_1 p727 q727
        cases e727
        replace hx727_0 := (HB.out.cell (World.block_lt_of_cell? w _ hx727_0)).trans hx727_0
        replace hx727_1 := (HB.out.cell (World.block_lt_of_cell? w _ hx727_1)).trans hx727_1
        replace hx727_2 := (HB.out.cell (World.block_lt_of_cell? w _ hx727_2)).trans hx727_2
        replace hx727_3 := (HB.out.cell (World.block_lt_of_cell? w _ hx727_3)).trans hx727_3
        have HR727_0 := Aside0.mk hi727_0
        have HC727_0 := Aside0.mk hl727_0
        clear hi727_0 hl727_0
        replace p727 := eq_true p727
        replace q727 := eq_true q727
        try go_wp2_with (first | ((with_reducible refine gate_dst (N := 8) rfl ?_); refine box_event ?hg (N := 8) ?hd (cs := #[.slice none 0 0, .int .i64 0, .int .i64 0, .string (⟨#[]⟩ : ByteArray)]) (t := 44) ?hr ?_; (case hd => rfl); (case hg => rfl); (case hr => first | (go_simp; done) | (go_simp; rfl)); intro gb728 hg w32 hbox hb; have n0_ := Aside0.mk (below_step (by repeat (first | (with_reducible first | exact HB.out | apply below_alloc | apply pw_below_drewN | apply below_drew1) | exact HB.out)) hb); have n1_ := Aside0.mk (hbox); have n2_ := Aside0.mk ((by rw [hg]; exact (below_size (by repeat (first | (with_reducible first | exact HB.out | apply below_alloc | apply pw_below_drewN | apply below_drew1) | exact HB.out))) : w.heap.size ≤ gb728)); have n3_ := n2_; clear HB; have HB := n0_; have BK728 := n1_; have GW728 := n2_; have GE728 := n3_; clear n0_ n1_ n2_ n3_; clear hb hbox hg; have hcz33_0 : w32.cell? ⟨gb728, 0, none⟩ = some (.slice none 0 0) := (blk_cell BK728.out 0).trans rfl; have hcz33_1 : w32.cell? ⟨gb728, 1, none⟩ = some (.int .i64 0) := (blk_cell BK728.out 1).trans rfl; have hcz33_2 : w32.cell? ⟨gb728, 2, none⟩ = some (.int .i64 0) := (blk_cell BK728.out 2).trans rfl; have hcz33_3 : w32.cell? ⟨gb728, 3, none⟩ = some (.string (⟨#[]⟩ : ByteArray)) := (blk_cell BK728.out 3).trans rfl; have hfz33_0 := blk_frozen BK728.out 0; have hfz33_1 := blk_frozen BK728.out 1; have hfz33_2 := blk_frozen BK728.out 2; have hfz33_3 := blk_frozen BK728.out 3))
        have n0_ : Aside0 (((((w32.setCell ⟨gb728, 0, none⟩ (.slice A727_0 ((rd_T44 l0 x11_1).f0).length c727_0)).setCell ⟨gb728, 1, none⟩ (.int .i64 ((rd_T44 l0 x11_1).f1))).setCell ⟨gb728, 2, none⟩ (.int .i64 ((rd_T44 l0 x11_1).f2))).setCell ⟨gb728, 3, none⟩ (.string ((rd_T44 l0 x11_1).f3))).heap[gb728]? = some (.cells #[.slice A727_0 ((rd_T44 l0 x11_1).f0).length c727_0, .int .i64 ((rd_T44 l0 x11_1).f1), .int .i64 ((rd_T44 l0 x11_1).f2), .string ((rd_T44 l0 x11_1).f3)] 44 (0, 0))) := ⟨by (with_reducible repeat (first | refine blk_drewN ?_ _ | refine blk_drew ?_ | refine blk_alloc ?_ _)); refine blk_put (cs := #[.slice A727_0 ((rd_T44 l0 x11_1).f0).length c727_0, .int .i64 ((rd_T44 l0 x11_1).f1), .int .i64 ((rd_T44 l0 x11_1).f2), .string (⟨#[]⟩ : ByteArray)]) ?_ 3 _ rfl; (with_reducible repeat (first | refine blk_drewN ?_ _ | refine blk_drew ?_ | refine blk_alloc ?_ _)); refine blk_put (cs := #[.slice A727_0 ((rd_T44 l0 x11_1).f0).length c727_0, .int .i64 ((rd_T44 l0 x11_1).f1), .int .i64 0, .string (⟨#[]⟩ : ByteArray)]) ?_ 2 _ rfl; (with_reducible repeat (first | refine blk_drewN ?_ _ | refine blk_drew ?_ | refine blk_alloc ?_ _)); refine blk_put (cs := #[.slice A727_0 ((rd_T44 l0 x11_1).f0).length c727_0, .int .i64 0, .int .i64 0, .string (⟨#[]⟩ : ByteArray)]) ?_ 1 _ rfl; (with_reducible repeat (first | refine blk_drewN ?_ _ | refine blk_drew ?_ | refine blk_alloc ?_ _)); refine blk_put (cs := #[.slice none 0 0, .int .i64 0, .int .i64 0, .string (⟨#[]⟩ : ByteArray)]) ?_ 0 _ rfl; (with_reducible repeat (first | refine blk_drewN ?_ _ | refine blk_drew ?_ | refine blk_alloc ?_ _)); exact BK728.out⟩
        have n1_ : Aside0 (Below w.heap.size w ((((w32.setCell ⟨gb728, 0, none⟩ (.slice A727_0 ((rd_T44 l0 x11_1).f0).length c727_0)).setCell ⟨gb728, 1, none⟩ (.int .i64 ((rd_T44 l0 x11_1).f1))).setCell ⟨gb728, 2, none⟩ (.int .i64 ((rd_T44 l0 x11_1).f2))).setCell ⟨gb728, 3, none⟩ (.string ((rd_T44 l0 x11_1).f3)))) := ⟨by repeat (first | (with_reducible first | exact HB.out | apply below_alloc | apply pw_below_drewN | apply below_drew1 | refine below_set ?_ GE728.out) | exact HB.out)⟩
        (try clear BK728)
        (try clear HB)
        generalize ((((w32.setCell ⟨gb728, 0, none⟩ (.slice A727_0 ((rd_T44 l0 x11_1).f0).length c727_0)).setCell ⟨gb728, 1, none⟩ (.int .i64 ((rd_T44 l0 x11_1).f1))).setCell ⟨gb728, 2, none⟩ (.int .i64 ((rd_T44 l0 x11_1).f2))).setCell ⟨gb728, 3, none⟩ (.string ((rd_T44 l0 x11_1).f3))) = w34 at n0_ n1_ ⊢
        have BK728 := n0_
        have HB := n1_
        clear n0_ n1_
        have n0_ := Aside0.mk (blk_drew BK728.out)
        have n1_ := Aside0.mk (below_drew1 HB.out)
        clear BK728
        clear HB
        have BK728 := n0_
        have HB := n1_
        clear n0_ n1_
        refine start_ (n := 27) (S := fun w' => w'.cell? ⟨gb728, 0, none⟩ = some (.slice A727_0 ((rd_T44 l0 x11_1).f0).length c727_0) ∧ w'.cell? ⟨gb728, 1, none⟩ = some (.int .i64 ((rd_T44 l0 x11_1).f1)) ∧ w'.cell? ⟨gb728, 2, none⟩ = some (.int .i64 ((rd_T44 l0 x11_1).f2)) ∧ w'.cell? ⟨gb728, 3, none⟩ = some (.string ((rd_T44 l0 x11_1).f3))) (ds := []) #[f_,f_,f_,f_,f_,f_,f_,f_,f_,f_,f_,f_,f_,f_,f_,f_,f_,f_,f_,f_,f_,f_,f_,f_,f_,f_,f_] (by kernel_rfl) rfl rfl ⟨(blk_cell BK728.out 0).trans rfl, (blk_cell BK728.out 1).trans rfl, (blk_cell BK728.out 2).trans rfl, (blk_cell BK728.out 3).trans rfl⟩ (fun hHeld => ?_); refine with_tabW impl_keyedOk.tab4 impl_keyedOk.bits4 (fun HT_ HW_ => ?_)
        generalize w34.drew = w35 at BK728 HB hHeld ⊢
        refine take_ (i := 0) (N := some 16) (v := ?_) (a' := ?_) #[t_,f_,f_,f_,f_,f_,f_,f_,f_,f_,f_,f_,f_,f_,f_,f_,f_,f_,f_,f_,f_,f_,f_,f_,f_,f_,f_] rfl rfl (take_ofW HT_.out HW_.out (by kernel_rfl)) (fun _ _ _ h => h) (Or.inl ⟨by rfl, ?_⟩) hHeld ?_ ?_
        rotate_left
        ·
         rintro w' ⟨s0, s1, s2, s3⟩
         go_simp
         with_reducible rfl
        rotate_left
        ·
         simp only [fr_]
         rfl
        refine one_ (i := 1) (N := some 17) #[t_,t_,f_,f_,f_,f_,f_,f_,f_,f_,f_,f_,f_,f_,f_,f_,f_,f_,f_,f_,f_,f_,f_,f_,f_,f_,f_] rfl rfl (one_of HT_.out (by kernel_rfl)) (by decide) (fun K hK => ?_)
        refine goes_ Try.func124 (by kernel_rfl) rfl #[.agg #[.slice A727_0 ((rd_T44 l0 x11_1).f0).length c727_0, .int .i64 ((rd_T44 l0 x11_1).f1), .int .i64 ((rd_T44 l0 x11_1).f2), .string ((rd_T44 l0 x11_1).f3)]] (by rfl) rfl rfl (by (try simp only [List.map_toArray, List.map_cons, List.map_nil]); first | done | rfl | (simp only [List.length_drop, List.length_take]; rfl)) ?_
        with_reducible refine (impl_AlarmOk.calls k1 _ _ ((rd_T44 l0 x11_1).f0) ((rd_T44 l0 x11_1).f1) ((rd_T44 l0 x11_1).f2) ((rd_T44 l0 x11_1).f3) true _ ?side1 ?side2 A7.out).mono ?_
        (case side1 => repeat (first | exact (Kd.C_below HR727_0.out HB.out) | (with_reducible refine Kd.C_alloc ?_ _) | (with_reducible refine Kd.C_drewN ?_ _) | (with_reducible refine Kd.C_drew ?_)))
        (case side2 => exact HC727_0.out)
        rintro e w36 ⟨rfl, hb⟩
        refine ⟨_, rfl, ?_⟩
        have n0_ := Aside0.mk (blk_below (g := gb728) (o := .cells #[.slice A727_0 ((rd_T44 l0 x11_1).f0).length c727_0, .int .i64 ((rd_T44 l0 x11_1).f1), .int .i64 ((rd_T44 l0 x11_1).f2), .string ((rd_T44 l0 x11_1).f3)] 44 (0, 0)) (by (with_reducible repeat (first | refine blk_drewN ?_ _ | refine blk_drew ?_ | refine blk_alloc ?_ _)); exact BK728.out) hb)
        have n1_ := Aside0.mk (below_step (by repeat (first | (with_reducible first | exact HB.out | apply below_alloc | apply pw_below_drewN | apply below_drew1 | refine below_set ?_ GE728.out) | exact HB.out)) hb)
        clear BK728
        clear HB
        have BK728 := n0_
        have HB := n1_
        clear n0_ n1_
        (try clear hb)
        (try clear hb2)
        (try clear hk)
        (try clear hi)
        refine hK.out _ _ ⟨(blk_cell BK728.out 0).trans rfl, (blk_cell BK728.out 1).trans rfl, (blk_cell BK728.out 2).trans rfl, (blk_cell BK728.out 3).trans rfl⟩ (fun hHeld => ?_)
        clear hK K
        refine norm_ (a' := ?_) ?_ ?_
        rotate_left
        ·
         show Act.put _ (some 17) _ = _
         simp only [fr_]
         rfl
        refine pu_ 2 18 ?_ (b_ 3 24) rfl rfl (any_of HT_.out (by kernel_rfl)) (fun _ _ _ h => h) (by rfl) ?_ ?_ ?_ ?_; rotate_left; intro w'; go_simp; with_reducible rfl; rotate_left; simp only [fr_]; rfl
        refine pu_ 3 19 ?_ (b_ 4 23) rfl rfl (any_of HT_.out (by kernel_rfl)) (fun _ _ _ h => h) (by rfl) ?_ ?_ ?_ ?_; rotate_left; intro w'; go_simp; with_reducible rfl; rotate_left; simp only [fr_]; rfl
        refine pu_ 5 21 ?_ #[t_,t_,t_,t_,f_,t_,f_,f_,f_,f_,f_,f_,f_,f_,f_,f_,f_,f_,f_,f_,f_,f_,f_,f_,f_,f_,f_] rfl rfl (any_of HT_.out (by kernel_rfl)) (fun _ _ _ h => h) (by rfl) ?_ ?_ ?_ ?_; rotate_left; intro w'; go_simp; with_reducible rfl; rotate_left; simp only [fr_]; rfl
        refine pu_ 7 23 ?_ #[t_,t_,t_,t_,f_,t_,f_,t_,f_,f_,f_,f_,f_,f_,f_,f_,f_,f_,f_,f_,f_,f_,f_,f_,f_,f_,f_] rfl rfl (any_of HT_.out (by kernel_rfl)) (fun _ _ _ h => h) (by rfl) ?_ ?_ ?_ ?_; rotate_left; intro w'; go_simp; with_reducible rfl; rotate_left; simp only [fr_]; rfl
        refine take_ (i := 4) (N := some 20) (v := ?_) (a' := ?_) #[t_,t_,t_,t_,t_,t_,f_,t_,f_,f_,f_,f_,f_,f_,f_,f_,f_,f_,f_,f_,f_,f_,f_,f_,f_,f_,f_] rfl rfl (take_ofW HT_.out HW_.out (by kernel_rfl)) (fun _ _ _ h => h) (Or.inl ⟨by rfl, ?_⟩) hHeld ?_ ?_
        rotate_left
        ·
         rintro w' ⟨s0, s1, s2, s3⟩
         go_simp
         with_reducible rfl
        rotate_left
        ·
         simp only [fr_]
         rfl
        refine one_ (i := 6) (N := some 22) #[t_,t_,t_,t_,t_,t_,t_,t_,f_,f_,f_,f_,f_,f_,f_,f_,f_,f_,f_,f_,f_,f_,f_,f_,f_,f_,f_] rfl rfl (one_of HT_.out (by kernel_rfl)) (by decide) (fun K hK => ?_)
        refine goes_ Try.func130 (by kernel_rfl) rfl #[.agg #[.slice A727_0 ((rd_T44 l0 x11_1).f0).length c727_0, .int .i64 ((rd_T44 l0 x11_1).f1), .int .i64 ((rd_T44 l0 x11_1).f2), .string ((rd_T44 l0 x11_1).f3)], .slice A2 l2.length c2] (by rfl) rfl rfl (by (try simp only [List.map_toArray, List.map_cons, List.map_nil]); first | done | rfl | (simp only [List.length_drop, List.length_take]; rfl)) ?_
        with_reducible refine (impl_KeyOf.calls k1 _ _ ((rd_T44 l0 x11_1).f0) ((rd_T44 l0 x11_1).f1) ((rd_T44 l0 x11_1).f2) ((rd_T44 l0 x11_1).f3) _ _ l2 t730 _ ?side1 ?side2 ?side3 ?side4 A9.out).mono ?_
        (case side1 => repeat (first | exact (Kd.C_below HR727_0.out HB.out) | (with_reducible refine Kd.C_alloc ?_ _) | (with_reducible refine Kd.C_drewN ?_ _) | (with_reducible refine Kd.C_drew ?_)))
        (case side2 => exact HC727_0.out)
        (case side3 => repeat (first | exact (Kd.C_below HR2.out HB.out) | (with_reducible refine Kd.C_alloc ?_ _) | (with_reducible refine Kd.C_drewN ?_ _) | (with_reducible refine Kd.C_drew ?_)))
        (case side4 => exact HC2.out)
        rintro e w37 ⟨v731, rfl, ho0, hb⟩
        refine ⟨_, rfl, ?_⟩
        have n0_ := Aside0.mk (Kd.R_lower ho0 (below_size (by repeat (first | (with_reducible first | exact HB.out | apply below_alloc | apply pw_below_drewN | apply below_drew1 | refine below_set ?_ GE728.out) | exact HB.out))))
        have n1_ := Aside0.mk (blk_below (g := gb728) (o := .cells #[.slice A727_0 ((rd_T44 l0 x11_1).f0).length c727_0, .int .i64 ((rd_T44 l0 x11_1).f1), .int .i64 ((rd_T44 l0 x11_1).f2), .string ((rd_T44 l0 x11_1).f3)] 44 (0, 0)) (by (with_reducible repeat (first | refine blk_drewN ?_ _ | refine blk_drew ?_ | refine blk_alloc ?_ _)); exact BK728.out) hb)
        have n2_ := Aside0.mk (below_step (by repeat (first | (with_reducible first | exact HB.out | apply below_alloc | apply pw_below_drewN | apply below_drew1 | refine below_set ?_ GE728.out) | exact HB.out)) hb)
        clear BK728
        clear HB
        have HO732 := n0_
        have BK728 := n1_
        have HB := n2_
        clear n0_ n1_ n2_
        (try clear hb)
        (try clear hb2)
        (try clear hk)
        (try clear hi)
        (try clear ho0)
        obtain ⟨Ao38, co38, eo38⟩ := Kd.R_slice HO732.out
        (first | subst eo38 | (injection eo38 with f1_ f2_ f3_; have f4_ := f1_.symm; have f5_ := f3_.symm; clear f1_ f2_ f3_; subst f4_; subst f5_))
        refine hK.out _ _ ⟨(blk_cell BK728.out 0).trans rfl, (blk_cell BK728.out 1).trans rfl, (blk_cell BK728.out 2).trans rfl, (blk_cell BK728.out 3).trans rfl⟩ (fun hHeld => ?_)
        clear hK K
        refine norm_ (a' := ?_) ?_ ?_
        rotate_left
        ·
         show Act.put _ (some 22) _ = _
         simp only [fr_]
         rfl
        refine one_ (i := 8) (N := some 24) #[t_,t_,t_,t_,t_,t_,t_,t_,t_,f_,f_,f_,f_,f_,f_,f_,f_,f_,f_,f_,f_,f_,f_,f_,f_,f_,f_] rfl rfl (one_of HT_.out (by kernel_rfl)) (by decide) (fun K hK => ?_)
        refine goes_ Try.func139 (by kernel_rfl) rfl #[.slice Ao38 t730.length co38, .slice A1 l1.length c1] (by rfl) rfl rfl (by (try simp only [List.map_toArray, List.map_cons, List.map_nil]); first | done | rfl | (simp only [List.length_drop, List.length_take]; rfl)) ?_
        with_reducible refine (impl_SameSet.calls k1 _ _ t730 _ _ l1 true _ ?side1 ?side2 ?side3 ?side4 A10.out).mono ?_
        (case side1 => repeat (first | exact (Kd.R_reads' HO732.out).2.2 | (with_reducible refine Kd.C_alloc ?_ _) | (with_reducible refine Kd.C_drewN ?_ _) | (with_reducible refine Kd.C_drew ?_)))
        (case side2 => exact (Kd.R_reads' HO732.out).2.1)
        (case side3 => repeat (first | exact (Kd.C_below HR1.out HB.out) | (with_reducible refine Kd.C_alloc ?_ _) | (with_reducible refine Kd.C_drewN ?_ _) | (with_reducible refine Kd.C_drew ?_)))
        (case side4 => exact HC1.out)
        rintro e w' ⟨rfl, ⟨nd, rfl⟩⟩
        refine ⟨_, rfl, ?_⟩
        refine hK.out _ _ ⟨(blk_cell BK728.out 0).trans rfl, (blk_cell BK728.out 1).trans rfl, (blk_cell BK728.out 2).trans rfl, (blk_cell BK728.out 3).trans rfl⟩ (fun hHeld => ?_)
        clear hK K
        refine norm_ (a' := ?_) ?_ ?_
        rotate_left
        ·
         show Act.put _ (some 24) _ = _
         simp only [fr_]
         rfl
        refine pu_ 9 25 ?_ (b_ 10 17) rfl rfl (any_of HT_.out (by kernel_rfl)) (fun _ _ _ h => h) (by rfl) ?_ ?_ ?_ ?_; rotate_left; intro w'; go_simp; with_reducible rfl; rotate_left; simp only [fr_]; rfl
        refine pu_ 10 26 ?_ (b_ 11 16) rfl rfl (any_of HT_.out (by kernel_rfl)) (fun _ _ _ h => h) (by rfl) ?_ ?_ ?_ ?_; rotate_left; intro w'; go_simp; with_reducible rfl; rotate_left; simp only [fr_]; rfl
        refine pu_ 11 27 ?_ (b_ 12 15) rfl rfl (any_of HT_.out (by kernel_rfl)) (fun _ _ _ h => h) (by rfl) ?_ ?_ ?_ ?_; rotate_left; intro w'; go_simp; with_reducible rfl; rotate_left; simp only [fr_]; rfl
        refine pu_ 12 28 ?_ (b_ 13 14) rfl rfl (any_of HT_.out (by kernel_rfl)) (fun _ _ _ h => h) (by rfl) ?_ ?_ ?_ ?_; rotate_left; intro w'; go_simp; with_reducible rfl; rotate_left; simp only [fr_]; rfl
        refine pu_ 13 29 ?_ (b_ 14 13) rfl rfl (any_of HT_.out (by kernel_rfl)) (fun _ _ _ h => h) (by rfl) ?_ ?_ ?_ ?_; rotate_left; intro w'; go_simp; with_reducible rfl; rotate_left; simp only [fr_]; rfl
        refine pu_ 14 30 ?_ (b_ 15 12) rfl rfl (any_of HT_.out (by kernel_rfl)) (fun _ _ _ h => h) (by rfl) ?_ ?_ ?_ ?_; rotate_left; intro w'; go_simp; with_reducible rfl; rotate_left; simp only [fr_]; rfl
        refine pv_ 15 31 ?_ (b_ 16 11) rfl rfl (any_of HT_.out (by kernel_rfl)) (fun _ _ _ h => h) (by rfl) ?_ ?_; rotate_left; simp only [fr_]; rfl
        refine pv_ 16 32 ?_ (b_ 17 10) rfl rfl (any_of HT_.out (by kernel_rfl)) (fun _ _ _ h => h) (by rfl) ?_ ?_; rotate_left; simp only [fr_]; rfl
        refine pv_ 17 33 ?_ (b_ 18 9) rfl rfl (any_of HT_.out (by kernel_rfl)) (fun _ _ _ h => h) (by rfl) ?_ ?_; rotate_left; simp only [fr_]; rfl
        refine pv_ 18 34 ?_ (b_ 19 8) rfl rfl (any_of HT_.out (by kernel_rfl)) (fun _ _ _ h => h) (by rfl) ?_ ?_; rotate_left; simp only [fr_]; rfl
        refine pv_ 19 35 ?_ (b_ 20 7) rfl rfl (any_of HT_.out (by kernel_rfl)) (fun _ _ _ h => h) (by rfl) ?_ ?_; rotate_left; simp only [fr_]; rfl
        refine pv_ 20 36 ?_ (b_ 21 6) rfl rfl (any_of HT_.out (by kernel_rfl)) (fun _ _ _ h => h) (by rfl) ?_ ?_; rotate_left; simp only [fr_]; rfl
        refine pv_ 21 37 ?_ (b_ 22 5) rfl rfl (any_of HT_.out (by kernel_rfl)) (fun _ _ _ h => h) (by rfl) ?_ ?_; rotate_left; simp only [fr_]; rfl
        refine pv_ 22 38 ?_ (b_ 23 4) rfl rfl (any_of HT_.out (by kernel_rfl)) (fun _ _ _ h => h) (by rfl) ?_ ?_; rotate_left; simp only [fr_]; rfl
        refine pv_ 23 39 ?_ (b_ 24 3) rfl rfl (any_of HT_.out (by kernel_rfl)) (fun _ _ _ h => h) (by rfl) ?_ ?_; rotate_left; simp only [fr_]; rfl
        refine pv_ 24 40 ?_ (b_ 25 2) rfl rfl (any_of HT_.out (by kernel_rfl)) (fun _ _ _ h => h) (by rfl) ?_ ?_; rotate_left; simp only [fr_]; rfl
        refine pu_ 25 41 ?_ (b_ 26 1) rfl rfl (any_of HT_.out (by kernel_rfl)) (fun _ _ _ h => h) (by rfl) ?_ ?_ ?_ ?_; rotate_left; intro w'; go_simp; with_reducible rfl; rotate_left; simp only [fr_]; rfl
        refine pu_ 26 42 ?_ (b_ 27 0) rfl rfl (any_of HT_.out (by kernel_rfl)) (fun _ _ _ h => h) (by rfl) ?_ ?_ ?_ ?_; rotate_left; intro w'; go_simp; with_reducible rfl; rotate_left; simp only [fr_]; rfl
        refine done_ (done_of HT_.out (by kernel_rfl)) ?_
        try go_wp2
        go_roundg k1
        case measure => have := HK1.out; omega
        case rel => exact ⟨(wrap64 (x11_1 + 1)), (by first | rfl | (simp; done) | (simp [*]; done)), H', ⟨by have := HK1.out; omega⟩, ⟨by repeat (first | (with_reducible first | exact HB.out | apply below_alloc | apply pw_below_drewN | apply below_drew1 | refine below_set ?_ GE728.out) | exact HB.out)⟩⟩
       replace c11 := Bool.eq_false_iff.mpr c11
       subst c11
       have H1 : (some false) = some r := by rw [if_neg (show ¬ (false = true) by decide)] at H; exact H
       clear H
       have H := H1
       clear H1
       obtain rfl := Option.some.inj H
       have p727 : 0 ≤ (x11_1 : Int) := of_decide_eq_true (by first | (with_reducible assumption) | assumption)
       have q727 : x11_1 < (l0.length : Int) := of_decide_eq_true (by first | (with_reducible assumption) | assumption)
       obtain ⟨ad727, A727_0, c727_0, e727, hx727_0, hx727_1, hx727_2, hx727_3, hl727_0, hi727_0⟩ := at_T44 HR0.out x11_1 p727 q727
       cases e727
       replace hx727_0 := (HB.out.cell (World.block_lt_of_cell? w _ hx727_0)).trans hx727_0
       replace hx727_1 := (HB.out.cell (World.block_lt_of_cell? w _ hx727_1)).trans hx727_1
       replace hx727_2 := (HB.out.cell (World.block_lt_of_cell? w _ hx727_2)).trans hx727_2
       replace hx727_3 := (HB.out.cell (World.block_lt_of_cell? w _ hx727_3)).trans hx727_3
       have HR727_0 := Aside0.mk hi727_0
       have HC727_0 := Aside0.mk hl727_0
       clear hi727_0 hl727_0
       replace p727 := eq_true p727
       replace q727 := eq_true q727
       try go_wp2_with (first | ((with_reducible refine gate_dst (N := 8) rfl ?_); refine box_event ?hg (N := 8) ?hd (cs := #[.slice none 0 0, .int .i64 0, .int .i64 0, .string (⟨#[]⟩ : ByteArray)]) (t := 44) ?hr ?_; (case hd => rfl); (case hg => rfl); (case hr => first | (go_simp; done) | (go_simp; rfl)); intro gb728 hg w39 hbox hb; have n0_ := Aside0.mk (below_step (by repeat (first | (with_reducible first | exact HB.out | apply below_alloc | apply pw_below_drewN | apply below_drew1) | exact HB.out)) hb); have n1_ := Aside0.mk (hbox); have n2_ := Aside0.mk ((by rw [hg]; exact (below_size (by repeat (first | (with_reducible first | exact HB.out | apply below_alloc | apply pw_below_drewN | apply below_drew1) | exact HB.out))) : w.heap.size ≤ gb728)); have n3_ := n2_; clear HB; have HB := n0_; have BK728 := n1_; have GW728 := n2_; have GE728 := n3_; clear n0_ n1_ n2_ n3_; clear hb hbox hg; have hcz40_0 : w39.cell? ⟨gb728, 0, none⟩ = some (.slice none 0 0) := (blk_cell BK728.out 0).trans rfl; have hcz40_1 : w39.cell? ⟨gb728, 1, none⟩ = some (.int .i64 0) := (blk_cell BK728.out 1).trans rfl; have hcz40_2 : w39.cell? ⟨gb728, 2, none⟩ = some (.int .i64 0) := (blk_cell BK728.out 2).trans rfl; have hcz40_3 : w39.cell? ⟨gb728, 3, none⟩ = some (.string (⟨#[]⟩ : ByteArray)) := (blk_cell BK728.out 3).trans rfl; have hfz40_0 := blk_frozen BK728.out 0; have hfz40_1 := blk_frozen BK728.out 1; have hfz40_2 := blk_frozen BK728.out 2; have hfz40_3 := blk_frozen BK728.out 3))
       have n0_ : Aside0 (((((w39.setCell ⟨gb728, 0, none⟩ (.slice A727_0 ((rd_T44 l0 x11_1).f0).length c727_0)).setCell ⟨gb728, 1, none⟩ (.int .i64 ((rd_T44 l0 x11_1).f1))).setCell ⟨gb728, 2, none⟩ (.int .i64 ((rd_T44 l0 x11_1).f2))).setCell ⟨gb728, 3, none⟩ (.string ((rd_T44 l0 x11_1).f3))).heap[gb728]? = some (.cells #[.slice A727_0 ((rd_T44 l0 x11_1).f0).length c727_0, .int .i64 ((rd_T44 l0 x11_1).f1), .int .i64 ((rd_T44 l0 x11_1).f2), .string ((rd_T44 l0 x11_1).f3)] 44 (0, 0))) := ⟨by (with_reducible repeat (first | refine blk_drewN ?_ _ | refine blk_drew ?_ | refine blk_alloc ?_ _)); refine blk_put (cs := #[.slice A727_0 ((rd_T44 l0 x11_1).f0).length c727_0, .int .i64 ((rd_T44 l0 x11_1).f1), .int .i64 ((rd_T44 l0 x11_1).f2), .string (⟨#[]⟩ : ByteArray)]) ?_ 3 _ rfl; (with_reducible repeat (first | refine blk_drewN ?_ _ | refine blk_drew ?_ | refine blk_alloc ?_ _)); refine blk_put (cs := #[.slice A727_0 ((rd_T44 l0 x11_1).f0).length c727_0, .int .i64 ((rd_T44 l0 x11_1).f1), .int .i64 0, .string (⟨#[]⟩ : ByteArray)]) ?_ 2 _ rfl; (with_reducible repeat (first | refine blk_drewN ?_ _ | refine blk_drew ?_ | refine blk_alloc ?_ _)); refine blk_put (cs := #[.slice A727_0 ((rd_T44 l0 x11_1).f0).length c727_0, .int .i64 0, .int .i64 0, .string (⟨#[]⟩ : ByteArray)]) ?_ 1 _ rfl; (with_reducible repeat (first | refine blk_drewN ?_ _ | refine blk_drew ?_ | refine blk_alloc ?_ _)); refine blk_put (cs := #[.slice none 0 0, .int .i64 0, .int .i64 0, .string (⟨#[]⟩ : ByteArray)]) ?_ 0 _ rfl; (with_reducible repeat (first | refine blk_drewN ?_ _ | refine blk_drew ?_ | refine blk_alloc ?_ _)); exact BK728.out⟩
       have n1_ : Aside0 (Below w.heap.size w ((((w39.setCell ⟨gb728, 0, none⟩ (.slice A727_0 ((rd_T44 l0 x11_1).f0).length c727_0)).setCell ⟨gb728, 1, none⟩ (.int .i64 ((rd_T44 l0 x11_1).f1))).setCell ⟨gb728, 2, none⟩ (.int .i64 ((rd_T44 l0 x11_1).f2))).setCell ⟨gb728, 3, none⟩ (.string ((rd_T44 l0 x11_1).f3)))) := ⟨by repeat (first | (with_reducible first | exact HB.out | apply below_alloc | apply pw_below_drewN | apply below_drew1 | refine below_set ?_ GE728.out) | exact HB.out)⟩
       (try clear BK728)
       (try clear HB)
       generalize ((((w39.setCell ⟨gb728, 0, none⟩ (.slice A727_0 ((rd_T44 l0 x11_1).f0).length c727_0)).setCell ⟨gb728, 1, none⟩ (.int .i64 ((rd_T44 l0 x11_1).f1))).setCell ⟨gb728, 2, none⟩ (.int .i64 ((rd_T44 l0 x11_1).f2))).setCell ⟨gb728, 3, none⟩ (.string ((rd_T44 l0 x11_1).f3))) = w41 at n0_ n1_ ⊢
       have BK728 := n0_
       have HB := n1_
       clear n0_ n1_
       have n0_ := Aside0.mk (blk_drew BK728.out)
       have n1_ := Aside0.mk (below_drew1 HB.out)
       clear BK728
       clear HB
       have BK728 := n0_
       have HB := n1_
       clear n0_ n1_
       refine start_ (n := 27) (S := fun w' => w'.cell? ⟨gb728, 0, none⟩ = some (.slice A727_0 ((rd_T44 l0 x11_1).f0).length c727_0) ∧ w'.cell? ⟨gb728, 1, none⟩ = some (.int .i64 ((rd_T44 l0 x11_1).f1)) ∧ w'.cell? ⟨gb728, 2, none⟩ = some (.int .i64 ((rd_T44 l0 x11_1).f2)) ∧ w'.cell? ⟨gb728, 3, none⟩ = some (.string ((rd_T44 l0 x11_1).f3))) (ds := []) #[f_,f_,f_,f_,f_,f_,f_,f_,f_,f_,f_,f_,f_,f_,f_,f_,f_,f_,f_,f_,f_,f_,f_,f_,f_,f_,f_] (by kernel_rfl) rfl rfl ⟨(blk_cell BK728.out 0).trans rfl, (blk_cell BK728.out 1).trans rfl, (blk_cell BK728.out 2).trans rfl, (blk_cell BK728.out 3).trans rfl⟩ (fun hHeld => ?_); refine with_tabW impl_keyedOk.tab4 impl_keyedOk.bits4 (fun HT_ HW_ => ?_)
       generalize w41.drew = w42 at BK728 HB hHeld ⊢
       refine take_ (i := 0) (N := some 16) (v := ?_) (a' := ?_) #[t_,f_,f_,f_,f_,f_,f_,f_,f_,f_,f_,f_,f_,f_,f_,f_,f_,f_,f_,f_,f_,f_,f_,f_,f_,f_,f_] rfl rfl (take_ofW HT_.out HW_.out (by kernel_rfl)) (fun _ _ _ h => h) (Or.inl ⟨by rfl, ?_⟩) hHeld ?_ ?_
       rotate_left
       ·
        rintro w' ⟨s0, s1, s2, s3⟩
        go_simp
        with_reducible rfl
       rotate_left
       ·
        simp only [fr_]
        rfl
       refine one_ (i := 1) (N := some 17) #[t_,t_,f_,f_,f_,f_,f_,f_,f_,f_,f_,f_,f_,f_,f_,f_,f_,f_,f_,f_,f_,f_,f_,f_,f_,f_,f_] rfl rfl (one_of HT_.out (by kernel_rfl)) (by decide) (fun K hK => ?_)
       refine goes_ Try.func124 (by kernel_rfl) rfl #[.agg #[.slice A727_0 ((rd_T44 l0 x11_1).f0).length c727_0, .int .i64 ((rd_T44 l0 x11_1).f1), .int .i64 ((rd_T44 l0 x11_1).f2), .string ((rd_T44 l0 x11_1).f3)]] (by rfl) rfl rfl (by (try simp only [List.map_toArray, List.map_cons, List.map_nil]); first | done | rfl | (simp only [List.length_drop, List.length_take]; rfl)) ?_
       with_reducible refine (impl_AlarmOk.calls k1 _ _ ((rd_T44 l0 x11_1).f0) ((rd_T44 l0 x11_1).f1) ((rd_T44 l0 x11_1).f2) ((rd_T44 l0 x11_1).f3) true _ ?side1 ?side2 A7.out).mono ?_
       (case side1 => repeat (first | exact (Kd.C_below HR727_0.out HB.out) | (with_reducible refine Kd.C_alloc ?_ _) | (with_reducible refine Kd.C_drewN ?_ _) | (with_reducible refine Kd.C_drew ?_)))
       (case side2 => exact HC727_0.out)
       rintro e w43 ⟨rfl, hb⟩
       refine ⟨_, rfl, ?_⟩
       have n0_ := Aside0.mk (blk_below (g := gb728) (o := .cells #[.slice A727_0 ((rd_T44 l0 x11_1).f0).length c727_0, .int .i64 ((rd_T44 l0 x11_1).f1), .int .i64 ((rd_T44 l0 x11_1).f2), .string ((rd_T44 l0 x11_1).f3)] 44 (0, 0)) (by (with_reducible repeat (first | refine blk_drewN ?_ _ | refine blk_drew ?_ | refine blk_alloc ?_ _)); exact BK728.out) hb)
       have n1_ := Aside0.mk (below_step (by repeat (first | (with_reducible first | exact HB.out | apply below_alloc | apply pw_below_drewN | apply below_drew1 | refine below_set ?_ GE728.out) | exact HB.out)) hb)
       clear BK728
       clear HB
       have BK728 := n0_
       have HB := n1_
       clear n0_ n1_
       (try clear hb)
       (try clear hb2)
       (try clear hk)
       (try clear hi)
       refine hK.out _ _ ⟨(blk_cell BK728.out 0).trans rfl, (blk_cell BK728.out 1).trans rfl, (blk_cell BK728.out 2).trans rfl, (blk_cell BK728.out 3).trans rfl⟩ (fun hHeld => ?_)
       clear hK K
       refine norm_ (a' := ?_) ?_ ?_
       rotate_left
       ·
        show Act.put _ (some 17) _ = _
        simp only [fr_]
        rfl
       refine pu_ 2 18 ?_ (b_ 3 24) rfl rfl (any_of HT_.out (by kernel_rfl)) (fun _ _ _ h => h) (by rfl) ?_ ?_ ?_ ?_; rotate_left; intro w'; go_simp; with_reducible rfl; rotate_left; simp only [fr_]; rfl
       refine pu_ 3 19 ?_ (b_ 4 23) rfl rfl (any_of HT_.out (by kernel_rfl)) (fun _ _ _ h => h) (by rfl) ?_ ?_ ?_ ?_; rotate_left; intro w'; go_simp; with_reducible rfl; rotate_left; simp only [fr_]; rfl
       refine pu_ 5 21 ?_ #[t_,t_,t_,t_,f_,t_,f_,f_,f_,f_,f_,f_,f_,f_,f_,f_,f_,f_,f_,f_,f_,f_,f_,f_,f_,f_,f_] rfl rfl (any_of HT_.out (by kernel_rfl)) (fun _ _ _ h => h) (by rfl) ?_ ?_ ?_ ?_; rotate_left; intro w'; go_simp; with_reducible rfl; rotate_left; simp only [fr_]; rfl
       refine pu_ 7 23 ?_ #[t_,t_,t_,t_,f_,t_,f_,t_,f_,f_,f_,f_,f_,f_,f_,f_,f_,f_,f_,f_,f_,f_,f_,f_,f_,f_,f_] rfl rfl (any_of HT_.out (by kernel_rfl)) (fun _ _ _ h => h) (by rfl) ?_ ?_ ?_ ?_; rotate_left; intro w'; go_simp; with_reducible rfl; rotate_left; simp only [fr_]; rfl
       refine take_ (i := 4) (N := some 20) (v := ?_) (a' := ?_) #[t_,t_,t_,t_,t_,t_,f_,t_,f_,f_,f_,f_,f_,f_,f_,f_,f_,f_,f_,f_,f_,f_,f_,f_,f_,f_,f_] rfl rfl (take_ofW HT_.out HW_.out (by kernel_rfl)) (fun _ _ _ h => h) (Or.inl ⟨by rfl, ?_⟩) hHeld ?_ ?_
       rotate_left
       ·
        rintro w' ⟨s0, s1, s2, s3⟩
        go_simp
        with_reducible rfl
       rotate_left
       ·
        simp only [fr_]
        rfl
       refine one_ (i := 6) (N := some 22) #[t_,t_,t_,t_,t_,t_,t_,t_,f_,f_,f_,f_,f_,f_,f_,f_,f_,f_,f_,f_,f_,f_,f_,f_,f_,f_,f_] rfl rfl (one_of HT_.out (by kernel_rfl)) (by decide) (fun K hK => ?_)
       refine goes_ Try.func130 (by kernel_rfl) rfl #[.agg #[.slice A727_0 ((rd_T44 l0 x11_1).f0).length c727_0, .int .i64 ((rd_T44 l0 x11_1).f1), .int .i64 ((rd_T44 l0 x11_1).f2), .string ((rd_T44 l0 x11_1).f3)], .slice A2 l2.length c2] (by rfl) rfl rfl (by (try simp only [List.map_toArray, List.map_cons, List.map_nil]); first | done | rfl | (simp only [List.length_drop, List.length_take]; rfl)) ?_
       with_reducible refine (impl_KeyOf.calls k1 _ _ ((rd_T44 l0 x11_1).f0) ((rd_T44 l0 x11_1).f1) ((rd_T44 l0 x11_1).f2) ((rd_T44 l0 x11_1).f3) _ _ l2 t730 _ ?side1 ?side2 ?side3 ?side4 A9.out).mono ?_
       (case side1 => repeat (first | exact (Kd.C_below HR727_0.out HB.out) | (with_reducible refine Kd.C_alloc ?_ _) | (with_reducible refine Kd.C_drewN ?_ _) | (with_reducible refine Kd.C_drew ?_)))
       (case side2 => exact HC727_0.out)
       (case side3 => repeat (first | exact (Kd.C_below HR2.out HB.out) | (with_reducible refine Kd.C_alloc ?_ _) | (with_reducible refine Kd.C_drewN ?_ _) | (with_reducible refine Kd.C_drew ?_)))
       (case side4 => exact HC2.out)
       rintro e w44 ⟨v731, rfl, ho0, hb⟩
       refine ⟨_, rfl, ?_⟩
       have n0_ := Aside0.mk (Kd.R_lower ho0 (below_size (by repeat (first | (with_reducible first | exact HB.out | apply below_alloc | apply pw_below_drewN | apply below_drew1 | refine below_set ?_ GE728.out) | exact HB.out))))
       have n1_ := Aside0.mk (blk_below (g := gb728) (o := .cells #[.slice A727_0 ((rd_T44 l0 x11_1).f0).length c727_0, .int .i64 ((rd_T44 l0 x11_1).f1), .int .i64 ((rd_T44 l0 x11_1).f2), .string ((rd_T44 l0 x11_1).f3)] 44 (0, 0)) (by (with_reducible repeat (first | refine blk_drewN ?_ _ | refine blk_drew ?_ | refine blk_alloc ?_ _)); exact BK728.out) hb)
       have n2_ := Aside0.mk (below_step (by repeat (first | (with_reducible first | exact HB.out | apply below_alloc | apply pw_below_drewN | apply below_drew1 | refine below_set ?_ GE728.out) | exact HB.out)) hb)
       clear BK728
       clear HB
       have HO732 := n0_
       have BK728 := n1_
       have HB := n2_
       clear n0_ n1_ n2_
       (try clear hb)
       (try clear hb2)
       (try clear hk)
       (try clear hi)
       (try clear ho0)
       obtain ⟨Ao45, co45, eo45⟩ := Kd.R_slice HO732.out
       (first | subst eo45 | (injection eo45 with f1_ f2_ f3_; have f4_ := f1_.symm; have f5_ := f3_.symm; clear f1_ f2_ f3_; subst f4_; subst f5_))
       refine hK.out _ _ ⟨(blk_cell BK728.out 0).trans rfl, (blk_cell BK728.out 1).trans rfl, (blk_cell BK728.out 2).trans rfl, (blk_cell BK728.out 3).trans rfl⟩ (fun hHeld => ?_)
       clear hK K
       refine norm_ (a' := ?_) ?_ ?_
       rotate_left
       ·
        show Act.put _ (some 22) _ = _
        simp only [fr_]
        rfl
       refine one_ (i := 8) (N := some 24) #[t_,t_,t_,t_,t_,t_,t_,t_,t_,f_,f_,f_,f_,f_,f_,f_,f_,f_,f_,f_,f_,f_,f_,f_,f_,f_,f_] rfl rfl (one_of HT_.out (by kernel_rfl)) (by decide) (fun K hK => ?_)
       refine goes_ Try.func139 (by kernel_rfl) rfl #[.slice Ao45 t730.length co45, .slice A1 l1.length c1] (by rfl) rfl rfl (by (try simp only [List.map_toArray, List.map_cons, List.map_nil]); first | done | rfl | (simp only [List.length_drop, List.length_take]; rfl)) ?_
       with_reducible refine (impl_SameSet.calls k1 _ _ t730 _ _ l1 false _ ?side1 ?side2 ?side3 ?side4 A10.out).mono ?_
       (case side1 => repeat (first | exact (Kd.R_reads' HO732.out).2.2 | (with_reducible refine Kd.C_alloc ?_ _) | (with_reducible refine Kd.C_drewN ?_ _) | (with_reducible refine Kd.C_drew ?_)))
       (case side2 => exact (Kd.R_reads' HO732.out).2.1)
       (case side3 => repeat (first | exact (Kd.C_below HR1.out HB.out) | (with_reducible refine Kd.C_alloc ?_ _) | (with_reducible refine Kd.C_drewN ?_ _) | (with_reducible refine Kd.C_drew ?_)))
       (case side4 => exact HC1.out)
       rintro e w' ⟨rfl, ⟨nd, rfl⟩⟩
       refine ⟨_, rfl, ?_⟩
       refine hK.out _ _ ⟨(blk_cell BK728.out 0).trans rfl, (blk_cell BK728.out 1).trans rfl, (blk_cell BK728.out 2).trans rfl, (blk_cell BK728.out 3).trans rfl⟩ (fun hHeld => ?_)
       clear hK K
       refine norm_ (a' := ?_) ?_ ?_
       rotate_left
       ·
        show Act.put _ (some 24) _ = _
        simp only [fr_]
        rfl
       refine pu_ 9 25 ?_ (b_ 10 17) rfl rfl (any_of HT_.out (by kernel_rfl)) (fun _ _ _ h => h) (by rfl) ?_ ?_ ?_ ?_; rotate_left; intro w'; go_simp; with_reducible rfl; rotate_left; simp only [fr_]; rfl
       refine pu_ 10 26 ?_ (b_ 11 16) rfl rfl (any_of HT_.out (by kernel_rfl)) (fun _ _ _ h => h) (by rfl) ?_ ?_ ?_ ?_; rotate_left; intro w'; go_simp; with_reducible rfl; rotate_left; simp only [fr_]; rfl
       refine pu_ 11 27 ?_ (b_ 12 15) rfl rfl (any_of HT_.out (by kernel_rfl)) (fun _ _ _ h => h) (by rfl) ?_ ?_ ?_ ?_; rotate_left; intro w'; go_simp; with_reducible rfl; rotate_left; simp only [fr_]; rfl
       refine pv_ 12 28 ?_ (b_ 13 14) rfl rfl (any_of HT_.out (by kernel_rfl)) (fun _ _ _ h => h) (by rfl) ?_ ?_; rotate_left; simp only [fr_]; rfl
       refine pv_ 13 29 ?_ (b_ 14 13) rfl rfl (any_of HT_.out (by kernel_rfl)) (fun _ _ _ h => h) (by rfl) ?_ ?_; rotate_left; simp only [fr_]; rfl
       refine pv_ 14 30 ?_ (b_ 15 12) rfl rfl (any_of HT_.out (by kernel_rfl)) (fun _ _ _ h => h) (by rfl) ?_ ?_; rotate_left; simp only [fr_]; rfl
       refine pv_ 15 31 ?_ (b_ 16 11) rfl rfl (any_of HT_.out (by kernel_rfl)) (fun _ _ _ h => h) (by rfl) ?_ ?_; rotate_left; simp only [fr_]; rfl
       refine pv_ 16 32 ?_ (b_ 17 10) rfl rfl (any_of HT_.out (by kernel_rfl)) (fun _ _ _ h => h) (by rfl) ?_ ?_; rotate_left; simp only [fr_]; rfl
       refine pv_ 17 33 ?_ (b_ 18 9) rfl rfl (any_of HT_.out (by kernel_rfl)) (fun _ _ _ h => h) (by rfl) ?_ ?_; rotate_left; simp only [fr_]; rfl
       refine pv_ 18 34 ?_ (b_ 19 8) rfl rfl (any_of HT_.out (by kernel_rfl)) (fun _ _ _ h => h) (by rfl) ?_ ?_; rotate_left; simp only [fr_]; rfl
       refine pv_ 19 35 ?_ (b_ 20 7) rfl rfl (any_of HT_.out (by kernel_rfl)) (fun _ _ _ h => h) (by rfl) ?_ ?_; rotate_left; simp only [fr_]; rfl
       refine pv_ 20 36 ?_ (b_ 21 6) rfl rfl (any_of HT_.out (by kernel_rfl)) (fun _ _ _ h => h) (by rfl) ?_ ?_; rotate_left; simp only [fr_]; rfl
       refine pv_ 21 37 ?_ (b_ 22 5) rfl rfl (any_of HT_.out (by kernel_rfl)) (fun _ _ _ h => h) (by rfl) ?_ ?_; rotate_left; simp only [fr_]; rfl
       refine pv_ 22 38 ?_ (b_ 23 4) rfl rfl (any_of HT_.out (by kernel_rfl)) (fun _ _ _ h => h) (by rfl) ?_ ?_; rotate_left; simp only [fr_]; rfl
       refine pv_ 23 39 ?_ (b_ 24 3) rfl rfl (any_of HT_.out (by kernel_rfl)) (fun _ _ _ h => h) (by rfl) ?_ ?_; rotate_left; simp only [fr_]; rfl
       refine pv_ 24 40 ?_ (b_ 25 2) rfl rfl (any_of HT_.out (by kernel_rfl)) (fun _ _ _ h => h) (by rfl) ?_ ?_; rotate_left; simp only [fr_]; rfl
       refine pv_ 25 41 ?_ (b_ 26 1) rfl rfl (any_of HT_.out (by kernel_rfl)) (fun _ _ _ h => h) (by rfl) ?_ ?_; rotate_left; simp only [fr_]; rfl
       refine pu_ 26 42 ?_ (b_ 27 0) rfl rfl (any_of HT_.out (by kernel_rfl)) (fun _ _ _ h => h) (by rfl) ?_ ?_ ?_ ?_; rotate_left; intro w'; go_simp; with_reducible rfl; rotate_left; simp only [fr_]; rfl
       refine done_ (done_of HT_.out (by kernel_rfl)) ?_
       try go_wp2
       go_ret
       exact ⟨by first | rfl | (simp [errW_none, errW_some] <;> rfl) | (simp [*, errW_none, errW_some] <;> rfl), by repeat (first | (with_reducible first | exact HB.out | apply below_alloc | apply pw_below_drewN | apply below_drew1 | refine below_set ?_ GE728.out) | exact HB.out)⟩
      replace c8 := Bool.eq_false_iff.mpr c8
      subst c8
      have H1 : (some false) = some r := by rw [if_neg (show ¬ (false = true) by decide)] at H; exact H
      clear H
      have H := H1
      clear H1
      obtain rfl := Option.some.inj H
      have p727 : 0 ≤ (x11_1 : Int) := of_decide_eq_true (by first | (with_reducible assumption) | assumption)
      have q727 : x11_1 < (l0.length : Int) := of_decide_eq_true (by first | (with_reducible assumption) | assumption)
      obtain ⟨ad727, A727_0, c727_0, e727, hx727_0, hx727_1, hx727_2, hx727_3, hl727_0, hi727_0⟩ := at_T44 HR0.out x11_1 p727 q727
      cases e727
      replace hx727_0 := (HB.out.cell (World.block_lt_of_cell? w _ hx727_0)).trans hx727_0
      replace hx727_1 := (HB.out.cell (World.block_lt_of_cell? w _ hx727_1)).trans hx727_1
      replace hx727_2 := (HB.out.cell (World.block_lt_of_cell? w _ hx727_2)).trans hx727_2
      replace hx727_3 := (HB.out.cell (World.block_lt_of_cell? w _ hx727_3)).trans hx727_3
      have HR727_0 := Aside0.mk hi727_0
      have HC727_0 := Aside0.mk hl727_0
      clear hi727_0 hl727_0
      replace p727 := eq_true p727
      replace q727 := eq_true q727
      try go_wp2_with (first | ((with_reducible refine gate_dst (N := 8) rfl ?_); refine box_event ?hg (N := 8) ?hd (cs := #[.slice none 0 0, .int .i64 0, .int .i64 0, .string (⟨#[]⟩ : ByteArray)]) (t := 44) ?hr ?_; (case hd => rfl); (case hg => rfl); (case hr => first | (go_simp; done) | (go_simp; rfl)); intro gb728 hg w46 hbox hb; have n0_ := Aside0.mk (below_step (by repeat (first | (with_reducible first | exact HB.out | apply below_alloc | apply pw_below_drewN | apply below_drew1) | exact HB.out)) hb); have n1_ := Aside0.mk (hbox); have n2_ := Aside0.mk ((by rw [hg]; exact (below_size (by repeat (first | (with_reducible first | exact HB.out | apply below_alloc | apply pw_below_drewN | apply below_drew1) | exact HB.out))) : w.heap.size ≤ gb728)); have n3_ := n2_; clear HB; have HB := n0_; have BK728 := n1_; have GW728 := n2_; have GE728 := n3_; clear n0_ n1_ n2_ n3_; clear hb hbox hg; have hcz47_0 : w46.cell? ⟨gb728, 0, none⟩ = some (.slice none 0 0) := (blk_cell BK728.out 0).trans rfl; have hcz47_1 : w46.cell? ⟨gb728, 1, none⟩ = some (.int .i64 0) := (blk_cell BK728.out 1).trans rfl; have hcz47_2 : w46.cell? ⟨gb728, 2, none⟩ = some (.int .i64 0) := (blk_cell BK728.out 2).trans rfl; have hcz47_3 : w46.cell? ⟨gb728, 3, none⟩ = some (.string (⟨#[]⟩ : ByteArray)) := (blk_cell BK728.out 3).trans rfl; have hfz47_0 := blk_frozen BK728.out 0; have hfz47_1 := blk_frozen BK728.out 1; have hfz47_2 := blk_frozen BK728.out 2; have hfz47_3 := blk_frozen BK728.out 3))
      have n0_ : Aside0 (((((w46.setCell ⟨gb728, 0, none⟩ (.slice A727_0 ((rd_T44 l0 x11_1).f0).length c727_0)).setCell ⟨gb728, 1, none⟩ (.int .i64 ((rd_T44 l0 x11_1).f1))).setCell ⟨gb728, 2, none⟩ (.int .i64 ((rd_T44 l0 x11_1).f2))).setCell ⟨gb728, 3, none⟩ (.string ((rd_T44 l0 x11_1).f3))).heap[gb728]? = some (.cells #[.slice A727_0 ((rd_T44 l0 x11_1).f0).length c727_0, .int .i64 ((rd_T44 l0 x11_1).f1), .int .i64 ((rd_T44 l0 x11_1).f2), .string ((rd_T44 l0 x11_1).f3)] 44 (0, 0))) := ⟨by (with_reducible repeat (first | refine blk_drewN ?_ _ | refine blk_drew ?_ | refine blk_alloc ?_ _)); refine blk_put (cs := #[.slice A727_0 ((rd_T44 l0 x11_1).f0).length c727_0, .int .i64 ((rd_T44 l0 x11_1).f1), .int .i64 ((rd_T44 l0 x11_1).f2), .string (⟨#[]⟩ : ByteArray)]) ?_ 3 _ rfl; (with_reducible repeat (first | refine blk_drewN ?_ _ | refine blk_drew ?_ | refine blk_alloc ?_ _)); refine blk_put (cs := #[.slice A727_0 ((rd_T44 l0 x11_1).f0).length c727_0, .int .i64 ((rd_T44 l0 x11_1).f1), .int .i64 0, .string (⟨#[]⟩ : ByteArray)]) ?_ 2 _ rfl; (with_reducible repeat (first | refine blk_drewN ?_ _ | refine blk_drew ?_ | refine blk_alloc ?_ _)); refine blk_put (cs := #[.slice A727_0 ((rd_T44 l0 x11_1).f0).length c727_0, .int .i64 0, .int .i64 0, .string (⟨#[]⟩ : ByteArray)]) ?_ 1 _ rfl; (with_reducible repeat (first | refine blk_drewN ?_ _ | refine blk_drew ?_ | refine blk_alloc ?_ _)); refine blk_put (cs := #[.slice none 0 0, .int .i64 0, .int .i64 0, .string (⟨#[]⟩ : ByteArray)]) ?_ 0 _ rfl; (with_reducible repeat (first | refine blk_drewN ?_ _ | refine blk_drew ?_ | refine blk_alloc ?_ _)); exact BK728.out⟩
      have n1_ : Aside0 (Below w.heap.size w ((((w46.setCell ⟨gb728, 0, none⟩ (.slice A727_0 ((rd_T44 l0 x11_1).f0).length c727_0)).setCell ⟨gb728, 1, none⟩ (.int .i64 ((rd_T44 l0 x11_1).f1))).setCell ⟨gb728, 2, none⟩ (.int .i64 ((rd_T44 l0 x11_1).f2))).setCell ⟨gb728, 3, none⟩ (.string ((rd_T44 l0 x11_1).f3)))) := ⟨by repeat (first | (with_reducible first | exact HB.out | apply below_alloc | apply pw_below_drewN | apply below_drew1 | refine below_set ?_ GE728.out) | exact HB.out)⟩
      (try clear BK728)
      (try clear HB)
      generalize ((((w46.setCell ⟨gb728, 0, none⟩ (.slice A727_0 ((rd_T44 l0 x11_1).f0).length c727_0)).setCell ⟨gb728, 1, none⟩ (.int .i64 ((rd_T44 l0 x11_1).f1))).setCell ⟨gb728, 2, none⟩ (.int .i64 ((rd_T44 l0 x11_1).f2))).setCell ⟨gb728, 3, none⟩ (.string ((rd_T44 l0 x11_1).f3))) = w48 at n0_ n1_ ⊢
      have BK728 := n0_
      have HB := n1_
      clear n0_ n1_
      have n0_ := Aside0.mk (blk_drew BK728.out)
      have n1_ := Aside0.mk (below_drew1 HB.out)
      clear BK728
      clear HB
      have BK728 := n0_
      have HB := n1_
      clear n0_ n1_
      refine start_ (n := 27) (S := fun w' => w'.cell? ⟨gb728, 0, none⟩ = some (.slice A727_0 ((rd_T44 l0 x11_1).f0).length c727_0) ∧ w'.cell? ⟨gb728, 1, none⟩ = some (.int .i64 ((rd_T44 l0 x11_1).f1)) ∧ w'.cell? ⟨gb728, 2, none⟩ = some (.int .i64 ((rd_T44 l0 x11_1).f2)) ∧ w'.cell? ⟨gb728, 3, none⟩ = some (.string ((rd_T44 l0 x11_1).f3))) (ds := []) #[f_,f_,f_,f_,f_,f_,f_,f_,f_,f_,f_,f_,f_,f_,f_,f_,f_,f_,f_,f_,f_,f_,f_,f_,f_,f_,f_] (by kernel_rfl) rfl rfl ⟨(blk_cell BK728.out 0).trans rfl, (blk_cell BK728.out 1).trans rfl, (blk_cell BK728.out 2).trans rfl, (blk_cell BK728.out 3).trans rfl⟩ (fun hHeld => ?_); refine with_tabW impl_keyedOk.tab4 impl_keyedOk.bits4 (fun HT_ HW_ => ?_)
      generalize w48.drew = w49 at BK728 HB hHeld ⊢
      refine take_ (i := 0) (N := some 16) (v := ?_) (a' := ?_) #[t_,f_,f_,f_,f_,f_,f_,f_,f_,f_,f_,f_,f_,f_,f_,f_,f_,f_,f_,f_,f_,f_,f_,f_,f_,f_,f_] rfl rfl (take_ofW HT_.out HW_.out (by kernel_rfl)) (fun _ _ _ h => h) (Or.inl ⟨by rfl, ?_⟩) hHeld ?_ ?_
      rotate_left
      ·
       rintro w' ⟨s0, s1, s2, s3⟩
       go_simp
       with_reducible rfl
      rotate_left
      ·
       simp only [fr_]
       rfl
      refine one_ (i := 1) (N := some 17) #[t_,t_,f_,f_,f_,f_,f_,f_,f_,f_,f_,f_,f_,f_,f_,f_,f_,f_,f_,f_,f_,f_,f_,f_,f_,f_,f_] rfl rfl (one_of HT_.out (by kernel_rfl)) (by decide) (fun K hK => ?_)
      refine goes_ Try.func124 (by kernel_rfl) rfl #[.agg #[.slice A727_0 ((rd_T44 l0 x11_1).f0).length c727_0, .int .i64 ((rd_T44 l0 x11_1).f1), .int .i64 ((rd_T44 l0 x11_1).f2), .string ((rd_T44 l0 x11_1).f3)]] (by rfl) rfl rfl (by (try simp only [List.map_toArray, List.map_cons, List.map_nil]); first | done | rfl | (simp only [List.length_drop, List.length_take]; rfl)) ?_
      with_reducible refine (impl_AlarmOk.calls k1 _ _ ((rd_T44 l0 x11_1).f0) ((rd_T44 l0 x11_1).f1) ((rd_T44 l0 x11_1).f2) ((rd_T44 l0 x11_1).f3) false _ ?side1 ?side2 A7.out).mono ?_
      (case side1 => repeat (first | exact (Kd.C_below HR727_0.out HB.out) | (with_reducible refine Kd.C_alloc ?_ _) | (with_reducible refine Kd.C_drewN ?_ _) | (with_reducible refine Kd.C_drew ?_)))
      (case side2 => exact HC727_0.out)
      rintro e w50 ⟨rfl, hb⟩
      refine ⟨_, rfl, ?_⟩
      have n0_ := Aside0.mk (blk_below (g := gb728) (o := .cells #[.slice A727_0 ((rd_T44 l0 x11_1).f0).length c727_0, .int .i64 ((rd_T44 l0 x11_1).f1), .int .i64 ((rd_T44 l0 x11_1).f2), .string ((rd_T44 l0 x11_1).f3)] 44 (0, 0)) (by (with_reducible repeat (first | refine blk_drewN ?_ _ | refine blk_drew ?_ | refine blk_alloc ?_ _)); exact BK728.out) hb)
      have n1_ := Aside0.mk (below_step (by repeat (first | (with_reducible first | exact HB.out | apply below_alloc | apply pw_below_drewN | apply below_drew1 | refine below_set ?_ GE728.out) | exact HB.out)) hb)
      clear BK728
      clear HB
      have BK728 := n0_
      have HB := n1_
      clear n0_ n1_
      (try clear hb)
      (try clear hb2)
      (try clear hk)
      (try clear hi)
      refine hK.out _ _ ⟨(blk_cell BK728.out 0).trans rfl, (blk_cell BK728.out 1).trans rfl, (blk_cell BK728.out 2).trans rfl, (blk_cell BK728.out 3).trans rfl⟩ (fun hHeld => ?_)
      clear hK K
      refine norm_ (a' := ?_) ?_ ?_
      rotate_left
      ·
       show Act.put _ (some 17) _ = _
       simp only [fr_]
       rfl
      refine pu_ 2 18 ?_ (b_ 3 24) rfl rfl (any_of HT_.out (by kernel_rfl)) (fun _ _ _ h => h) (by rfl) ?_ ?_ ?_ ?_; rotate_left; intro w'; go_simp; with_reducible rfl; rotate_left; simp only [fr_]; rfl
      refine pu_ 3 19 ?_ (b_ 4 23) rfl rfl (any_of HT_.out (by kernel_rfl)) (fun _ _ _ h => h) (by rfl) ?_ ?_ ?_ ?_; rotate_left; intro w'; go_simp; with_reducible rfl; rotate_left; simp only [fr_]; rfl
      refine pv_ 4 20 ?_ (b_ 5 22) rfl rfl (any_of HT_.out (by kernel_rfl)) (fun _ _ _ h => h) (by rfl) ?_ ?_; rotate_left; simp only [fr_]; rfl
      refine pv_ 5 21 ?_ (b_ 6 21) rfl rfl (any_of HT_.out (by kernel_rfl)) (fun _ _ _ h => h) (by rfl) ?_ ?_; rotate_left; simp only [fr_]; rfl
      refine pv_ 6 22 ?_ (b_ 7 20) rfl rfl (any_of HT_.out (by kernel_rfl)) (fun _ _ _ h => h) (by rfl) ?_ ?_; rotate_left; simp only [fr_]; rfl
      refine pv_ 7 23 ?_ (b_ 8 19) rfl rfl (any_of HT_.out (by kernel_rfl)) (fun _ _ _ h => h) (by rfl) ?_ ?_; rotate_left; simp only [fr_]; rfl
      refine pv_ 8 24 ?_ (b_ 9 18) rfl rfl (any_of HT_.out (by kernel_rfl)) (fun _ _ _ h => h) (by rfl) ?_ ?_; rotate_left; simp only [fr_]; rfl
      refine pv_ 9 25 ?_ (b_ 10 17) rfl rfl (any_of HT_.out (by kernel_rfl)) (fun _ _ _ h => h) (by rfl) ?_ ?_; rotate_left; simp only [fr_]; rfl
      refine pu_ 10 26 ?_ (b_ 11 16) rfl rfl (any_of HT_.out (by kernel_rfl)) (fun _ _ _ h => h) (by rfl) ?_ ?_ ?_ ?_; rotate_left; intro w'; go_simp; with_reducible rfl; rotate_left; simp only [fr_]; rfl
      refine pu_ 11 27 ?_ (b_ 12 15) rfl rfl (any_of HT_.out (by kernel_rfl)) (fun _ _ _ h => h) (by rfl) ?_ ?_ ?_ ?_; rotate_left; intro w'; go_simp; with_reducible rfl; rotate_left; simp only [fr_]; rfl
      refine pv_ 12 28 ?_ (b_ 13 14) rfl rfl (any_of HT_.out (by kernel_rfl)) (fun _ _ _ h => h) (by rfl) ?_ ?_; rotate_left; simp only [fr_]; rfl
      refine pv_ 13 29 ?_ (b_ 14 13) rfl rfl (any_of HT_.out (by kernel_rfl)) (fun _ _ _ h => h) (by rfl) ?_ ?_; rotate_left; simp only [fr_]; rfl
      refine pv_ 14 30 ?_ (b_ 15 12) rfl rfl (any_of HT_.out (by kernel_rfl)) (fun _ _ _ h => h) (by rfl) ?_ ?_; rotate_left; simp only [fr_]; rfl
      refine pv_ 15 31 ?_ (b_ 16 11) rfl rfl (any_of HT_.out (by kernel_rfl)) (fun _ _ _ h => h) (by rfl) ?_ ?_; rotate_left; simp only [fr_]; rfl
      refine pv_ 16 32 ?_ (b_ 17 10) rfl rfl (any_of HT_.out (by kernel_rfl)) (fun _ _ _ h => h) (by rfl) ?_ ?_; rotate_left; simp only [fr_]; rfl
      refine pv_ 17 33 ?_ (b_ 18 9) rfl rfl (any_of HT_.out (by kernel_rfl)) (fun _ _ _ h => h) (by rfl) ?_ ?_; rotate_left; simp only [fr_]; rfl
      refine pv_ 18 34 ?_ (b_ 19 8) rfl rfl (any_of HT_.out (by kernel_rfl)) (fun _ _ _ h => h) (by rfl) ?_ ?_; rotate_left; simp only [fr_]; rfl
      refine pv_ 19 35 ?_ (b_ 20 7) rfl rfl (any_of HT_.out (by kernel_rfl)) (fun _ _ _ h => h) (by rfl) ?_ ?_; rotate_left; simp only [fr_]; rfl
      refine pv_ 20 36 ?_ (b_ 21 6) rfl rfl (any_of HT_.out (by kernel_rfl)) (fun _ _ _ h => h) (by rfl) ?_ ?_; rotate_left; simp only [fr_]; rfl
      refine pv_ 21 37 ?_ (b_ 22 5) rfl rfl (any_of HT_.out (by kernel_rfl)) (fun _ _ _ h => h) (by rfl) ?_ ?_; rotate_left; simp only [fr_]; rfl
      refine pv_ 22 38 ?_ (b_ 23 4) rfl rfl (any_of HT_.out (by kernel_rfl)) (fun _ _ _ h => h) (by rfl) ?_ ?_; rotate_left; simp only [fr_]; rfl
      refine pv_ 23 39 ?_ (b_ 24 3) rfl rfl (any_of HT_.out (by kernel_rfl)) (fun _ _ _ h => h) (by rfl) ?_ ?_; rotate_left; simp only [fr_]; rfl
      refine pv_ 24 40 ?_ (b_ 25 2) rfl rfl (any_of HT_.out (by kernel_rfl)) (fun _ _ _ h => h) (by rfl) ?_ ?_; rotate_left; simp only [fr_]; rfl
      refine pv_ 25 41 ?_ (b_ 26 1) rfl rfl (any_of HT_.out (by kernel_rfl)) (fun _ _ _ h => h) (by rfl) ?_ ?_; rotate_left; simp only [fr_]; rfl
      refine pu_ 26 42 ?_ (b_ 27 0) rfl rfl (any_of HT_.out (by kernel_rfl)) (fun _ _ _ h => h) (by rfl) ?_ ?_ ?_ ?_; rotate_left; intro w'; go_simp; with_reducible rfl; rotate_left; simp only [fr_]; rfl
      refine done_ (done_of HT_.out (by kernel_rfl)) ?_
      try go_wp2
      go_ret
      exact ⟨by first | rfl | (simp [errW_none, errW_some] <;> rfl) | (simp [*, errW_none, errW_some] <;> rfl), by repeat (first | (with_reducible first | exact HB.out | apply below_alloc | apply pw_below_drewN | apply below_drew1 | refine below_set ?_ GE728.out) | exact HB.out)⟩
     rw [if_neg c6] at H
     exact absurd H (by simp)
    rw [if_neg c5] at H
    exact absurd H (by simp)
   rw [if_neg c4] at H
   have c4b0 : decide (x11_1 < (l0.length : Int)) = false := decide_eq_false c4
   clear c4
   obtain rfl := Option.some.inj H
   go_wp2
   go_ret
   exact ⟨by first | rfl | (simp [errW_none, errW_some] <;> rfl) | (simp [*, errW_none, errW_some] <;> rfl), by repeat (first | (with_reducible first | exact HB.out | apply below_alloc | apply pw_below_drewN | apply below_drew1) | exact HB.out)⟩

end Go.Proofs.Ytfholjcelnkleaa.Print
end
section
namespace Go.Proofs.Ytfholjcelnkleaa.Print
open Go.RowKit Go.Proofs.YtfholjcelnkleaaV.PrintWords Go.Proofs.YtfholjcelnkleaaV.PrintLast Go.Proofs.YtfholjcelnkleaaV.PrintMore
attribute [local go_sem] max2_int min2_int max_two min_two max_three min_three max_four min_four   -- for this text's walks alone
set_option linter.unusedVariables false
set_option linter.unusedSimpArgs false

/-! ### impl_GroupOk: function 53 -/
def impl_GroupOk.f (k : Nat) (a0_0 : Int) (l0_1 : List (S164)) (a0_2 : Int) (a0_3 : Int) (l0_4 : List (S44)) (l1 : List ByteArray) : Option (Bool) := if a0_0 < 0 then (some false) else ((impl_SetOk.f k l0_1).bind fun t737 => (if t737 = true then ((impl_in.f a0_2 0 99999).bind fun t738 => (if t738 = true then (if a0_3 = (-1) then (if (l0_4.length : Int) > 0 then ((impl_keyedOk.f k l0_4 l0_1 l1).bind fun t739 => (some t739)) else (some false)) else ((impl_in.f a0_3 a0_2 99999).bind fun t740 => (if t740 = true then (if (l0_4.length : Int) > 0 then ((impl_keyedOk.f k l0_4 l0_1 l1).bind fun t741 => (some t741)) else (some false)) else (some false)))) else (some false))) else (some false)))
theorem impl_GroupOk.mono : ∀ a0 a1 a2 a3 a4 a5 k, LeO (impl_GroupOk.f k a0 a1 a2 a3 a4 a5) (impl_GroupOk.f (k + 1) a0 a1 a2 a3 a4 a5) := by
 intro a0 a1 a2 a3 a4 a5 k
 unfold impl_GroupOk.f
 repeat' first
   | (with_reducible exact impl_SetOk.mono _ _)
   | (with_reducible exact impl_keyedOk.mono _ _ _ _)
   | (with_reducible exact LeO.refl _)
   | (with_reducible exact LeO.none _)
   | (with_reducible refine LeO.ite ?_ ?_)
   | (with_reducible refine LeO.bind ?_ (fun _ => ?_))
   | exact impl_SetOk.mono _ _
   | exact impl_keyedOk.mono _ _ _ _
   | exact LeO.none _
   | refine LeO.ite ?_ ?_
   | refine LeO.bind ?_ (fun _ => ?_)
set_option maxHeartbeats 8000000 in
set_option maxRecDepth 100000 in
theorem impl_GroupOk.calls (k : Nat) (a0_0 : Int) (A0_1 : Option Addr) (c0_1 : Nat) (l0_1 : List (S164)) (a0_2 : Int) (a0_3 : Int) (A0_4 : Option Addr) (c0_4 : Nat) (l0_4 : List (S44)) (A1 : Option Addr) (c1 : Nat) (l1 : List ByteArray) (r : Bool) (w : World) (hr0_1 : Kd.C k164 w A0_1 l0_1.length l0_1) (hc0_1 : l0_1.length ≤ c0_1) (hr0_4 : Kd.C k44 w A0_4 l0_4.length l0_4) (hc0_4 : l0_4.length ≤ c0_4) (hr1 : Kd.C Kd.string w A1 l1.length l1) (hc1 : l1.length ≤ c1) (h : impl_GroupOk.f k a0_0 l0_1 a0_2 a0_3 l0_4 l1 = some r) :
  Calls Try.prog 53 #[.agg #[.int .i64 a0_0, .slice A0_1 l0_1.length c0_1, .int .i64 a0_2, .int .i64 a0_3, .slice A0_4 l0_4.length c0_4], .slice A1 l1.length c1] w fun e w' => e = .returned (.bool r) ∧ Below w.heap.size w w' := by
 have hu75 := Try.underlying75
 have HR0_1 := Aside0.mk hr0_1
 have HC0_1 := Aside0.mk hc0_1
 clear hr0_1 hc0_1
 have HR0_4 := Aside0.mk hr0_4
 have HC0_4 := Aside0.mk hc0_4
 clear hr0_4 hc0_4
 have HR1 := Aside0.mk hr1
 have HC1 := Aside0.mk hc1
 clear hr1 hc1
 have HB := Aside0.mk (Below.refl w.heap.size w)
 have H : (if a0_0 < 0 then (some false) else ((impl_SetOk.f k l0_1).bind fun t737 => (if t737 = true then ((impl_in.f a0_2 0 99999).bind fun t738 => (if t738 = true then (if a0_3 = (-1) then (if (l0_4.length : Int) > 0 then ((impl_keyedOk.f k l0_4 l0_1 l1).bind fun t739 => (some t739)) else (some false)) else ((impl_in.f a0_3 a0_2 99999).bind fun t740 => (if t740 = true then (if (l0_4.length : Int) > 0 then ((impl_keyedOk.f k l0_4 l0_1 l1).bind fun t741 => (some t741)) else (some false)) else (some false)))) else (some false))) else (some false)))) = some r := h
 clear h
 by_cases c3 : a0_0 < 0
 ·
  rw [if_pos c3] at H
  have c3b0 : decide (a0_0 < 0) = true := decide_eq_true c3
  clear c3
  obtain rfl := Option.some.inj H
  go_enter Try.func53, Try.ntmps53
  go_wp2_with (first | ((with_reducible refine gate_dst (N := 2) rfl ?_); refine box_event ?hg (N := 2) ?hd (cs := #[.int .i64 a0_0, .slice A0_1 l0_1.length c0_1, .int .i64 a0_2, .int .i64 a0_3, .slice A0_4 l0_4.length c0_4]) (t := 75) ?hr ?_; (case hd => rfl); (case hg => rfl); (case hr => first | (go_simp; done) | (go_simp; rfl)); intro gb736 hg w4 hbox hb; have n0_ := Aside0.mk (below_step (by repeat (first | (with_reducible first | exact HB.out | apply below_alloc | apply pw_below_drewN | apply below_drew1) | exact HB.out)) hb); have n1_ := Aside0.mk (hbox); have n2_ := Aside0.mk ((by rw [hg]; exact (below_size (by repeat (first | (with_reducible first | exact HB.out | apply below_alloc | apply pw_below_drewN | apply below_drew1) | exact HB.out))) : w.heap.size ≤ gb736)); have n3_ := n2_; clear HB; have HB := n0_; have BK736 := n1_; have GW736 := n2_; have GE736 := n3_; clear n0_ n1_ n2_ n3_; clear hb hbox hg; have hcz5_0 : w4.cell? ⟨gb736, 0, none⟩ = some (.int .i64 a0_0) := (blk_cell BK736.out 0).trans rfl; have hcz5_1 : w4.cell? ⟨gb736, 1, none⟩ = some (.slice A0_1 l0_1.length c0_1) := (blk_cell BK736.out 1).trans rfl; have hcz5_2 : w4.cell? ⟨gb736, 2, none⟩ = some (.int .i64 a0_2) := (blk_cell BK736.out 2).trans rfl; have hcz5_3 : w4.cell? ⟨gb736, 3, none⟩ = some (.int .i64 a0_3) := (blk_cell BK736.out 3).trans rfl; have hcz5_4 : w4.cell? ⟨gb736, 4, none⟩ = some (.slice A0_4 l0_4.length c0_4) := (blk_cell BK736.out 4).trans rfl; have hfz5_0 := blk_frozen BK736.out 0; have hfz5_1 := blk_frozen BK736.out 1; have hfz5_2 := blk_frozen BK736.out 2; have hfz5_3 := blk_frozen BK736.out 3; have hfz5_4 := blk_frozen BK736.out 4))
  go_ret
  exact ⟨by first | rfl | (simp [errW_none, errW_some] <;> rfl) | (simp [*, errW_none, errW_some] <;> rfl), by repeat (first | (with_reducible first | exact HB.out | apply below_alloc | apply pw_below_drewN | apply below_drew1 | refine below_set ?_ GE736.out) | exact HB.out)⟩
 rw [if_neg c3] at H
 have c3b0 : decide (a0_0 < 0) = false := decide_eq_false c3
 clear c3
 replace H := Option.bind_eq_some_iff.mp H
 obtain ⟨t737, A60, H⟩ := H
 replace H : (if t737 = true then ((impl_in.f a0_2 0 99999).bind fun t738 => (if t738 = true then (if a0_3 = (-1) then (if (l0_4.length : Int) > 0 then ((impl_keyedOk.f k l0_4 l0_1 l1).bind fun t739 => (some t739)) else (some false)) else ((impl_in.f a0_3 a0_2 99999).bind fun t740 => (if t740 = true then (if (l0_4.length : Int) > 0 then ((impl_keyedOk.f k l0_4 l0_1 l1).bind fun t741 => (some t741)) else (some false)) else (some false)))) else (some false))) else (some false)) = some r := H
 have A6 := Aside0.mk A60
 clear A60
 by_cases c7 : t737 = true
 ·
  subst c7
  have H1 : ((impl_in.f a0_2 0 99999).bind fun t738 => (if t738 = true then (if a0_3 = (-1) then (if (l0_4.length : Int) > 0 then ((impl_keyedOk.f k l0_4 l0_1 l1).bind fun t739 => (some t739)) else (some false)) else ((impl_in.f a0_3 a0_2 99999).bind fun t740 => (if t740 = true then (if (l0_4.length : Int) > 0 then ((impl_keyedOk.f k l0_4 l0_1 l1).bind fun t741 => (some t741)) else (some false)) else (some false)))) else (some false))) = some r := by rw [if_pos rfl] at H; exact H
  clear H
  have H := H1
  clear H1
  replace H := Option.bind_eq_some_iff.mp H
  obtain ⟨t738, A80, H⟩ := H
  replace H : (if t738 = true then (if a0_3 = (-1) then (if (l0_4.length : Int) > 0 then ((impl_keyedOk.f k l0_4 l0_1 l1).bind fun t739 => (some t739)) else (some false)) else ((impl_in.f a0_3 a0_2 99999).bind fun t740 => (if t740 = true then (if (l0_4.length : Int) > 0 then ((impl_keyedOk.f k l0_4 l0_1 l1).bind fun t741 => (some t741)) else (some false)) else (some false)))) else (some false)) = some r := H
  have A8 := Aside0.mk A80
  clear A80
  by_cases c9 : t738 = true
  ·
   subst c9
   have H1 : (if a0_3 = (-1) then (if (l0_4.length : Int) > 0 then ((impl_keyedOk.f k l0_4 l0_1 l1).bind fun t739 => (some t739)) else (some false)) else ((impl_in.f a0_3 a0_2 99999).bind fun t740 => (if t740 = true then (if (l0_4.length : Int) > 0 then ((impl_keyedOk.f k l0_4 l0_1 l1).bind fun t741 => (some t741)) else (some false)) else (some false)))) = some r := by rw [if_pos rfl] at H; exact H
   clear H
   have H := H1
   clear H1
   by_cases c10 : a0_3 = (-1)
   ·
    rw [if_pos c10] at H
    have c10b0 : (a0_3 == (-1)) = true := beq_iff_eq.mpr c10
    have c10b1 : (a0_3 != (-1)) = false := bne_eq_false_iff_eq.mpr c10
    clear c10
    by_cases c11 : (l0_4.length : Int) > 0
    ·
     rw [if_pos c11] at H
     have c11b0 : decide (0 < (l0_4.length : Int)) = true := decide_eq_true c11
     have c11b1 : decide (0 < l0_4.length) = true := decide_eq_true (by omega)
     clear c11
     replace H := Option.bind_eq_some_iff.mp H
     obtain ⟨t739, A120, H⟩ := H
     replace H : (some t739) = some r := H
     have A12 := Aside0.mk A120
     clear A120
     obtain rfl := Option.some.inj H
     go_enter Try.func53, Try.ntmps53
     go_wp2_with (first | ((with_reducible refine gate_dst (N := 2) rfl ?_); refine box_event ?hg (N := 2) ?hd (cs := #[.int .i64 a0_0, .slice A0_1 l0_1.length c0_1, .int .i64 a0_2, .int .i64 a0_3, .slice A0_4 l0_4.length c0_4]) (t := 75) ?hr ?_; (case hd => rfl); (case hg => rfl); (case hr => first | (go_simp; done) | (go_simp; rfl)); intro gb736 hg w13 hbox hb; have n0_ := Aside0.mk (below_step (by repeat (first | (with_reducible first | exact HB.out | apply below_alloc | apply pw_below_drewN | apply below_drew1) | exact HB.out)) hb); have n1_ := Aside0.mk (hbox); have n2_ := Aside0.mk ((by rw [hg]; exact (below_size (by repeat (first | (with_reducible first | exact HB.out | apply below_alloc | apply pw_below_drewN | apply below_drew1) | exact HB.out))) : w.heap.size ≤ gb736)); have n3_ := n2_; clear HB; have HB := n0_; have BK736 := n1_; have GW736 := n2_; have GE736 := n3_; clear n0_ n1_ n2_ n3_; clear hb hbox hg; have hcz14_0 : w13.cell? ⟨gb736, 0, none⟩ = some (.int .i64 a0_0) := (blk_cell BK736.out 0).trans rfl; have hcz14_1 : w13.cell? ⟨gb736, 1, none⟩ = some (.slice A0_1 l0_1.length c0_1) := (blk_cell BK736.out 1).trans rfl; have hcz14_2 : w13.cell? ⟨gb736, 2, none⟩ = some (.int .i64 a0_2) := (blk_cell BK736.out 2).trans rfl; have hcz14_3 : w13.cell? ⟨gb736, 3, none⟩ = some (.int .i64 a0_3) := (blk_cell BK736.out 3).trans rfl; have hcz14_4 : w13.cell? ⟨gb736, 4, none⟩ = some (.slice A0_4 l0_4.length c0_4) := (blk_cell BK736.out 4).trans rfl; have hfz14_0 := blk_frozen BK736.out 0; have hfz14_1 := blk_frozen BK736.out 1; have hfz14_2 := blk_frozen BK736.out 2; have hfz14_3 := blk_frozen BK736.out 3; have hfz14_4 := blk_frozen BK736.out 4) | (go_at_call 110; (with_reducible refine (impl_SetOk.calls k _ _ l0_1 true _ ?side1 ?side2 A6.out).mono ?_); (case side1 => repeat (first | exact (Kd.C_below HR0_1.out HB.out) | (with_reducible refine Kd.C_alloc ?_ _) | (with_reducible refine Kd.C_drewN ?_ _) | (with_reducible refine Kd.C_drew ?_))); (case side2 => exact HC0_1.out); rintro e w15 ⟨rfl, hb⟩; have n0_ := Aside0.mk (blk_below (g := gb736) (o := .cells #[.int .i64 a0_0, .slice A0_1 l0_1.length c0_1, .int .i64 a0_2, .int .i64 a0_3, .slice A0_4 l0_4.length c0_4] 75 (0, 0)) (by (with_reducible repeat (first | refine blk_drewN ?_ _ | refine blk_drew ?_ | refine blk_alloc ?_ _)); exact BK736.out) hb); have n1_ := Aside0.mk (below_step (by repeat (first | (with_reducible first | exact HB.out | apply below_alloc | apply pw_below_drewN | apply below_drew1 | refine below_set ?_ GE736.out) | exact HB.out)) hb); clear BK736; clear HB; have BK736 := n0_; have HB := n1_; clear n0_ n1_; (try clear hb); (try clear hb2); (try clear hk); (try clear hi); have hcz16_0 : w15.cell? ⟨gb736, 0, none⟩ = some (.int .i64 a0_0) := (blk_cell BK736.out 0).trans rfl; have hcz16_1 : w15.cell? ⟨gb736, 1, none⟩ = some (.slice A0_1 l0_1.length c0_1) := (blk_cell BK736.out 1).trans rfl; have hcz16_2 : w15.cell? ⟨gb736, 2, none⟩ = some (.int .i64 a0_2) := (blk_cell BK736.out 2).trans rfl; have hcz16_3 : w15.cell? ⟨gb736, 3, none⟩ = some (.int .i64 a0_3) := (blk_cell BK736.out 3).trans rfl; have hcz16_4 : w15.cell? ⟨gb736, 4, none⟩ = some (.slice A0_4 l0_4.length c0_4) := (blk_cell BK736.out 4).trans rfl; have hfz16_0 := blk_frozen BK736.out 0; have hfz16_1 := blk_frozen BK736.out 1; have hfz16_2 := blk_frozen BK736.out 2; have hfz16_3 := blk_frozen BK736.out 3; have hfz16_4 := blk_frozen BK736.out 4) | (go_at_call 111; (with_reducible refine (impl_in.calls a0_2 0 99999 true _ A8.out).mono ?_); rintro e w' ⟨rfl, ⟨nd, rfl⟩⟩) | (go_at_call 112; (with_reducible refine (impl_keyedOk.calls k _ _ l0_4 _ _ l0_1 _ _ l1 t739 _ ?side1 ?side2 ?side3 ?side4 ?side5 ?side6 A12.out).mono ?_); (case side1 => repeat (first | exact (Kd.C_below HR0_4.out (by repeat (first | (with_reducible first | exact HB.out | apply below_alloc | apply pw_below_drewN | apply below_drew1 | refine below_set ?_ GE736.out) | exact HB.out))) | (with_reducible refine Kd.C_alloc ?_ _) | (with_reducible refine Kd.C_drewN ?_ _) | (with_reducible refine Kd.C_drew ?_))); (case side2 => exact HC0_4.out); (case side3 => repeat (first | exact (Kd.C_below HR0_1.out (by repeat (first | (with_reducible first | exact HB.out | apply below_alloc | apply pw_below_drewN | apply below_drew1 | refine below_set ?_ GE736.out) | exact HB.out))) | (with_reducible refine Kd.C_alloc ?_ _) | (with_reducible refine Kd.C_drewN ?_ _) | (with_reducible refine Kd.C_drew ?_))); (case side4 => exact HC0_1.out); (case side5 => repeat (first | exact (Kd.C_below HR1.out (by repeat (first | (with_reducible first | exact HB.out | apply below_alloc | apply pw_below_drewN | apply below_drew1 | refine below_set ?_ GE736.out) | exact HB.out))) | (with_reducible refine Kd.C_alloc ?_ _) | (with_reducible refine Kd.C_drewN ?_ _) | (with_reducible refine Kd.C_drew ?_))); (case side6 => exact HC1.out); rintro e w17 ⟨rfl, hb⟩; have n0_ := Aside0.mk (blk_below (g := gb736) (o := .cells #[.int .i64 a0_0, .slice A0_1 l0_1.length c0_1, .int .i64 a0_2, .int .i64 a0_3, .slice A0_4 l0_4.length c0_4] 75 (0, 0)) (by (with_reducible repeat (first | refine blk_drewN ?_ _ | refine blk_drew ?_ | refine blk_alloc ?_ _)); exact BK736.out) hb); have n1_ := Aside0.mk (below_step (by repeat (first | (with_reducible first | exact HB.out | apply below_alloc | apply pw_below_drewN | apply below_drew1 | refine below_set ?_ GE736.out) | exact HB.out)) hb); clear BK736; clear HB; have BK736 := n0_; have HB := n1_; clear n0_ n1_; (try clear hb); (try clear hb2); (try clear hk); (try clear hi)))
     go_ret
     exact ⟨by first | rfl | (simp [errW_none, errW_some] <;> rfl) | (simp [*, errW_none, errW_some] <;> rfl), by repeat (first | (with_reducible first | exact HB.out | apply below_alloc | apply pw_below_drewN | apply below_drew1 | refine below_set ?_ GE736.out) | exact HB.out)⟩
    rw [if_neg c11] at H
    have c11b0 : decide (0 < (l0_4.length : Int)) = false := decide_eq_false c11
    have c11b1 : decide (0 < l0_4.length) = false := decide_eq_false (by omega)
    clear c11
    obtain rfl := Option.some.inj H
    go_enter Try.func53, Try.ntmps53
    go_wp2_with (first | ((with_reducible refine gate_dst (N := 2) rfl ?_); refine box_event ?hg (N := 2) ?hd (cs := #[.int .i64 a0_0, .slice A0_1 l0_1.length c0_1, .int .i64 a0_2, .int .i64 a0_3, .slice A0_4 l0_4.length c0_4]) (t := 75) ?hr ?_; (case hd => rfl); (case hg => rfl); (case hr => first | (go_simp; done) | (go_simp; rfl)); intro gb736 hg w18 hbox hb; have n0_ := Aside0.mk (below_step (by repeat (first | (with_reducible first | exact HB.out | apply below_alloc | apply pw_below_drewN | apply below_drew1) | exact HB.out)) hb); have n1_ := Aside0.mk (hbox); have n2_ := Aside0.mk ((by rw [hg]; exact (below_size (by repeat (first | (with_reducible first | exact HB.out | apply below_alloc | apply pw_below_drewN | apply below_drew1) | exact HB.out))) : w.heap.size ≤ gb736)); have n3_ := n2_; clear HB; have HB := n0_; have BK736 := n1_; have GW736 := n2_; have GE736 := n3_; clear n0_ n1_ n2_ n3_; clear hb hbox hg; have hcz19_0 : w18.cell? ⟨gb736, 0, none⟩ = some (.int .i64 a0_0) := (blk_cell BK736.out 0).trans rfl; have hcz19_1 : w18.cell? ⟨gb736, 1, none⟩ = some (.slice A0_1 l0_1.length c0_1) := (blk_cell BK736.out 1).trans rfl; have hcz19_2 : w18.cell? ⟨gb736, 2, none⟩ = some (.int .i64 a0_2) := (blk_cell BK736.out 2).trans rfl; have hcz19_3 : w18.cell? ⟨gb736, 3, none⟩ = some (.int .i64 a0_3) := (blk_cell BK736.out 3).trans rfl; have hcz19_4 : w18.cell? ⟨gb736, 4, none⟩ = some (.slice A0_4 l0_4.length c0_4) := (blk_cell BK736.out 4).trans rfl; have hfz19_0 := blk_frozen BK736.out 0; have hfz19_1 := blk_frozen BK736.out 1; have hfz19_2 := blk_frozen BK736.out 2; have hfz19_3 := blk_frozen BK736.out 3; have hfz19_4 := blk_frozen BK736.out 4) | (go_at_call 110; (with_reducible refine (impl_SetOk.calls k _ _ l0_1 true _ ?side1 ?side2 A6.out).mono ?_); (case side1 => repeat (first | exact (Kd.C_below HR0_1.out HB.out) | (with_reducible refine Kd.C_alloc ?_ _) | (with_reducible refine Kd.C_drewN ?_ _) | (with_reducible refine Kd.C_drew ?_))); (case side2 => exact HC0_1.out); rintro e w20 ⟨rfl, hb⟩; have n0_ := Aside0.mk (blk_below (g := gb736) (o := .cells #[.int .i64 a0_0, .slice A0_1 l0_1.length c0_1, .int .i64 a0_2, .int .i64 a0_3, .slice A0_4 l0_4.length c0_4] 75 (0, 0)) (by (with_reducible repeat (first | refine blk_drewN ?_ _ | refine blk_drew ?_ | refine blk_alloc ?_ _)); exact BK736.out) hb); have n1_ := Aside0.mk (below_step (by repeat (first | (with_reducible first | exact HB.out | apply below_alloc | apply pw_below_drewN | apply below_drew1 | refine below_set ?_ GE736.out) | exact HB.out)) hb); clear BK736; clear HB; have BK736 := n0_; have HB := n1_; clear n0_ n1_; (try clear hb); (try clear hb2); (try clear hk); (try clear hi); have hcz21_0 : w20.cell? ⟨gb736, 0, none⟩ = some (.int .i64 a0_0) := (blk_cell BK736.out 0).trans rfl; have hcz21_1 : w20.cell? ⟨gb736, 1, none⟩ = some (.slice A0_1 l0_1.length c0_1) := (blk_cell BK736.out 1).trans rfl; have hcz21_2 : w20.cell? ⟨gb736, 2, none⟩ = some (.int .i64 a0_2) := (blk_cell BK736.out 2).trans rfl; have hcz21_3 : w20.cell? ⟨gb736, 3, none⟩ = some (.int .i64 a0_3) := (blk_cell BK736.out 3).trans rfl; have hcz21_4 : w20.cell? ⟨gb736, 4, none⟩ = some (.slice A0_4 l0_4.length c0_4) := (blk_cell BK736.out 4).trans rfl; have hfz21_0 := blk_frozen BK736.out 0; have hfz21_1 := blk_frozen BK736.out 1; have hfz21_2 := blk_frozen BK736.out 2; have hfz21_3 := blk_frozen BK736.out 3; have hfz21_4 := blk_frozen BK736.out 4) | (go_at_call 111; (with_reducible refine (impl_in.calls a0_2 0 99999 true _ A8.out).mono ?_); rintro e w' ⟨rfl, ⟨nd, rfl⟩⟩))
    go_ret
    exact ⟨by first | rfl | (simp [errW_none, errW_some] <;> rfl) | (simp [*, errW_none, errW_some] <;> rfl), by repeat (first | (with_reducible first | exact HB.out | apply below_alloc | apply pw_below_drewN | apply below_drew1 | refine below_set ?_ GE736.out) | exact HB.out)⟩
   rw [if_neg c10] at H
   have c10b0 : (a0_3 == (-1)) = false := beq_eq_false_iff_ne.mpr c10
   have c10b1 : (a0_3 != (-1)) = true := bne_iff_ne.mpr c10
   replace H := Option.bind_eq_some_iff.mp H
   obtain ⟨t740, A220, H⟩ := H
   replace H : (if t740 = true then (if (l0_4.length : Int) > 0 then ((impl_keyedOk.f k l0_4 l0_1 l1).bind fun t741 => (some t741)) else (some false)) else (some false)) = some r := H
   have A22 := Aside0.mk A220
   clear A220
   by_cases c23 : t740 = true
   ·
    subst c23
    have H1 : (if (l0_4.length : Int) > 0 then ((impl_keyedOk.f k l0_4 l0_1 l1).bind fun t741 => (some t741)) else (some false)) = some r := by rw [if_pos rfl] at H; exact H
    clear H
    have H := H1
    clear H1
    by_cases c24 : (l0_4.length : Int) > 0
    ·
     rw [if_pos c24] at H
     have c24b0 : decide (0 < (l0_4.length : Int)) = true := decide_eq_true c24
     have c24b1 : decide (0 < l0_4.length) = true := decide_eq_true (by omega)
     clear c24
     replace H := Option.bind_eq_some_iff.mp H
     obtain ⟨t741, A250, H⟩ := H
     replace H : (some t741) = some r := H
     have A25 := Aside0.mk A250
     clear A250
     obtain rfl := Option.some.inj H
     go_enter Try.func53, Try.ntmps53
     go_wp2_with (first | ((with_reducible refine gate_dst (N := 2) rfl ?_); refine box_event ?hg (N := 2) ?hd (cs := #[.int .i64 a0_0, .slice A0_1 l0_1.length c0_1, .int .i64 a0_2, .int .i64 a0_3, .slice A0_4 l0_4.length c0_4]) (t := 75) ?hr ?_; (case hd => rfl); (case hg => rfl); (case hr => first | (go_simp; done) | (go_simp; rfl)); intro gb736 hg w26 hbox hb; have n0_ := Aside0.mk (below_step (by repeat (first | (with_reducible first | exact HB.out | apply below_alloc | apply pw_below_drewN | apply below_drew1) | exact HB.out)) hb); have n1_ := Aside0.mk (hbox); have n2_ := Aside0.mk ((by rw [hg]; exact (below_size (by repeat (first | (with_reducible first | exact HB.out | apply below_alloc | apply pw_below_drewN | apply below_drew1) | exact HB.out))) : w.heap.size ≤ gb736)); have n3_ := n2_; clear HB; have HB := n0_; have BK736 := n1_; have GW736 := n2_; have GE736 := n3_; clear n0_ n1_ n2_ n3_; clear hb hbox hg; have hcz27_0 : w26.cell? ⟨gb736, 0, none⟩ = some (.int .i64 a0_0) := (blk_cell BK736.out 0).trans rfl; have hcz27_1 : w26.cell? ⟨gb736, 1, none⟩ = some (.slice A0_1 l0_1.length c0_1) := (blk_cell BK736.out 1).trans rfl; have hcz27_2 : w26.cell? ⟨gb736, 2, none⟩ = some (.int .i64 a0_2) := (blk_cell BK736.out 2).trans rfl; have hcz27_3 : w26.cell? ⟨gb736, 3, none⟩ = some (.int .i64 a0_3) := (blk_cell BK736.out 3).trans rfl; have hcz27_4 : w26.cell? ⟨gb736, 4, none⟩ = some (.slice A0_4 l0_4.length c0_4) := (blk_cell BK736.out 4).trans rfl; have hfz27_0 := blk_frozen BK736.out 0; have hfz27_1 := blk_frozen BK736.out 1; have hfz27_2 := blk_frozen BK736.out 2; have hfz27_3 := blk_frozen BK736.out 3; have hfz27_4 := blk_frozen BK736.out 4) | (go_at_call 110; (with_reducible refine (impl_SetOk.calls k _ _ l0_1 true _ ?side1 ?side2 A6.out).mono ?_); (case side1 => repeat (first | exact (Kd.C_below HR0_1.out HB.out) | (with_reducible refine Kd.C_alloc ?_ _) | (with_reducible refine Kd.C_drewN ?_ _) | (with_reducible refine Kd.C_drew ?_))); (case side2 => exact HC0_1.out); rintro e w28 ⟨rfl, hb⟩; have n0_ := Aside0.mk (blk_below (g := gb736) (o := .cells #[.int .i64 a0_0, .slice A0_1 l0_1.length c0_1, .int .i64 a0_2, .int .i64 a0_3, .slice A0_4 l0_4.length c0_4] 75 (0, 0)) (by (with_reducible repeat (first | refine blk_drewN ?_ _ | refine blk_drew ?_ | refine blk_alloc ?_ _)); exact BK736.out) hb); have n1_ := Aside0.mk (below_step (by repeat (first | (with_reducible first | exact HB.out | apply below_alloc | apply pw_below_drewN | apply below_drew1 | refine below_set ?_ GE736.out) | exact HB.out)) hb); clear BK736; clear HB; have BK736 := n0_; have HB := n1_; clear n0_ n1_; (try clear hb); (try clear hb2); (try clear hk); (try clear hi); have hcz29_0 : w28.cell? ⟨gb736, 0, none⟩ = some (.int .i64 a0_0) := (blk_cell BK736.out 0).trans rfl; have hcz29_1 : w28.cell? ⟨gb736, 1, none⟩ = some (.slice A0_1 l0_1.length c0_1) := (blk_cell BK736.out 1).trans rfl; have hcz29_2 : w28.cell? ⟨gb736, 2, none⟩ = some (.int .i64 a0_2) := (blk_cell BK736.out 2).trans rfl; have hcz29_3 : w28.cell? ⟨gb736, 3, none⟩ = some (.int .i64 a0_3) := (blk_cell BK736.out 3).trans rfl; have hcz29_4 : w28.cell? ⟨gb736, 4, none⟩ = some (.slice A0_4 l0_4.length c0_4) := (blk_cell BK736.out 4).trans rfl; have hfz29_0 := blk_frozen BK736.out 0; have hfz29_1 := blk_frozen BK736.out 1; have hfz29_2 := blk_frozen BK736.out 2; have hfz29_3 := blk_frozen BK736.out 3; have hfz29_4 := blk_frozen BK736.out 4) | (go_at_call 111; (with_reducible refine (impl_in.calls a0_2 0 99999 true _ A8.out).mono ?_); rintro e w' ⟨rfl, ⟨nd, rfl⟩⟩) | (go_at_call 111; (with_reducible refine (impl_in.calls a0_3 a0_2 99999 true _ A22.out).mono ?_); rintro e w' ⟨rfl, ⟨nd, rfl⟩⟩) | (go_at_call 112; (with_reducible refine (impl_keyedOk.calls k _ _ l0_4 _ _ l0_1 _ _ l1 t741 _ ?side1 ?side2 ?side3 ?side4 ?side5 ?side6 A25.out).mono ?_); (case side1 => repeat (first | exact (Kd.C_below HR0_4.out (by repeat (first | (with_reducible first | exact HB.out | apply below_alloc | apply pw_below_drewN | apply below_drew1 | refine below_set ?_ GE736.out) | exact HB.out))) | (with_reducible refine Kd.C_alloc ?_ _) | (with_reducible refine Kd.C_drewN ?_ _) | (with_reducible refine Kd.C_drew ?_))); (case side2 => exact HC0_4.out); (case side3 => repeat (first | exact (Kd.C_below HR0_1.out (by repeat (first | (with_reducible first | exact HB.out | apply below_alloc | apply pw_below_drewN | apply below_drew1 | refine below_set ?_ GE736.out) | exact HB.out))) | (with_reducible refine Kd.C_alloc ?_ _) | (with_reducible refine Kd.C_drewN ?_ _) | (with_reducible refine Kd.C_drew ?_))); (case side4 => exact HC0_1.out); (case side5 => repeat (first | exact (Kd.C_below HR1.out (by repeat (first | (with_reducible first | exact HB.out | apply below_alloc | apply pw_below_drewN | apply below_drew1 | refine below_set ?_ GE736.out) | exact HB.out))) | (with_reducible refine Kd.C_alloc ?_ _) | (with_reducible refine Kd.C_drewN ?_ _) | (with_reducible refine Kd.C_drew ?_))); (case side6 => exact HC1.out); rintro e w30 ⟨rfl, hb⟩; have n0_ := Aside0.mk (blk_below (g := gb736) (o := .cells #[.int .i64 a0_0, .slice A0_1 l0_1.length c0_1, .int .i64 a0_2, .int .i64 a0_3, .slice A0_4 l0_4.length c0_4] 75 (0, 0)) (by (with_reducible repeat (first | refine blk_drewN ?_ _ | refine blk_drew ?_ | refine blk_alloc ?_ _)); exact BK736.out) hb); have n1_ := Aside0.mk (below_step (by repeat (first | (with_reducible first | exact HB.out | apply below_alloc | apply pw_below_drewN | apply below_drew1 | refine below_set ?_ GE736.out) | exact HB.out)) hb); clear BK736; clear HB; have BK736 := n0_; have HB := n1_; clear n0_ n1_; (try clear hb); (try clear hb2); (try clear hk); (try clear hi)))
     go_ret
     exact ⟨by first | rfl | (simp [errW_none, errW_some] <;> rfl) | (simp [*, errW_none, errW_some] <;> rfl), by repeat (first | (with_reducible first | exact HB.out | apply below_alloc | apply pw_below_drewN | apply below_drew1 | refine below_set ?_ GE736.out) | exact HB.out)⟩
    rw [if_neg c24] at H
    have c24b0 : decide (0 < (l0_4.length : Int)) = false := decide_eq_false c24
    have c24b1 : decide (0 < l0_4.length) = false := decide_eq_false (by omega)
    clear c24
    obtain rfl := Option.some.inj H
    go_enter Try.func53, Try.ntmps53
    go_wp2_with (first | ((with_reducible refine gate_dst (N := 2) rfl ?_); refine box_event ?hg (N := 2) ?hd (cs := #[.int .i64 a0_0, .slice A0_1 l0_1.length c0_1, .int .i64 a0_2, .int .i64 a0_3, .slice A0_4 l0_4.length c0_4]) (t := 75) ?hr ?_; (case hd => rfl); (case hg => rfl); (case hr => first | (go_simp; done) | (go_simp; rfl)); intro gb736 hg w31 hbox hb; have n0_ := Aside0.mk (below_step (by repeat (first | (with_reducible first | exact HB.out | apply below_alloc | apply pw_below_drewN | apply below_drew1) | exact HB.out)) hb); have n1_ := Aside0.mk (hbox); have n2_ := Aside0.mk ((by rw [hg]; exact (below_size (by repeat (first | (with_reducible first | exact HB.out | apply below_alloc | apply pw_below_drewN | apply below_drew1) | exact HB.out))) : w.heap.size ≤ gb736)); have n3_ := n2_; clear HB; have HB := n0_; have BK736 := n1_; have GW736 := n2_; have GE736 := n3_; clear n0_ n1_ n2_ n3_; clear hb hbox hg; have hcz32_0 : w31.cell? ⟨gb736, 0, none⟩ = some (.int .i64 a0_0) := (blk_cell BK736.out 0).trans rfl; have hcz32_1 : w31.cell? ⟨gb736, 1, none⟩ = some (.slice A0_1 l0_1.length c0_1) := (blk_cell BK736.out 1).trans rfl; have hcz32_2 : w31.cell? ⟨gb736, 2, none⟩ = some (.int .i64 a0_2) := (blk_cell BK736.out 2).trans rfl; have hcz32_3 : w31.cell? ⟨gb736, 3, none⟩ = some (.int .i64 a0_3) := (blk_cell BK736.out 3).trans rfl; have hcz32_4 : w31.cell? ⟨gb736, 4, none⟩ = some (.slice A0_4 l0_4.length c0_4) := (blk_cell BK736.out 4).trans rfl; have hfz32_0 := blk_frozen BK736.out 0; have hfz32_1 := blk_frozen BK736.out 1; have hfz32_2 := blk_frozen BK736.out 2; have hfz32_3 := blk_frozen BK736.out 3; have hfz32_4 := blk_frozen BK736.out 4) | (go_at_call 110; (with_reducible refine (impl_SetOk.calls k _ _ l0_1 true _ ?side1 ?side2 A6.out).mono ?_); (case side1 => repeat (first | exact (Kd.C_below HR0_1.out HB.out) | (with_reducible refine Kd.C_alloc ?_ _) | (with_reducible refine Kd.C_drewN ?_ _) | (with_reducible refine Kd.C_drew ?_))); (case side2 => exact HC0_1.out); rintro e w33 ⟨rfl, hb⟩; have n0_ := Aside0.mk (blk_below (g := gb736) (o := .cells #[.int .i64 a0_0, .slice A0_1 l0_1.length c0_1, .int .i64 a0_2, .int .i64 a0_3, .slice A0_4 l0_4.length c0_4] 75 (0, 0)) (by (with_reducible repeat (first | refine blk_drewN ?_ _ | refine blk_drew ?_ | refine blk_alloc ?_ _)); exact BK736.out) hb); have n1_ := Aside0.mk (below_step (by repeat (first | (with_reducible first | exact HB.out | apply below_alloc | apply pw_below_drewN | apply below_drew1 | refine below_set ?_ GE736.out) | exact HB.out)) hb); clear BK736; clear HB; have BK736 := n0_; have HB := n1_; clear n0_ n1_; (try clear hb); (try clear hb2); (try clear hk); (try clear hi); have hcz34_0 : w33.cell? ⟨gb736, 0, none⟩ = some (.int .i64 a0_0) := (blk_cell BK736.out 0).trans rfl; have hcz34_1 : w33.cell? ⟨gb736, 1, none⟩ = some (.slice A0_1 l0_1.length c0_1) := (blk_cell BK736.out 1).trans rfl; have hcz34_2 : w33.cell? ⟨gb736, 2, none⟩ = some (.int .i64 a0_2) := (blk_cell BK736.out 2).trans rfl; have hcz34_3 : w33.cell? ⟨gb736, 3, none⟩ = some (.int .i64 a0_3) := (blk_cell BK736.out 3).trans rfl; have hcz34_4 : w33.cell? ⟨gb736, 4, none⟩ = some (.slice A0_4 l0_4.length c0_4) := (blk_cell BK736.out 4).trans rfl; have hfz34_0 := blk_frozen BK736.out 0; have hfz34_1 := blk_frozen BK736.out 1; have hfz34_2 := blk_frozen BK736.out 2; have hfz34_3 := blk_frozen BK736.out 3; have hfz34_4 := blk_frozen BK736.out 4) | (go_at_call 111; (with_reducible refine (impl_in.calls a0_2 0 99999 true _ A8.out).mono ?_); rintro e w' ⟨rfl, ⟨nd, rfl⟩⟩) | (go_at_call 111; (with_reducible refine (impl_in.calls a0_3 a0_2 99999 true _ A22.out).mono ?_); rintro e w' ⟨rfl, ⟨nd, rfl⟩⟩))
    go_ret
    exact ⟨by first | rfl | (simp [errW_none, errW_some] <;> rfl) | (simp [*, errW_none, errW_some] <;> rfl), by repeat (first | (with_reducible first | exact HB.out | apply below_alloc | apply pw_below_drewN | apply below_drew1 | refine below_set ?_ GE736.out) | exact HB.out)⟩
   replace c23 := Bool.eq_false_iff.mpr c23
   subst c23
   have H1 : (some false) = some r := by rw [if_neg (show ¬ (false = true) by decide)] at H; exact H
   clear H
   have H := H1
   clear H1
   obtain rfl := Option.some.inj H
   go_enter Try.func53, Try.ntmps53
   go_wp2_with (first | ((with_reducible refine gate_dst (N := 2) rfl ?_); refine box_event ?hg (N := 2) ?hd (cs := #[.int .i64 a0_0, .slice A0_1 l0_1.length c0_1, .int .i64 a0_2, .int .i64 a0_3, .slice A0_4 l0_4.length c0_4]) (t := 75) ?hr ?_; (case hd => rfl); (case hg => rfl); (case hr => first | (go_simp; done) | (go_simp; rfl)); intro gb736 hg w35 hbox hb; have n0_ := Aside0.mk (below_step (by repeat (first | (with_reducible first | exact HB.out | apply below_alloc | apply pw_below_drewN | apply below_drew1) | exact HB.out)) hb); have n1_ := Aside0.mk (hbox); have n2_ := Aside0.mk ((by rw [hg]; exact (below_size (by repeat (first | (with_reducible first | exact HB.out | apply below_alloc | apply pw_below_drewN | apply below_drew1) | exact HB.out))) : w.heap.size ≤ gb736)); have n3_ := n2_; clear HB; have HB := n0_; have BK736 := n1_; have GW736 := n2_; have GE736 := n3_; clear n0_ n1_ n2_ n3_; clear hb hbox hg; have hcz36_0 : w35.cell? ⟨gb736, 0, none⟩ = some (.int .i64 a0_0) := (blk_cell BK736.out 0).trans rfl; have hcz36_1 : w35.cell? ⟨gb736, 1, none⟩ = some (.slice A0_1 l0_1.length c0_1) := (blk_cell BK736.out 1).trans rfl; have hcz36_2 : w35.cell? ⟨gb736, 2, none⟩ = some (.int .i64 a0_2) := (blk_cell BK736.out 2).trans rfl; have hcz36_3 : w35.cell? ⟨gb736, 3, none⟩ = some (.int .i64 a0_3) := (blk_cell BK736.out 3).trans rfl; have hcz36_4 : w35.cell? ⟨gb736, 4, none⟩ = some (.slice A0_4 l0_4.length c0_4) := (blk_cell BK736.out 4).trans rfl; have hfz36_0 := blk_frozen BK736.out 0; have hfz36_1 := blk_frozen BK736.out 1; have hfz36_2 := blk_frozen BK736.out 2; have hfz36_3 := blk_frozen BK736.out 3; have hfz36_4 := blk_frozen BK736.out 4) | (go_at_call 110; (with_reducible refine (impl_SetOk.calls k _ _ l0_1 true _ ?side1 ?side2 A6.out).mono ?_); (case side1 => repeat (first | exact (Kd.C_below HR0_1.out HB.out) | (with_reducible refine Kd.C_alloc ?_ _) | (with_reducible refine Kd.C_drewN ?_ _) | (with_reducible refine Kd.C_drew ?_))); (case side2 => exact HC0_1.out); rintro e w37 ⟨rfl, hb⟩; have n0_ := Aside0.mk (blk_below (g := gb736) (o := .cells #[.int .i64 a0_0, .slice A0_1 l0_1.length c0_1, .int .i64 a0_2, .int .i64 a0_3, .slice A0_4 l0_4.length c0_4] 75 (0, 0)) (by (with_reducible repeat (first | refine blk_drewN ?_ _ | refine blk_drew ?_ | refine blk_alloc ?_ _)); exact BK736.out) hb); have n1_ := Aside0.mk (below_step (by repeat (first | (with_reducible first | exact HB.out | apply below_alloc | apply pw_below_drewN | apply below_drew1 | refine below_set ?_ GE736.out) | exact HB.out)) hb); clear BK736; clear HB; have BK736 := n0_; have HB := n1_; clear n0_ n1_; (try clear hb); (try clear hb2); (try clear hk); (try clear hi); have hcz38_0 : w37.cell? ⟨gb736, 0, none⟩ = some (.int .i64 a0_0) := (blk_cell BK736.out 0).trans rfl; have hcz38_1 : w37.cell? ⟨gb736, 1, none⟩ = some (.slice A0_1 l0_1.length c0_1) := (blk_cell BK736.out 1).trans rfl; have hcz38_2 : w37.cell? ⟨gb736, 2, none⟩ = some (.int .i64 a0_2) := (blk_cell BK736.out 2).trans rfl; have hcz38_3 : w37.cell? ⟨gb736, 3, none⟩ = some (.int .i64 a0_3) := (blk_cell BK736.out 3).trans rfl; have hcz38_4 : w37.cell? ⟨gb736, 4, none⟩ = some (.slice A0_4 l0_4.length c0_4) := (blk_cell BK736.out 4).trans rfl; have hfz38_0 := blk_frozen BK736.out 0; have hfz38_1 := blk_frozen BK736.out 1; have hfz38_2 := blk_frozen BK736.out 2; have hfz38_3 := blk_frozen BK736.out 3; have hfz38_4 := blk_frozen BK736.out 4) | (go_at_call 111; (with_reducible refine (impl_in.calls a0_2 0 99999 true _ A8.out).mono ?_); rintro e w' ⟨rfl, ⟨nd, rfl⟩⟩) | (go_at_call 111; (with_reducible refine (impl_in.calls a0_3 a0_2 99999 false _ A22.out).mono ?_); rintro e w' ⟨rfl, ⟨nd, rfl⟩⟩))
   go_ret
   exact ⟨by first | rfl | (simp [errW_none, errW_some] <;> rfl) | (simp [*, errW_none, errW_some] <;> rfl), by repeat (first | (with_reducible first | exact HB.out | apply below_alloc | apply pw_below_drewN | apply below_drew1 | refine below_set ?_ GE736.out) | exact HB.out)⟩
  replace c9 := Bool.eq_false_iff.mpr c9
  subst c9
  have H1 : (some false) = some r := by rw [if_neg (show ¬ (false = true) by decide)] at H; exact H
  clear H
  have H := H1
  clear H1
  obtain rfl := Option.some.inj H
  go_enter Try.func53, Try.ntmps53
  go_wp2_with (first | ((with_reducible refine gate_dst (N := 2) rfl ?_); refine box_event ?hg (N := 2) ?hd (cs := #[.int .i64 a0_0, .slice A0_1 l0_1.length c0_1, .int .i64 a0_2, .int .i64 a0_3, .slice A0_4 l0_4.length c0_4]) (t := 75) ?hr ?_; (case hd => rfl); (case hg => rfl); (case hr => first | (go_simp; done) | (go_simp; rfl)); intro gb736 hg w39 hbox hb; have n0_ := Aside0.mk (below_step (by repeat (first | (with_reducible first | exact HB.out | apply below_alloc | apply pw_below_drewN | apply below_drew1) | exact HB.out)) hb); have n1_ := Aside0.mk (hbox); have n2_ := Aside0.mk ((by rw [hg]; exact (below_size (by repeat (first | (with_reducible first | exact HB.out | apply below_alloc | apply pw_below_drewN | apply below_drew1) | exact HB.out))) : w.heap.size ≤ gb736)); have n3_ := n2_; clear HB; have HB := n0_; have BK736 := n1_; have GW736 := n2_; have GE736 := n3_; clear n0_ n1_ n2_ n3_; clear hb hbox hg; have hcz40_0 : w39.cell? ⟨gb736, 0, none⟩ = some (.int .i64 a0_0) := (blk_cell BK736.out 0).trans rfl; have hcz40_1 : w39.cell? ⟨gb736, 1, none⟩ = some (.slice A0_1 l0_1.length c0_1) := (blk_cell BK736.out 1).trans rfl; have hcz40_2 : w39.cell? ⟨gb736, 2, none⟩ = some (.int .i64 a0_2) := (blk_cell BK736.out 2).trans rfl; have hcz40_3 : w39.cell? ⟨gb736, 3, none⟩ = some (.int .i64 a0_3) := (blk_cell BK736.out 3).trans rfl; have hcz40_4 : w39.cell? ⟨gb736, 4, none⟩ = some (.slice A0_4 l0_4.length c0_4) := (blk_cell BK736.out 4).trans rfl; have hfz40_0 := blk_frozen BK736.out 0; have hfz40_1 := blk_frozen BK736.out 1; have hfz40_2 := blk_frozen BK736.out 2; have hfz40_3 := blk_frozen BK736.out 3; have hfz40_4 := blk_frozen BK736.out 4) | (go_at_call 110; (with_reducible refine (impl_SetOk.calls k _ _ l0_1 true _ ?side1 ?side2 A6.out).mono ?_); (case side1 => repeat (first | exact (Kd.C_below HR0_1.out HB.out) | (with_reducible refine Kd.C_alloc ?_ _) | (with_reducible refine Kd.C_drewN ?_ _) | (with_reducible refine Kd.C_drew ?_))); (case side2 => exact HC0_1.out); rintro e w41 ⟨rfl, hb⟩; have n0_ := Aside0.mk (blk_below (g := gb736) (o := .cells #[.int .i64 a0_0, .slice A0_1 l0_1.length c0_1, .int .i64 a0_2, .int .i64 a0_3, .slice A0_4 l0_4.length c0_4] 75 (0, 0)) (by (with_reducible repeat (first | refine blk_drewN ?_ _ | refine blk_drew ?_ | refine blk_alloc ?_ _)); exact BK736.out) hb); have n1_ := Aside0.mk (below_step (by repeat (first | (with_reducible first | exact HB.out | apply below_alloc | apply pw_below_drewN | apply below_drew1 | refine below_set ?_ GE736.out) | exact HB.out)) hb); clear BK736; clear HB; have BK736 := n0_; have HB := n1_; clear n0_ n1_; (try clear hb); (try clear hb2); (try clear hk); (try clear hi); have hcz42_0 : w41.cell? ⟨gb736, 0, none⟩ = some (.int .i64 a0_0) := (blk_cell BK736.out 0).trans rfl; have hcz42_1 : w41.cell? ⟨gb736, 1, none⟩ = some (.slice A0_1 l0_1.length c0_1) := (blk_cell BK736.out 1).trans rfl; have hcz42_2 : w41.cell? ⟨gb736, 2, none⟩ = some (.int .i64 a0_2) := (blk_cell BK736.out 2).trans rfl; have hcz42_3 : w41.cell? ⟨gb736, 3, none⟩ = some (.int .i64 a0_3) := (blk_cell BK736.out 3).trans rfl; have hcz42_4 : w41.cell? ⟨gb736, 4, none⟩ = some (.slice A0_4 l0_4.length c0_4) := (blk_cell BK736.out 4).trans rfl; have hfz42_0 := blk_frozen BK736.out 0; have hfz42_1 := blk_frozen BK736.out 1; have hfz42_2 := blk_frozen BK736.out 2; have hfz42_3 := blk_frozen BK736.out 3; have hfz42_4 := blk_frozen BK736.out 4) | (go_at_call 111; (with_reducible refine (impl_in.calls a0_2 0 99999 false _ A8.out).mono ?_); rintro e w' ⟨rfl, ⟨nd, rfl⟩⟩))
  go_ret
  exact ⟨by first | rfl | (simp [errW_none, errW_some] <;> rfl) | (simp [*, errW_none, errW_some] <;> rfl), by repeat (first | (with_reducible first | exact HB.out | apply below_alloc | apply pw_below_drewN | apply below_drew1 | refine below_set ?_ GE736.out) | exact HB.out)⟩
 replace c7 := Bool.eq_false_iff.mpr c7
 subst c7
 have H1 : (some false) = some r := by rw [if_neg (show ¬ (false = true) by decide)] at H; exact H
 clear H
 have H := H1
 clear H1
 obtain rfl := Option.some.inj H
 go_enter Try.func53, Try.ntmps53
 go_wp2_with (first | ((with_reducible refine gate_dst (N := 2) rfl ?_); refine box_event ?hg (N := 2) ?hd (cs := #[.int .i64 a0_0, .slice A0_1 l0_1.length c0_1, .int .i64 a0_2, .int .i64 a0_3, .slice A0_4 l0_4.length c0_4]) (t := 75) ?hr ?_; (case hd => rfl); (case hg => rfl); (case hr => first | (go_simp; done) | (go_simp; rfl)); intro gb736 hg w43 hbox hb; have n0_ := Aside0.mk (below_step (by repeat (first | (with_reducible first | exact HB.out | apply below_alloc | apply pw_below_drewN | apply below_drew1) | exact HB.out)) hb); have n1_ := Aside0.mk (hbox); have n2_ := Aside0.mk ((by rw [hg]; exact (below_size (by repeat (first | (with_reducible first | exact HB.out | apply below_alloc | apply pw_below_drewN | apply below_drew1) | exact HB.out))) : w.heap.size ≤ gb736)); have n3_ := n2_; clear HB; have HB := n0_; have BK736 := n1_; have GW736 := n2_; have GE736 := n3_; clear n0_ n1_ n2_ n3_; clear hb hbox hg; have hcz44_0 : w43.cell? ⟨gb736, 0, none⟩ = some (.int .i64 a0_0) := (blk_cell BK736.out 0).trans rfl; have hcz44_1 : w43.cell? ⟨gb736, 1, none⟩ = some (.slice A0_1 l0_1.length c0_1) := (blk_cell BK736.out 1).trans rfl; have hcz44_2 : w43.cell? ⟨gb736, 2, none⟩ = some (.int .i64 a0_2) := (blk_cell BK736.out 2).trans rfl; have hcz44_3 : w43.cell? ⟨gb736, 3, none⟩ = some (.int .i64 a0_3) := (blk_cell BK736.out 3).trans rfl; have hcz44_4 : w43.cell? ⟨gb736, 4, none⟩ = some (.slice A0_4 l0_4.length c0_4) := (blk_cell BK736.out 4).trans rfl; have hfz44_0 := blk_frozen BK736.out 0; have hfz44_1 := blk_frozen BK736.out 1; have hfz44_2 := blk_frozen BK736.out 2; have hfz44_3 := blk_frozen BK736.out 3; have hfz44_4 := blk_frozen BK736.out 4) | (go_at_call 110; (with_reducible refine (impl_SetOk.calls k _ _ l0_1 false _ ?side1 ?side2 A6.out).mono ?_); (case side1 => repeat (first | exact (Kd.C_below HR0_1.out HB.out) | (with_reducible refine Kd.C_alloc ?_ _) | (with_reducible refine Kd.C_drewN ?_ _) | (with_reducible refine Kd.C_drew ?_))); (case side2 => exact HC0_1.out); rintro e w45 ⟨rfl, hb⟩; have n0_ := Aside0.mk (blk_below (g := gb736) (o := .cells #[.int .i64 a0_0, .slice A0_1 l0_1.length c0_1, .int .i64 a0_2, .int .i64 a0_3, .slice A0_4 l0_4.length c0_4] 75 (0, 0)) (by (with_reducible repeat (first | refine blk_drewN ?_ _ | refine blk_drew ?_ | refine blk_alloc ?_ _)); exact BK736.out) hb); have n1_ := Aside0.mk (below_step (by repeat (first | (with_reducible first | exact HB.out | apply below_alloc | apply pw_below_drewN | apply below_drew1 | refine below_set ?_ GE736.out) | exact HB.out)) hb); clear BK736; clear HB; have BK736 := n0_; have HB := n1_; clear n0_ n1_; (try clear hb); (try clear hb2); (try clear hk); (try clear hi)))
 go_ret
 exact ⟨by first | rfl | (simp [errW_none, errW_some] <;> rfl) | (simp [*, errW_none, errW_some] <;> rfl), by repeat (first | (with_reducible first | exact HB.out | apply below_alloc | apply pw_below_drewN | apply below_drew1 | refine below_set ?_ GE736.out) | exact HB.out)⟩

end Go.Proofs.Ytfholjcelnkleaa.Print
end
section
namespace Go.Proofs.Ytfholjcelnkleaa.Print
open Go.RowKit Go.Proofs.YtfholjcelnkleaaV.PrintWords Go.Proofs.YtfholjcelnkleaaV.PrintLast Go.Proofs.YtfholjcelnkleaaV.PrintMore
attribute [local go_sem] max2_int min2_int max_two min_two max_three min_three max_four min_four   -- for this text's walks alone
set_option linter.unusedVariables false
set_option linter.unusedSimpArgs false

/-! ### laws_eqLabel: function 147 -/
def laws_eqLabel.f (a0_0 : ByteArray) (a0_1 : ByteArray) (a1_0 : ByteArray) (a1_1 : ByteArray) : Option (Bool) := if a0_0.toList = a1_0.toList then (if a0_1.toList = a1_1.toList then (some true) else (none)) else (none)
set_option maxHeartbeats 8000000 in
set_option maxRecDepth 100000 in
theorem laws_eqLabel.calls (a0_0 : ByteArray) (a0_1 : ByteArray) (a1_0 : ByteArray) (a1_1 : ByteArray) (r : Bool) (w : World) (h : laws_eqLabel.f a0_0 a0_1 a1_0 a1_1 = some r) :
  Calls Try.prog 147 #[.agg #[.string a0_0, .string a0_1], .agg #[.string a1_0, .string a1_1]] w fun e w' => e = .returned (.bool r) ∧ Below w.heap.size w w' := by
 have hu164 := Try.underlying164
 have HB := Aside0.mk (Below.refl w.heap.size w)
 have H : (if a0_0.toList = a1_0.toList then (if a0_1.toList = a1_1.toList then (some true) else (none)) else (none)) = some r := h
 clear h
 by_cases c3 : a0_0.toList = a1_0.toList
 ·
  rw [if_pos c3] at H
  have c3b0 : (a0_0.toList == a1_0.toList) = true := beq_iff_eq.mpr c3
  have c3b1 : (a0_0.toList != a1_0.toList) = false := bne_eq_false_iff_eq.mpr c3
  clear c3
  by_cases c4 : a0_1.toList = a1_1.toList
  ·
   rw [if_pos c4] at H
   have c4b0 : (a0_1.toList == a1_1.toList) = true := beq_iff_eq.mpr c4
   have c4b1 : (a0_1.toList != a1_1.toList) = false := bne_eq_false_iff_eq.mpr c4
   clear c4
   obtain rfl := Option.some.inj H
   go_enter Try.func147, Try.ntmps147
   go_wp2_with (first | ((with_reducible refine gate_dst (N := 2) rfl ?_); refine box_event ?hg (N := 2) ?hd (cs := #[.string a0_0, .string a0_1]) (t := 164) ?hr ?_; (case hd => rfl); (case hg => rfl); (case hr => first | (go_simp; done) | (go_simp; rfl)); intro gb181 hg w5 hbox hb; have n0_ := Aside0.mk (below_step (by repeat (first | (with_reducible first | exact HB.out | apply below_alloc | apply pw_below_drewN | apply below_drew1) | exact HB.out)) hb); have n1_ := Aside0.mk (hbox); have n2_ := Aside0.mk ((by rw [hg]; exact (below_size (by repeat (first | (with_reducible first | exact HB.out | apply below_alloc | apply pw_below_drewN | apply below_drew1) | exact HB.out))) : w.heap.size ≤ gb181)); have n3_ := n2_; clear HB; have HB := n0_; have BK181 := n1_; have GW181 := n2_; have GE181 := n3_; clear n0_ n1_ n2_ n3_; clear hb hbox hg) | ((with_reducible refine gate_dst (N := 3) rfl ?_); refine box_event ?hg (N := 3) ?hd (cs := #[.string a1_0, .string a1_1]) (t := 164) ?hr ?_; (case hd => rfl); (case hg => rfl); (case hr => first | (go_simp; done) | (go_simp; rfl)); intro gb182 hg w6 hbox hb; have n0_ := Aside0.mk (blk_below (g := gb181) (o := .cells #[.string a0_0, .string a0_1] 164 (0, 0)) (by (with_reducible repeat (first | refine blk_drewN ?_ _ | refine blk_drew ?_ | refine blk_alloc ?_ _)); exact BK181.out) hb); have n1_ := Aside0.mk (below_step (by repeat (first | (with_reducible first | exact HB.out | apply below_alloc | apply pw_below_drewN | apply below_drew1 | refine below_set ?_ GE181.out) | exact HB.out)) hb); have n2_ := Aside0.mk (hbox); have n3_ := Aside0.mk ((by rw [hg]; exact (below_size (by repeat (first | (with_reducible first | exact HB.out | apply below_alloc | apply pw_below_drewN | apply below_drew1 | refine below_set ?_ GE181.out) | exact HB.out))) : w.heap.size ≤ gb182)); have n4_ := n3_; have n5_ := Aside0.mk ((by rw [hg]; exact Nat.ne_of_lt (blk_lt (g := gb181) (o := .cells #[.string a0_0, .string a0_1] 164 (0, 0)) (by (with_reducible repeat (first | refine blk_drewN ?_ _ | refine blk_drew ?_ | refine blk_alloc ?_ _)); exact BK181.out)) : gb181 ≠ gb182)); have n6_ := Aside0.mk ((by rw [hg]; exact Nat.ne_of_gt (blk_lt (g := gb181) (o := .cells #[.string a0_0, .string a0_1] 164 (0, 0)) (by (with_reducible repeat (first | refine blk_drewN ?_ _ | refine blk_drew ?_ | refine blk_alloc ?_ _)); exact BK181.out)) : gb182 ≠ gb181)); clear BK181; clear HB; have BK181 := n0_; have HB := n1_; have BK182 := n2_; have GW182 := n3_; have GE182 := n4_; have NB181_182 := n5_; have NB182_181 := n6_; clear n0_ n1_ n2_ n3_ n4_ n5_ n6_; clear hb hbox hg; have hnb7 := NB181_182.out; have hnc7 := NB182_181.out; have hcz8_0 : w6.cell? ⟨gb181, 0, none⟩ = some (.string a0_0) := (blk_cell BK181.out 0).trans rfl; have hcz8_1 : w6.cell? ⟨gb181, 1, none⟩ = some (.string a0_1) := (blk_cell BK181.out 1).trans rfl; have hfz8_0 := blk_frozen BK181.out 0; have hfz8_1 := blk_frozen BK181.out 1; have hcz9_0 : w6.cell? ⟨gb182, 0, none⟩ = some (.string a1_0) := (blk_cell BK182.out 0).trans rfl; have hcz9_1 : w6.cell? ⟨gb182, 1, none⟩ = some (.string a1_1) := (blk_cell BK182.out 1).trans rfl; have hfz9_0 := blk_frozen BK182.out 0; have hfz9_1 := blk_frozen BK182.out 1))
   go_ret
   exact ⟨by first | rfl | (simp [errW_none, errW_some] <;> rfl) | (simp [*, errW_none, errW_some] <;> rfl), by repeat (first | (with_reducible first | exact HB.out | apply below_alloc | apply pw_below_drewN | apply below_drew1 | refine below_set ?_ GE181.out | refine below_set ?_ GE182.out) | exact HB.out)⟩
  rw [if_neg c4] at H
  exact absurd H (by simp)
 rw [if_neg c3] at H
 exact absurd H (by simp)

end Go.Proofs.Ytfholjcelnkleaa.Print
end
section
namespace Go.Proofs.Ytfholjcelnkleaa.Print
open Go.RowKit Go.Proofs.YtfholjcelnkleaaV.PrintWords Go.Proofs.YtfholjcelnkleaaV.PrintLast Go.Proofs.YtfholjcelnkleaaV.PrintMore
attribute [local go_sem] max2_int min2_int max_two min_two max_three min_three max_four min_four   -- for this text's walks alone
set_option linter.unusedVariables false
set_option linter.unusedSimpArgs false

/-! ### laws_eqLabelS: function 98 -/
def laws_eqLabelS.l0 : Nat → List (S164) → List (S164) → Int → Option (Bool)
 | 0, _, _, _ => none
 | k + 1, x0, x1, x5 => if x5 < (x0.length : Int) then (if 0 ≤ x5 then (if x5 < (x1.length : Int) then ((laws_eqLabel.f ((rd_T164 x0 x5).f0) ((rd_T164 x0 x5).f1) ((rd_T164 x1 x5).f0) ((rd_T164 x1 x5).f1)).bind fun t185 => (if t185 = true then (laws_eqLabelS.l0 k x0 x1 (wrap64 (x5 + 1))) else (none))) else (none)) else (none)) else (some true)
def laws_eqLabelS.f (k : Nat) (l0 : List (S164)) (l1 : List (S164)) : Option (Bool) := if (l0.length : Int) = (l1.length : Int) then (laws_eqLabelS.l0 k l0 l1 0) else (none)
theorem laws_eqLabelS.mono_l : ∀ k, (∀ y0 y1 y2, LeO (laws_eqLabelS.l0 k y0 y1 y2) (laws_eqLabelS.l0 (k + 1) y0 y1 y2))
 | 0 => fun _ _ _ r h => by simp [laws_eqLabelS.l0] at h
 | k + 1 => by
  have ih0 := laws_eqLabelS.mono_l k
  intro y0 y1 y2
  unfold laws_eqLabelS.l0
  repeat' first
  | (with_reducible exact ih0 _ _ _)
  | (with_reducible exact LeO.refl _)
  | (with_reducible exact LeO.none _)
  | (with_reducible refine LeO.ite ?_ ?_)
  | (with_reducible refine LeO.bind ?_ (fun _ => ?_))
  | exact ih0 _ _ _
  | exact LeO.none _
  | refine LeO.ite ?_ ?_
  | refine LeO.bind ?_ (fun _ => ?_)
theorem laws_eqLabelS.mono : ∀ a0 a1 k, LeO (laws_eqLabelS.f k a0 a1) (laws_eqLabelS.f (k + 1) a0 a1) := by
 intro a0 a1 k
 have ih0 := laws_eqLabelS.mono_l k
 unfold laws_eqLabelS.f
 repeat' first
   | (with_reducible exact ih0 _ _ _)
   | (with_reducible exact LeO.refl _)
   | (with_reducible exact LeO.none _)
   | (with_reducible refine LeO.ite ?_ ?_)
   | (with_reducible refine LeO.bind ?_ (fun _ => ?_))
   | exact ih0 _ _ _
   | exact LeO.none _
   | refine LeO.ite ?_ ?_
   | refine LeO.bind ?_ (fun _ => ?_)
def laws_eqLabelS.T6 : Bool × List (List Nat × List Nat) := (true, [([], []), ([], []), ([0, 1], [0, 1]), ([2], [2]), ([], []), ([], []), ([4, 5], [4, 5]), ([6], [6]), ([3, 7], [3, 7]), ([8], [8])])
def laws_eqLabelS.B6 : List Nat := [0, 0, 3, 7, 0, 0, 48, 112, 255, 511]
theorem laws_eqLabelS.tab6 : rtab .any (opsOf Try.f98 6) = laws_eqLabelS.T6 := by kernel_rfl
theorem laws_eqLabelS.bits6 : waitsOk laws_eqLabelS.T6.2 laws_eqLabelS.B6 = true := by kernel_rfl
set_option maxHeartbeats 8000000 in
set_option maxRecDepth 100000 in
theorem laws_eqLabelS.calls (k : Nat) (A0 : Option Addr) (c0 : Nat) (l0 : List (S164)) (A1 : Option Addr) (c1 : Nat) (l1 : List (S164)) (r : Bool) (w : World) (hr0 : Kd.C k164 w A0 l0.length l0) (hc0 : l0.length ≤ c0) (hr1 : Kd.C k164 w A1 l1.length l1) (hc1 : l1.length ≤ c1) (h : laws_eqLabelS.f k l0 l1 = some r) :
  Calls Try.prog 98 #[.slice A0 l0.length c0, .slice A1 l1.length c1] w fun e w' => e = .returned (.bool r) ∧ Below w.heap.size w w' := by
 have hu164 := Try.underlying164
 have HR0 := Aside0.mk hr0
 have HC0 := Aside0.mk hc0
 clear hr0 hc0
 have HR1 := Aside0.mk hr1
 have HC1 := Aside0.mk hc1
 clear hr1 hc1
 have HB := Aside0.mk (Below.refl w.heap.size w)
 have H : (if (l0.length : Int) = (l1.length : Int) then (laws_eqLabelS.l0 k l0 l1 0) else (none)) = some r := h
 clear h
 by_cases c3 : (l0.length : Int) = (l1.length : Int)
 ·
  rw [if_pos c3] at H
  have c3b0 : ((l0.length : Int) == (l1.length : Int)) = true := beq_iff_eq.mpr c3
  have c3b1 : ((l0.length : Int) != (l1.length : Int)) = false := bne_eq_false_iff_eq.mpr c3
  have c3b2 : (l0.length == l1.length) = true := by first | simpa using c3 | (simp at c3 ⊢; omega)
  clear c3
  have H' := Aside0.mk H
  clear H
  go_enter Try.func98, Try.ntmps98
  go_wp2
  go_loopg [5] k (fun kq v5 w' => ∃ (x5_1 : Int), v5 = .int .i64 x5_1 ∧ Aside0 (laws_eqLabelS.l0 kq l0 l1 x5_1 = some r) ∧ Aside0 (kq ≤ k) ∧ Aside0 (Below w.heap.size w w'))
  case atStart => exact ⟨(0), (by first | rfl | (simp; done) | (simp [*]; done)), H', ⟨Nat.le_refl _⟩, ⟨by repeat (first | (with_reducible first | exact HB.out | apply below_alloc | apply pw_below_drewN | apply below_drew1) | exact HB.out)⟩⟩
  case round =>
   clear H'
   try clear c1
   try clear p2
   try clear c3
   try clear c3b0
   try clear c3b1
   try clear c3b2
   obtain ⟨x5_1, rfl, HA, HK1, HB⟩ := hrel
   cases gk with
   | zero => exact absurd HA.out (by simp [laws_eqLabelS.l0])
   | succ k1 =>
    have H := HA.out
    clear HA
    simp only [laws_eqLabelS.l0] at H
    by_cases c4 : x5_1 < (l0.length : Int)
    ·
     rw [if_pos c4] at H
     have c4b0 : decide (x5_1 < (l0.length : Int)) = true := decide_eq_true c4
     clear c4
     by_cases c5 : 0 ≤ x5_1
     ·
      rw [if_pos c5] at H
      have c5b0 : decide (0 ≤ x5_1) = true := decide_eq_true c5
      clear c5
      by_cases c6 : x5_1 < (l1.length : Int)
      ·
       rw [if_pos c6] at H
       have c6b0 : decide (x5_1 < (l1.length : Int)) = true := decide_eq_true c6
       clear c6
       replace H := Option.bind_eq_some_iff.mp H
       obtain ⟨t185, A70, H⟩ := H
       replace H : (if t185 = true then (laws_eqLabelS.l0 k1 l0 l1 (wrap64 (x5_1 + 1))) else (none)) = some r := H
       have A7 := Aside0.mk A70
       clear A70
       by_cases c8 : t185 = true
       ·
        subst c8
        have H1 : (laws_eqLabelS.l0 k1 l0 l1 (wrap64 (x5_1 + 1))) = some r := by rw [if_pos rfl] at H; exact H
        clear H
        have H := H1
        clear H1
        have H' := Aside0.mk H
        clear H
        try go_wp2
        have n0_ := Aside0.mk (below_drew1 HB.out)
        clear HB
        have HB := n0_
        clear n0_
        have p183 : 0 ≤ (x5_1 : Int) := of_decide_eq_true (by first | (with_reducible assumption) | assumption)
        have q183 : x5_1 < (l0.length : Int) := of_decide_eq_true (by first | (with_reducible assumption) | assumption)
        obtain ⟨ad183, e183, hx183_0, hx183_1⟩ := at_T164 HR0.out x5_1 p183 q183
        have hw183_1 := hx183_1
        have hw183_0 := hx183_0
        cases e183
        replace hx183_0 := (HB.out.cell (World.block_lt_of_cell? w _ hx183_0)).trans hx183_0
        replace hx183_1 := (HB.out.cell (World.block_lt_of_cell? w _ hx183_1)).trans hx183_1
        replace p183 := eq_true p183
        replace q183 := eq_true q183
        have p184 : 0 ≤ (x5_1 : Int) := of_decide_eq_true (by first | (with_reducible assumption) | assumption)
        have q184 : x5_1 < (l1.length : Int) := of_decide_eq_true (by first | (with_reducible assumption) | assumption)
        obtain ⟨ad184, e184, hx184_0, hx184_1⟩ := at_T164 HR1.out x5_1 p184 q184
        have hw184_1 := hx184_1
        have hw184_0 := hx184_0
        cases e184
        replace hx184_0 := (HB.out.cell (World.block_lt_of_cell? w _ hx184_0)).trans hx184_0
        replace hx184_1 := (HB.out.cell (World.block_lt_of_cell? w _ hx184_1)).trans hx184_1
        replace p184 := eq_true p184
        replace q184 := eq_true q184
        refine start_ (n := 10) (S := fun w' => w'.cell? (ad183.add ((x5_1).toNat * 2)) = some (.string ((rd_T164 l0 x5_1).f0)) ∧ w'.cell? ⟨(ad183.add ((x5_1).toNat * 2)).block, (ad183.add ((x5_1).toNat * 2)).off + 1, none⟩ = some (.string ((rd_T164 l0 x5_1).f1)) ∧ w'.cell? (ad184.add ((x5_1).toNat * 2)) = some (.string ((rd_T164 l1 x5_1).f0)) ∧ w'.cell? ⟨(ad184.add ((x5_1).toNat * 2)).block, (ad184.add ((x5_1).toNat * 2)).off + 1, none⟩ = some (.string ((rd_T164 l1 x5_1).f1))) (ds := []) #[f_,f_,f_,f_,f_,f_,f_,f_,f_,f_] (by kernel_rfl) rfl rfl ⟨((HB.out.cell (World.block_lt_of_cell? w _ hw183_0)).trans hw183_0), ((HB.out.cell (World.block_lt_of_cell? w _ hw183_1)).trans hw183_1), ((HB.out.cell (World.block_lt_of_cell? w _ hw184_0)).trans hw184_0), ((HB.out.cell (World.block_lt_of_cell? w _ hw184_1)).trans hw184_1)⟩ (fun hHeld => ?_); refine with_tabW laws_eqLabelS.tab6 laws_eqLabelS.bits6 (fun HT_ HW_ => ?_)
        generalize wr.drew = w9 at HB hx183_0 hx183_1 hx184_0 hx184_1 hHeld ⊢
        refine pu_ 0 17 ?_ (b_ 1 9) rfl rfl (any_of HT_.out (by kernel_rfl)) (fun _ _ _ h => h) (by rfl) ?_ ?_ ?_ ?_; rotate_left; intro w'; go_simp; with_reducible rfl; rotate_left; simp only [fr_]; rfl
        refine pu_ 1 18 ?_ (b_ 2 8) rfl rfl (any_of HT_.out (by kernel_rfl)) (fun _ _ _ h => h) (by rfl) ?_ ?_ ?_ ?_; rotate_left; intro w'; go_simp; with_reducible rfl; rotate_left; simp only [fr_]; rfl
        refine pu_ 2 19 ?_ (b_ 3 7) rfl rfl (any_of HT_.out (by kernel_rfl)) (fun _ _ _ h => h) (by rfl) ?_ ?_ ?_ ?_; rotate_left; intro w'; go_simp; with_reducible rfl; rotate_left; simp only [fr_]; rfl
        refine pu_ 4 21 ?_ #[t_,t_,t_,f_,t_,f_,f_,f_,f_,f_] rfl rfl (any_of HT_.out (by kernel_rfl)) (fun _ _ _ h => h) (by rfl) ?_ ?_ ?_ ?_; rotate_left; intro w'; go_simp; with_reducible rfl; rotate_left; simp only [fr_]; rfl
        refine pu_ 5 22 ?_ #[t_,t_,t_,f_,t_,t_,f_,f_,f_,f_] rfl rfl (any_of HT_.out (by kernel_rfl)) (fun _ _ _ h => h) (by rfl) ?_ ?_ ?_ ?_; rotate_left; intro w'; go_simp; with_reducible rfl; rotate_left; simp only [fr_]; rfl
        refine pu_ 6 23 ?_ #[t_,t_,t_,f_,t_,t_,t_,f_,f_,f_] rfl rfl (any_of HT_.out (by kernel_rfl)) (fun _ _ _ h => h) (by rfl) ?_ ?_ ?_ ?_; rotate_left; intro w'; go_simp; with_reducible rfl; rotate_left; simp only [fr_]; rfl
        refine take_ (i := 3) (N := some 20) (v := ?_) (a' := ?_) #[t_,t_,t_,t_,t_,t_,t_,f_,f_,f_] rfl rfl (take_ofW HT_.out HW_.out (by kernel_rfl)) (fun _ _ _ h => h) (Or.inl ⟨by rfl, ?_⟩) hHeld ?_ ?_
        rotate_left
        ·
         rintro w' ⟨s0, s1, s2, s3⟩
         go_simp
         with_reducible rfl
        rotate_left
        ·
         simp only [fr_]
         rfl
        refine take_ (i := 7) (N := some 24) (v := ?_) (a' := ?_) #[t_,t_,t_,t_,t_,t_,t_,t_,f_,f_] rfl rfl (take_ofW HT_.out HW_.out (by kernel_rfl)) (fun _ _ _ h => h) (Or.inl ⟨by rfl, ?_⟩) hHeld ?_ ?_
        rotate_left
        ·
         rintro w' ⟨s0, s1, s2, s3⟩
         go_simp
         with_reducible rfl
        rotate_left
        ·
         simp only [fr_]
         rfl
        refine one_ (i := 8) (N := some 25) #[t_,t_,t_,t_,t_,t_,t_,t_,t_,f_] rfl rfl (one_of HT_.out (by kernel_rfl)) (by decide) (fun K hK => ?_)
        refine goes_ Try.func147 (by kernel_rfl) rfl #[.agg #[.string ((rd_T164 l0 x5_1).f0), .string ((rd_T164 l0 x5_1).f1)], .agg #[.string ((rd_T164 l1 x5_1).f0), .string ((rd_T164 l1 x5_1).f1)]] (by rfl) rfl rfl (by (try simp only [List.map_toArray, List.map_cons, List.map_nil]); first | done | rfl | (simp only [List.length_drop, List.length_take]; rfl)) ?_
        with_reducible refine (laws_eqLabel.calls ((rd_T164 l0 x5_1).f0) ((rd_T164 l0 x5_1).f1) ((rd_T164 l1 x5_1).f0) ((rd_T164 l1 x5_1).f1) true _ A7.out).mono ?_
        rintro e w10 ⟨rfl, hb⟩
        refine ⟨_, rfl, ?_⟩
        have n0_ := Aside0.mk (below_step (by repeat (first | (with_reducible first | exact HB.out | apply below_alloc | apply pw_below_drewN | apply below_drew1) | exact HB.out)) hb)
        clear HB
        have HB := n0_
        clear n0_
        (try clear hb)
        (try clear hb2)
        (try clear hk)
        (try clear hi)
        refine hK.out _ _ ⟨((HB.out.cell (World.block_lt_of_cell? w _ hw183_0)).trans hw183_0), ((HB.out.cell (World.block_lt_of_cell? w _ hw183_1)).trans hw183_1), ((HB.out.cell (World.block_lt_of_cell? w _ hw184_0)).trans hw184_0), ((HB.out.cell (World.block_lt_of_cell? w _ hw184_1)).trans hw184_1)⟩ (fun hHeld => ?_)
        clear hK K
        refine norm_ (a' := ?_) ?_ ?_
        rotate_left
        ·
         show Act.put _ (some 25) _ = _
         simp only [fr_]
         rfl
        refine pu_ 9 26 ?_ (b_ 10 0) rfl rfl (any_of HT_.out (by kernel_rfl)) (fun _ _ _ h => h) (by rfl) ?_ ?_ ?_ ?_; rotate_left; intro w'; go_simp; with_reducible rfl; rotate_left; simp only [fr_]; rfl
        refine done_ (done_of HT_.out (by kernel_rfl)) ?_
        try go_wp2
        go_roundg k1
        case measure => have := HK1.out; omega
        case rel => exact ⟨(wrap64 (x5_1 + 1)), (by first | rfl | (simp; done) | (simp [*]; done)), H', ⟨by have := HK1.out; omega⟩, ⟨by repeat (first | (with_reducible first | exact HB.out | apply below_alloc | apply pw_below_drewN | apply below_drew1) | exact HB.out)⟩⟩
       replace c8 := Bool.eq_false_iff.mpr c8
       subst c8
       have H1 : (none) = some r := by rw [if_neg (show ¬ (false = true) by decide)] at H; exact H
       clear H
       have H := H1
       clear H1
       exact absurd H (by simp)
      rw [if_neg c6] at H
      exact absurd H (by simp)
     rw [if_neg c5] at H
     exact absurd H (by simp)
    rw [if_neg c4] at H
    have c4b0 : decide (x5_1 < (l0.length : Int)) = false := decide_eq_false c4
    clear c4
    obtain rfl := Option.some.inj H
    go_wp2
    go_ret
    exact ⟨by first | rfl | (simp [errW_none, errW_some] <;> rfl) | (simp [*, errW_none, errW_some] <;> rfl), by repeat (first | (with_reducible first | exact HB.out | apply below_alloc | apply pw_below_drewN | apply below_drew1) | exact HB.out)⟩
 rw [if_neg c3] at H
 exact absurd H (by simp)

end Go.Proofs.Ytfholjcelnkleaa.Print
end
section
namespace Go.Proofs.Ytfholjcelnkleaa.Print
open Go.RowKit Go.Proofs.YtfholjcelnkleaaV.PrintWords Go.Proofs.YtfholjcelnkleaaV.PrintLast Go.Proofs.YtfholjcelnkleaaV.PrintMore
attribute [local go_sem] max2_int min2_int max_two min_two max_three min_three max_four min_four   -- for this text's walks alone
set_option linter.unusedVariables false
set_option linter.unusedSimpArgs false

/-! ### laws_eqAlarm: function 27 -/
def laws_eqAlarm.f (k : Nat) (l0_0 : List (S164)) (a0_1 : Int) (a0_2 : Int) (a0_3 : ByteArray) (l1_0 : List (S164)) (a1_1 : Int) (a1_2 : Int) (a1_3 : ByteArray) : Option (Bool) := (laws_eqLabelS.f k l0_0 l1_0).bind fun t188 => (if t188 = true then (if a0_1 = a1_1 then (if a0_2 = a1_2 then (if a0_3.toList = a1_3.toList then (some true) else (none)) else (none)) else (none)) else (none))
theorem laws_eqAlarm.mono : ∀ a0 a1 a2 a3 a4 a5 a6 a7 k, LeO (laws_eqAlarm.f k a0 a1 a2 a3 a4 a5 a6 a7) (laws_eqAlarm.f (k + 1) a0 a1 a2 a3 a4 a5 a6 a7) := by
 intro a0 a1 a2 a3 a4 a5 a6 a7 k
 unfold laws_eqAlarm.f
 repeat' first
   | (with_reducible exact laws_eqLabelS.mono _ _ _)
   | (with_reducible exact LeO.refl _)
   | (with_reducible exact LeO.none _)
   | (with_reducible refine LeO.ite ?_ ?_)
   | (with_reducible refine LeO.bind ?_ (fun _ => ?_))
   | exact laws_eqLabelS.mono _ _ _
   | exact LeO.none _
   | refine LeO.ite ?_ ?_
   | refine LeO.bind ?_ (fun _ => ?_)
set_option maxHeartbeats 8000000 in
set_option maxRecDepth 100000 in
theorem laws_eqAlarm.calls (k : Nat) (A0_0 : Option Addr) (c0_0 : Nat) (l0_0 : List (S164)) (a0_1 : Int) (a0_2 : Int) (a0_3 : ByteArray) (A1_0 : Option Addr) (c1_0 : Nat) (l1_0 : List (S164)) (a1_1 : Int) (a1_2 : Int) (a1_3 : ByteArray) (r : Bool) (w : World) (hr0_0 : Kd.C k164 w A0_0 l0_0.length l0_0) (hc0_0 : l0_0.length ≤ c0_0) (hr1_0 : Kd.C k164 w A1_0 l1_0.length l1_0) (hc1_0 : l1_0.length ≤ c1_0) (h : laws_eqAlarm.f k l0_0 a0_1 a0_2 a0_3 l1_0 a1_1 a1_2 a1_3 = some r) :
  Calls Try.prog 27 #[.agg #[.slice A0_0 l0_0.length c0_0, .int .i64 a0_1, .int .i64 a0_2, .string a0_3], .agg #[.slice A1_0 l1_0.length c1_0, .int .i64 a1_1, .int .i64 a1_2, .string a1_3]] w fun e w' => e = .returned (.bool r) ∧ Below w.heap.size w w' := by
 have hu44 := Try.underlying44
 have HR0_0 := Aside0.mk hr0_0
 have HC0_0 := Aside0.mk hc0_0
 clear hr0_0 hc0_0
 have HR1_0 := Aside0.mk hr1_0
 have HC1_0 := Aside0.mk hc1_0
 clear hr1_0 hc1_0
 have HB := Aside0.mk (Below.refl w.heap.size w)
 have H : ((laws_eqLabelS.f k l0_0 l1_0).bind fun t188 => (if t188 = true then (if a0_1 = a1_1 then (if a0_2 = a1_2 then (if a0_3.toList = a1_3.toList then (some true) else (none)) else (none)) else (none)) else (none))) = some r := h
 clear h
 replace H := Option.bind_eq_some_iff.mp H
 obtain ⟨t188, A30, H⟩ := H
 replace H : (if t188 = true then (if a0_1 = a1_1 then (if a0_2 = a1_2 then (if a0_3.toList = a1_3.toList then (some true) else (none)) else (none)) else (none)) else (none)) = some r := H
 have A3 := Aside0.mk A30
 clear A30
 by_cases c4 : t188 = true
 ·
  subst c4
  have H1 : (if a0_1 = a1_1 then (if a0_2 = a1_2 then (if a0_3.toList = a1_3.toList then (some true) else (none)) else (none)) else (none)) = some r := by rw [if_pos rfl] at H; exact H
  clear H
  have H := H1
  clear H1
  by_cases c5 : a0_1 = a1_1
  ·
   rw [if_pos c5] at H
   have c5b0 : (a0_1 == a1_1) = true := beq_iff_eq.mpr c5
   have c5b1 : (a0_1 != a1_1) = false := bne_eq_false_iff_eq.mpr c5
   clear c5
   by_cases c6 : a0_2 = a1_2
   ·
    rw [if_pos c6] at H
    have c6b0 : (a0_2 == a1_2) = true := beq_iff_eq.mpr c6
    have c6b1 : (a0_2 != a1_2) = false := bne_eq_false_iff_eq.mpr c6
    clear c6
    by_cases c7 : a0_3.toList = a1_3.toList
    ·
     rw [if_pos c7] at H
     have c7b0 : (a0_3.toList == a1_3.toList) = true := beq_iff_eq.mpr c7
     have c7b1 : (a0_3.toList != a1_3.toList) = false := bne_eq_false_iff_eq.mpr c7
     clear c7
     obtain rfl := Option.some.inj H
     go_enter Try.func27, Try.ntmps27
     go_wp2_with (first | ((with_reducible refine gate_dst (N := 2) rfl ?_); refine box_event ?hg (N := 2) ?hd (cs := #[.slice A0_0 l0_0.length c0_0, .int .i64 a0_1, .int .i64 a0_2, .string a0_3]) (t := 44) ?hr ?_; (case hd => rfl); (case hg => rfl); (case hr => first | (go_simp; done) | (go_simp; rfl)); intro gb186 hg w8 hbox hb; have n0_ := Aside0.mk (below_step (by repeat (first | (with_reducible first | exact HB.out | apply below_alloc | apply pw_below_drewN | apply below_drew1) | exact HB.out)) hb); have n1_ := Aside0.mk (hbox); have n2_ := Aside0.mk ((by rw [hg]; exact (below_size (by repeat (first | (with_reducible first | exact HB.out | apply below_alloc | apply pw_below_drewN | apply below_drew1) | exact HB.out))) : w.heap.size ≤ gb186)); have n3_ := n2_; clear HB; have HB := n0_; have BK186 := n1_; have GW186 := n2_; have GE186 := n3_; clear n0_ n1_ n2_ n3_; clear hb hbox hg) | ((with_reducible refine gate_dst (N := 3) rfl ?_); refine box_event ?hg (N := 3) ?hd (cs := #[.slice A1_0 l1_0.length c1_0, .int .i64 a1_1, .int .i64 a1_2, .string a1_3]) (t := 44) ?hr ?_; (case hd => rfl); (case hg => rfl); (case hr => first | (go_simp; done) | (go_simp; rfl)); intro gb187 hg w9 hbox hb; have n0_ := Aside0.mk (blk_below (g := gb186) (o := .cells #[.slice A0_0 l0_0.length c0_0, .int .i64 a0_1, .int .i64 a0_2, .string a0_3] 44 (0, 0)) (by (with_reducible repeat (first | refine blk_drewN ?_ _ | refine blk_drew ?_ | refine blk_alloc ?_ _)); exact BK186.out) hb); have n1_ := Aside0.mk (below_step (by repeat (first | (with_reducible first | exact HB.out | apply below_alloc | apply pw_below_drewN | apply below_drew1 | refine below_set ?_ GE186.out) | exact HB.out)) hb); have n2_ := Aside0.mk (hbox); have n3_ := Aside0.mk ((by rw [hg]; exact (below_size (by repeat (first | (with_reducible first | exact HB.out | apply below_alloc | apply pw_below_drewN | apply below_drew1 | refine below_set ?_ GE186.out) | exact HB.out))) : w.heap.size ≤ gb187)); have n4_ := n3_; have n5_ := Aside0.mk ((by rw [hg]; exact Nat.ne_of_lt (blk_lt (g := gb186) (o := .cells #[.slice A0_0 l0_0.length c0_0, .int .i64 a0_1, .int .i64 a0_2, .string a0_3] 44 (0, 0)) (by (with_reducible repeat (first | refine blk_drewN ?_ _ | refine blk_drew ?_ | refine blk_alloc ?_ _)); exact BK186.out)) : gb186 ≠ gb187)); have n6_ := Aside0.mk ((by rw [hg]; exact Nat.ne_of_gt (blk_lt (g := gb186) (o := .cells #[.slice A0_0 l0_0.length c0_0, .int .i64 a0_1, .int .i64 a0_2, .string a0_3] 44 (0, 0)) (by (with_reducible repeat (first | refine blk_drewN ?_ _ | refine blk_drew ?_ | refine blk_alloc ?_ _)); exact BK186.out)) : gb187 ≠ gb186)); clear BK186; clear HB; have BK186 := n0_; have HB := n1_; have BK187 := n2_; have GW187 := n3_; have GE187 := n4_; have NB186_187 := n5_; have NB187_186 := n6_; clear n0_ n1_ n2_ n3_ n4_ n5_ n6_; clear hb hbox hg; have hnb10 := NB186_187.out; have hnc10 := NB187_186.out; have hcz11_0 : w9.cell? ⟨gb186, 0, none⟩ = some (.slice A0_0 l0_0.length c0_0) := (blk_cell BK186.out 0).trans rfl; have hcz11_1 : w9.cell? ⟨gb186, 1, none⟩ = some (.int .i64 a0_1) := (blk_cell BK186.out 1).trans rfl; have hcz11_2 : w9.cell? ⟨gb186, 2, none⟩ = some (.int .i64 a0_2) := (blk_cell BK186.out 2).trans rfl; have hcz11_3 : w9.cell? ⟨gb186, 3, none⟩ = some (.string a0_3) := (blk_cell BK186.out 3).trans rfl; have hfz11_0 := blk_frozen BK186.out 0; have hfz11_1 := blk_frozen BK186.out 1; have hfz11_2 := blk_frozen BK186.out 2; have hfz11_3 := blk_frozen BK186.out 3; have hcz12_0 : w9.cell? ⟨gb187, 0, none⟩ = some (.slice A1_0 l1_0.length c1_0) := (blk_cell BK187.out 0).trans rfl; have hcz12_1 : w9.cell? ⟨gb187, 1, none⟩ = some (.int .i64 a1_1) := (blk_cell BK187.out 1).trans rfl; have hcz12_2 : w9.cell? ⟨gb187, 2, none⟩ = some (.int .i64 a1_2) := (blk_cell BK187.out 2).trans rfl; have hcz12_3 : w9.cell? ⟨gb187, 3, none⟩ = some (.string a1_3) := (blk_cell BK187.out 3).trans rfl; have hfz12_0 := blk_frozen BK187.out 0; have hfz12_1 := blk_frozen BK187.out 1; have hfz12_2 := blk_frozen BK187.out 2; have hfz12_3 := blk_frozen BK187.out 3) | ((with_reducible refine gate_callee (f := 98) rfl ?_); refine goesL_ (some 9) rfl rfl Try.func98 (by kernel_rfl) rfl #[.slice A0_0 l0_0.length c0_0, .slice A1_0 l1_0.length c1_0] rfl (by (try simp only [List.map_toArray, List.map_cons, List.map_nil]); first | done | rfl | (simp only [List.length_drop, List.length_take]; rfl)) ?_; (with_reducible refine (laws_eqLabelS.calls k _ _ l0_0 _ _ l1_0 true _ ?side1 ?side2 ?side3 ?side4 A3.out).mono ?_); (case side1 => repeat (first | exact (Kd.C_below HR0_0.out HB.out) | (with_reducible refine Kd.C_alloc ?_ _) | (with_reducible refine Kd.C_drewN ?_ _) | (with_reducible refine Kd.C_drew ?_))); (case side2 => exact HC0_0.out); (case side3 => repeat (first | exact (Kd.C_below HR1_0.out HB.out) | (with_reducible refine Kd.C_alloc ?_ _) | (with_reducible refine Kd.C_drewN ?_ _) | (with_reducible refine Kd.C_drew ?_))); (case side4 => exact HC1_0.out); rintro e w13 ⟨rfl, hb⟩; refine ⟨_, rfl, ?_⟩; have n0_ := Aside0.mk (blk_below (g := gb186) (o := .cells #[.slice A0_0 l0_0.length c0_0, .int .i64 a0_1, .int .i64 a0_2, .string a0_3] 44 (0, 0)) (by (with_reducible repeat (first | refine blk_drewN ?_ _ | refine blk_drew ?_ | refine blk_alloc ?_ _)); exact BK186.out) hb); have n1_ := Aside0.mk (blk_below (g := gb187) (o := .cells #[.slice A1_0 l1_0.length c1_0, .int .i64 a1_1, .int .i64 a1_2, .string a1_3] 44 (0, 0)) (by (with_reducible repeat (first | refine blk_drewN ?_ _ | refine blk_drew ?_ | refine blk_alloc ?_ _)); exact BK187.out) hb); have n2_ := Aside0.mk (below_step (by repeat (first | (with_reducible first | exact HB.out | apply below_alloc | apply pw_below_drewN | apply below_drew1 | refine below_set ?_ GE186.out | refine below_set ?_ GE187.out) | exact HB.out)) hb); clear BK186; clear BK187; clear HB; have BK186 := n0_; have BK187 := n1_; have HB := n2_; clear n0_ n1_ n2_; (try clear hb); (try clear hb2); (try clear hk); (try clear hi); have hcz14_0 : w13.cell? ⟨gb186, 0, none⟩ = some (.slice A0_0 l0_0.length c0_0) := (blk_cell BK186.out 0).trans rfl; have hcz14_1 : w13.cell? ⟨gb186, 1, none⟩ = some (.int .i64 a0_1) := (blk_cell BK186.out 1).trans rfl; have hcz14_2 : w13.cell? ⟨gb186, 2, none⟩ = some (.int .i64 a0_2) := (blk_cell BK186.out 2).trans rfl; have hcz14_3 : w13.cell? ⟨gb186, 3, none⟩ = some (.string a0_3) := (blk_cell BK186.out 3).trans rfl; have hfz14_0 := blk_frozen BK186.out 0; have hfz14_1 := blk_frozen BK186.out 1; have hfz14_2 := blk_frozen BK186.out 2; have hfz14_3 := blk_frozen BK186.out 3; have hcz15_0 : w13.cell? ⟨gb187, 0, none⟩ = some (.slice A1_0 l1_0.length c1_0) := (blk_cell BK187.out 0).trans rfl; have hcz15_1 : w13.cell? ⟨gb187, 1, none⟩ = some (.int .i64 a1_1) := (blk_cell BK187.out 1).trans rfl; have hcz15_2 : w13.cell? ⟨gb187, 2, none⟩ = some (.int .i64 a1_2) := (blk_cell BK187.out 2).trans rfl; have hcz15_3 : w13.cell? ⟨gb187, 3, none⟩ = some (.string a1_3) := (blk_cell BK187.out 3).trans rfl; have hfz15_0 := blk_frozen BK187.out 0; have hfz15_1 := blk_frozen BK187.out 1; have hfz15_2 := blk_frozen BK187.out 2; have hfz15_3 := blk_frozen BK187.out 3))
     go_ret
     exact ⟨by first | rfl | (simp [errW_none, errW_some] <;> rfl) | (simp [*, errW_none, errW_some] <;> rfl), by repeat (first | (with_reducible first | exact HB.out | apply below_alloc | apply pw_below_drewN | apply below_drew1 | refine below_set ?_ GE186.out | refine below_set ?_ GE187.out) | exact HB.out)⟩
    rw [if_neg c7] at H
    exact absurd H (by simp)
   rw [if_neg c6] at H
   exact absurd H (by simp)
  rw [if_neg c5] at H
  exact absurd H (by simp)
 replace c4 := Bool.eq_false_iff.mpr c4
 subst c4
 have H1 : (none) = some r := by rw [if_neg (show ¬ (false = true) by decide)] at H; exact H
 clear H
 have H := H1
 clear H1
 exact absurd H (by simp)

end Go.Proofs.Ytfholjcelnkleaa.Print
end
section
namespace Go.Proofs.Ytfholjcelnkleaa.Print
open Go.RowKit Go.Proofs.YtfholjcelnkleaaV.PrintWords Go.Proofs.YtfholjcelnkleaaV.PrintLast Go.Proofs.YtfholjcelnkleaaV.PrintMore
attribute [local go_sem] max2_int min2_int max_two min_two max_three min_three max_four min_four   -- for this text's walks alone
set_option linter.unusedVariables false
set_option linter.unusedSimpArgs false

/-! ### laws_eqAlarmS: function 38 -/
def laws_eqAlarmS.l0 : Nat → List (S44) → List (S44) → Int → Option (Bool)
 | 0, _, _, _ => none
 | k + 1, x0, x1, x5 => if x5 < (x0.length : Int) then (if 0 ≤ x5 then (if x5 < (x1.length : Int) then ((laws_eqAlarm.f k ((rd_T44 x0 x5).f0) ((rd_T44 x0 x5).f1) ((rd_T44 x0 x5).f2) ((rd_T44 x0 x5).f3) ((rd_T44 x1 x5).f0) ((rd_T44 x1 x5).f1) ((rd_T44 x1 x5).f2) ((rd_T44 x1 x5).f3)).bind fun t191 => (if t191 = true then (laws_eqAlarmS.l0 k x0 x1 (wrap64 (x5 + 1))) else (none))) else (none)) else (none)) else (some true)
def laws_eqAlarmS.f (k : Nat) (l0 : List (S44)) (l1 : List (S44)) : Option (Bool) := if (l0.length : Int) = (l1.length : Int) then (laws_eqAlarmS.l0 k l0 l1 0) else (none)
theorem laws_eqAlarmS.mono_l : ∀ k, (∀ y0 y1 y2, LeO (laws_eqAlarmS.l0 k y0 y1 y2) (laws_eqAlarmS.l0 (k + 1) y0 y1 y2))
 | 0 => fun _ _ _ r h => by simp [laws_eqAlarmS.l0] at h
 | k + 1 => by
  have ih0 := laws_eqAlarmS.mono_l k
  intro y0 y1 y2
  unfold laws_eqAlarmS.l0
  repeat' first
  | (with_reducible exact ih0 _ _ _)
  | (with_reducible exact laws_eqAlarm.mono _ _ _ _ _ _ _ _ _)
  | (with_reducible exact LeO.refl _)
  | (with_reducible exact LeO.none _)
  | (with_reducible refine LeO.ite ?_ ?_)
  | (with_reducible refine LeO.bind ?_ (fun _ => ?_))
  | exact ih0 _ _ _
  | exact laws_eqAlarm.mono _ _ _ _ _ _ _ _ _
  | exact LeO.none _
  | refine LeO.ite ?_ ?_
  | refine LeO.bind ?_ (fun _ => ?_)
theorem laws_eqAlarmS.mono : ∀ a0 a1 k, LeO (laws_eqAlarmS.f k a0 a1) (laws_eqAlarmS.f (k + 1) a0 a1) := by
 intro a0 a1 k
 have ih0 := laws_eqAlarmS.mono_l k
 unfold laws_eqAlarmS.f
 repeat' first
   | (with_reducible exact ih0 _ _ _)
   | (with_reducible exact laws_eqAlarm.mono _ _ _ _ _ _ _ _ _)
   | (with_reducible exact LeO.refl _)
   | (with_reducible exact LeO.none _)
   | (with_reducible refine LeO.ite ?_ ?_)
   | (with_reducible refine LeO.bind ?_ (fun _ => ?_))
   | exact ih0 _ _ _
   | exact laws_eqAlarm.mono _ _ _ _ _ _ _ _ _
   | exact LeO.none _
   | refine LeO.ite ?_ ?_
   | refine LeO.bind ?_ (fun _ => ?_)
def laws_eqAlarmS.T6 : Bool × List (List Nat × List Nat) := (true, [([], []), ([], []), ([0, 1], [0, 1]), ([2], [2]), ([], []), ([], []), ([4, 5], [4, 5]), ([6], [6]), ([3, 7], [3, 7]), ([8], [8])])
def laws_eqAlarmS.B6 : List Nat := [0, 0, 3, 7, 0, 0, 48, 112, 255, 511]
theorem laws_eqAlarmS.tab6 : rtab .any (opsOf Try.f38 6) = laws_eqAlarmS.T6 := by kernel_rfl
theorem laws_eqAlarmS.bits6 : waitsOk laws_eqAlarmS.T6.2 laws_eqAlarmS.B6 = true := by kernel_rfl
set_option maxHeartbeats 8000000 in
set_option maxRecDepth 100000 in
theorem laws_eqAlarmS.calls (k : Nat) (A0 : Option Addr) (c0 : Nat) (l0 : List (S44)) (A1 : Option Addr) (c1 : Nat) (l1 : List (S44)) (r : Bool) (w : World) (hr0 : Kd.C k44 w A0 l0.length l0) (hc0 : l0.length ≤ c0) (hr1 : Kd.C k44 w A1 l1.length l1) (hc1 : l1.length ≤ c1) (h : laws_eqAlarmS.f k l0 l1 = some r) :
  Calls Try.prog 38 #[.slice A0 l0.length c0, .slice A1 l1.length c1] w fun e w' => e = .returned (.bool r) ∧ Below w.heap.size w w' := by
 have hu44 := Try.underlying44
 have HR0 := Aside0.mk hr0
 have HC0 := Aside0.mk hc0
 clear hr0 hc0
 have HR1 := Aside0.mk hr1
 have HC1 := Aside0.mk hc1
 clear hr1 hc1
 have HB := Aside0.mk (Below.refl w.heap.size w)
 have H : (if (l0.length : Int) = (l1.length : Int) then (laws_eqAlarmS.l0 k l0 l1 0) else (none)) = some r := h
 clear h
 by_cases c3 : (l0.length : Int) = (l1.length : Int)
 ·
  rw [if_pos c3] at H
  have c3b0 : ((l0.length : Int) == (l1.length : Int)) = true := beq_iff_eq.mpr c3
  have c3b1 : ((l0.length : Int) != (l1.length : Int)) = false := bne_eq_false_iff_eq.mpr c3
  have c3b2 : (l0.length == l1.length) = true := by first | simpa using c3 | (simp at c3 ⊢; omega)
  clear c3
  have H' := Aside0.mk H
  clear H
  go_enter Try.func38, Try.ntmps38
  go_wp2
  go_loopg [5] k (fun kq v5 w' => ∃ (x5_1 : Int), v5 = .int .i64 x5_1 ∧ Aside0 (laws_eqAlarmS.l0 kq l0 l1 x5_1 = some r) ∧ Aside0 (kq ≤ k) ∧ Aside0 (Below w.heap.size w w'))
  case atStart => exact ⟨(0), (by first | rfl | (simp; done) | (simp [*]; done)), H', ⟨Nat.le_refl _⟩, ⟨by repeat (first | (with_reducible first | exact HB.out | apply below_alloc | apply pw_below_drewN | apply below_drew1) | exact HB.out)⟩⟩
  case round =>
   clear H'
   try clear c1
   try clear p2
   try clear c3
   try clear c3b0
   try clear c3b1
   try clear c3b2
   obtain ⟨x5_1, rfl, HA, HK1, HB⟩ := hrel
   cases gk with
   | zero => exact absurd HA.out (by simp [laws_eqAlarmS.l0])
   | succ k1 =>
    have H := HA.out
    clear HA
    simp only [laws_eqAlarmS.l0] at H
    by_cases c4 : x5_1 < (l0.length : Int)
    ·
     rw [if_pos c4] at H
     have c4b0 : decide (x5_1 < (l0.length : Int)) = true := decide_eq_true c4
     clear c4
     by_cases c5 : 0 ≤ x5_1
     ·
      rw [if_pos c5] at H
      have c5b0 : decide (0 ≤ x5_1) = true := decide_eq_true c5
      clear c5
      by_cases c6 : x5_1 < (l1.length : Int)
      ·
       rw [if_pos c6] at H
       have c6b0 : decide (x5_1 < (l1.length : Int)) = true := decide_eq_true c6
       clear c6
       replace H := Option.bind_eq_some_iff.mp H
       obtain ⟨t191, A70, H⟩ := H
       replace H : (if t191 = true then (laws_eqAlarmS.l0 k1 l0 l1 (wrap64 (x5_1 + 1))) else (none)) = some r := H
       have A7 := Aside0.mk A70
       clear A70
       by_cases c8 : t191 = true
       ·
        subst c8
        have H1 : (laws_eqAlarmS.l0 k1 l0 l1 (wrap64 (x5_1 + 1))) = some r := by rw [if_pos rfl] at H; exact H
        clear H
        have H := H1
        clear H1
        have H' := Aside0.mk H
        clear H
        try go_wp2
        have n0_ := Aside0.mk (below_drew1 HB.out)
        clear HB
        have HB := n0_
        clear n0_
        have p189 : 0 ≤ (x5_1 : Int) := of_decide_eq_true (by first | (with_reducible assumption) | assumption)
        have q189 : x5_1 < (l0.length : Int) := of_decide_eq_true (by first | (with_reducible assumption) | assumption)
        obtain ⟨ad189, A189_0, c189_0, e189, hx189_0, hx189_1, hx189_2, hx189_3, hl189_0, hi189_0⟩ := at_T44 HR0.out x5_1 p189 q189
        have hw189_3 := hx189_3
        have hw189_2 := hx189_2
        have hw189_1 := hx189_1
        have hw189_0 := hx189_0
        cases e189
        replace hx189_0 := (HB.out.cell (World.block_lt_of_cell? w _ hx189_0)).trans hx189_0
        replace hx189_1 := (HB.out.cell (World.block_lt_of_cell? w _ hx189_1)).trans hx189_1
        replace hx189_2 := (HB.out.cell (World.block_lt_of_cell? w _ hx189_2)).trans hx189_2
        replace hx189_3 := (HB.out.cell (World.block_lt_of_cell? w _ hx189_3)).trans hx189_3
        have HR189_0 := Aside0.mk hi189_0
        have HC189_0 := Aside0.mk hl189_0
        clear hi189_0 hl189_0
        replace p189 := eq_true p189
        replace q189 := eq_true q189
        have p190 : 0 ≤ (x5_1 : Int) := of_decide_eq_true (by first | (with_reducible assumption) | assumption)
        have q190 : x5_1 < (l1.length : Int) := of_decide_eq_true (by first | (with_reducible assumption) | assumption)
        obtain ⟨ad190, A190_0, c190_0, e190, hx190_0, hx190_1, hx190_2, hx190_3, hl190_0, hi190_0⟩ := at_T44 HR1.out x5_1 p190 q190
        have hw190_3 := hx190_3
        have hw190_2 := hx190_2
        have hw190_1 := hx190_1
        have hw190_0 := hx190_0
        cases e190
        replace hx190_0 := (HB.out.cell (World.block_lt_of_cell? w _ hx190_0)).trans hx190_0
        replace hx190_1 := (HB.out.cell (World.block_lt_of_cell? w _ hx190_1)).trans hx190_1
        replace hx190_2 := (HB.out.cell (World.block_lt_of_cell? w _ hx190_2)).trans hx190_2
        replace hx190_3 := (HB.out.cell (World.block_lt_of_cell? w _ hx190_3)).trans hx190_3
        have HR190_0 := Aside0.mk hi190_0
        have HC190_0 := Aside0.mk hl190_0
        clear hi190_0 hl190_0
        replace p190 := eq_true p190
        replace q190 := eq_true q190
        refine start_ (n := 10) (S := fun w' => w'.cell? (ad189.add ((x5_1).toNat * 4)) = some (.slice A189_0 ((rd_T44 l0 x5_1).f0).length c189_0) ∧ w'.cell? ⟨(ad189.add ((x5_1).toNat * 4)).block, (ad189.add ((x5_1).toNat * 4)).off + 1, none⟩ = some (.int .i64 ((rd_T44 l0 x5_1).f1)) ∧ w'.cell? ⟨(ad189.add ((x5_1).toNat * 4)).block, (ad189.add ((x5_1).toNat * 4)).off + 2, none⟩ = some (.int .i64 ((rd_T44 l0 x5_1).f2)) ∧ w'.cell? ⟨(ad189.add ((x5_1).toNat * 4)).block, (ad189.add ((x5_1).toNat * 4)).off + 3, none⟩ = some (.string ((rd_T44 l0 x5_1).f3)) ∧ w'.cell? (ad190.add ((x5_1).toNat * 4)) = some (.slice A190_0 ((rd_T44 l1 x5_1).f0).length c190_0) ∧ w'.cell? ⟨(ad190.add ((x5_1).toNat * 4)).block, (ad190.add ((x5_1).toNat * 4)).off + 1, none⟩ = some (.int .i64 ((rd_T44 l1 x5_1).f1)) ∧ w'.cell? ⟨(ad190.add ((x5_1).toNat * 4)).block, (ad190.add ((x5_1).toNat * 4)).off + 2, none⟩ = some (.int .i64 ((rd_T44 l1 x5_1).f2)) ∧ w'.cell? ⟨(ad190.add ((x5_1).toNat * 4)).block, (ad190.add ((x5_1).toNat * 4)).off + 3, none⟩ = some (.string ((rd_T44 l1 x5_1).f3))) (ds := []) #[f_,f_,f_,f_,f_,f_,f_,f_,f_,f_] (by kernel_rfl) rfl rfl ⟨((HB.out.cell (World.block_lt_of_cell? w _ hw189_0)).trans hw189_0), ((HB.out.cell (World.block_lt_of_cell? w _ hw189_1)).trans hw189_1), ((HB.out.cell (World.block_lt_of_cell? w _ hw189_2)).trans hw189_2), ((HB.out.cell (World.block_lt_of_cell? w _ hw189_3)).trans hw189_3), ((HB.out.cell (World.block_lt_of_cell? w _ hw190_0)).trans hw190_0), ((HB.out.cell (World.block_lt_of_cell? w _ hw190_1)).trans hw190_1), ((HB.out.cell (World.block_lt_of_cell? w _ hw190_2)).trans hw190_2), ((HB.out.cell (World.block_lt_of_cell? w _ hw190_3)).trans hw190_3)⟩ (fun hHeld => ?_); refine with_tabW laws_eqAlarmS.tab6 laws_eqAlarmS.bits6 (fun HT_ HW_ => ?_)
        generalize wr.drew = w9 at HB HR189_0 HR190_0 hx189_0 hx189_1 hx189_2 hx189_3 hx190_0 hx190_1 hx190_2 hx190_3 hHeld ⊢
        refine pu_ 0 17 ?_ (b_ 1 9) rfl rfl (any_of HT_.out (by kernel_rfl)) (fun _ _ _ h => h) (by rfl) ?_ ?_ ?_ ?_; rotate_left; intro w'; go_simp; with_reducible rfl; rotate_left; simp only [fr_]; rfl
        refine pu_ 1 18 ?_ (b_ 2 8) rfl rfl (any_of HT_.out (by kernel_rfl)) (fun _ _ _ h => h) (by rfl) ?_ ?_ ?_ ?_; rotate_left; intro w'; go_simp; with_reducible rfl; rotate_left; simp only [fr_]; rfl
        refine pu_ 2 19 ?_ (b_ 3 7) rfl rfl (any_of HT_.out (by kernel_rfl)) (fun _ _ _ h => h) (by rfl) ?_ ?_ ?_ ?_; rotate_left; intro w'; go_simp; with_reducible rfl; rotate_left; simp only [fr_]; rfl
        refine pu_ 4 21 ?_ #[t_,t_,t_,f_,t_,f_,f_,f_,f_,f_] rfl rfl (any_of HT_.out (by kernel_rfl)) (fun _ _ _ h => h) (by rfl) ?_ ?_ ?_ ?_; rotate_left; intro w'; go_simp; with_reducible rfl; rotate_left; simp only [fr_]; rfl
        refine pu_ 5 22 ?_ #[t_,t_,t_,f_,t_,t_,f_,f_,f_,f_] rfl rfl (any_of HT_.out (by kernel_rfl)) (fun _ _ _ h => h) (by rfl) ?_ ?_ ?_ ?_; rotate_left; intro w'; go_simp; with_reducible rfl; rotate_left; simp only [fr_]; rfl
        refine pu_ 6 23 ?_ #[t_,t_,t_,f_,t_,t_,t_,f_,f_,f_] rfl rfl (any_of HT_.out (by kernel_rfl)) (fun _ _ _ h => h) (by rfl) ?_ ?_ ?_ ?_; rotate_left; intro w'; go_simp; with_reducible rfl; rotate_left; simp only [fr_]; rfl
        refine take_ (i := 3) (N := some 20) (v := ?_) (a' := ?_) #[t_,t_,t_,t_,t_,t_,t_,f_,f_,f_] rfl rfl (take_ofW HT_.out HW_.out (by kernel_rfl)) (fun _ _ _ h => h) (Or.inl ⟨by rfl, ?_⟩) hHeld ?_ ?_
        rotate_left
        ·
         rintro w' ⟨s0, s1, s2, s3, s4, s5, s6, s7⟩
         go_simp
         with_reducible rfl
        rotate_left
        ·
         simp only [fr_]
         rfl
        refine take_ (i := 7) (N := some 24) (v := ?_) (a' := ?_) #[t_,t_,t_,t_,t_,t_,t_,t_,f_,f_] rfl rfl (take_ofW HT_.out HW_.out (by kernel_rfl)) (fun _ _ _ h => h) (Or.inl ⟨by rfl, ?_⟩) hHeld ?_ ?_
        rotate_left
        ·
         rintro w' ⟨s0, s1, s2, s3, s4, s5, s6, s7⟩
         go_simp
         with_reducible rfl
        rotate_left
        ·
         simp only [fr_]
         rfl
        refine one_ (i := 8) (N := some 25) #[t_,t_,t_,t_,t_,t_,t_,t_,t_,f_] rfl rfl (one_of HT_.out (by kernel_rfl)) (by decide) (fun K hK => ?_)
        refine goes_ Try.func27 (by kernel_rfl) rfl #[.agg #[.slice A189_0 ((rd_T44 l0 x5_1).f0).length c189_0, .int .i64 ((rd_T44 l0 x5_1).f1), .int .i64 ((rd_T44 l0 x5_1).f2), .string ((rd_T44 l0 x5_1).f3)], .agg #[.slice A190_0 ((rd_T44 l1 x5_1).f0).length c190_0, .int .i64 ((rd_T44 l1 x5_1).f1), .int .i64 ((rd_T44 l1 x5_1).f2), .string ((rd_T44 l1 x5_1).f3)]] (by rfl) rfl rfl (by (try simp only [List.map_toArray, List.map_cons, List.map_nil]); first | done | rfl | (simp only [List.length_drop, List.length_take]; rfl)) ?_
        with_reducible refine (laws_eqAlarm.calls k1 _ _ ((rd_T44 l0 x5_1).f0) ((rd_T44 l0 x5_1).f1) ((rd_T44 l0 x5_1).f2) ((rd_T44 l0 x5_1).f3) _ _ ((rd_T44 l1 x5_1).f0) ((rd_T44 l1 x5_1).f1) ((rd_T44 l1 x5_1).f2) ((rd_T44 l1 x5_1).f3) true _ ?side1 ?side2 ?side3 ?side4 A7.out).mono ?_
        (case side1 => repeat (first | exact (Kd.C_below HR189_0.out HB.out) | (with_reducible refine Kd.C_alloc ?_ _) | (with_reducible refine Kd.C_drewN ?_ _) | (with_reducible refine Kd.C_drew ?_)))
        (case side2 => exact HC189_0.out)
        (case side3 => repeat (first | exact (Kd.C_below HR190_0.out HB.out) | (with_reducible refine Kd.C_alloc ?_ _) | (with_reducible refine Kd.C_drewN ?_ _) | (with_reducible refine Kd.C_drew ?_)))
        (case side4 => exact HC190_0.out)
        rintro e w10 ⟨rfl, hb⟩
        refine ⟨_, rfl, ?_⟩
        have n0_ := Aside0.mk (below_step (by repeat (first | (with_reducible first | exact HB.out | apply below_alloc | apply pw_below_drewN | apply below_drew1) | exact HB.out)) hb)
        clear HB
        have HB := n0_
        clear n0_
        (try clear hb)
        (try clear hb2)
        (try clear hk)
        (try clear hi)
        refine hK.out _ _ ⟨((HB.out.cell (World.block_lt_of_cell? w _ hw189_0)).trans hw189_0), ((HB.out.cell (World.block_lt_of_cell? w _ hw189_1)).trans hw189_1), ((HB.out.cell (World.block_lt_of_cell? w _ hw189_2)).trans hw189_2), ((HB.out.cell (World.block_lt_of_cell? w _ hw189_3)).trans hw189_3), ((HB.out.cell (World.block_lt_of_cell? w _ hw190_0)).trans hw190_0), ((HB.out.cell (World.block_lt_of_cell? w _ hw190_1)).trans hw190_1), ((HB.out.cell (World.block_lt_of_cell? w _ hw190_2)).trans hw190_2), ((HB.out.cell (World.block_lt_of_cell? w _ hw190_3)).trans hw190_3)⟩ (fun hHeld => ?_)
        clear hK K
        refine norm_ (a' := ?_) ?_ ?_
        rotate_left
        ·
         show Act.put _ (some 25) _ = _
         simp only [fr_]
         rfl
        refine pu_ 9 26 ?_ (b_ 10 0) rfl rfl (any_of HT_.out (by kernel_rfl)) (fun _ _ _ h => h) (by rfl) ?_ ?_ ?_ ?_; rotate_left; intro w'; go_simp; with_reducible rfl; rotate_left; simp only [fr_]; rfl
        refine done_ (done_of HT_.out (by kernel_rfl)) ?_
        try go_wp2
        go_roundg k1
        case measure => have := HK1.out; omega
        case rel => exact ⟨(wrap64 (x5_1 + 1)), (by first | rfl | (simp; done) | (simp [*]; done)), H', ⟨by have := HK1.out; omega⟩, ⟨by repeat (first | (with_reducible first | exact HB.out | apply below_alloc | apply pw_below_drewN | apply below_drew1) | exact HB.out)⟩⟩
       replace c8 := Bool.eq_false_iff.mpr c8
       subst c8
       have H1 : (none) = some r := by rw [if_neg (show ¬ (false = true) by decide)] at H; exact H
       clear H
       have H := H1
       clear H1
       exact absurd H (by simp)
      rw [if_neg c6] at H
      exact absurd H (by simp)
     rw [if_neg c5] at H
     exact absurd H (by simp)
    rw [if_neg c4] at H
    have c4b0 : decide (x5_1 < (l0.length : Int)) = false := decide_eq_false c4
    clear c4
    obtain rfl := Option.some.inj H
    go_wp2
    go_ret
    exact ⟨by first | rfl | (simp [errW_none, errW_some] <;> rfl) | (simp [*, errW_none, errW_some] <;> rfl), by repeat (first | (with_reducible first | exact HB.out | apply below_alloc | apply pw_below_drewN | apply below_drew1) | exact HB.out)⟩
 rw [if_neg c3] at H
 exact absurd H (by simp)

end Go.Proofs.Ytfholjcelnkleaa.Print
end
section
namespace Go.Proofs.Ytfholjcelnkleaa.Print
open Go.RowKit Go.Proofs.YtfholjcelnkleaaV.PrintWords Go.Proofs.YtfholjcelnkleaaV.PrintLast Go.Proofs.YtfholjcelnkleaaV.PrintMore
attribute [local go_sem] max2_int min2_int max_two min_two max_three min_three max_four min_four   -- for this text's walks alone
set_option linter.unusedVariables false
set_option linter.unusedSimpArgs false

/-! ### laws_eqGroup: function 54 -/
def laws_eqGroup.f (k : Nat) (a0_0 : Int) (l0_1 : List (S164)) (a0_2 : Int) (a0_3 : Int) (l0_4 : List (S44)) (a1_0 : Int) (l1_1 : List (S164)) (a1_2 : Int) (a1_3 : Int) (l1_4 : List (S44)) : Option (Bool) := if a0_0 = a1_0 then ((laws_eqLabelS.f k l0_1 l1_1).bind fun t744 => (if t744 = true then (if a0_2 = a1_2 then (if a0_3 = a1_3 then ((laws_eqAlarmS.f k l0_4 l1_4).bind fun t745 => (if t745 = true then (some true) else (none))) else (none)) else (none)) else (none))) else (none)
theorem laws_eqGroup.mono : ∀ a0 a1 a2 a3 a4 a5 a6 a7 a8 a9 k, LeO (laws_eqGroup.f k a0 a1 a2 a3 a4 a5 a6 a7 a8 a9) (laws_eqGroup.f (k + 1) a0 a1 a2 a3 a4 a5 a6 a7 a8 a9) := by
 intro a0 a1 a2 a3 a4 a5 a6 a7 a8 a9 k
 unfold laws_eqGroup.f
 repeat' first
   | (with_reducible exact laws_eqAlarmS.mono _ _ _)
   | (with_reducible exact laws_eqLabelS.mono _ _ _)
   | (with_reducible exact LeO.refl _)
   | (with_reducible exact LeO.none _)
   | (with_reducible refine LeO.ite ?_ ?_)
   | (with_reducible refine LeO.bind ?_ (fun _ => ?_))
   | exact laws_eqAlarmS.mono _ _ _
   | exact laws_eqLabelS.mono _ _ _
   | exact LeO.none _
   | refine LeO.ite ?_ ?_
   | refine LeO.bind ?_ (fun _ => ?_)
set_option maxHeartbeats 8000000 in
set_option maxRecDepth 100000 in
theorem laws_eqGroup.calls (k : Nat) (a0_0 : Int) (A0_1 : Option Addr) (c0_1 : Nat) (l0_1 : List (S164)) (a0_2 : Int) (a0_3 : Int) (A0_4 : Option Addr) (c0_4 : Nat) (l0_4 : List (S44)) (a1_0 : Int) (A1_1 : Option Addr) (c1_1 : Nat) (l1_1 : List (S164)) (a1_2 : Int) (a1_3 : Int) (A1_4 : Option Addr) (c1_4 : Nat) (l1_4 : List (S44)) (r : Bool) (w : World) (hr0_1 : Kd.C k164 w A0_1 l0_1.length l0_1) (hc0_1 : l0_1.length ≤ c0_1) (hr0_4 : Kd.C k44 w A0_4 l0_4.length l0_4) (hc0_4 : l0_4.length ≤ c0_4) (hr1_1 : Kd.C k164 w A1_1 l1_1.length l1_1) (hc1_1 : l1_1.length ≤ c1_1) (hr1_4 : Kd.C k44 w A1_4 l1_4.length l1_4) (hc1_4 : l1_4.length ≤ c1_4) (h : laws_eqGroup.f k a0_0 l0_1 a0_2 a0_3 l0_4 a1_0 l1_1 a1_2 a1_3 l1_4 = some r) :
  Calls Try.prog 54 #[.agg #[.int .i64 a0_0, .slice A0_1 l0_1.length c0_1, .int .i64 a0_2, .int .i64 a0_3, .slice A0_4 l0_4.length c0_4], .agg #[.int .i64 a1_0, .slice A1_1 l1_1.length c1_1, .int .i64 a1_2, .int .i64 a1_3, .slice A1_4 l1_4.length c1_4]] w fun e w' => e = .returned (.bool r) ∧ Below w.heap.size w w' := by
 have hu75 := Try.underlying75
 have HR0_1 := Aside0.mk hr0_1
 have HC0_1 := Aside0.mk hc0_1
 clear hr0_1 hc0_1
 have HR0_4 := Aside0.mk hr0_4
 have HC0_4 := Aside0.mk hc0_4
 clear hr0_4 hc0_4
 have HR1_1 := Aside0.mk hr1_1
 have HC1_1 := Aside0.mk hc1_1
 clear hr1_1 hc1_1
 have HR1_4 := Aside0.mk hr1_4
 have HC1_4 := Aside0.mk hc1_4
 clear hr1_4 hc1_4
 have HB := Aside0.mk (Below.refl w.heap.size w)
 have H : (if a0_0 = a1_0 then ((laws_eqLabelS.f k l0_1 l1_1).bind fun t744 => (if t744 = true then (if a0_2 = a1_2 then (if a0_3 = a1_3 then ((laws_eqAlarmS.f k l0_4 l1_4).bind fun t745 => (if t745 = true then (some true) else (none))) else (none)) else (none)) else (none))) else (none)) = some r := h
 clear h
 by_cases c3 : a0_0 = a1_0
 ·
  rw [if_pos c3] at H
  have c3b0 : (a0_0 == a1_0) = true := beq_iff_eq.mpr c3
  have c3b1 : (a0_0 != a1_0) = false := bne_eq_false_iff_eq.mpr c3
  clear c3
  replace H := Option.bind_eq_some_iff.mp H
  obtain ⟨t744, A40, H⟩ := H
  replace H : (if t744 = true then (if a0_2 = a1_2 then (if a0_3 = a1_3 then ((laws_eqAlarmS.f k l0_4 l1_4).bind fun t745 => (if t745 = true then (some true) else (none))) else (none)) else (none)) else (none)) = some r := H
  have A4 := Aside0.mk A40
  clear A40
  by_cases c5 : t744 = true
  ·
   subst c5
   have H1 : (if a0_2 = a1_2 then (if a0_3 = a1_3 then ((laws_eqAlarmS.f k l0_4 l1_4).bind fun t745 => (if t745 = true then (some true) else (none))) else (none)) else (none)) = some r := by rw [if_pos rfl] at H; exact H
   clear H
   have H := H1
   clear H1
   by_cases c6 : a0_2 = a1_2
   ·
    rw [if_pos c6] at H
    have c6b0 : (a0_2 == a1_2) = true := beq_iff_eq.mpr c6
    have c6b1 : (a0_2 != a1_2) = false := bne_eq_false_iff_eq.mpr c6
    clear c6
    by_cases c7 : a0_3 = a1_3
    ·
     rw [if_pos c7] at H
     have c7b0 : (a0_3 == a1_3) = true := beq_iff_eq.mpr c7
     have c7b1 : (a0_3 != a1_3) = false := bne_eq_false_iff_eq.mpr c7
     clear c7
     replace H := Option.bind_eq_some_iff.mp H
     obtain ⟨t745, A80, H⟩ := H
     replace H : (if t745 = true then (some true) else (none)) = some r := H
     have A8 := Aside0.mk A80
     clear A80
     by_cases c9 : t745 = true
     ·
      subst c9
      have H1 : (some true) = some r := by rw [if_pos rfl] at H; exact H
      clear H
      have H := H1
      clear H1
      obtain rfl := Option.some.inj H
      go_enter Try.func54, Try.ntmps54
      go_wp2_with (first | ((with_reducible refine gate_dst (N := 2) rfl ?_); refine box_event ?hg (N := 2) ?hd (cs := #[.int .i64 a0_0, .slice A0_1 l0_1.length c0_1, .int .i64 a0_2, .int .i64 a0_3, .slice A0_4 l0_4.length c0_4]) (t := 75) ?hr ?_; (case hd => rfl); (case hg => rfl); (case hr => first | (go_simp; done) | (go_simp; rfl)); intro gb742 hg w10 hbox hb; have n0_ := Aside0.mk (below_step (by repeat (first | (with_reducible first | exact HB.out | apply below_alloc | apply pw_below_drewN | apply below_drew1) | exact HB.out)) hb); have n1_ := Aside0.mk (hbox); have n2_ := Aside0.mk ((by rw [hg]; exact (below_size (by repeat (first | (with_reducible first | exact HB.out | apply below_alloc | apply pw_below_drewN | apply below_drew1) | exact HB.out))) : w.heap.size ≤ gb742)); have n3_ := n2_; clear HB; have HB := n0_; have BK742 := n1_; have GW742 := n2_; have GE742 := n3_; clear n0_ n1_ n2_ n3_; clear hb hbox hg) | ((with_reducible refine gate_dst (N := 3) rfl ?_); refine box_event ?hg (N := 3) ?hd (cs := #[.int .i64 a1_0, .slice A1_1 l1_1.length c1_1, .int .i64 a1_2, .int .i64 a1_3, .slice A1_4 l1_4.length c1_4]) (t := 75) ?hr ?_; (case hd => rfl); (case hg => rfl); (case hr => first | (go_simp; done) | (go_simp; rfl)); intro gb743 hg w11 hbox hb; have n0_ := Aside0.mk (blk_below (g := gb742) (o := .cells #[.int .i64 a0_0, .slice A0_1 l0_1.length c0_1, .int .i64 a0_2, .int .i64 a0_3, .slice A0_4 l0_4.length c0_4] 75 (0, 0)) (by (with_reducible repeat (first | refine blk_drewN ?_ _ | refine blk_drew ?_ | refine blk_alloc ?_ _)); exact BK742.out) hb); have n1_ := Aside0.mk (below_step (by repeat (first | (with_reducible first | exact HB.out | apply below_alloc | apply pw_below_drewN | apply below_drew1 | refine below_set ?_ GE742.out) | exact HB.out)) hb); have n2_ := Aside0.mk (hbox); have n3_ := Aside0.mk ((by rw [hg]; exact (below_size (by repeat (first | (with_reducible first | exact HB.out | apply below_alloc | apply pw_below_drewN | apply below_drew1 | refine below_set ?_ GE742.out) | exact HB.out))) : w.heap.size ≤ gb743)); have n4_ := n3_; have n5_ := Aside0.mk ((by rw [hg]; exact Nat.ne_of_lt (blk_lt (g := gb742) (o := .cells #[.int .i64 a0_0, .slice A0_1 l0_1.length c0_1, .int .i64 a0_2, .int .i64 a0_3, .slice A0_4 l0_4.length c0_4] 75 (0, 0)) (by (with_reducible repeat (first | refine blk_drewN ?_ _ | refine blk_drew ?_ | refine blk_alloc ?_ _)); exact BK742.out)) : gb742 ≠ gb743)); have n6_ := Aside0.mk ((by rw [hg]; exact Nat.ne_of_gt (blk_lt (g := gb742) (o := .cells #[.int .i64 a0_0, .slice A0_1 l0_1.length c0_1, .int .i64 a0_2, .int .i64 a0_3, .slice A0_4 l0_4.length c0_4] 75 (0, 0)) (by (with_reducible repeat (first | refine blk_drewN ?_ _ | refine blk_drew ?_ | refine blk_alloc ?_ _)); exact BK742.out)) : gb743 ≠ gb742)); clear BK742; clear HB; have BK742 := n0_; have HB := n1_; have BK743 := n2_; have GW743 := n3_; have GE743 := n4_; have NB742_743 := n5_; have NB743_742 := n6_; clear n0_ n1_ n2_ n3_ n4_ n5_ n6_; clear hb hbox hg; have hnb12 := NB742_743.out; have hnc12 := NB743_742.out; have hcz13_0 : w11.cell? ⟨gb742, 0, none⟩ = some (.int .i64 a0_0) := (blk_cell BK742.out 0).trans rfl; have hcz13_1 : w11.cell? ⟨gb742, 1, none⟩ = some (.slice A0_1 l0_1.length c0_1) := (blk_cell BK742.out 1).trans rfl; have hcz13_2 : w11.cell? ⟨gb742, 2, none⟩ = some (.int .i64 a0_2) := (blk_cell BK742.out 2).trans rfl; have hcz13_3 : w11.cell? ⟨gb742, 3, none⟩ = some (.int .i64 a0_3) := (blk_cell BK742.out 3).trans rfl; have hcz13_4 : w11.cell? ⟨gb742, 4, none⟩ = some (.slice A0_4 l0_4.length c0_4) := (blk_cell BK742.out 4).trans rfl; have hfz13_0 := blk_frozen BK742.out 0; have hfz13_1 := blk_frozen BK742.out 1; have hfz13_2 := blk_frozen BK742.out 2; have hfz13_3 := blk_frozen BK742.out 3; have hfz13_4 := blk_frozen BK742.out 4; have hcz14_0 : w11.cell? ⟨gb743, 0, none⟩ = some (.int .i64 a1_0) := (blk_cell BK743.out 0).trans rfl; have hcz14_1 : w11.cell? ⟨gb743, 1, none⟩ = some (.slice A1_1 l1_1.length c1_1) := (blk_cell BK743.out 1).trans rfl; have hcz14_2 : w11.cell? ⟨gb743, 2, none⟩ = some (.int .i64 a1_2) := (blk_cell BK743.out 2).trans rfl; have hcz14_3 : w11.cell? ⟨gb743, 3, none⟩ = some (.int .i64 a1_3) := (blk_cell BK743.out 3).trans rfl; have hcz14_4 : w11.cell? ⟨gb743, 4, none⟩ = some (.slice A1_4 l1_4.length c1_4) := (blk_cell BK743.out 4).trans rfl; have hfz14_0 := blk_frozen BK743.out 0; have hfz14_1 := blk_frozen BK743.out 1; have hfz14_2 := blk_frozen BK743.out 2; have hfz14_3 := blk_frozen BK743.out 3; have hfz14_4 := blk_frozen BK743.out 4) | ((with_reducible refine gate_callee (f := 98) rfl ?_); refine goesL_ (some 14) rfl rfl Try.func98 (by kernel_rfl) rfl #[.slice A0_1 l0_1.length c0_1, .slice A1_1 l1_1.length c1_1] rfl (by (try simp only [List.map_toArray, List.map_cons, List.map_nil]); first | done | rfl | (simp only [List.length_drop, List.length_take]; rfl)) ?_; (with_reducible refine (laws_eqLabelS.calls k _ _ l0_1 _ _ l1_1 true _ ?side1 ?side2 ?side3 ?side4 A4.out).mono ?_); (case side1 => repeat (first | exact (Kd.C_below HR0_1.out HB.out) | (with_reducible refine Kd.C_alloc ?_ _) | (with_reducible refine Kd.C_drewN ?_ _) | (with_reducible refine Kd.C_drew ?_))); (case side2 => exact HC0_1.out); (case side3 => repeat (first | exact (Kd.C_below HR1_1.out HB.out) | (with_reducible refine Kd.C_alloc ?_ _) | (with_reducible refine Kd.C_drewN ?_ _) | (with_reducible refine Kd.C_drew ?_))); (case side4 => exact HC1_1.out); rintro e w15 ⟨rfl, hb⟩; refine ⟨_, rfl, ?_⟩; have n0_ := Aside0.mk (blk_below (g := gb742) (o := .cells #[.int .i64 a0_0, .slice A0_1 l0_1.length c0_1, .int .i64 a0_2, .int .i64 a0_3, .slice A0_4 l0_4.length c0_4] 75 (0, 0)) (by (with_reducible repeat (first | refine blk_drewN ?_ _ | refine blk_drew ?_ | refine blk_alloc ?_ _)); exact BK742.out) hb); have n1_ := Aside0.mk (blk_below (g := gb743) (o := .cells #[.int .i64 a1_0, .slice A1_1 l1_1.length c1_1, .int .i64 a1_2, .int .i64 a1_3, .slice A1_4 l1_4.length c1_4] 75 (0, 0)) (by (with_reducible repeat (first | refine blk_drewN ?_ _ | refine blk_drew ?_ | refine blk_alloc ?_ _)); exact BK743.out) hb); have n2_ := Aside0.mk (below_step (by repeat (first | (with_reducible first | exact HB.out | apply below_alloc | apply pw_below_drewN | apply below_drew1 | refine below_set ?_ GE742.out | refine below_set ?_ GE743.out) | exact HB.out)) hb); clear BK742; clear BK743; clear HB; have BK742 := n0_; have BK743 := n1_; have HB := n2_; clear n0_ n1_ n2_; (try clear hb); (try clear hb2); (try clear hk); (try clear hi); have hcz16_0 : w15.cell? ⟨gb742, 0, none⟩ = some (.int .i64 a0_0) := (blk_cell BK742.out 0).trans rfl; have hcz16_1 : w15.cell? ⟨gb742, 1, none⟩ = some (.slice A0_1 l0_1.length c0_1) := (blk_cell BK742.out 1).trans rfl; have hcz16_2 : w15.cell? ⟨gb742, 2, none⟩ = some (.int .i64 a0_2) := (blk_cell BK742.out 2).trans rfl; have hcz16_3 : w15.cell? ⟨gb742, 3, none⟩ = some (.int .i64 a0_3) := (blk_cell BK742.out 3).trans rfl; have hcz16_4 : w15.cell? ⟨gb742, 4, none⟩ = some (.slice A0_4 l0_4.length c0_4) := (blk_cell BK742.out 4).trans rfl; have hfz16_0 := blk_frozen BK742.out 0; have hfz16_1 := blk_frozen BK742.out 1; have hfz16_2 := blk_frozen BK742.out 2; have hfz16_3 := blk_frozen BK742.out 3; have hfz16_4 := blk_frozen BK742.out 4; have hcz17_0 : w15.cell? ⟨gb743, 0, none⟩ = some (.int .i64 a1_0) := (blk_cell BK743.out 0).trans rfl; have hcz17_1 : w15.cell? ⟨gb743, 1, none⟩ = some (.slice A1_1 l1_1.length c1_1) := (blk_cell BK743.out 1).trans rfl; have hcz17_2 : w15.cell? ⟨gb743, 2, none⟩ = some (.int .i64 a1_2) := (blk_cell BK743.out 2).trans rfl; have hcz17_3 : w15.cell? ⟨gb743, 3, none⟩ = some (.int .i64 a1_3) := (blk_cell BK743.out 3).trans rfl; have hcz17_4 : w15.cell? ⟨gb743, 4, none⟩ = some (.slice A1_4 l1_4.length c1_4) := (blk_cell BK743.out 4).trans rfl; have hfz17_0 := blk_frozen BK743.out 0; have hfz17_1 := blk_frozen BK743.out 1; have hfz17_2 := blk_frozen BK743.out 2; have hfz17_3 := blk_frozen BK743.out 3; have hfz17_4 := blk_frozen BK743.out 4) | ((with_reducible refine gate_callee (f := 38) rfl ?_); refine goesL_ (some 30) rfl rfl Try.func38 (by kernel_rfl) rfl #[.slice A0_4 l0_4.length c0_4, .slice A1_4 l1_4.length c1_4] rfl (by (try simp only [List.map_toArray, List.map_cons, List.map_nil]); first | done | rfl | (simp only [List.length_drop, List.length_take]; rfl)) ?_; (with_reducible refine (laws_eqAlarmS.calls k _ _ l0_4 _ _ l1_4 true _ ?side1 ?side2 ?side3 ?side4 A8.out).mono ?_); (case side1 => repeat (first | exact (Kd.C_below HR0_4.out HB.out) | (with_reducible refine Kd.C_alloc ?_ _) | (with_reducible refine Kd.C_drewN ?_ _) | (with_reducible refine Kd.C_drew ?_))); (case side2 => exact HC0_4.out); (case side3 => repeat (first | exact (Kd.C_below HR1_4.out HB.out) | (with_reducible refine Kd.C_alloc ?_ _) | (with_reducible refine Kd.C_drewN ?_ _) | (with_reducible refine Kd.C_drew ?_))); (case side4 => exact HC1_4.out); rintro e w18 ⟨rfl, hb⟩; refine ⟨_, rfl, ?_⟩; have n0_ := Aside0.mk (blk_below (g := gb742) (o := .cells #[.int .i64 a0_0, .slice A0_1 l0_1.length c0_1, .int .i64 a0_2, .int .i64 a0_3, .slice A0_4 l0_4.length c0_4] 75 (0, 0)) (by (with_reducible repeat (first | refine blk_drewN ?_ _ | refine blk_drew ?_ | refine blk_alloc ?_ _)); exact BK742.out) hb); have n1_ := Aside0.mk (blk_below (g := gb743) (o := .cells #[.int .i64 a1_0, .slice A1_1 l1_1.length c1_1, .int .i64 a1_2, .int .i64 a1_3, .slice A1_4 l1_4.length c1_4] 75 (0, 0)) (by (with_reducible repeat (first | refine blk_drewN ?_ _ | refine blk_drew ?_ | refine blk_alloc ?_ _)); exact BK743.out) hb); have n2_ := Aside0.mk (below_step (by repeat (first | (with_reducible first | exact HB.out | apply below_alloc | apply pw_below_drewN | apply below_drew1 | refine below_set ?_ GE742.out | refine below_set ?_ GE743.out) | exact HB.out)) hb); clear BK742; clear BK743; clear HB; have BK742 := n0_; have BK743 := n1_; have HB := n2_; clear n0_ n1_ n2_; (try clear hb); (try clear hb2); (try clear hk); (try clear hi)))
      go_ret
      exact ⟨by first | rfl | (simp [errW_none, errW_some] <;> rfl) | (simp [*, errW_none, errW_some] <;> rfl), by repeat (first | (with_reducible first | exact HB.out | apply below_alloc | apply pw_below_drewN | apply below_drew1 | refine below_set ?_ GE742.out | refine below_set ?_ GE743.out) | exact HB.out)⟩
     replace c9 := Bool.eq_false_iff.mpr c9
     subst c9
     have H1 : (none) = some r := by rw [if_neg (show ¬ (false = true) by decide)] at H; exact H
     clear H
     have H := H1
     clear H1
     exact absurd H (by simp)
    rw [if_neg c7] at H
    exact absurd H (by simp)
   rw [if_neg c6] at H
   exact absurd H (by simp)
  replace c5 := Bool.eq_false_iff.mpr c5
  subst c5
  have H1 : (none) = some r := by rw [if_neg (show ¬ (false = true) by decide)] at H; exact H
  clear H
  have H := H1
  clear H1
  exact absurd H (by simp)
 rw [if_neg c3] at H
 exact absurd H (by simp)

end Go.Proofs.Ytfholjcelnkleaa.Print
end
section
namespace Go.Proofs.Ytfholjcelnkleaa.Print
open Go.RowKit Go.Proofs.YtfholjcelnkleaaV.PrintWords Go.Proofs.YtfholjcelnkleaaV.PrintLast Go.Proofs.YtfholjcelnkleaaV.PrintMore
attribute [local go_sem] max2_int min2_int max_two min_two max_three min_three max_four min_four   -- for this text's walks alone
set_option linter.unusedVariables false
set_option linter.unusedSimpArgs false

/-! ### laws_eqStringS: function 55 -/
def laws_eqStringS.l0 : Nat → List ByteArray → List ByteArray → Int → Option (Bool)
 | 0, _, _, _ => none
 | k + 1, x0, x1, x5 => if x5 < (x0.length : Int) then (if 0 ≤ x5 then (if x5 < (x1.length : Int) then (if (rdOf ByteArray.empty x0 x5).toList = (rdOf ByteArray.empty x1 x5).toList then (laws_eqStringS.l0 k x0 x1 (wrap64 (x5 + 1))) else (none)) else (none)) else (none)) else (some true)
def laws_eqStringS.f (k : Nat) (l0 : List ByteArray) (l1 : List ByteArray) : Option (Bool) := if (l0.length : Int) = (l1.length : Int) then (laws_eqStringS.l0 k l0 l1 0) else (none)
theorem laws_eqStringS.mono_l : ∀ k, (∀ y0 y1 y2, LeO (laws_eqStringS.l0 k y0 y1 y2) (laws_eqStringS.l0 (k + 1) y0 y1 y2))
 | 0 => fun _ _ _ r h => by simp [laws_eqStringS.l0] at h
 | k + 1 => by
  have ih0 := laws_eqStringS.mono_l k
  intro y0 y1 y2
  unfold laws_eqStringS.l0
  repeat' first
  | (with_reducible exact ih0 _ _ _)
  | (with_reducible exact LeO.refl _)
  | (with_reducible exact LeO.none _)
  | (with_reducible refine LeO.ite ?_ ?_)
  | (with_reducible refine LeO.bind ?_ (fun _ => ?_))
  | exact ih0 _ _ _
  | exact LeO.none _
  | refine LeO.ite ?_ ?_
  | refine LeO.bind ?_ (fun _ => ?_)
theorem laws_eqStringS.mono : ∀ a0 a1 k, LeO (laws_eqStringS.f k a0 a1) (laws_eqStringS.f (k + 1) a0 a1) := by
 intro a0 a1 k
 have ih0 := laws_eqStringS.mono_l k
 unfold laws_eqStringS.f
 repeat' first
   | (with_reducible exact ih0 _ _ _)
   | (with_reducible exact LeO.refl _)
   | (with_reducible exact LeO.none _)
   | (with_reducible refine LeO.ite ?_ ?_)
   | (with_reducible refine LeO.bind ?_ (fun _ => ?_))
   | exact ih0 _ _ _
   | exact LeO.none _
   | refine LeO.ite ?_ ?_
   | refine LeO.bind ?_ (fun _ => ?_)
set_option maxHeartbeats 8000000 in
set_option maxRecDepth 100000 in
theorem laws_eqStringS.calls (k : Nat) (A0 : Option Addr) (c0 : Nat) (l0 : List ByteArray) (A1 : Option Addr) (c1 : Nat) (l1 : List ByteArray) (r : Bool) (w : World) (hr0 : Kd.C Kd.string w A0 l0.length l0) (hc0 : l0.length ≤ c0) (hr1 : Kd.C Kd.string w A1 l1.length l1) (hc1 : l1.length ≤ c1) (h : laws_eqStringS.f k l0 l1 = some r) :
  Calls Try.prog 55 #[.slice A0 l0.length c0, .slice A1 l1.length c1] w fun e w' => e = .returned (.bool r) ∧ Drawn0 w w' := by
 have HR0 := Aside0.mk hr0
 have HC0 := Aside0.mk hc0
 clear hr0 hc0
 have HR1 := Aside0.mk hr1
 have HC1 := Aside0.mk hc1
 clear hr1 hc1
 have H : (if (l0.length : Int) = (l1.length : Int) then (laws_eqStringS.l0 k l0 l1 0) else (none)) = some r := h
 clear h
 by_cases c3 : (l0.length : Int) = (l1.length : Int)
 ·
  rw [if_pos c3] at H
  have c3b0 : ((l0.length : Int) == (l1.length : Int)) = true := beq_iff_eq.mpr c3
  have c3b1 : ((l0.length : Int) != (l1.length : Int)) = false := bne_eq_false_iff_eq.mpr c3
  have c3b2 : (l0.length == l1.length) = true := by first | simpa using c3 | (simp at c3 ⊢; omega)
  clear c3
  have H' := Aside0.mk H
  clear H
  go_enter Try.func55, Try.ntmps55
  go_wp2
  repeat (go_quiet (fail); try go_wp2)
  go_loopg [5] k (fun kq v5 w' => ∃ (x5_1 : Int), v5 = .int .i64 x5_1 ∧ Aside0 (laws_eqStringS.l0 kq l0 l1 x5_1 = some r) ∧ Aside0 (kq ≤ k) ∧ Drawn0 w w')
  case atStart => exact ⟨(0), (by first | rfl | (simp; done) | (simp [*]; done)), H', ⟨Nat.le_refl _⟩, by repeat (first | exact Drawn0.refl _ | apply Drawn0.step)⟩
  case round =>
   clear H'
   try clear c1
   try clear p2
   try clear c3
   try clear c3b0
   try clear c3b1
   try clear c3b2
   obtain ⟨x5_1, rfl, HA, HK1, ⟨m1, rfl⟩⟩ := hrel
   cases gk with
   | zero => exact absurd HA.out (by simp [laws_eqStringS.l0])
   | succ k1 =>
    have H := HA.out
    clear HA
    simp only [laws_eqStringS.l0] at H
    by_cases c4 : x5_1 < (l0.length : Int)
    ·
     rw [if_pos c4] at H
     have c4b0 : decide (x5_1 < (l0.length : Int)) = true := decide_eq_true c4
     clear c4
     by_cases c5 : 0 ≤ x5_1
     ·
      rw [if_pos c5] at H
      have c5b0 : decide (0 ≤ x5_1) = true := decide_eq_true c5
      clear c5
      by_cases c6 : x5_1 < (l1.length : Int)
      ·
       rw [if_pos c6] at H
       have c6b0 : decide (x5_1 < (l1.length : Int)) = true := decide_eq_true c6
       clear c6
       by_cases c7 : (rdOf ByteArray.empty l0 x5_1).toList = (rdOf ByteArray.empty l1 x5_1).toList
       ·
        rw [if_pos c7] at H
        have c7b0 : ((rdOf ByteArray.empty l0 x5_1).toList == (rdOf ByteArray.empty l1 x5_1).toList) = true := beq_iff_eq.mpr c7
        have c7b1 : ((rdOf ByteArray.empty l0 x5_1).toList != (rdOf ByteArray.empty l1 x5_1).toList) = false := bne_eq_false_iff_eq.mpr c7
        clear c7
        have H' := Aside0.mk H
        clear H
        have p746 : 0 ≤ (x5_1 : Int) := of_decide_eq_true (by first | (with_reducible assumption) | assumption)
        have q746 : x5_1 < (l0.length : Int) := of_decide_eq_true (by first | (with_reducible assumption) | assumption)
        obtain ⟨ad746, e746, hx746_0⟩ := Kd.at_string HR0.out x5_1 p746 q746
        cases e746
        replace p746 := eq_true p746
        replace q746 := eq_true q746
        have p747 : 0 ≤ (x5_1 : Int) := of_decide_eq_true (by first | (with_reducible assumption) | assumption)
        have q747 : x5_1 < (l1.length : Int) := of_decide_eq_true (by first | (with_reducible assumption) | assumption)
        obtain ⟨ad747, e747, hx747_0⟩ := Kd.at_string HR1.out x5_1 p747 q747
        cases e747
        replace p747 := eq_true p747
        replace q747 := eq_true q747
        go_wp2
        repeat (go_quiet (fail); try go_wp2)
        go_roundg k1
        case measure => have := HK1.out; omega
        case rel => exact ⟨(wrap64 (x5_1 + 1)), (by first | rfl | (simp; done) | (simp [*]; done)), H', ⟨by have := HK1.out; omega⟩, by repeat (first | exact Drawn0.refl _ | apply Drawn0.step)⟩
       rw [if_neg c7] at H
       exact absurd H (by simp)
      rw [if_neg c6] at H
      exact absurd H (by simp)
     rw [if_neg c5] at H
     exact absurd H (by simp)
    rw [if_neg c4] at H
    have c4b0 : decide (x5_1 < (l0.length : Int)) = false := decide_eq_false c4
    clear c4
    obtain rfl := Option.some.inj H
    go_wp2
    repeat (go_quiet (fail); try go_wp2)
    go_ret
    exact ⟨by first | rfl | (simp; done) | (simp [*]; done), by repeat (first | exact Drawn0.refl _ | apply Drawn0.step)⟩
 rw [if_neg c3] at H
 exact absurd H (by simp)

end Go.Proofs.Ytfholjcelnkleaa.Print
end
