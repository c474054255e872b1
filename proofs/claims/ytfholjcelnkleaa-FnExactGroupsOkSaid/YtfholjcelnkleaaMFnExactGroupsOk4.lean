import Derived.Test.YtfholjcelnkleaaMFnExactGroupsOk1
import Derived.Test.YtfholjcelnkleaaMFnExactGroupsOk3
section
namespace Go.Proofs.Ytfholjcelnkleaa.Print
open Go.RowKit Go.Proofs.YtfholjcelnkleaaV.PrintWords Go.Proofs.YtfholjcelnkleaaV.PrintLast Go.Proofs.YtfholjcelnkleaaV.PrintMore
attribute [local go_sem] max2_int min2_int max_two min_two max_three min_three max_four min_four
set_option linter.unusedVariables false
set_option linter.unusedSimpArgs false
set_option maxHeartbeats 8000000
set_option maxRecDepth 100000
def impl_keyedOk.l0 : Nat → List (S44) → List (S164) → List ByteArray → List (S44) → Int → Int → Option (Bool)
 | 0, _, _, _, _, _, _ => none
 | k + 1, x0, x1, x2, x9, x10, x11 => if x11 < x10 then (if 0 ≤ x11 then (if x11 < (x9.length : Int) then ((impl_AlarmOk.f k ((rd_T44 x9 x11).f0) ((rd_T44 x9 x11).f1) ((rd_T44 x9 x11).f2) ((rd_T44 x9 x11).f3)).bind fun t729 => (if t729 = true then ((impl_KeyOf.f k ((rd_T44 x9 x11).f0) ((rd_T44 x9 x11).f1) ((rd_T44 x9 x11).f2) ((rd_T44 x9 x11).f3) x2).bind fun t730 => ((impl_SameSet.f k t730 x1).bind fun t733 => (if t733 = true then (if x11 > 0 then (if 0 ≤ (wrap64 (x11 - 1)) then (if (wrap64 (x11 - 1)) < (x0.length : Int) then ((impl_SetLess.f k ((rd_T44 x0 (wrap64 (x11 - 1))).f0) ((rd_T44 x9 x11).f0)).bind fun t735 => (if t735 = true then (impl_keyedOk.l0 k x0 x1 x2 x9 x10 (wrap64 (x11 + 1))) else (some false))) else (none)) else (none)) else (impl_keyedOk.l0 k x0 x1 x2 x9 x10 (wrap64 (x11 + 1)))) else (some false)))) else (some false))) else (none)) else (none)) else (some true)
def impl_keyedOk.f (k : Nat) (l0 : List (S44)) (l1 : List (S164)) (l2 : List ByteArray) : Option (Bool) := impl_keyedOk.l0 k l0 l1 l2 l0 (l0.length : Int) 0
theorem impl_keyedOk.mono_l : ∀ k, (∀ y0 y1 y2 y3 y4 y5, LeO (impl_keyedOk.l0 k y0 y1 y2 y3 y4 y5) (impl_keyedOk.l0 (k + 1) y0 y1 y2 y3 y4 y5))
 | 0 => fun _ _ _ _ _ _ r h => by simp [impl_keyedOk.l0] at h
 | k + 1 => by
  have ih0 := impl_keyedOk.mono_l k
  intro y0 y1 y2 y3 y4 y5
  unfold impl_keyedOk.l0
  repeat' first
  | (with_reducible exact ih0 _ _ _ _ _ _)
  | (with_reducible exact impl_AlarmOk.mono _ _ _ _ _)
  | (with_reducible exact impl_KeyOf.mono _ _ _ _ _ _)
  | (with_reducible exact impl_SameSet.mono _ _ _)
  | (with_reducible exact impl_SetLess.mono _ _ _)
  | (with_reducible exact LeO.refl _)
  | (with_reducible exact LeO.none _)
  | (with_reducible refine LeO.ite ?_ ?_)
  | (with_reducible refine LeO.bind ?_ (fun _ => ?_))
  | exact ih0 _ _ _ _ _ _
  | exact impl_AlarmOk.mono _ _ _ _ _
  | exact impl_KeyOf.mono _ _ _ _ _ _
  | exact impl_SameSet.mono _ _ _
  | exact impl_SetLess.mono _ _ _
theorem impl_keyedOk.mono : ∀ a0 a1 a2 k, LeO (impl_keyedOk.f k a0 a1 a2) (impl_keyedOk.f (k + 1) a0 a1 a2) := by
 intro a0 a1 a2 k
 have ih0 := impl_keyedOk.mono_l k
 unfold impl_keyedOk.f
 repeat' first
   | (with_reducible exact ih0 _ _ _ _ _ _)
   | (with_reducible exact impl_AlarmOk.mono _ _ _ _ _)
   | (with_reducible exact impl_KeyOf.mono _ _ _ _ _ _)
   | (with_reducible exact impl_SameSet.mono _ _ _)
   | (with_reducible exact impl_SetLess.mono _ _ _)
   | (with_reducible exact LeO.refl _)
   | (with_reducible exact LeO.none _)
   | (with_reducible refine LeO.ite ?_ ?_)
   | (with_reducible refine LeO.bind ?_ (fun _ => ?_))
   | exact ih0 _ _ _ _ _ _
   | exact impl_AlarmOk.mono _ _ _ _ _
   | exact impl_KeyOf.mono _ _ _ _ _ _
   | exact impl_SameSet.mono _ _ _
   | exact impl_SetLess.mono _ _ _
def impl_keyedOk.T4 : Bool × List (List Nat × List Nat) := (true, [([], []), ([0], [0]), ([1], [1]), ([2, 1], [2]), ([3], [3]), ([3], [3]), ([4, 5, 3, 3], [3, 4, 5]), ([3], [3]), ([6, 7, 6, 3], [3, 6, 7]), ([8, 3], [3, 8]), ([3, 9], [3, 9]), ([10, 8], [10]), ([11], [11]), ([12, 11], [11, 12]), ([13, 11, 11], [11, 13]), ([14], [14]), ([14], [14]), ([16, 14], [14, 16]), ([15, 17, 14], [14, 15, 17]), ([18, 14], [14, 18]), ([19, 14], [14, 19]), ([14], [14]), ([21, 14], [14, 21]), ([20, 22, 14, 14], [14, 20, 22]), ([23, 14], [14, 23]), ([14, 24, 11], [11, 14, 24]), ([11, 25], [11, 25])])
def impl_keyedOk.B4 : List Nat := [0, 1, 3, 7, 15, 15, 63, 15, 255, 511, 1023, 2047, 4095, 8191, 16383, 32767, 32767, 98303, 262143, 524287, 1048575, 32767, 2129919, 8388607, 16777215, 33554431, 67108863]
theorem impl_keyedOk.tab4 : rtab .any (opsOf Try.f112 4) = impl_keyedOk.T4 := by kernel_rfl
theorem impl_keyedOk.bits4 : waitsOk impl_keyedOk.T4.2 impl_keyedOk.B4 = true := by kernel_rfl
theorem impl_keyedOk.calls (k : Nat) (A0 : Option Addr) (c0 : Nat) (l0 : List (S44)) (A1 : Option Addr) (c1 : Nat) (l1 : List (S164)) (A2 : Option Addr) (c2 : Nat) (l2 : List ByteArray) (r : Bool) (w : World) (hr0 : Kd.C k44 w A0 l0.length l0) (hc0 : l0.length ≤ c0) (hr1 : Kd.C k164 w A1 l1.length l1) (hc1 : l1.length ≤ c1) (hr2 : Kd.C Kd.string w A2 l2.length l2) (hc2 : l2.length ≤ c2) (h : impl_keyedOk.f k l0 l1 l2 = some r) :
  Calls Try.prog 112 #[.slice A0 l0.length c0, .slice A1 l1.length c1, .slice A2 l2.length c2] w fun e w' => e = .returned (.bool r) ∧ Below w.heap.size w w' := by
 have hu44 := Try.underlying44
 have HR0 := Aside0.mk hr0
 have HC0 := Aside0.mk hc0
 clear hr0 hc0
 have HR1 := Aside0.mk hr1
 have HC1 := Aside0.mk hc1
 clear hr1 hc1
 have HR2 := Aside0.mk hr2
 have HC2 := Aside0.mk hc2
 clear hr2 hc2
 have HB := Aside0.mk (Below.refl w.heap.size w)
 have H : (impl_keyedOk.l0 k l0 l1 l2 l0 (l0.length : Int) 0) = some r := h
 clear h
 have H' := Aside0.mk H
 clear H
 go_enter Try.func112, Try.ntmps112
 go_wp2
 go_loopg [11] k (fun kq v11 w' => ∃ (x11_1 : Int), v11 = .int .i64 x11_1 ∧ Aside0 (impl_keyedOk.l0 kq l0 l1 l2 l0 (l0.length : Int) x11_1 = some r) ∧ Aside0 (kq ≤ k) ∧ Aside0 (Below w.heap.size w w'))
 case atStart => exact ⟨(0), (by first | rfl | (simp; done) | (simp [*]; done)), H', ⟨Nat.le_refl _⟩, ⟨by repeat (first | (with_reducible first | exact HB.out | apply ba_ | apply bn_ | apply bd_) | exact HB.out)⟩⟩
 case round =>
  clear H'
  try clear c1
  try clear c2
  try clear p2
  obtain ⟨x11_1, rfl, HA, HK1, HB⟩ := hrel
  cases gk with
  | zero => exact absurd HA.out (by simp [impl_keyedOk.l0])
  | succ k1 =>
   have H := HA.out
   clear HA
   simp only [impl_keyedOk.l0] at H
   by_cases c4 : x11_1 < (l0.length : Int)
   ·
    rw [if_pos c4] at H
    have c4b0 := decide_eq_true c4
    clear c4
    by_cases c5 : 0 ≤ x11_1
    ·
     rw [if_pos c5] at H
     have c5b0 := decide_eq_true c5
     clear c5
     by_cases c6 : x11_1 < (l0.length : Int)
     ·
      rw [if_pos c6] at H
      have c6b0 := decide_eq_true c6
      clear c6
      replace H := Option.bind_eq_some_iff.mp H
      obtain ⟨t729, A70, H⟩ := H
      have A7 := Aside0.mk A70
      clear A70
      by_cases c8 : t729 = true
      ·
       subst c8
       rw [if_pos rfl] at H
       replace H := Option.bind_eq_some_iff.mp H
       obtain ⟨t730, A90, H⟩ := H
       have A9 := Aside0.mk A90
       clear A90
       replace H := Option.bind_eq_some_iff.mp H
       obtain ⟨t733, A100, H⟩ := H
       have A10 := Aside0.mk A100
       clear A100
       by_cases c11 : t733 = true
       ·
        subst c11
        rw [if_pos rfl] at H
        by_cases c12 : x11_1 > 0
        ·
         rw [if_pos c12] at H
         have c12b0 : decide (0 < x11_1) = true := decide_eq_true c12
         clear c12
         obtain ⟨ji13, hji13⟩ : ∃ j_ : Int, (wrap64 (x11_1 - 1)) = j_ := ⟨_, rfl⟩
         replace H : (if 0 ≤ (ji13) then (if (ji13) < (l0.length : Int) then ((impl_SetLess.f k1 ((rd_T44 l0 (ji13)).f0) ((rd_T44 l0 x11_1).f0)).bind fun t735 => (if t735 = true then (impl_keyedOk.l0 k1 l0 l1 l2 l0 (l0.length : Int) (wrap64 (x11_1 + 1))) else (some false))) else (none)) else (none)) = some r := by first | (rw [hji13] at H; exact H) | (simp only [hji13] at H ⊢; exact H)
         (try rw [hji13] at A7)
         (try rw [hji13] at A9)
         (try rw [hji13] at A10)
         have hji13w : (IntKind.i64.wrap (x11_1 - 1)) = ji13 := (i64_w _).trans hji13
         by_cases c14 : 0 ≤ (ji13)
         ·
          rw [if_pos c14] at H
          have c14b0 := decide_eq_true c14
          clear c14
          by_cases c15 : (ji13) < (l0.length : Int)
          ·
           rw [if_pos c15] at H
           have c15b0 := decide_eq_true c15
           clear c15
           replace H := Option.bind_eq_some_iff.mp H
           obtain ⟨t735, A160, H⟩ := H
           have A16 := Aside0.mk A160
           clear A160
           by_cases c17 : t735 = true
           ·
            subst c17
            rw [if_pos rfl] at H
            have H' := Aside0.mk H
            clear H
            have p727 : 0 ≤ (x11_1 : Int) := of_decide_eq_true (by with_reducible assumption)
            have q727 : x11_1 < (l0.length : Int) := of_decide_eq_true (by with_reducible assumption)
            obtain ⟨ad727, A727_0, c727_0, e727, hx727_0, hx727_1, hx727_2, hx727_3, hl727_0, hi727_0⟩ := at_T44 HR0.out x11_1 p727 q727
            cases e727
            replace hx727_0 := cl_ HB.out hx727_0
            replace hx727_1 := cl_ HB.out hx727_1
            replace hx727_2 := cl_ HB.out hx727_2
            replace hx727_3 := cl_ HB.out hx727_3
            have HR727_0 := Aside0.mk hi727_0
            have HC727_0 := Aside0.mk hl727_0
            clear hi727_0 hl727_0
            replace p727 := eq_true p727
            replace q727 := eq_true q727
            try go_wp2_with (first | ((with_reducible refine gate_dst (N := 8) rfl ?_); refine box_event ?hg (N := 8) ?hd (cs := #[.slice none 0 0, .int .i64 0, .int .i64 0, .string (⟨#[]⟩ : ByteArray)]) (t := 44) ?hr ?_; (case hd => rfl); (case hg => rfl); (case hr => first | (go_simp; done) | (go_simp; rfl)); intro gb728 hg w18 hbox hb; have n0_ := Aside0.mk (below_step (by repeat (first | (with_reducible first | exact HB.out | apply ba_ | apply bn_ | apply bd_) | exact HB.out)) hb); have BK728 := Aside0.mk (hbox); have GW728 := Aside0.mk ((by rw [hg]; exact (below_size (by repeat (first | (with_reducible first | exact HB.out | apply ba_ | apply bn_ | apply bd_) | exact HB.out))) : w.heap.size ≤ gb728)); have GE728 := GW728; clear HB; have HB := n0_; clear n0_; clear hb hbox hg; have hcz19_0 : w18.cell? ⟨gb728, 0, none⟩ = some (.slice none 0 0) := (blk_cell BK728.out 0).trans rfl; have hcz19_1 : w18.cell? ⟨gb728, 1, none⟩ = some (.int .i64 0) := (blk_cell BK728.out 1).trans rfl; have hcz19_2 : w18.cell? ⟨gb728, 2, none⟩ = some (.int .i64 0) := (blk_cell BK728.out 2).trans rfl; have hcz19_3 : w18.cell? ⟨gb728, 3, none⟩ = some (.string (⟨#[]⟩ : ByteArray)) := (blk_cell BK728.out 3).trans rfl; have hfz19_0 := blk_frozen BK728.out 0; have hfz19_1 := blk_frozen BK728.out 1; have hfz19_2 := blk_frozen BK728.out 2; have hfz19_3 := blk_frozen BK728.out 3))
            have n0_ : Aside0 (((((w18.setCell ⟨gb728, 0, none⟩ (.slice A727_0 ((rd_T44 l0 x11_1).f0).length c727_0)).setCell ⟨gb728, 1, none⟩ (.int .i64 ((rd_T44 l0 x11_1).f1))).setCell ⟨gb728, 2, none⟩ (.int .i64 ((rd_T44 l0 x11_1).f2))).setCell ⟨gb728, 3, none⟩ (.string ((rd_T44 l0 x11_1).f3))).heap[gb728]? = some (.cells #[.slice A727_0 ((rd_T44 l0 x11_1).f0).length c727_0, .int .i64 ((rd_T44 l0 x11_1).f1), .int .i64 ((rd_T44 l0 x11_1).f2), .string ((rd_T44 l0 x11_1).f3)] 44 (0, 0))) := ⟨by (with_reducible repeat (first | refine kn_ ?_ _ | refine kd_ ?_ | refine ka_ ?_ _)); refine blk_put (cs := #[.slice A727_0 ((rd_T44 l0 x11_1).f0).length c727_0, .int .i64 ((rd_T44 l0 x11_1).f1), .int .i64 ((rd_T44 l0 x11_1).f2), .string (⟨#[]⟩ : ByteArray)]) ?_ 3 _ rfl; (with_reducible repeat (first | refine kn_ ?_ _ | refine kd_ ?_ | refine ka_ ?_ _)); refine blk_put (cs := #[.slice A727_0 ((rd_T44 l0 x11_1).f0).length c727_0, .int .i64 ((rd_T44 l0 x11_1).f1), .int .i64 0, .string (⟨#[]⟩ : ByteArray)]) ?_ 2 _ rfl; (with_reducible repeat (first | refine kn_ ?_ _ | refine kd_ ?_ | refine ka_ ?_ _)); refine blk_put (cs := #[.slice A727_0 ((rd_T44 l0 x11_1).f0).length c727_0, .int .i64 0, .int .i64 0, .string (⟨#[]⟩ : ByteArray)]) ?_ 1 _ rfl; (with_reducible repeat (first | refine kn_ ?_ _ | refine kd_ ?_ | refine ka_ ?_ _)); refine blk_put (cs := #[.slice none 0 0, .int .i64 0, .int .i64 0, .string (⟨#[]⟩ : ByteArray)]) ?_ 0 _ rfl; (with_reducible repeat (first | refine kn_ ?_ _ | refine kd_ ?_ | refine ka_ ?_ _)); exact BK728.out⟩
            have n1_ : Aside0 (Below w.heap.size w ((((w18.setCell ⟨gb728, 0, none⟩ (.slice A727_0 ((rd_T44 l0 x11_1).f0).length c727_0)).setCell ⟨gb728, 1, none⟩ (.int .i64 ((rd_T44 l0 x11_1).f1))).setCell ⟨gb728, 2, none⟩ (.int .i64 ((rd_T44 l0 x11_1).f2))).setCell ⟨gb728, 3, none⟩ (.string ((rd_T44 l0 x11_1).f3)))) := ⟨by repeat (first | (with_reducible first | exact HB.out | apply ba_ | apply bn_ | apply bd_ | refine below_set ?_ GE728.out) | exact HB.out)⟩
            (try clear BK728)
            (try clear HB)
            generalize ((((w18.setCell ⟨gb728, 0, none⟩ (.slice A727_0 ((rd_T44 l0 x11_1).f0).length c727_0)).setCell ⟨gb728, 1, none⟩ (.int .i64 ((rd_T44 l0 x11_1).f1))).setCell ⟨gb728, 2, none⟩ (.int .i64 ((rd_T44 l0 x11_1).f2))).setCell ⟨gb728, 3, none⟩ (.string ((rd_T44 l0 x11_1).f3))) = w20 at n0_ n1_ ⊢
            have BK728 := n0_
            have HB := n1_
            clear n0_ n1_
            have n0_ := Aside0.mk (blk_drew BK728.out)
            have n1_ := Aside0.mk (bd_ HB.out)
            clear BK728
            clear HB
            have BK728 := n0_
            have HB := n1_
            clear n0_ n1_
            have p734 : 0 ≤ ((ji13) : Int) := of_decide_eq_true (by with_reducible assumption)
            have q734 : (ji13) < (l0.length : Int) := of_decide_eq_true (by with_reducible assumption)
            obtain ⟨ad734, A734_0, c734_0, e734, hx734_0, hx734_1, hx734_2, hx734_3, hl734_0, hi734_0⟩ := at_T44 HR0.out (ji13) p734 q734
            have hw734_3 := hx734_3
            have hw734_2 := hx734_2
            have hw734_1 := hx734_1
            have hw734_0 := hx734_0
            obtain rfl : ad727 = ad734 := (by injection e734)
            replace hx734_0 := cl_ HB.out hx734_0
            replace hx734_1 := cl_ HB.out hx734_1
            replace hx734_2 := cl_ HB.out hx734_2
            replace hx734_3 := cl_ HB.out hx734_3
            have HR734_0 := Aside0.mk hi734_0
            have HC734_0 := Aside0.mk hl734_0
            clear hi734_0 hl734_0
            replace p734 := eq_true p734
            replace q734 := eq_true q734
            refine start_ (n := 27) (S := fun w' => w'.cell? ⟨gb728, 0, none⟩ = some (.slice A727_0 ((rd_T44 l0 x11_1).f0).length c727_0) ∧ w'.cell? ⟨gb728, 1, none⟩ = some (.int .i64 ((rd_T44 l0 x11_1).f1)) ∧ w'.cell? ⟨gb728, 2, none⟩ = some (.int .i64 ((rd_T44 l0 x11_1).f2)) ∧ w'.cell? ⟨gb728, 3, none⟩ = some (.string ((rd_T44 l0 x11_1).f3)) ∧ w'.cell? (ad727.add (((ji13)).toNat * 4)) = some (.slice A734_0 ((rd_T44 l0 (ji13)).f0).length c734_0) ∧ w'.cell? ⟨(ad727.add (((ji13)).toNat * 4)).block, (ad727.add (((ji13)).toNat * 4)).off + 1, none⟩ = some (.int .i64 ((rd_T44 l0 (ji13)).f1)) ∧ w'.cell? ⟨(ad727.add (((ji13)).toNat * 4)).block, (ad727.add (((ji13)).toNat * 4)).off + 2, none⟩ = some (.int .i64 ((rd_T44 l0 (ji13)).f2)) ∧ w'.cell? ⟨(ad727.add (((ji13)).toNat * 4)).block, (ad727.add (((ji13)).toNat * 4)).off + 3, none⟩ = some (.string ((rd_T44 l0 (ji13)).f3))) (ds := []) #[f_,f_,f_,f_,f_,f_,f_,f_,f_,f_,f_,f_,f_,f_,f_,f_,f_,f_,f_,f_,f_,f_,f_,f_,f_,f_,f_] (by kernel_rfl) rfl rfl ⟨(blk_cell BK728.out 0).trans rfl, (blk_cell BK728.out 1).trans rfl, (blk_cell BK728.out 2).trans rfl, (blk_cell BK728.out 3).trans rfl, ((HB.out.cell (World.block_lt_of_cell? w _ hw734_0)).trans hw734_0), ((HB.out.cell (World.block_lt_of_cell? w _ hw734_1)).trans hw734_1), ((HB.out.cell (World.block_lt_of_cell? w _ hw734_2)).trans hw734_2), ((HB.out.cell (World.block_lt_of_cell? w _ hw734_3)).trans hw734_3)⟩ (fun hHeld => ?_); refine with_tabW impl_keyedOk.tab4 impl_keyedOk.bits4 (fun HT_ HW_ => ?_)
            generalize w20.drew = w21 at BK728 HB HR734_0 hx734_0 hx734_1 hx734_2 hx734_3 hHeld ⊢
            refine take_ (i := 0) (N := some 16) (v := ?_) (a' := ?_) #[t_,f_,f_,f_,f_,f_,f_,f_,f_,f_,f_,f_,f_,f_,f_,f_,f_,f_,f_,f_,f_,f_,f_,f_,f_,f_,f_] rfl rfl (take_ofW HT_.out HW_.out (by kernel_rfl)) (fun _ _ _ h => h) (Or.inl ⟨by rfl, ?_⟩) hHeld ?_ ?_
            rotate_left
            ·
             rintro w' ⟨s0, s1, s2, s3, s4, s5, s6, s7⟩
             go_simp
             with_reducible rfl
            rotate_left
            ·
             simp only [fr_]
             rfl
            refine one_ (i := 1) (N := some 17) #[t_,t_,f_,f_,f_,f_,f_,f_,f_,f_,f_,f_,f_,f_,f_,f_,f_,f_,f_,f_,f_,f_,f_,f_,f_,f_,f_] rfl rfl (one_of HT_.out (by kernel_rfl)) (by decide) (fun K hK => ?_)
            refine goes_ Try.func124 (by kernel_rfl) rfl #[.agg #[.slice A727_0 ((rd_T44 l0 x11_1).f0).length c727_0, .int .i64 ((rd_T44 l0 x11_1).f1), .int .i64 ((rd_T44 l0 x11_1).f2), .string ((rd_T44 l0 x11_1).f3)]] (by rfl) rfl rfl (by (try simp only [mp_]); first | done | rfl | (simp only [List.length_drop, List.length_take]; rfl)) ?_
            with_reducible refine (impl_AlarmOk.calls k1 _ _ ((rd_T44 l0 x11_1).f0) ((rd_T44 l0 x11_1).f1) ((rd_T44 l0 x11_1).f2) ((rd_T44 l0 x11_1).f3) true _ ?side1 ?side2 A7.out).mono ?_
            (case side1 => repeat (first | exact (Kd.C_below HR727_0.out HB.out) | (with_reducible first | refine ca_ ?_ _ | refine cn_ ?_ _ | refine cd_ ?_)))
            (case side2 => exact HC727_0.out)
            rintro e w22 ⟨rfl, hb⟩
            refine ⟨_, rfl, ?_⟩
            have n0_ := Aside0.mk (blk_below (g := gb728) (o := .cells #[.slice A727_0 ((rd_T44 l0 x11_1).f0).length c727_0, .int .i64 ((rd_T44 l0 x11_1).f1), .int .i64 ((rd_T44 l0 x11_1).f2), .string ((rd_T44 l0 x11_1).f3)] 44 (0, 0)) (by (with_reducible repeat (first | refine kn_ ?_ _ | refine kd_ ?_ | refine ka_ ?_ _)); exact BK728.out) hb)
            have n1_ := Aside0.mk (below_step (by repeat (first | (with_reducible first | exact HB.out | apply ba_ | apply bn_ | apply bd_ | refine below_set ?_ GE728.out) | exact HB.out)) hb)
            clear BK728
            clear HB
            have BK728 := n0_
            have HB := n1_
            clear n0_ n1_
            (try clear hb)
            (try clear hb2)
            (try clear hk)
            (try clear hi)
            refine hK.out _ _ ⟨(blk_cell BK728.out 0).trans rfl, (blk_cell BK728.out 1).trans rfl, (blk_cell BK728.out 2).trans rfl, (blk_cell BK728.out 3).trans rfl, ((HB.out.cell (World.block_lt_of_cell? w _ hw734_0)).trans hw734_0), ((HB.out.cell (World.block_lt_of_cell? w _ hw734_1)).trans hw734_1), ((HB.out.cell (World.block_lt_of_cell? w _ hw734_2)).trans hw734_2), ((HB.out.cell (World.block_lt_of_cell? w _ hw734_3)).trans hw734_3)⟩ (fun hHeld => ?_)
            clear hK K
            refine norm_ (a' := ?_) ?_ ?_
            rotate_left
            ·
             show Act.put _ (some 17) _ = _
             simp only [fr_]
             rfl
            refine pu_ 2 18 ?_ (b_ 3 24) rfl rfl HT_.out ?_ ?_ ?_ ?_; rotate_left; intro w'; go_simp; with_reducible rfl; rotate_left; simp only [fr_]; rfl
            refine pu_ 3 19 ?_ (b_ 4 23) rfl rfl HT_.out ?_ ?_ ?_ ?_; rotate_left; intro w'; go_simp; with_reducible rfl; rotate_left; simp only [fr_]; rfl
            refine pu_ 5 21 ?_ #[t_,t_,t_,t_,f_,t_,f_,f_,f_,f_,f_,f_,f_,f_,f_,f_,f_,f_,f_,f_,f_,f_,f_,f_,f_,f_,f_] rfl rfl HT_.out ?_ ?_ ?_ ?_; rotate_left; intro w'; go_simp; with_reducible rfl; rotate_left; simp only [fr_]; rfl
            refine pu_ 7 23 ?_ #[t_,t_,t_,t_,f_,t_,f_,t_,f_,f_,f_,f_,f_,f_,f_,f_,f_,f_,f_,f_,f_,f_,f_,f_,f_,f_,f_] rfl rfl HT_.out ?_ ?_ ?_ ?_; rotate_left; intro w'; go_simp; with_reducible rfl; rotate_left; simp only [fr_]; rfl
            refine take_ (i := 4) (N := some 20) (v := ?_) (a' := ?_) #[t_,t_,t_,t_,t_,t_,f_,t_,f_,f_,f_,f_,f_,f_,f_,f_,f_,f_,f_,f_,f_,f_,f_,f_,f_,f_,f_] rfl rfl (take_ofW HT_.out HW_.out (by kernel_rfl)) (fun _ _ _ h => h) (Or.inl ⟨by rfl, ?_⟩) hHeld ?_ ?_
            rotate_left
            ·
             rintro w' ⟨s0, s1, s2, s3, s4, s5, s6, s7⟩
             go_simp
             with_reducible rfl
            rotate_left
            ·
             simp only [fr_]
             rfl
            refine one_ (i := 6) (N := some 22) #[t_,t_,t_,t_,t_,t_,t_,t_,f_,f_,f_,f_,f_,f_,f_,f_,f_,f_,f_,f_,f_,f_,f_,f_,f_,f_,f_] rfl rfl (one_of HT_.out (by kernel_rfl)) (by decide) (fun K hK => ?_)
            refine goes_ Try.func130 (by kernel_rfl) rfl #[.agg #[.slice A727_0 ((rd_T44 l0 x11_1).f0).length c727_0, .int .i64 ((rd_T44 l0 x11_1).f1), .int .i64 ((rd_T44 l0 x11_1).f2), .string ((rd_T44 l0 x11_1).f3)], .slice A2 l2.length c2] (by rfl) rfl rfl (by (try simp only [mp_]); first | done | rfl | (simp only [List.length_drop, List.length_take]; rfl)) ?_
            with_reducible refine (impl_KeyOf.calls k1 _ _ ((rd_T44 l0 x11_1).f0) ((rd_T44 l0 x11_1).f1) ((rd_T44 l0 x11_1).f2) ((rd_T44 l0 x11_1).f3) _ _ l2 t730 _ ?side1 ?side2 ?side3 ?side4 A9.out).mono ?_
            (case side1 => repeat (first | exact (Kd.C_below HR727_0.out HB.out) | (with_reducible first | refine ca_ ?_ _ | refine cn_ ?_ _ | refine cd_ ?_)))
            (case side2 => exact HC727_0.out)
            (case side3 => repeat (first | exact (Kd.C_below HR2.out HB.out) | (with_reducible first | refine ca_ ?_ _ | refine cn_ ?_ _ | refine cd_ ?_)))
            (case side4 => exact HC2.out)
            rintro e w23 ⟨v731, rfl, ho0, hb⟩
            refine ⟨_, rfl, ?_⟩
            have n0_ := Aside0.mk (Kd.R_lower ho0 (below_size (by repeat (first | (with_reducible first | exact HB.out | apply ba_ | apply bn_ | apply bd_ | refine below_set ?_ GE728.out) | exact HB.out))))
            have n1_ := Aside0.mk (blk_below (g := gb728) (o := .cells #[.slice A727_0 ((rd_T44 l0 x11_1).f0).length c727_0, .int .i64 ((rd_T44 l0 x11_1).f1), .int .i64 ((rd_T44 l0 x11_1).f2), .string ((rd_T44 l0 x11_1).f3)] 44 (0, 0)) (by (with_reducible repeat (first | refine kn_ ?_ _ | refine kd_ ?_ | refine ka_ ?_ _)); exact BK728.out) hb)
            have n2_ := Aside0.mk (below_step (by repeat (first | (with_reducible first | exact HB.out | apply ba_ | apply bn_ | apply bd_ | refine below_set ?_ GE728.out) | exact HB.out)) hb)
            clear BK728
            clear HB
            have HO732 := n0_
            have BK728 := n1_
            have HB := n2_
            clear n0_ n1_ n2_
            (try clear hb)
            (try clear hb2)
            (try clear hk)
            (try clear hi)
            (try clear ho0)
            obtain ⟨Ao24, co24, eo24⟩ := Kd.R_slice HO732.out
            (first | subst eo24 | (injection eo24 with f1_ f2_ f3_; have f4_ := f1_.symm; have f5_ := f3_.symm; clear f1_ f2_ f3_; subst f4_; subst f5_))
            refine hK.out _ _ ⟨(blk_cell BK728.out 0).trans rfl, (blk_cell BK728.out 1).trans rfl, (blk_cell BK728.out 2).trans rfl, (blk_cell BK728.out 3).trans rfl, ((HB.out.cell (World.block_lt_of_cell? w _ hw734_0)).trans hw734_0), ((HB.out.cell (World.block_lt_of_cell? w _ hw734_1)).trans hw734_1), ((HB.out.cell (World.block_lt_of_cell? w _ hw734_2)).trans hw734_2), ((HB.out.cell (World.block_lt_of_cell? w _ hw734_3)).trans hw734_3)⟩ (fun hHeld => ?_)
            clear hK K
            refine norm_ (a' := ?_) ?_ ?_
            rotate_left
            ·
             show Act.put _ (some 22) _ = _
             simp only [fr_]
             rfl
            refine one_ (i := 8) (N := some 24) #[t_,t_,t_,t_,t_,t_,t_,t_,t_,f_,f_,f_,f_,f_,f_,f_,f_,f_,f_,f_,f_,f_,f_,f_,f_,f_,f_] rfl rfl (one_of HT_.out (by kernel_rfl)) (by decide) (fun K hK => ?_)
            refine goes_ Try.func139 (by kernel_rfl) rfl #[.slice Ao24 t730.length co24, .slice A1 l1.length c1] (by rfl) rfl rfl (by (try simp only [mp_]); first | done | rfl | (simp only [List.length_drop, List.length_take]; rfl)) ?_
            with_reducible refine (impl_SameSet.calls k1 _ _ t730 _ _ l1 true _ ?side1 ?side2 ?side3 ?side4 A10.out).mono ?_
            (case side1 => repeat (first | exact (Kd.R_reads' HO732.out).2.2 | (with_reducible first | refine ca_ ?_ _ | refine cn_ ?_ _ | refine cd_ ?_)))
            (case side2 => exact (Kd.R_reads' HO732.out).2.1)
            (case side3 => repeat (first | exact (Kd.C_below HR1.out HB.out) | (with_reducible first | refine ca_ ?_ _ | refine cn_ ?_ _ | refine cd_ ?_)))
            (case side4 => exact HC1.out)
            rintro e w' ⟨rfl, ⟨nd, rfl⟩⟩
            refine ⟨_, rfl, ?_⟩
            refine hK.out _ _ ⟨(blk_cell BK728.out 0).trans rfl, (blk_cell BK728.out 1).trans rfl, (blk_cell BK728.out 2).trans rfl, (blk_cell BK728.out 3).trans rfl, ((HB.out.cell (World.block_lt_of_cell? w _ hw734_0)).trans hw734_0), ((HB.out.cell (World.block_lt_of_cell? w _ hw734_1)).trans hw734_1), ((HB.out.cell (World.block_lt_of_cell? w _ hw734_2)).trans hw734_2), ((HB.out.cell (World.block_lt_of_cell? w _ hw734_3)).trans hw734_3)⟩ (fun hHeld => ?_)
            clear hK K
            refine norm_ (a' := ?_) ?_ ?_
            rotate_left
            ·
             show Act.put _ (some 24) _ = _
             simp only [fr_]
             rfl
            refine pu_ 9 25 ?_ (b_ 10 17) rfl rfl HT_.out ?_ ?_ ?_ ?_; rotate_left; intro w'; go_simp; with_reducible rfl; rotate_left; simp only [fr_]; rfl
            refine pu_ 10 26 ?_ (b_ 11 16) rfl rfl HT_.out ?_ ?_ ?_ ?_; rotate_left; intro w'; go_simp; with_reducible rfl; rotate_left; simp only [fr_]; rfl
            refine pu_ 11 27 ?_ (b_ 12 15) rfl rfl HT_.out ?_ ?_ ?_ ?_; rotate_left; intro w'; go_simp; with_reducible rfl; rotate_left; simp only [fr_]; rfl
            refine pu_ 12 28 ?_ (b_ 13 14) rfl rfl HT_.out ?_ ?_ ?_ ?_; rotate_left; intro w'; go_simp; with_reducible rfl; rotate_left; simp only [fr_]; rfl
            refine pu_ 13 29 ?_ (b_ 14 13) rfl rfl HT_.out ?_ ?_ ?_ ?_; rotate_left; intro w'; go_simp; with_reducible rfl; rotate_left; simp only [fr_]; rfl
            refine pu_ 14 30 ?_ (b_ 15 12) rfl rfl HT_.out ?_ ?_ ?_ ?_; rotate_left; intro w'; go_simp; with_reducible rfl; rotate_left; simp only [fr_]; rfl
            refine pu_ 15 31 ?_ (b_ 16 11) rfl rfl HT_.out ?_ ?_ ?_ ?_; rotate_left; intro w'; go_simp; with_reducible rfl; rotate_left; simp only [fr_]; rfl
            refine pu_ 16 32 ?_ (b_ 17 10) rfl rfl HT_.out ?_ ?_ ?_ ?_; rotate_left; intro w'; go_simp; with_reducible rfl; rotate_left; simp only [fr_]; rfl
            refine pu_ 17 33 ?_ (b_ 18 9) rfl rfl HT_.out ?_ ?_ ?_ ?_; rotate_left; intro w'; go_simp; with_reducible rfl; rotate_left; simp only [fr_]; rfl
            refine pu_ 18 34 ?_ (b_ 19 8) rfl rfl HT_.out ?_ ?_ ?_ ?_; rotate_left; intro w'; go_simp; with_reducible rfl; rotate_left; simp only [fr_]; rfl
            refine pu_ 19 35 ?_ (b_ 20 7) rfl rfl HT_.out ?_ ?_ ?_ ?_; rotate_left; intro w'; go_simp; with_reducible rfl; rotate_left; simp only [fr_]; rfl
            refine pu_ 21 37 ?_ #[t_,t_,t_,t_,t_,t_,t_,t_,t_,t_,t_,t_,t_,t_,t_,t_,t_,t_,t_,t_,f_,t_,f_,f_,f_,f_,f_] rfl rfl HT_.out ?_ ?_ ?_ ?_; rotate_left; intro w'; go_simp; with_reducible rfl; rotate_left; simp only [fr_]; rfl
            refine take_ (i := 20) (N := some 36) (v := ?_) (a' := ?_) #[t_,t_,t_,t_,t_,t_,t_,t_,t_,t_,t_,t_,t_,t_,t_,t_,t_,t_,t_,t_,t_,t_,f_,f_,f_,f_,f_] rfl rfl (take_ofW HT_.out HW_.out (by kernel_rfl)) (fun _ _ _ h => h) (Or.inl ⟨by rfl, ?_⟩) hHeld ?_ ?_
            rotate_left
            ·
             rintro w' ⟨s0, s1, s2, s3, s4, s5, s6, s7⟩
             go_simp
             with_reducible rfl
            rotate_left
            ·
             simp only [fr_]
             rfl
            refine take_ (i := 22) (N := some 38) (v := ?_) (a' := ?_) #[t_,t_,t_,t_,t_,t_,t_,t_,t_,t_,t_,t_,t_,t_,t_,t_,t_,t_,t_,t_,t_,t_,t_,f_,f_,f_,f_] rfl rfl (take_ofW HT_.out HW_.out (by kernel_rfl)) (fun _ _ _ h => h) (Or.inl ⟨by rfl, ?_⟩) hHeld ?_ ?_
            rotate_left
            ·
             rintro w' ⟨s0, s1, s2, s3, s4, s5, s6, s7⟩
             go_simp
             with_reducible rfl
            rotate_left
            ·
             simp only [fr_]
             rfl
            refine one_ (i := 23) (N := some 39) #[t_,t_,t_,t_,t_,t_,t_,t_,t_,t_,t_,t_,t_,t_,t_,t_,t_,t_,t_,t_,t_,t_,t_,t_,f_,f_,f_] rfl rfl (one_of HT_.out (by kernel_rfl)) (by decide) (fun K hK => ?_)
            refine goes_ Try.func153 (by kernel_rfl) rfl #[.slice A734_0 ((rd_T44 l0 (ji13)).f0).length c734_0, .slice A727_0 ((rd_T44 l0 x11_1).f0).length c727_0] (by rfl) rfl rfl (by (try simp only [mp_]); first | done | (simp only [hji13]; rfl) | rfl | (simp only [List.length_drop, List.length_take]; rfl)) ?_
            with_reducible refine (impl_SetLess.calls k1 _ _ ((rd_T44 l0 (ji13)).f0) _ _ ((rd_T44 l0 x11_1).f0) true _ ?side1 ?side2 ?side3 ?side4 A16.out).mono ?_
            (case side1 => repeat (first | exact (Kd.C_below HR734_0.out (by repeat (first | (with_reducible first | exact HB.out | apply ba_ | apply bn_ | apply bd_ | refine below_set ?_ GE728.out) | exact HB.out))) | (with_reducible first | refine ca_ ?_ _ | refine cn_ ?_ _ | refine cd_ ?_)))
            (case side2 => exact HC734_0.out)
            (case side3 => repeat (first | exact (Kd.C_below HR727_0.out (by repeat (first | (with_reducible first | exact HB.out | apply ba_ | apply bn_ | apply bd_ | refine below_set ?_ GE728.out) | exact HB.out))) | (with_reducible first | refine ca_ ?_ _ | refine cn_ ?_ _ | refine cd_ ?_)))
            (case side4 => exact HC727_0.out)
            rintro e w' ⟨rfl, ⟨nd, rfl⟩⟩
            refine ⟨_, rfl, ?_⟩
            refine hK.out _ _ ⟨(blk_cell BK728.out 0).trans rfl, (blk_cell BK728.out 1).trans rfl, (blk_cell BK728.out 2).trans rfl, (blk_cell BK728.out 3).trans rfl, ((HB.out.cell (World.block_lt_of_cell? w _ hw734_0)).trans hw734_0), ((HB.out.cell (World.block_lt_of_cell? w _ hw734_1)).trans hw734_1), ((HB.out.cell (World.block_lt_of_cell? w _ hw734_2)).trans hw734_2), ((HB.out.cell (World.block_lt_of_cell? w _ hw734_3)).trans hw734_3)⟩ (fun hHeld => ?_)
            clear hK K
            refine norm_ (a' := ?_) ?_ ?_
            rotate_left
            ·
             show Act.put _ (some 39) _ = _
             simp only [fr_]
             rfl
            refine pu_ 24 40 ?_ (b_ 25 2) rfl rfl HT_.out ?_ ?_ ?_ ?_; rotate_left; intro w'; go_simp; with_reducible rfl; rotate_left; simp only [fr_]; rfl
            refine pu_ 25 41 ?_ (b_ 26 1) rfl rfl HT_.out ?_ ?_ ?_ ?_; rotate_left; intro w'; go_simp; with_reducible rfl; rotate_left; simp only [fr_]; rfl
            refine pu_ 26 42 ?_ (b_ 27 0) rfl rfl HT_.out ?_ ?_ ?_ ?_; rotate_left; intro w'; go_simp; with_reducible rfl; rotate_left; simp only [fr_]; rfl
            refine done_ (done_of HT_.out (by kernel_rfl)) ?_
            try go_wp2
            go_roundg k1
            case measure => have := HK1.out; omega
            case rel => exact ⟨(wrap64 (x11_1 + 1)), (by first | rfl | (simp; done) | (simp [*]; done)), H', ⟨by have := HK1.out; omega⟩, ⟨by repeat (first | (with_reducible first | exact HB.out | apply ba_ | apply bn_ | apply bd_ | refine below_set ?_ GE728.out) | exact HB.out)⟩⟩
           replace c17 := Bool.eq_false_iff.mpr c17
           subst c17
           rw [if_neg (show ¬ (false = true) by decide)] at H
           obtain rfl := Option.some.inj H
           have p727 : 0 ≤ (x11_1 : Int) := of_decide_eq_true (by with_reducible assumption)
           have q727 : x11_1 < (l0.length : Int) := of_decide_eq_true (by with_reducible assumption)
           obtain ⟨ad727, A727_0, c727_0, e727, hx727_0, hx727_1, hx727_2, hx727_3, hl727_0, hi727_0⟩ := at_T44 HR0.out x11_1 p727 q727
           cases e727
           replace hx727_0 := cl_ HB.out hx727_0
           replace hx727_1 := cl_ HB.out hx727_1
           replace hx727_2 := cl_ HB.out hx727_2
           replace hx727_3 := cl_ HB.out hx727_3
           have HR727_0 := Aside0.mk hi727_0
           have HC727_0 := Aside0.mk hl727_0
           clear hi727_0 hl727_0
           replace p727 := eq_true p727
           replace q727 := eq_true q727
           try go_wp2_with (first | ((with_reducible refine gate_dst (N := 8) rfl ?_); refine box_event ?hg (N := 8) ?hd (cs := #[.slice none 0 0, .int .i64 0, .int .i64 0, .string (⟨#[]⟩ : ByteArray)]) (t := 44) ?hr ?_; (case hd => rfl); (case hg => rfl); (case hr => first | (go_simp; done) | (go_simp; rfl)); intro gb728 hg w25 hbox hb; have n0_ := Aside0.mk (below_step (by repeat (first | (with_reducible first | exact HB.out | apply ba_ | apply bn_ | apply bd_) | exact HB.out)) hb); have BK728 := Aside0.mk (hbox); have GW728 := Aside0.mk ((by rw [hg]; exact (below_size (by repeat (first | (with_reducible first | exact HB.out | apply ba_ | apply bn_ | apply bd_) | exact HB.out))) : w.heap.size ≤ gb728)); have GE728 := GW728; clear HB; have HB := n0_; clear n0_; clear hb hbox hg; have hcz26_0 : w25.cell? ⟨gb728, 0, none⟩ = some (.slice none 0 0) := (blk_cell BK728.out 0).trans rfl; have hcz26_1 : w25.cell? ⟨gb728, 1, none⟩ = some (.int .i64 0) := (blk_cell BK728.out 1).trans rfl; have hcz26_2 : w25.cell? ⟨gb728, 2, none⟩ = some (.int .i64 0) := (blk_cell BK728.out 2).trans rfl; have hcz26_3 : w25.cell? ⟨gb728, 3, none⟩ = some (.string (⟨#[]⟩ : ByteArray)) := (blk_cell BK728.out 3).trans rfl; have hfz26_0 := blk_frozen BK728.out 0; have hfz26_1 := blk_frozen BK728.out 1; have hfz26_2 := blk_frozen BK728.out 2; have hfz26_3 := blk_frozen BK728.out 3))
           have n0_ : Aside0 (((((w25.setCell ⟨gb728, 0, none⟩ (.slice A727_0 ((rd_T44 l0 x11_1).f0).length c727_0)).setCell ⟨gb728, 1, none⟩ (.int .i64 ((rd_T44 l0 x11_1).f1))).setCell ⟨gb728, 2, none⟩ (.int .i64 ((rd_T44 l0 x11_1).f2))).setCell ⟨gb728, 3, none⟩ (.string ((rd_T44 l0 x11_1).f3))).heap[gb728]? = some (.cells #[.slice A727_0 ((rd_T44 l0 x11_1).f0).length c727_0, .int .i64 ((rd_T44 l0 x11_1).f1), .int .i64 ((rd_T44 l0 x11_1).f2), .string ((rd_T44 l0 x11_1).f3)] 44 (0, 0))) := ⟨by (with_reducible repeat (first | refine kn_ ?_ _ | refine kd_ ?_ | refine ka_ ?_ _)); refine blk_put (cs := #[.slice A727_0 ((rd_T44 l0 x11_1).f0).length c727_0, .int .i64 ((rd_T44 l0 x11_1).f1), .int .i64 ((rd_T44 l0 x11_1).f2), .string (⟨#[]⟩ : ByteArray)]) ?_ 3 _ rfl; (with_reducible repeat (first | refine kn_ ?_ _ | refine kd_ ?_ | refine ka_ ?_ _)); refine blk_put (cs := #[.slice A727_0 ((rd_T44 l0 x11_1).f0).length c727_0, .int .i64 ((rd_T44 l0 x11_1).f1), .int .i64 0, .string (⟨#[]⟩ : ByteArray)]) ?_ 2 _ rfl; (with_reducible repeat (first | refine kn_ ?_ _ | refine kd_ ?_ | refine ka_ ?_ _)); refine blk_put (cs := #[.slice A727_0 ((rd_T44 l0 x11_1).f0).length c727_0, .int .i64 0, .int .i64 0, .string (⟨#[]⟩ : ByteArray)]) ?_ 1 _ rfl; (with_reducible repeat (first | refine kn_ ?_ _ | refine kd_ ?_ | refine ka_ ?_ _)); refine blk_put (cs := #[.slice none 0 0, .int .i64 0, .int .i64 0, .string (⟨#[]⟩ : ByteArray)]) ?_ 0 _ rfl; (with_reducible repeat (first | refine kn_ ?_ _ | refine kd_ ?_ | refine ka_ ?_ _)); exact BK728.out⟩
           have n1_ : Aside0 (Below w.heap.size w ((((w25.setCell ⟨gb728, 0, none⟩ (.slice A727_0 ((rd_T44 l0 x11_1).f0).length c727_0)).setCell ⟨gb728, 1, none⟩ (.int .i64 ((rd_T44 l0 x11_1).f1))).setCell ⟨gb728, 2, none⟩ (.int .i64 ((rd_T44 l0 x11_1).f2))).setCell ⟨gb728, 3, none⟩ (.string ((rd_T44 l0 x11_1).f3)))) := ⟨by repeat (first | (with_reducible first | exact HB.out | apply ba_ | apply bn_ | apply bd_ | refine below_set ?_ GE728.out) | exact HB.out)⟩
           (try clear BK728)
           (try clear HB)
           generalize ((((w25.setCell ⟨gb728, 0, none⟩ (.slice A727_0 ((rd_T44 l0 x11_1).f0).length c727_0)).setCell ⟨gb728, 1, none⟩ (.int .i64 ((rd_T44 l0 x11_1).f1))).setCell ⟨gb728, 2, none⟩ (.int .i64 ((rd_T44 l0 x11_1).f2))).setCell ⟨gb728, 3, none⟩ (.string ((rd_T44 l0 x11_1).f3))) = w27 at n0_ n1_ ⊢
           have BK728 := n0_
           have HB := n1_
           clear n0_ n1_
           have n0_ := Aside0.mk (blk_drew BK728.out)
           have n1_ := Aside0.mk (bd_ HB.out)
           clear BK728
           clear HB
           have BK728 := n0_
           have HB := n1_
           clear n0_ n1_
           have p734 : 0 ≤ ((ji13) : Int) := of_decide_eq_true (by with_reducible assumption)
           have q734 : (ji13) < (l0.length : Int) := of_decide_eq_true (by with_reducible assumption)
           obtain ⟨ad734, A734_0, c734_0, e734, hx734_0, hx734_1, hx734_2, hx734_3, hl734_0, hi734_0⟩ := at_T44 HR0.out (ji13) p734 q734
           have hw734_3 := hx734_3
           have hw734_2 := hx734_2
           have hw734_1 := hx734_1
           have hw734_0 := hx734_0
           obtain rfl : ad727 = ad734 := (by injection e734)
           replace hx734_0 := cl_ HB.out hx734_0
           replace hx734_1 := cl_ HB.out hx734_1
           replace hx734_2 := cl_ HB.out hx734_2
           replace hx734_3 := cl_ HB.out hx734_3
           have HR734_0 := Aside0.mk hi734_0
           have HC734_0 := Aside0.mk hl734_0
           clear hi734_0 hl734_0
           replace p734 := eq_true p734
           replace q734 := eq_true q734
           refine start_ (n := 27) (S := fun w' => w'.cell? ⟨gb728, 0, none⟩ = some (.slice A727_0 ((rd_T44 l0 x11_1).f0).length c727_0) ∧ w'.cell? ⟨gb728, 1, none⟩ = some (.int .i64 ((rd_T44 l0 x11_1).f1)) ∧ w'.cell? ⟨gb728, 2, none⟩ = some (.int .i64 ((rd_T44 l0 x11_1).f2)) ∧ w'.cell? ⟨gb728, 3, none⟩ = some (.string ((rd_T44 l0 x11_1).f3)) ∧ w'.cell? (ad727.add (((ji13)).toNat * 4)) = some (.slice A734_0 ((rd_T44 l0 (ji13)).f0).length c734_0) ∧ w'.cell? ⟨(ad727.add (((ji13)).toNat * 4)).block, (ad727.add (((ji13)).toNat * 4)).off + 1, none⟩ = some (.int .i64 ((rd_T44 l0 (ji13)).f1)) ∧ w'.cell? ⟨(ad727.add (((ji13)).toNat * 4)).block, (ad727.add (((ji13)).toNat * 4)).off + 2, none⟩ = some (.int .i64 ((rd_T44 l0 (ji13)).f2)) ∧ w'.cell? ⟨(ad727.add (((ji13)).toNat * 4)).block, (ad727.add (((ji13)).toNat * 4)).off + 3, none⟩ = some (.string ((rd_T44 l0 (ji13)).f3))) (ds := []) #[f_,f_,f_,f_,f_,f_,f_,f_,f_,f_,f_,f_,f_,f_,f_,f_,f_,f_,f_,f_,f_,f_,f_,f_,f_,f_,f_] (by kernel_rfl) rfl rfl ⟨(blk_cell BK728.out 0).trans rfl, (blk_cell BK728.out 1).trans rfl, (blk_cell BK728.out 2).trans rfl, (blk_cell BK728.out 3).trans rfl, ((HB.out.cell (World.block_lt_of_cell? w _ hw734_0)).trans hw734_0), ((HB.out.cell (World.block_lt_of_cell? w _ hw734_1)).trans hw734_1), ((HB.out.cell (World.block_lt_of_cell? w _ hw734_2)).trans hw734_2), ((HB.out.cell (World.block_lt_of_cell? w _ hw734_3)).trans hw734_3)⟩ (fun hHeld => ?_); refine with_tabW impl_keyedOk.tab4 impl_keyedOk.bits4 (fun HT_ HW_ => ?_)
           generalize w27.drew = w28 at BK728 HB HR734_0 hx734_0 hx734_1 hx734_2 hx734_3 hHeld ⊢
           refine take_ (i := 0) (N := some 16) (v := ?_) (a' := ?_) #[t_,f_,f_,f_,f_,f_,f_,f_,f_,f_,f_,f_,f_,f_,f_,f_,f_,f_,f_,f_,f_,f_,f_,f_,f_,f_,f_] rfl rfl (take_ofW HT_.out HW_.out (by kernel_rfl)) (fun _ _ _ h => h) (Or.inl ⟨by rfl, ?_⟩) hHeld ?_ ?_
           rotate_left
           ·
            rintro w' ⟨s0, s1, s2, s3, s4, s5, s6, s7⟩
            go_simp
            with_reducible rfl
           rotate_left
           ·
            simp only [fr_]
            rfl
           refine one_ (i := 1) (N := some 17) #[t_,t_,f_,f_,f_,f_,f_,f_,f_,f_,f_,f_,f_,f_,f_,f_,f_,f_,f_,f_,f_,f_,f_,f_,f_,f_,f_] rfl rfl (one_of HT_.out (by kernel_rfl)) (by decide) (fun K hK => ?_)
           refine goes_ Try.func124 (by kernel_rfl) rfl #[.agg #[.slice A727_0 ((rd_T44 l0 x11_1).f0).length c727_0, .int .i64 ((rd_T44 l0 x11_1).f1), .int .i64 ((rd_T44 l0 x11_1).f2), .string ((rd_T44 l0 x11_1).f3)]] (by rfl) rfl rfl (by (try simp only [mp_]); first | done | rfl | (simp only [List.length_drop, List.length_take]; rfl)) ?_
           with_reducible refine (impl_AlarmOk.calls k1 _ _ ((rd_T44 l0 x11_1).f0) ((rd_T44 l0 x11_1).f1) ((rd_T44 l0 x11_1).f2) ((rd_T44 l0 x11_1).f3) true _ ?side1 ?side2 A7.out).mono ?_
           (case side1 => repeat (first | exact (Kd.C_below HR727_0.out HB.out) | (with_reducible first | refine ca_ ?_ _ | refine cn_ ?_ _ | refine cd_ ?_)))
           (case side2 => exact HC727_0.out)
           rintro e w29 ⟨rfl, hb⟩
           refine ⟨_, rfl, ?_⟩
           have n0_ := Aside0.mk (blk_below (g := gb728) (o := .cells #[.slice A727_0 ((rd_T44 l0 x11_1).f0).length c727_0, .int .i64 ((rd_T44 l0 x11_1).f1), .int .i64 ((rd_T44 l0 x11_1).f2), .string ((rd_T44 l0 x11_1).f3)] 44 (0, 0)) (by (with_reducible repeat (first | refine kn_ ?_ _ | refine kd_ ?_ | refine ka_ ?_ _)); exact BK728.out) hb)
           have n1_ := Aside0.mk (below_step (by repeat (first | (with_reducible first | exact HB.out | apply ba_ | apply bn_ | apply bd_ | refine below_set ?_ GE728.out) | exact HB.out)) hb)
           clear BK728
           clear HB
           have BK728 := n0_
           have HB := n1_
           clear n0_ n1_
           (try clear hb)
           (try clear hb2)
           (try clear hk)
           (try clear hi)
           refine hK.out _ _ ⟨(blk_cell BK728.out 0).trans rfl, (blk_cell BK728.out 1).trans rfl, (blk_cell BK728.out 2).trans rfl, (blk_cell BK728.out 3).trans rfl, ((HB.out.cell (World.block_lt_of_cell? w _ hw734_0)).trans hw734_0), ((HB.out.cell (World.block_lt_of_cell? w _ hw734_1)).trans hw734_1), ((HB.out.cell (World.block_lt_of_cell? w _ hw734_2)).trans hw734_2), ((HB.out.cell (World.block_lt_of_cell? w _ hw734_3)).trans hw734_3)⟩ (fun hHeld => ?_)
           clear hK K
           refine norm_ (a' := ?_) ?_ ?_
           rotate_left
           ·
            show Act.put _ (some 17) _ = _
            simp only [fr_]
            rfl
           refine pu_ 2 18 ?_ (b_ 3 24) rfl rfl HT_.out ?_ ?_ ?_ ?_; rotate_left; intro w'; go_simp; with_reducible rfl; rotate_left; simp only [fr_]; rfl
           refine pu_ 3 19 ?_ (b_ 4 23) rfl rfl HT_.out ?_ ?_ ?_ ?_; rotate_left; intro w'; go_simp; with_reducible rfl; rotate_left; simp only [fr_]; rfl
           refine pu_ 5 21 ?_ #[t_,t_,t_,t_,f_,t_,f_,f_,f_,f_,f_,f_,f_,f_,f_,f_,f_,f_,f_,f_,f_,f_,f_,f_,f_,f_,f_] rfl rfl HT_.out ?_ ?_ ?_ ?_; rotate_left; intro w'; go_simp; with_reducible rfl; rotate_left; simp only [fr_]; rfl
           refine pu_ 7 23 ?_ #[t_,t_,t_,t_,f_,t_,f_,t_,f_,f_,f_,f_,f_,f_,f_,f_,f_,f_,f_,f_,f_,f_,f_,f_,f_,f_,f_] rfl rfl HT_.out ?_ ?_ ?_ ?_; rotate_left; intro w'; go_simp; with_reducible rfl; rotate_left; simp only [fr_]; rfl
           refine take_ (i := 4) (N := some 20) (v := ?_) (a' := ?_) #[t_,t_,t_,t_,t_,t_,f_,t_,f_,f_,f_,f_,f_,f_,f_,f_,f_,f_,f_,f_,f_,f_,f_,f_,f_,f_,f_] rfl rfl (take_ofW HT_.out HW_.out (by kernel_rfl)) (fun _ _ _ h => h) (Or.inl ⟨by rfl, ?_⟩) hHeld ?_ ?_
           rotate_left
           ·
            rintro w' ⟨s0, s1, s2, s3, s4, s5, s6, s7⟩
            go_simp
            with_reducible rfl
           rotate_left
           ·
            simp only [fr_]
            rfl
           refine one_ (i := 6) (N := some 22) #[t_,t_,t_,t_,t_,t_,t_,t_,f_,f_,f_,f_,f_,f_,f_,f_,f_,f_,f_,f_,f_,f_,f_,f_,f_,f_,f_] rfl rfl (one_of HT_.out (by kernel_rfl)) (by decide) (fun K hK => ?_)
           refine goes_ Try.func130 (by kernel_rfl) rfl #[.agg #[.slice A727_0 ((rd_T44 l0 x11_1).f0).length c727_0, .int .i64 ((rd_T44 l0 x11_1).f1), .int .i64 ((rd_T44 l0 x11_1).f2), .string ((rd_T44 l0 x11_1).f3)], .slice A2 l2.length c2] (by rfl) rfl rfl (by (try simp only [mp_]); first | done | rfl | (simp only [List.length_drop, List.length_take]; rfl)) ?_
           with_reducible refine (impl_KeyOf.calls k1 _ _ ((rd_T44 l0 x11_1).f0) ((rd_T44 l0 x11_1).f1) ((rd_T44 l0 x11_1).f2) ((rd_T44 l0 x11_1).f3) _ _ l2 t730 _ ?side1 ?side2 ?side3 ?side4 A9.out).mono ?_
           (case side1 => repeat (first | exact (Kd.C_below HR727_0.out HB.out) | (with_reducible first | refine ca_ ?_ _ | refine cn_ ?_ _ | refine cd_ ?_)))
           (case side2 => exact HC727_0.out)
           (case side3 => repeat (first | exact (Kd.C_below HR2.out HB.out) | (with_reducible first | refine ca_ ?_ _ | refine cn_ ?_ _ | refine cd_ ?_)))
           (case side4 => exact HC2.out)
           rintro e w30 ⟨v731, rfl, ho0, hb⟩
           refine ⟨_, rfl, ?_⟩
           have n0_ := Aside0.mk (Kd.R_lower ho0 (below_size (by repeat (first | (with_reducible first | exact HB.out | apply ba_ | apply bn_ | apply bd_ | refine below_set ?_ GE728.out) | exact HB.out))))
           have n1_ := Aside0.mk (blk_below (g := gb728) (o := .cells #[.slice A727_0 ((rd_T44 l0 x11_1).f0).length c727_0, .int .i64 ((rd_T44 l0 x11_1).f1), .int .i64 ((rd_T44 l0 x11_1).f2), .string ((rd_T44 l0 x11_1).f3)] 44 (0, 0)) (by (with_reducible repeat (first | refine kn_ ?_ _ | refine kd_ ?_ | refine ka_ ?_ _)); exact BK728.out) hb)
           have n2_ := Aside0.mk (below_step (by repeat (first | (with_reducible first | exact HB.out | apply ba_ | apply bn_ | apply bd_ | refine below_set ?_ GE728.out) | exact HB.out)) hb)
           clear BK728
           clear HB
           have HO732 := n0_
           have BK728 := n1_
           have HB := n2_
           clear n0_ n1_ n2_
           (try clear hb)
           (try clear hb2)
           (try clear hk)
           (try clear hi)
           (try clear ho0)
           obtain ⟨Ao31, co31, eo31⟩ := Kd.R_slice HO732.out
           (first | subst eo31 | (injection eo31 with f1_ f2_ f3_; have f4_ := f1_.symm; have f5_ := f3_.symm; clear f1_ f2_ f3_; subst f4_; subst f5_))
           refine hK.out _ _ ⟨(blk_cell BK728.out 0).trans rfl, (blk_cell BK728.out 1).trans rfl, (blk_cell BK728.out 2).trans rfl, (blk_cell BK728.out 3).trans rfl, ((HB.out.cell (World.block_lt_of_cell? w _ hw734_0)).trans hw734_0), ((HB.out.cell (World.block_lt_of_cell? w _ hw734_1)).trans hw734_1), ((HB.out.cell (World.block_lt_of_cell? w _ hw734_2)).trans hw734_2), ((HB.out.cell (World.block_lt_of_cell? w _ hw734_3)).trans hw734_3)⟩ (fun hHeld => ?_)
           clear hK K
           refine norm_ (a' := ?_) ?_ ?_
           rotate_left
           ·
            show Act.put _ (some 22) _ = _
            simp only [fr_]
            rfl
           refine one_ (i := 8) (N := some 24) #[t_,t_,t_,t_,t_,t_,t_,t_,t_,f_,f_,f_,f_,f_,f_,f_,f_,f_,f_,f_,f_,f_,f_,f_,f_,f_,f_] rfl rfl (one_of HT_.out (by kernel_rfl)) (by decide) (fun K hK => ?_)
           refine goes_ Try.func139 (by kernel_rfl) rfl #[.slice Ao31 t730.length co31, .slice A1 l1.length c1] (by rfl) rfl rfl (by (try simp only [mp_]); first | done | rfl | (simp only [List.length_drop, List.length_take]; rfl)) ?_
           with_reducible refine (impl_SameSet.calls k1 _ _ t730 _ _ l1 true _ ?side1 ?side2 ?side3 ?side4 A10.out).mono ?_
           (case side1 => repeat (first | exact (Kd.R_reads' HO732.out).2.2 | (with_reducible first | refine ca_ ?_ _ | refine cn_ ?_ _ | refine cd_ ?_)))
           (case side2 => exact (Kd.R_reads' HO732.out).2.1)
           (case side3 => repeat (first | exact (Kd.C_below HR1.out HB.out) | (with_reducible first | refine ca_ ?_ _ | refine cn_ ?_ _ | refine cd_ ?_)))
           (case side4 => exact HC1.out)
           rintro e w' ⟨rfl, ⟨nd, rfl⟩⟩
           refine ⟨_, rfl, ?_⟩
           refine hK.out _ _ ⟨(blk_cell BK728.out 0).trans rfl, (blk_cell BK728.out 1).trans rfl, (blk_cell BK728.out 2).trans rfl, (blk_cell BK728.out 3).trans rfl, ((HB.out.cell (World.block_lt_of_cell? w _ hw734_0)).trans hw734_0), ((HB.out.cell (World.block_lt_of_cell? w _ hw734_1)).trans hw734_1), ((HB.out.cell (World.block_lt_of_cell? w _ hw734_2)).trans hw734_2), ((HB.out.cell (World.block_lt_of_cell? w _ hw734_3)).trans hw734_3)⟩ (fun hHeld => ?_)
           clear hK K
           refine norm_ (a' := ?_) ?_ ?_
           rotate_left
           ·
            show Act.put _ (some 24) _ = _
            simp only [fr_]
            rfl
           refine pu_ 9 25 ?_ (b_ 10 17) rfl rfl HT_.out ?_ ?_ ?_ ?_; rotate_left; intro w'; go_simp; with_reducible rfl; rotate_left; simp only [fr_]; rfl
           refine pu_ 10 26 ?_ (b_ 11 16) rfl rfl HT_.out ?_ ?_ ?_ ?_; rotate_left; intro w'; go_simp; with_reducible rfl; rotate_left; simp only [fr_]; rfl
           refine pu_ 11 27 ?_ (b_ 12 15) rfl rfl HT_.out ?_ ?_ ?_ ?_; rotate_left; intro w'; go_simp; with_reducible rfl; rotate_left; simp only [fr_]; rfl
           refine pu_ 12 28 ?_ (b_ 13 14) rfl rfl HT_.out ?_ ?_ ?_ ?_; rotate_left; intro w'; go_simp; with_reducible rfl; rotate_left; simp only [fr_]; rfl
           refine pu_ 13 29 ?_ (b_ 14 13) rfl rfl HT_.out ?_ ?_ ?_ ?_; rotate_left; intro w'; go_simp; with_reducible rfl; rotate_left; simp only [fr_]; rfl
           refine pu_ 14 30 ?_ (b_ 15 12) rfl rfl HT_.out ?_ ?_ ?_ ?_; rotate_left; intro w'; go_simp; with_reducible rfl; rotate_left; simp only [fr_]; rfl
           refine pu_ 15 31 ?_ (b_ 16 11) rfl rfl HT_.out ?_ ?_ ?_ ?_; rotate_left; intro w'; go_simp; with_reducible rfl; rotate_left; simp only [fr_]; rfl
           refine pu_ 16 32 ?_ (b_ 17 10) rfl rfl HT_.out ?_ ?_ ?_ ?_; rotate_left; intro w'; go_simp; with_reducible rfl; rotate_left; simp only [fr_]; rfl
           refine pu_ 17 33 ?_ (b_ 18 9) rfl rfl HT_.out ?_ ?_ ?_ ?_; rotate_left; intro w'; go_simp; with_reducible rfl; rotate_left; simp only [fr_]; rfl
           refine pu_ 18 34 ?_ (b_ 19 8) rfl rfl HT_.out ?_ ?_ ?_ ?_; rotate_left; intro w'; go_simp; with_reducible rfl; rotate_left; simp only [fr_]; rfl
           refine pu_ 19 35 ?_ (b_ 20 7) rfl rfl HT_.out ?_ ?_ ?_ ?_; rotate_left; intro w'; go_simp; with_reducible rfl; rotate_left; simp only [fr_]; rfl
           refine pu_ 21 37 ?_ #[t_,t_,t_,t_,t_,t_,t_,t_,t_,t_,t_,t_,t_,t_,t_,t_,t_,t_,t_,t_,f_,t_,f_,f_,f_,f_,f_] rfl rfl HT_.out ?_ ?_ ?_ ?_; rotate_left; intro w'; go_simp; with_reducible rfl; rotate_left; simp only [fr_]; rfl
           refine take_ (i := 20) (N := some 36) (v := ?_) (a' := ?_) #[t_,t_,t_,t_,t_,t_,t_,t_,t_,t_,t_,t_,t_,t_,t_,t_,t_,t_,t_,t_,t_,t_,f_,f_,f_,f_,f_] rfl rfl (take_ofW HT_.out HW_.out (by kernel_rfl)) (fun _ _ _ h => h) (Or.inl ⟨by rfl, ?_⟩) hHeld ?_ ?_
           rotate_left
           ·
            rintro w' ⟨s0, s1, s2, s3, s4, s5, s6, s7⟩
            go_simp
            with_reducible rfl
           rotate_left
           ·
            simp only [fr_]
            rfl
           refine take_ (i := 22) (N := some 38) (v := ?_) (a' := ?_) #[t_,t_,t_,t_,t_,t_,t_,t_,t_,t_,t_,t_,t_,t_,t_,t_,t_,t_,t_,t_,t_,t_,t_,f_,f_,f_,f_] rfl rfl (take_ofW HT_.out HW_.out (by kernel_rfl)) (fun _ _ _ h => h) (Or.inl ⟨by rfl, ?_⟩) hHeld ?_ ?_
           rotate_left
           ·
            rintro w' ⟨s0, s1, s2, s3, s4, s5, s6, s7⟩
            go_simp
            with_reducible rfl
           rotate_left
           ·
            simp only [fr_]
            rfl
           refine one_ (i := 23) (N := some 39) #[t_,t_,t_,t_,t_,t_,t_,t_,t_,t_,t_,t_,t_,t_,t_,t_,t_,t_,t_,t_,t_,t_,t_,t_,f_,f_,f_] rfl rfl (one_of HT_.out (by kernel_rfl)) (by decide) (fun K hK => ?_)
           refine goes_ Try.func153 (by kernel_rfl) rfl #[.slice A734_0 ((rd_T44 l0 (ji13)).f0).length c734_0, .slice A727_0 ((rd_T44 l0 x11_1).f0).length c727_0] (by rfl) rfl rfl (by (try simp only [mp_]); first | done | (simp only [hji13]; rfl) | rfl | (simp only [List.length_drop, List.length_take]; rfl)) ?_
           with_reducible refine (impl_SetLess.calls k1 _ _ ((rd_T44 l0 (ji13)).f0) _ _ ((rd_T44 l0 x11_1).f0) false _ ?side1 ?side2 ?side3 ?side4 A16.out).mono ?_
           (case side1 => repeat (first | exact (Kd.C_below HR734_0.out (by repeat (first | (with_reducible first | exact HB.out | apply ba_ | apply bn_ | apply bd_ | refine below_set ?_ GE728.out) | exact HB.out))) | (with_reducible first | refine ca_ ?_ _ | refine cn_ ?_ _ | refine cd_ ?_)))
           (case side2 => exact HC734_0.out)
           (case side3 => repeat (first | exact (Kd.C_below HR727_0.out (by repeat (first | (with_reducible first | exact HB.out | apply ba_ | apply bn_ | apply bd_ | refine below_set ?_ GE728.out) | exact HB.out))) | (with_reducible first | refine ca_ ?_ _ | refine cn_ ?_ _ | refine cd_ ?_)))
           (case side4 => exact HC727_0.out)
           rintro e w' ⟨rfl, ⟨nd, rfl⟩⟩
           refine ⟨_, rfl, ?_⟩
           refine hK.out _ _ ⟨(blk_cell BK728.out 0).trans rfl, (blk_cell BK728.out 1).trans rfl, (blk_cell BK728.out 2).trans rfl, (blk_cell BK728.out 3).trans rfl, ((HB.out.cell (World.block_lt_of_cell? w _ hw734_0)).trans hw734_0), ((HB.out.cell (World.block_lt_of_cell? w _ hw734_1)).trans hw734_1), ((HB.out.cell (World.block_lt_of_cell? w _ hw734_2)).trans hw734_2), ((HB.out.cell (World.block_lt_of_cell? w _ hw734_3)).trans hw734_3)⟩ (fun hHeld => ?_)
           clear hK K
           refine norm_ (a' := ?_) ?_ ?_
           rotate_left
           ·
            show Act.put _ (some 39) _ = _
            simp only [fr_]
            rfl
           refine pu_ 24 40 ?_ (b_ 25 2) rfl rfl HT_.out ?_ ?_ ?_ ?_; rotate_left; intro w'; go_simp; with_reducible rfl; rotate_left; simp only [fr_]; rfl
           refine pu_ 25 41 ?_ (b_ 26 1) rfl rfl HT_.out ?_ ?_ ?_ ?_; rotate_left; intro w'; go_simp; with_reducible rfl; rotate_left; simp only [fr_]; rfl
           refine pu_ 26 42 ?_ (b_ 27 0) rfl rfl HT_.out ?_ ?_ ?_ ?_; rotate_left; intro w'; go_simp; with_reducible rfl; rotate_left; simp only [fr_]; rfl
           refine done_ (done_of HT_.out (by kernel_rfl)) ?_
           try go_wp2
           go_ret
           exact ⟨by first | rfl | (simp [errW_none, errW_some] <;> rfl) | (simp only [← hji13]; first | rfl | (simp [errW_none, errW_some] <;> rfl)) | (simp [*, errW_none, errW_some] <;> rfl), by repeat (first | (with_reducible first | exact HB.out | apply ba_ | apply bn_ | apply bd_ | refine below_set ?_ GE728.out) | exact HB.out)⟩
          rw [if_neg c15] at H
          exact absurd H (by simp)
         rw [if_neg c14] at H
         exact absurd H (by simp)
        rw [if_neg c12] at H
        have c12b0 : decide (0 < x11_1) = false := decide_eq_false c12
        clear c12
        have H' := Aside0.mk H
        clear H
        have p727 : 0 ≤ (x11_1 : Int) := of_decide_eq_true (by with_reducible assumption)
        have q727 : x11_1 < (l0.length : Int) := of_decide_eq_true (by with_reducible assumption)
        obtain ⟨ad727, A727_0, c727_0, e727, hx727_0, hx727_1, hx727_2, hx727_3, hl727_0, hi727_0⟩ := at_T44 HR0.out x11_1 p727 q727
        cases e727
        replace hx727_0 := cl_ HB.out hx727_0
        replace hx727_1 := cl_ HB.out hx727_1
        replace hx727_2 := cl_ HB.out hx727_2
        replace hx727_3 := cl_ HB.out hx727_3
        have HR727_0 := Aside0.mk hi727_0
        have HC727_0 := Aside0.mk hl727_0
        clear hi727_0 hl727_0
        replace p727 := eq_true p727
        replace q727 := eq_true q727
        try go_wp2_with (first | ((with_reducible refine gate_dst (N := 8) rfl ?_); refine box_event ?hg (N := 8) ?hd (cs := #[.slice none 0 0, .int .i64 0, .int .i64 0, .string (⟨#[]⟩ : ByteArray)]) (t := 44) ?hr ?_; (case hd => rfl); (case hg => rfl); (case hr => first | (go_simp; done) | (go_simp; rfl)); intro gb728 hg w32 hbox hb; have n0_ := Aside0.mk (below_step (by repeat (first | (with_reducible first | exact HB.out | apply ba_ | apply bn_ | apply bd_) | exact HB.out)) hb); have BK728 := Aside0.mk (hbox); have GW728 := Aside0.mk ((by rw [hg]; exact (below_size (by repeat (first | (with_reducible first | exact HB.out | apply ba_ | apply bn_ | apply bd_) | exact HB.out))) : w.heap.size ≤ gb728)); have GE728 := GW728; clear HB; have HB := n0_; clear n0_; clear hb hbox hg; have hcz33_0 : w32.cell? ⟨gb728, 0, none⟩ = some (.slice none 0 0) := (blk_cell BK728.out 0).trans rfl; have hcz33_1 : w32.cell? ⟨gb728, 1, none⟩ = some (.int .i64 0) := (blk_cell BK728.out 1).trans rfl; have hcz33_2 : w32.cell? ⟨gb728, 2, none⟩ = some (.int .i64 0) := (blk_cell BK728.out 2).trans rfl; have hcz33_3 : w32.cell? ⟨gb728, 3, none⟩ = some (.string (⟨#[]⟩ : ByteArray)) := (blk_cell BK728.out 3).trans rfl; have hfz33_0 := blk_frozen BK728.out 0; have hfz33_1 := blk_frozen BK728.out 1; have hfz33_2 := blk_frozen BK728.out 2; have hfz33_3 := blk_frozen BK728.out 3))
        have n0_ : Aside0 (((((w32.setCell ⟨gb728, 0, none⟩ (.slice A727_0 ((rd_T44 l0 x11_1).f0).length c727_0)).setCell ⟨gb728, 1, none⟩ (.int .i64 ((rd_T44 l0 x11_1).f1))).setCell ⟨gb728, 2, none⟩ (.int .i64 ((rd_T44 l0 x11_1).f2))).setCell ⟨gb728, 3, none⟩ (.string ((rd_T44 l0 x11_1).f3))).heap[gb728]? = some (.cells #[.slice A727_0 ((rd_T44 l0 x11_1).f0).length c727_0, .int .i64 ((rd_T44 l0 x11_1).f1), .int .i64 ((rd_T44 l0 x11_1).f2), .string ((rd_T44 l0 x11_1).f3)] 44 (0, 0))) := ⟨by (with_reducible repeat (first | refine kn_ ?_ _ | refine kd_ ?_ | refine ka_ ?_ _)); refine blk_put (cs := #[.slice A727_0 ((rd_T44 l0 x11_1).f0).length c727_0, .int .i64 ((rd_T44 l0 x11_1).f1), .int .i64 ((rd_T44 l0 x11_1).f2), .string (⟨#[]⟩ : ByteArray)]) ?_ 3 _ rfl; (with_reducible repeat (first | refine kn_ ?_ _ | refine kd_ ?_ | refine ka_ ?_ _)); refine blk_put (cs := #[.slice A727_0 ((rd_T44 l0 x11_1).f0).length c727_0, .int .i64 ((rd_T44 l0 x11_1).f1), .int .i64 0, .string (⟨#[]⟩ : ByteArray)]) ?_ 2 _ rfl; (with_reducible repeat (first | refine kn_ ?_ _ | refine kd_ ?_ | refine ka_ ?_ _)); refine blk_put (cs := #[.slice A727_0 ((rd_T44 l0 x11_1).f0).length c727_0, .int .i64 0, .int .i64 0, .string (⟨#[]⟩ : ByteArray)]) ?_ 1 _ rfl; (with_reducible repeat (first | refine kn_ ?_ _ | refine kd_ ?_ | refine ka_ ?_ _)); refine blk_put (cs := #[.slice none 0 0, .int .i64 0, .int .i64 0, .string (⟨#[]⟩ : ByteArray)]) ?_ 0 _ rfl; (with_reducible repeat (first | refine kn_ ?_ _ | refine kd_ ?_ | refine ka_ ?_ _)); exact BK728.out⟩
        have n1_ : Aside0 (Below w.heap.size w ((((w32.setCell ⟨gb728, 0, none⟩ (.slice A727_0 ((rd_T44 l0 x11_1).f0).length c727_0)).setCell ⟨gb728, 1, none⟩ (.int .i64 ((rd_T44 l0 x11_1).f1))).setCell ⟨gb728, 2, none⟩ (.int .i64 ((rd_T44 l0 x11_1).f2))).setCell ⟨gb728, 3, none⟩ (.string ((rd_T44 l0 x11_1).f3)))) := ⟨by repeat (first | (with_reducible first | exact HB.out | apply ba_ | apply bn_ | apply bd_ | refine below_set ?_ GE728.out) | exact HB.out)⟩
        (try clear BK728)
        (try clear HB)
        generalize ((((w32.setCell ⟨gb728, 0, none⟩ (.slice A727_0 ((rd_T44 l0 x11_1).f0).length c727_0)).setCell ⟨gb728, 1, none⟩ (.int .i64 ((rd_T44 l0 x11_1).f1))).setCell ⟨gb728, 2, none⟩ (.int .i64 ((rd_T44 l0 x11_1).f2))).setCell ⟨gb728, 3, none⟩ (.string ((rd_T44 l0 x11_1).f3))) = w34 at n0_ n1_ ⊢
        have BK728 := n0_
        have HB := n1_
        clear n0_ n1_
        have n0_ := Aside0.mk (blk_drew BK728.out)
        have n1_ := Aside0.mk (bd_ HB.out)
        clear BK728
        clear HB
        have BK728 := n0_
        have HB := n1_
        clear n0_ n1_
        refine start_ (n := 27) (S := fun w' => w'.cell? ⟨gb728, 0, none⟩ = some (.slice A727_0 ((rd_T44 l0 x11_1).f0).length c727_0) ∧ w'.cell? ⟨gb728, 1, none⟩ = some (.int .i64 ((rd_T44 l0 x11_1).f1)) ∧ w'.cell? ⟨gb728, 2, none⟩ = some (.int .i64 ((rd_T44 l0 x11_1).f2)) ∧ w'.cell? ⟨gb728, 3, none⟩ = some (.string ((rd_T44 l0 x11_1).f3))) (ds := []) #[f_,f_,f_,f_,f_,f_,f_,f_,f_,f_,f_,f_,f_,f_,f_,f_,f_,f_,f_,f_,f_,f_,f_,f_,f_,f_,f_] (by kernel_rfl) rfl rfl ⟨(blk_cell BK728.out 0).trans rfl, (blk_cell BK728.out 1).trans rfl, (blk_cell BK728.out 2).trans rfl, (blk_cell BK728.out 3).trans rfl⟩ (fun hHeld => ?_); refine with_tabW impl_keyedOk.tab4 impl_keyedOk.bits4 (fun HT_ HW_ => ?_)
        generalize w34.drew = w35 at BK728 HB hHeld ⊢
        refine take_ (i := 0) (N := some 16) (v := ?_) (a' := ?_) #[t_,f_,f_,f_,f_,f_,f_,f_,f_,f_,f_,f_,f_,f_,f_,f_,f_,f_,f_,f_,f_,f_,f_,f_,f_,f_,f_] rfl rfl (take_ofW HT_.out HW_.out (by kernel_rfl)) (fun _ _ _ h => h) (Or.inl ⟨by rfl, ?_⟩) hHeld ?_ ?_
        rotate_left
        ·
         rintro w' ⟨s0, s1, s2, s3⟩
         go_simp
         with_reducible rfl
        rotate_left
        ·
         simp only [fr_]
         rfl
        refine one_ (i := 1) (N := some 17) #[t_,t_,f_,f_,f_,f_,f_,f_,f_,f_,f_,f_,f_,f_,f_,f_,f_,f_,f_,f_,f_,f_,f_,f_,f_,f_,f_] rfl rfl (one_of HT_.out (by kernel_rfl)) (by decide) (fun K hK => ?_)
        refine goes_ Try.func124 (by kernel_rfl) rfl #[.agg #[.slice A727_0 ((rd_T44 l0 x11_1).f0).length c727_0, .int .i64 ((rd_T44 l0 x11_1).f1), .int .i64 ((rd_T44 l0 x11_1).f2), .string ((rd_T44 l0 x11_1).f3)]] (by rfl) rfl rfl (by (try simp only [mp_]); first | done | rfl | (simp only [List.length_drop, List.length_take]; rfl)) ?_
        with_reducible refine (impl_AlarmOk.calls k1 _ _ ((rd_T44 l0 x11_1).f0) ((rd_T44 l0 x11_1).f1) ((rd_T44 l0 x11_1).f2) ((rd_T44 l0 x11_1).f3) true _ ?side1 ?side2 A7.out).mono ?_
        (case side1 => repeat (first | exact (Kd.C_below HR727_0.out HB.out) | (with_reducible first | refine ca_ ?_ _ | refine cn_ ?_ _ | refine cd_ ?_)))
        (case side2 => exact HC727_0.out)
        rintro e w36 ⟨rfl, hb⟩
        refine ⟨_, rfl, ?_⟩
        have n0_ := Aside0.mk (blk_below (g := gb728) (o := .cells #[.slice A727_0 ((rd_T44 l0 x11_1).f0).length c727_0, .int .i64 ((rd_T44 l0 x11_1).f1), .int .i64 ((rd_T44 l0 x11_1).f2), .string ((rd_T44 l0 x11_1).f3)] 44 (0, 0)) (by (with_reducible repeat (first | refine kn_ ?_ _ | refine kd_ ?_ | refine ka_ ?_ _)); exact BK728.out) hb)
        have n1_ := Aside0.mk (below_step (by repeat (first | (with_reducible first | exact HB.out | apply ba_ | apply bn_ | apply bd_ | refine below_set ?_ GE728.out) | exact HB.out)) hb)
        clear BK728
        clear HB
        have BK728 := n0_
        have HB := n1_
        clear n0_ n1_
        (try clear hb)
        (try clear hb2)
        (try clear hk)
        (try clear hi)
        refine hK.out _ _ ⟨(blk_cell BK728.out 0).trans rfl, (blk_cell BK728.out 1).trans rfl, (blk_cell BK728.out 2).trans rfl, (blk_cell BK728.out 3).trans rfl⟩ (fun hHeld => ?_)
        clear hK K
        refine norm_ (a' := ?_) ?_ ?_
        rotate_left
        ·
         show Act.put _ (some 17) _ = _
         simp only [fr_]
         rfl
        refine pu_ 2 18 ?_ (b_ 3 24) rfl rfl HT_.out ?_ ?_ ?_ ?_; rotate_left; intro w'; go_simp; with_reducible rfl; rotate_left; simp only [fr_]; rfl
        refine pu_ 3 19 ?_ (b_ 4 23) rfl rfl HT_.out ?_ ?_ ?_ ?_; rotate_left; intro w'; go_simp; with_reducible rfl; rotate_left; simp only [fr_]; rfl
        refine pu_ 5 21 ?_ #[t_,t_,t_,t_,f_,t_,f_,f_,f_,f_,f_,f_,f_,f_,f_,f_,f_,f_,f_,f_,f_,f_,f_,f_,f_,f_,f_] rfl rfl HT_.out ?_ ?_ ?_ ?_; rotate_left; intro w'; go_simp; with_reducible rfl; rotate_left; simp only [fr_]; rfl
        refine pu_ 7 23 ?_ #[t_,t_,t_,t_,f_,t_,f_,t_,f_,f_,f_,f_,f_,f_,f_,f_,f_,f_,f_,f_,f_,f_,f_,f_,f_,f_,f_] rfl rfl HT_.out ?_ ?_ ?_ ?_; rotate_left; intro w'; go_simp; with_reducible rfl; rotate_left; simp only [fr_]; rfl
        refine take_ (i := 4) (N := some 20) (v := ?_) (a' := ?_) #[t_,t_,t_,t_,t_,t_,f_,t_,f_,f_,f_,f_,f_,f_,f_,f_,f_,f_,f_,f_,f_,f_,f_,f_,f_,f_,f_] rfl rfl (take_ofW HT_.out HW_.out (by kernel_rfl)) (fun _ _ _ h => h) (Or.inl ⟨by rfl, ?_⟩) hHeld ?_ ?_
        rotate_left
        ·
         rintro w' ⟨s0, s1, s2, s3⟩
         go_simp
         with_reducible rfl
        rotate_left
        ·
         simp only [fr_]
         rfl
        refine one_ (i := 6) (N := some 22) #[t_,t_,t_,t_,t_,t_,t_,t_,f_,f_,f_,f_,f_,f_,f_,f_,f_,f_,f_,f_,f_,f_,f_,f_,f_,f_,f_] rfl rfl (one_of HT_.out (by kernel_rfl)) (by decide) (fun K hK => ?_)
        refine goes_ Try.func130 (by kernel_rfl) rfl #[.agg #[.slice A727_0 ((rd_T44 l0 x11_1).f0).length c727_0, .int .i64 ((rd_T44 l0 x11_1).f1), .int .i64 ((rd_T44 l0 x11_1).f2), .string ((rd_T44 l0 x11_1).f3)], .slice A2 l2.length c2] (by rfl) rfl rfl (by (try simp only [mp_]); first | done | rfl | (simp only [List.length_drop, List.length_take]; rfl)) ?_
        with_reducible refine (impl_KeyOf.calls k1 _ _ ((rd_T44 l0 x11_1).f0) ((rd_T44 l0 x11_1).f1) ((rd_T44 l0 x11_1).f2) ((rd_T44 l0 x11_1).f3) _ _ l2 t730 _ ?side1 ?side2 ?side3 ?side4 A9.out).mono ?_
        (case side1 => repeat (first | exact (Kd.C_below HR727_0.out HB.out) | (with_reducible first | refine ca_ ?_ _ | refine cn_ ?_ _ | refine cd_ ?_)))
        (case side2 => exact HC727_0.out)
        (case side3 => repeat (first | exact (Kd.C_below HR2.out HB.out) | (with_reducible first | refine ca_ ?_ _ | refine cn_ ?_ _ | refine cd_ ?_)))
        (case side4 => exact HC2.out)
        rintro e w37 ⟨v731, rfl, ho0, hb⟩
        refine ⟨_, rfl, ?_⟩
        have n0_ := Aside0.mk (Kd.R_lower ho0 (below_size (by repeat (first | (with_reducible first | exact HB.out | apply ba_ | apply bn_ | apply bd_ | refine below_set ?_ GE728.out) | exact HB.out))))
        have n1_ := Aside0.mk (blk_below (g := gb728) (o := .cells #[.slice A727_0 ((rd_T44 l0 x11_1).f0).length c727_0, .int .i64 ((rd_T44 l0 x11_1).f1), .int .i64 ((rd_T44 l0 x11_1).f2), .string ((rd_T44 l0 x11_1).f3)] 44 (0, 0)) (by (with_reducible repeat (first | refine kn_ ?_ _ | refine kd_ ?_ | refine ka_ ?_ _)); exact BK728.out) hb)
        have n2_ := Aside0.mk (below_step (by repeat (first | (with_reducible first | exact HB.out | apply ba_ | apply bn_ | apply bd_ | refine below_set ?_ GE728.out) | exact HB.out)) hb)
        clear BK728
        clear HB
        have HO732 := n0_
        have BK728 := n1_
        have HB := n2_
        clear n0_ n1_ n2_
        (try clear hb)
        (try clear hb2)
        (try clear hk)
        (try clear hi)
        (try clear ho0)
        obtain ⟨Ao38, co38, eo38⟩ := Kd.R_slice HO732.out
        (first | subst eo38 | (injection eo38 with f1_ f2_ f3_; have f4_ := f1_.symm; have f5_ := f3_.symm; clear f1_ f2_ f3_; subst f4_; subst f5_))
        refine hK.out _ _ ⟨(blk_cell BK728.out 0).trans rfl, (blk_cell BK728.out 1).trans rfl, (blk_cell BK728.out 2).trans rfl, (blk_cell BK728.out 3).trans rfl⟩ (fun hHeld => ?_)
        clear hK K
        refine norm_ (a' := ?_) ?_ ?_
        rotate_left
        ·
         show Act.put _ (some 22) _ = _
         simp only [fr_]
         rfl
        refine one_ (i := 8) (N := some 24) #[t_,t_,t_,t_,t_,t_,t_,t_,t_,f_,f_,f_,f_,f_,f_,f_,f_,f_,f_,f_,f_,f_,f_,f_,f_,f_,f_] rfl rfl (one_of HT_.out (by kernel_rfl)) (by decide) (fun K hK => ?_)
        refine goes_ Try.func139 (by kernel_rfl) rfl #[.slice Ao38 t730.length co38, .slice A1 l1.length c1] (by rfl) rfl rfl (by (try simp only [mp_]); first | done | rfl | (simp only [List.length_drop, List.length_take]; rfl)) ?_
        with_reducible refine (impl_SameSet.calls k1 _ _ t730 _ _ l1 true _ ?side1 ?side2 ?side3 ?side4 A10.out).mono ?_
        (case side1 => repeat (first | exact (Kd.R_reads' HO732.out).2.2 | (with_reducible first | refine ca_ ?_ _ | refine cn_ ?_ _ | refine cd_ ?_)))
        (case side2 => exact (Kd.R_reads' HO732.out).2.1)
        (case side3 => repeat (first | exact (Kd.C_below HR1.out HB.out) | (with_reducible first | refine ca_ ?_ _ | refine cn_ ?_ _ | refine cd_ ?_)))
        (case side4 => exact HC1.out)
        rintro e w' ⟨rfl, ⟨nd, rfl⟩⟩
        refine ⟨_, rfl, ?_⟩
        refine hK.out _ _ ⟨(blk_cell BK728.out 0).trans rfl, (blk_cell BK728.out 1).trans rfl, (blk_cell BK728.out 2).trans rfl, (blk_cell BK728.out 3).trans rfl⟩ (fun hHeld => ?_)
        clear hK K
        refine norm_ (a' := ?_) ?_ ?_
        rotate_left
        ·
         show Act.put _ (some 24) _ = _
         simp only [fr_]
         rfl
        refine pu_ 9 25 ?_ (b_ 10 17) rfl rfl HT_.out ?_ ?_ ?_ ?_; rotate_left; intro w'; go_simp; with_reducible rfl; rotate_left; simp only [fr_]; rfl
        refine pu_ 10 26 ?_ (b_ 11 16) rfl rfl HT_.out ?_ ?_ ?_ ?_; rotate_left; intro w'; go_simp; with_reducible rfl; rotate_left; simp only [fr_]; rfl
        refine pu_ 11 27 ?_ (b_ 12 15) rfl rfl HT_.out ?_ ?_ ?_ ?_; rotate_left; intro w'; go_simp; with_reducible rfl; rotate_left; simp only [fr_]; rfl
        refine pu_ 12 28 ?_ (b_ 13 14) rfl rfl HT_.out ?_ ?_ ?_ ?_; rotate_left; intro w'; go_simp; with_reducible rfl; rotate_left; simp only [fr_]; rfl
        refine pu_ 13 29 ?_ (b_ 14 13) rfl rfl HT_.out ?_ ?_ ?_ ?_; rotate_left; intro w'; go_simp; with_reducible rfl; rotate_left; simp only [fr_]; rfl
        refine pu_ 14 30 ?_ (b_ 15 12) rfl rfl HT_.out ?_ ?_ ?_ ?_; rotate_left; intro w'; go_simp; with_reducible rfl; rotate_left; simp only [fr_]; rfl
        refine pv_ 15 31 ?_ (b_ 16 11) rfl rfl HT_.out ?_ ?_; rotate_left; simp only [fr_]; rfl
        refine pv_ 16 32 ?_ (b_ 17 10) rfl rfl HT_.out ?_ ?_; rotate_left; simp only [fr_]; rfl
        refine pv_ 17 33 ?_ (b_ 18 9) rfl rfl HT_.out ?_ ?_; rotate_left; simp only [fr_]; rfl
        refine pv_ 18 34 ?_ (b_ 19 8) rfl rfl HT_.out ?_ ?_; rotate_left; simp only [fr_]; rfl
        refine pv_ 19 35 ?_ (b_ 20 7) rfl rfl HT_.out ?_ ?_; rotate_left; simp only [fr_]; rfl
        refine pv_ 20 36 ?_ (b_ 21 6) rfl rfl HT_.out ?_ ?_; rotate_left; simp only [fr_]; rfl
        refine pv_ 21 37 ?_ (b_ 22 5) rfl rfl HT_.out ?_ ?_; rotate_left; simp only [fr_]; rfl
        refine pv_ 22 38 ?_ (b_ 23 4) rfl rfl HT_.out ?_ ?_; rotate_left; simp only [fr_]; rfl
        refine pv_ 23 39 ?_ (b_ 24 3) rfl rfl HT_.out ?_ ?_; rotate_left; simp only [fr_]; rfl
        refine pv_ 24 40 ?_ (b_ 25 2) rfl rfl HT_.out ?_ ?_; rotate_left; simp only [fr_]; rfl
        refine pu_ 25 41 ?_ (b_ 26 1) rfl rfl HT_.out ?_ ?_ ?_ ?_; rotate_left; intro w'; go_simp; with_reducible rfl; rotate_left; simp only [fr_]; rfl
        refine pu_ 26 42 ?_ (b_ 27 0) rfl rfl HT_.out ?_ ?_ ?_ ?_; rotate_left; intro w'; go_simp; with_reducible rfl; rotate_left; simp only [fr_]; rfl
        refine done_ (done_of HT_.out (by kernel_rfl)) ?_
        try go_wp2
        go_roundg k1
        case measure => have := HK1.out; omega
        case rel => exact ⟨(wrap64 (x11_1 + 1)), (by first | rfl | (simp; done) | (simp [*]; done)), H', ⟨by have := HK1.out; omega⟩, ⟨by repeat (first | (with_reducible first | exact HB.out | apply ba_ | apply bn_ | apply bd_ | refine below_set ?_ GE728.out) | exact HB.out)⟩⟩
       replace c11 := Bool.eq_false_iff.mpr c11
       subst c11
       rw [if_neg (show ¬ (false = true) by decide)] at H
       obtain rfl := Option.some.inj H
       have p727 : 0 ≤ (x11_1 : Int) := of_decide_eq_true (by with_reducible assumption)
       have q727 : x11_1 < (l0.length : Int) := of_decide_eq_true (by with_reducible assumption)
       obtain ⟨ad727, A727_0, c727_0, e727, hx727_0, hx727_1, hx727_2, hx727_3, hl727_0, hi727_0⟩ := at_T44 HR0.out x11_1 p727 q727
       cases e727
       replace hx727_0 := cl_ HB.out hx727_0
       replace hx727_1 := cl_ HB.out hx727_1
       replace hx727_2 := cl_ HB.out hx727_2
       replace hx727_3 := cl_ HB.out hx727_3
       have HR727_0 := Aside0.mk hi727_0
       have HC727_0 := Aside0.mk hl727_0
       clear hi727_0 hl727_0
       replace p727 := eq_true p727
       replace q727 := eq_true q727
       try go_wp2_with (first | ((with_reducible refine gate_dst (N := 8) rfl ?_); refine box_event ?hg (N := 8) ?hd (cs := #[.slice none 0 0, .int .i64 0, .int .i64 0, .string (⟨#[]⟩ : ByteArray)]) (t := 44) ?hr ?_; (case hd => rfl); (case hg => rfl); (case hr => first | (go_simp; done) | (go_simp; rfl)); intro gb728 hg w39 hbox hb; have n0_ := Aside0.mk (below_step (by repeat (first | (with_reducible first | exact HB.out | apply ba_ | apply bn_ | apply bd_) | exact HB.out)) hb); have BK728 := Aside0.mk (hbox); have GW728 := Aside0.mk ((by rw [hg]; exact (below_size (by repeat (first | (with_reducible first | exact HB.out | apply ba_ | apply bn_ | apply bd_) | exact HB.out))) : w.heap.size ≤ gb728)); have GE728 := GW728; clear HB; have HB := n0_; clear n0_; clear hb hbox hg; have hcz40_0 : w39.cell? ⟨gb728, 0, none⟩ = some (.slice none 0 0) := (blk_cell BK728.out 0).trans rfl; have hcz40_1 : w39.cell? ⟨gb728, 1, none⟩ = some (.int .i64 0) := (blk_cell BK728.out 1).trans rfl; have hcz40_2 : w39.cell? ⟨gb728, 2, none⟩ = some (.int .i64 0) := (blk_cell BK728.out 2).trans rfl; have hcz40_3 : w39.cell? ⟨gb728, 3, none⟩ = some (.string (⟨#[]⟩ : ByteArray)) := (blk_cell BK728.out 3).trans rfl; have hfz40_0 := blk_frozen BK728.out 0; have hfz40_1 := blk_frozen BK728.out 1; have hfz40_2 := blk_frozen BK728.out 2; have hfz40_3 := blk_frozen BK728.out 3))
       have n0_ : Aside0 (((((w39.setCell ⟨gb728, 0, none⟩ (.slice A727_0 ((rd_T44 l0 x11_1).f0).length c727_0)).setCell ⟨gb728, 1, none⟩ (.int .i64 ((rd_T44 l0 x11_1).f1))).setCell ⟨gb728, 2, none⟩ (.int .i64 ((rd_T44 l0 x11_1).f2))).setCell ⟨gb728, 3, none⟩ (.string ((rd_T44 l0 x11_1).f3))).heap[gb728]? = some (.cells #[.slice A727_0 ((rd_T44 l0 x11_1).f0).length c727_0, .int .i64 ((rd_T44 l0 x11_1).f1), .int .i64 ((rd_T44 l0 x11_1).f2), .string ((rd_T44 l0 x11_1).f3)] 44 (0, 0))) := ⟨by (with_reducible repeat (first | refine kn_ ?_ _ | refine kd_ ?_ | refine ka_ ?_ _)); refine blk_put (cs := #[.slice A727_0 ((rd_T44 l0 x11_1).f0).length c727_0, .int .i64 ((rd_T44 l0 x11_1).f1), .int .i64 ((rd_T44 l0 x11_1).f2), .string (⟨#[]⟩ : ByteArray)]) ?_ 3 _ rfl; (with_reducible repeat (first | refine kn_ ?_ _ | refine kd_ ?_ | refine ka_ ?_ _)); refine blk_put (cs := #[.slice A727_0 ((rd_T44 l0 x11_1).f0).length c727_0, .int .i64 ((rd_T44 l0 x11_1).f1), .int .i64 0, .string (⟨#[]⟩ : ByteArray)]) ?_ 2 _ rfl; (with_reducible repeat (first | refine kn_ ?_ _ | refine kd_ ?_ | refine ka_ ?_ _)); refine blk_put (cs := #[.slice A727_0 ((rd_T44 l0 x11_1).f0).length c727_0, .int .i64 0, .int .i64 0, .string (⟨#[]⟩ : ByteArray)]) ?_ 1 _ rfl; (with_reducible repeat (first | refine kn_ ?_ _ | refine kd_ ?_ | refine ka_ ?_ _)); refine blk_put (cs := #[.slice none 0 0, .int .i64 0, .int .i64 0, .string (⟨#[]⟩ : ByteArray)]) ?_ 0 _ rfl; (with_reducible repeat (first | refine kn_ ?_ _ | refine kd_ ?_ | refine ka_ ?_ _)); exact BK728.out⟩
       have n1_ : Aside0 (Below w.heap.size w ((((w39.setCell ⟨gb728, 0, none⟩ (.slice A727_0 ((rd_T44 l0 x11_1).f0).length c727_0)).setCell ⟨gb728, 1, none⟩ (.int .i64 ((rd_T44 l0 x11_1).f1))).setCell ⟨gb728, 2, none⟩ (.int .i64 ((rd_T44 l0 x11_1).f2))).setCell ⟨gb728, 3, none⟩ (.string ((rd_T44 l0 x11_1).f3)))) := ⟨by repeat (first | (with_reducible first | exact HB.out | apply ba_ | apply bn_ | apply bd_ | refine below_set ?_ GE728.out) | exact HB.out)⟩
       (try clear BK728)
       (try clear HB)
       generalize ((((w39.setCell ⟨gb728, 0, none⟩ (.slice A727_0 ((rd_T44 l0 x11_1).f0).length c727_0)).setCell ⟨gb728, 1, none⟩ (.int .i64 ((rd_T44 l0 x11_1).f1))).setCell ⟨gb728, 2, none⟩ (.int .i64 ((rd_T44 l0 x11_1).f2))).setCell ⟨gb728, 3, none⟩ (.string ((rd_T44 l0 x11_1).f3))) = w41 at n0_ n1_ ⊢
       have BK728 := n0_
       have HB := n1_
       clear n0_ n1_
       have n0_ := Aside0.mk (blk_drew BK728.out)
       have n1_ := Aside0.mk (bd_ HB.out)
       clear BK728
       clear HB
       have BK728 := n0_
       have HB := n1_
       clear n0_ n1_
       refine start_ (n := 27) (S := fun w' => w'.cell? ⟨gb728, 0, none⟩ = some (.slice A727_0 ((rd_T44 l0 x11_1).f0).length c727_0) ∧ w'.cell? ⟨gb728, 1, none⟩ = some (.int .i64 ((rd_T44 l0 x11_1).f1)) ∧ w'.cell? ⟨gb728, 2, none⟩ = some (.int .i64 ((rd_T44 l0 x11_1).f2)) ∧ w'.cell? ⟨gb728, 3, none⟩ = some (.string ((rd_T44 l0 x11_1).f3))) (ds := []) #[f_,f_,f_,f_,f_,f_,f_,f_,f_,f_,f_,f_,f_,f_,f_,f_,f_,f_,f_,f_,f_,f_,f_,f_,f_,f_,f_] (by kernel_rfl) rfl rfl ⟨(blk_cell BK728.out 0).trans rfl, (blk_cell BK728.out 1).trans rfl, (blk_cell BK728.out 2).trans rfl, (blk_cell BK728.out 3).trans rfl⟩ (fun hHeld => ?_); refine with_tabW impl_keyedOk.tab4 impl_keyedOk.bits4 (fun HT_ HW_ => ?_)
       generalize w41.drew = w42 at BK728 HB hHeld ⊢
       refine take_ (i := 0) (N := some 16) (v := ?_) (a' := ?_) #[t_,f_,f_,f_,f_,f_,f_,f_,f_,f_,f_,f_,f_,f_,f_,f_,f_,f_,f_,f_,f_,f_,f_,f_,f_,f_,f_] rfl rfl (take_ofW HT_.out HW_.out (by kernel_rfl)) (fun _ _ _ h => h) (Or.inl ⟨by rfl, ?_⟩) hHeld ?_ ?_
       rotate_left
       ·
        rintro w' ⟨s0, s1, s2, s3⟩
        go_simp
        with_reducible rfl
       rotate_left
       ·
        simp only [fr_]
        rfl
       refine one_ (i := 1) (N := some 17) #[t_,t_,f_,f_,f_,f_,f_,f_,f_,f_,f_,f_,f_,f_,f_,f_,f_,f_,f_,f_,f_,f_,f_,f_,f_,f_,f_] rfl rfl (one_of HT_.out (by kernel_rfl)) (by decide) (fun K hK => ?_)
       refine goes_ Try.func124 (by kernel_rfl) rfl #[.agg #[.slice A727_0 ((rd_T44 l0 x11_1).f0).length c727_0, .int .i64 ((rd_T44 l0 x11_1).f1), .int .i64 ((rd_T44 l0 x11_1).f2), .string ((rd_T44 l0 x11_1).f3)]] (by rfl) rfl rfl (by (try simp only [mp_]); first | done | rfl | (simp only [List.length_drop, List.length_take]; rfl)) ?_
       with_reducible refine (impl_AlarmOk.calls k1 _ _ ((rd_T44 l0 x11_1).f0) ((rd_T44 l0 x11_1).f1) ((rd_T44 l0 x11_1).f2) ((rd_T44 l0 x11_1).f3) true _ ?side1 ?side2 A7.out).mono ?_
       (case side1 => repeat (first | exact (Kd.C_below HR727_0.out HB.out) | (with_reducible first | refine ca_ ?_ _ | refine cn_ ?_ _ | refine cd_ ?_)))
       (case side2 => exact HC727_0.out)
       rintro e w43 ⟨rfl, hb⟩
       refine ⟨_, rfl, ?_⟩
       have n0_ := Aside0.mk (blk_below (g := gb728) (o := .cells #[.slice A727_0 ((rd_T44 l0 x11_1).f0).length c727_0, .int .i64 ((rd_T44 l0 x11_1).f1), .int .i64 ((rd_T44 l0 x11_1).f2), .string ((rd_T44 l0 x11_1).f3)] 44 (0, 0)) (by (with_reducible repeat (first | refine kn_ ?_ _ | refine kd_ ?_ | refine ka_ ?_ _)); exact BK728.out) hb)
       have n1_ := Aside0.mk (below_step (by repeat (first | (with_reducible first | exact HB.out | apply ba_ | apply bn_ | apply bd_ | refine below_set ?_ GE728.out) | exact HB.out)) hb)
       clear BK728
       clear HB
       have BK728 := n0_
       have HB := n1_
       clear n0_ n1_
       (try clear hb)
       (try clear hb2)
       (try clear hk)
       (try clear hi)
       refine hK.out _ _ ⟨(blk_cell BK728.out 0).trans rfl, (blk_cell BK728.out 1).trans rfl, (blk_cell BK728.out 2).trans rfl, (blk_cell BK728.out 3).trans rfl⟩ (fun hHeld => ?_)
       clear hK K
       refine norm_ (a' := ?_) ?_ ?_
       rotate_left
       ·
        show Act.put _ (some 17) _ = _
        simp only [fr_]
        rfl
       refine pu_ 2 18 ?_ (b_ 3 24) rfl rfl HT_.out ?_ ?_ ?_ ?_; rotate_left; intro w'; go_simp; with_reducible rfl; rotate_left; simp only [fr_]; rfl
       refine pu_ 3 19 ?_ (b_ 4 23) rfl rfl HT_.out ?_ ?_ ?_ ?_; rotate_left; intro w'; go_simp; with_reducible rfl; rotate_left; simp only [fr_]; rfl
       refine pu_ 5 21 ?_ #[t_,t_,t_,t_,f_,t_,f_,f_,f_,f_,f_,f_,f_,f_,f_,f_,f_,f_,f_,f_,f_,f_,f_,f_,f_,f_,f_] rfl rfl HT_.out ?_ ?_ ?_ ?_; rotate_left; intro w'; go_simp; with_reducible rfl; rotate_left; simp only [fr_]; rfl
       refine pu_ 7 23 ?_ #[t_,t_,t_,t_,f_,t_,f_,t_,f_,f_,f_,f_,f_,f_,f_,f_,f_,f_,f_,f_,f_,f_,f_,f_,f_,f_,f_] rfl rfl HT_.out ?_ ?_ ?_ ?_; rotate_left; intro w'; go_simp; with_reducible rfl; rotate_left; simp only [fr_]; rfl
       refine take_ (i := 4) (N := some 20) (v := ?_) (a' := ?_) #[t_,t_,t_,t_,t_,t_,f_,t_,f_,f_,f_,f_,f_,f_,f_,f_,f_,f_,f_,f_,f_,f_,f_,f_,f_,f_,f_] rfl rfl (take_ofW HT_.out HW_.out (by kernel_rfl)) (fun _ _ _ h => h) (Or.inl ⟨by rfl, ?_⟩) hHeld ?_ ?_
       rotate_left
       ·
        rintro w' ⟨s0, s1, s2, s3⟩
        go_simp
        with_reducible rfl
       rotate_left
       ·
        simp only [fr_]
        rfl
       refine one_ (i := 6) (N := some 22) #[t_,t_,t_,t_,t_,t_,t_,t_,f_,f_,f_,f_,f_,f_,f_,f_,f_,f_,f_,f_,f_,f_,f_,f_,f_,f_,f_] rfl rfl (one_of HT_.out (by kernel_rfl)) (by decide) (fun K hK => ?_)
       refine goes_ Try.func130 (by kernel_rfl) rfl #[.agg #[.slice A727_0 ((rd_T44 l0 x11_1).f0).length c727_0, .int .i64 ((rd_T44 l0 x11_1).f1), .int .i64 ((rd_T44 l0 x11_1).f2), .string ((rd_T44 l0 x11_1).f3)], .slice A2 l2.length c2] (by rfl) rfl rfl (by (try simp only [mp_]); first | done | rfl | (simp only [List.length_drop, List.length_take]; rfl)) ?_
       with_reducible refine (impl_KeyOf.calls k1 _ _ ((rd_T44 l0 x11_1).f0) ((rd_T44 l0 x11_1).f1) ((rd_T44 l0 x11_1).f2) ((rd_T44 l0 x11_1).f3) _ _ l2 t730 _ ?side1 ?side2 ?side3 ?side4 A9.out).mono ?_
       (case side1 => repeat (first | exact (Kd.C_below HR727_0.out HB.out) | (with_reducible first | refine ca_ ?_ _ | refine cn_ ?_ _ | refine cd_ ?_)))
       (case side2 => exact HC727_0.out)
       (case side3 => repeat (first | exact (Kd.C_below HR2.out HB.out) | (with_reducible first | refine ca_ ?_ _ | refine cn_ ?_ _ | refine cd_ ?_)))
       (case side4 => exact HC2.out)
       rintro e w44 ⟨v731, rfl, ho0, hb⟩
       refine ⟨_, rfl, ?_⟩
       have n0_ := Aside0.mk (Kd.R_lower ho0 (below_size (by repeat (first | (with_reducible first | exact HB.out | apply ba_ | apply bn_ | apply bd_ | refine below_set ?_ GE728.out) | exact HB.out))))
       have n1_ := Aside0.mk (blk_below (g := gb728) (o := .cells #[.slice A727_0 ((rd_T44 l0 x11_1).f0).length c727_0, .int .i64 ((rd_T44 l0 x11_1).f1), .int .i64 ((rd_T44 l0 x11_1).f2), .string ((rd_T44 l0 x11_1).f3)] 44 (0, 0)) (by (with_reducible repeat (first | refine kn_ ?_ _ | refine kd_ ?_ | refine ka_ ?_ _)); exact BK728.out) hb)
       have n2_ := Aside0.mk (below_step (by repeat (first | (with_reducible first | exact HB.out | apply ba_ | apply bn_ | apply bd_ | refine below_set ?_ GE728.out) | exact HB.out)) hb)
       clear BK728
       clear HB
       have HO732 := n0_
       have BK728 := n1_
       have HB := n2_
       clear n0_ n1_ n2_
       (try clear hb)
       (try clear hb2)
       (try clear hk)
       (try clear hi)
       (try clear ho0)
       obtain ⟨Ao45, co45, eo45⟩ := Kd.R_slice HO732.out
       (first | subst eo45 | (injection eo45 with f1_ f2_ f3_; have f4_ := f1_.symm; have f5_ := f3_.symm; clear f1_ f2_ f3_; subst f4_; subst f5_))
       refine hK.out _ _ ⟨(blk_cell BK728.out 0).trans rfl, (blk_cell BK728.out 1).trans rfl, (blk_cell BK728.out 2).trans rfl, (blk_cell BK728.out 3).trans rfl⟩ (fun hHeld => ?_)
       clear hK K
       refine norm_ (a' := ?_) ?_ ?_
       rotate_left
       ·
        show Act.put _ (some 22) _ = _
        simp only [fr_]
        rfl
       refine one_ (i := 8) (N := some 24) #[t_,t_,t_,t_,t_,t_,t_,t_,t_,f_,f_,f_,f_,f_,f_,f_,f_,f_,f_,f_,f_,f_,f_,f_,f_,f_,f_] rfl rfl (one_of HT_.out (by kernel_rfl)) (by decide) (fun K hK => ?_)
       refine goes_ Try.func139 (by kernel_rfl) rfl #[.slice Ao45 t730.length co45, .slice A1 l1.length c1] (by rfl) rfl rfl (by (try simp only [mp_]); first | done | rfl | (simp only [List.length_drop, List.length_take]; rfl)) ?_
       with_reducible refine (impl_SameSet.calls k1 _ _ t730 _ _ l1 false _ ?side1 ?side2 ?side3 ?side4 A10.out).mono ?_
       (case side1 => repeat (first | exact (Kd.R_reads' HO732.out).2.2 | (with_reducible first | refine ca_ ?_ _ | refine cn_ ?_ _ | refine cd_ ?_)))
       (case side2 => exact (Kd.R_reads' HO732.out).2.1)
       (case side3 => repeat (first | exact (Kd.C_below HR1.out HB.out) | (with_reducible first | refine ca_ ?_ _ | refine cn_ ?_ _ | refine cd_ ?_)))
       (case side4 => exact HC1.out)
       rintro e w' ⟨rfl, ⟨nd, rfl⟩⟩
       refine ⟨_, rfl, ?_⟩
       refine hK.out _ _ ⟨(blk_cell BK728.out 0).trans rfl, (blk_cell BK728.out 1).trans rfl, (blk_cell BK728.out 2).trans rfl, (blk_cell BK728.out 3).trans rfl⟩ (fun hHeld => ?_)
       clear hK K
       refine norm_ (a' := ?_) ?_ ?_
       rotate_left
       ·
        show Act.put _ (some 24) _ = _
        simp only [fr_]
        rfl
       refine pu_ 9 25 ?_ (b_ 10 17) rfl rfl HT_.out ?_ ?_ ?_ ?_; rotate_left; intro w'; go_simp; with_reducible rfl; rotate_left; simp only [fr_]; rfl
       refine pu_ 10 26 ?_ (b_ 11 16) rfl rfl HT_.out ?_ ?_ ?_ ?_; rotate_left; intro w'; go_simp; with_reducible rfl; rotate_left; simp only [fr_]; rfl
       refine pu_ 11 27 ?_ (b_ 12 15) rfl rfl HT_.out ?_ ?_ ?_ ?_; rotate_left; intro w'; go_simp; with_reducible rfl; rotate_left; simp only [fr_]; rfl
       refine pv_ 12 28 ?_ (b_ 13 14) rfl rfl HT_.out ?_ ?_; rotate_left; simp only [fr_]; rfl
       refine pv_ 13 29 ?_ (b_ 14 13) rfl rfl HT_.out ?_ ?_; rotate_left; simp only [fr_]; rfl
       refine pv_ 14 30 ?_ (b_ 15 12) rfl rfl HT_.out ?_ ?_; rotate_left; simp only [fr_]; rfl
       refine pv_ 15 31 ?_ (b_ 16 11) rfl rfl HT_.out ?_ ?_; rotate_left; simp only [fr_]; rfl
       refine pv_ 16 32 ?_ (b_ 17 10) rfl rfl HT_.out ?_ ?_; rotate_left; simp only [fr_]; rfl
       refine pv_ 17 33 ?_ (b_ 18 9) rfl rfl HT_.out ?_ ?_; rotate_left; simp only [fr_]; rfl
       refine pv_ 18 34 ?_ (b_ 19 8) rfl rfl HT_.out ?_ ?_; rotate_left; simp only [fr_]; rfl
       refine pv_ 19 35 ?_ (b_ 20 7) rfl rfl HT_.out ?_ ?_; rotate_left; simp only [fr_]; rfl
       refine pv_ 20 36 ?_ (b_ 21 6) rfl rfl HT_.out ?_ ?_; rotate_left; simp only [fr_]; rfl
       refine pv_ 21 37 ?_ (b_ 22 5) rfl rfl HT_.out ?_ ?_; rotate_left; simp only [fr_]; rfl
       refine pv_ 22 38 ?_ (b_ 23 4) rfl rfl HT_.out ?_ ?_; rotate_left; simp only [fr_]; rfl
       refine pv_ 23 39 ?_ (b_ 24 3) rfl rfl HT_.out ?_ ?_; rotate_left; simp only [fr_]; rfl
       refine pv_ 24 40 ?_ (b_ 25 2) rfl rfl HT_.out ?_ ?_; rotate_left; simp only [fr_]; rfl
       refine pv_ 25 41 ?_ (b_ 26 1) rfl rfl HT_.out ?_ ?_; rotate_left; simp only [fr_]; rfl
       refine pu_ 26 42 ?_ (b_ 27 0) rfl rfl HT_.out ?_ ?_ ?_ ?_; rotate_left; intro w'; go_simp; with_reducible rfl; rotate_left; simp only [fr_]; rfl
       refine done_ (done_of HT_.out (by kernel_rfl)) ?_
       try go_wp2
       go_ret
       exact ⟨by first | rfl | (simp [errW_none, errW_some] <;> rfl) | (simp [*, errW_none, errW_some] <;> rfl), by repeat (first | (with_reducible first | exact HB.out | apply ba_ | apply bn_ | apply bd_ | refine below_set ?_ GE728.out) | exact HB.out)⟩
      replace c8 := Bool.eq_false_iff.mpr c8
      subst c8
      rw [if_neg (show ¬ (false = true) by decide)] at H
      obtain rfl := Option.some.inj H
      have p727 : 0 ≤ (x11_1 : Int) := of_decide_eq_true (by with_reducible assumption)
      have q727 : x11_1 < (l0.length : Int) := of_decide_eq_true (by with_reducible assumption)
      obtain ⟨ad727, A727_0, c727_0, e727, hx727_0, hx727_1, hx727_2, hx727_3, hl727_0, hi727_0⟩ := at_T44 HR0.out x11_1 p727 q727
      cases e727
      replace hx727_0 := cl_ HB.out hx727_0
      replace hx727_1 := cl_ HB.out hx727_1
      replace hx727_2 := cl_ HB.out hx727_2
      replace hx727_3 := cl_ HB.out hx727_3
      have HR727_0 := Aside0.mk hi727_0
      have HC727_0 := Aside0.mk hl727_0
      clear hi727_0 hl727_0
      replace p727 := eq_true p727
      replace q727 := eq_true q727
      try go_wp2_with (first | ((with_reducible refine gate_dst (N := 8) rfl ?_); refine box_event ?hg (N := 8) ?hd (cs := #[.slice none 0 0, .int .i64 0, .int .i64 0, .string (⟨#[]⟩ : ByteArray)]) (t := 44) ?hr ?_; (case hd => rfl); (case hg => rfl); (case hr => first | (go_simp; done) | (go_simp; rfl)); intro gb728 hg w46 hbox hb; have n0_ := Aside0.mk (below_step (by repeat (first | (with_reducible first | exact HB.out | apply ba_ | apply bn_ | apply bd_) | exact HB.out)) hb); have BK728 := Aside0.mk (hbox); have GW728 := Aside0.mk ((by rw [hg]; exact (below_size (by repeat (first | (with_reducible first | exact HB.out | apply ba_ | apply bn_ | apply bd_) | exact HB.out))) : w.heap.size ≤ gb728)); have GE728 := GW728; clear HB; have HB := n0_; clear n0_; clear hb hbox hg; have hcz47_0 : w46.cell? ⟨gb728, 0, none⟩ = some (.slice none 0 0) := (blk_cell BK728.out 0).trans rfl; have hcz47_1 : w46.cell? ⟨gb728, 1, none⟩ = some (.int .i64 0) := (blk_cell BK728.out 1).trans rfl; have hcz47_2 : w46.cell? ⟨gb728, 2, none⟩ = some (.int .i64 0) := (blk_cell BK728.out 2).trans rfl; have hcz47_3 : w46.cell? ⟨gb728, 3, none⟩ = some (.string (⟨#[]⟩ : ByteArray)) := (blk_cell BK728.out 3).trans rfl; have hfz47_0 := blk_frozen BK728.out 0; have hfz47_1 := blk_frozen BK728.out 1; have hfz47_2 := blk_frozen BK728.out 2; have hfz47_3 := blk_frozen BK728.out 3))
      have n0_ : Aside0 (((((w46.setCell ⟨gb728, 0, none⟩ (.slice A727_0 ((rd_T44 l0 x11_1).f0).length c727_0)).setCell ⟨gb728, 1, none⟩ (.int .i64 ((rd_T44 l0 x11_1).f1))).setCell ⟨gb728, 2, none⟩ (.int .i64 ((rd_T44 l0 x11_1).f2))).setCell ⟨gb728, 3, none⟩ (.string ((rd_T44 l0 x11_1).f3))).heap[gb728]? = some (.cells #[.slice A727_0 ((rd_T44 l0 x11_1).f0).length c727_0, .int .i64 ((rd_T44 l0 x11_1).f1), .int .i64 ((rd_T44 l0 x11_1).f2), .string ((rd_T44 l0 x11_1).f3)] 44 (0, 0))) := ⟨by (with_reducible repeat (first | refine kn_ ?_ _ | refine kd_ ?_ | refine ka_ ?_ _)); refine blk_put (cs := #[.slice A727_0 ((rd_T44 l0 x11_1).f0).length c727_0, .int .i64 ((rd_T44 l0 x11_1).f1), .int .i64 ((rd_T44 l0 x11_1).f2), .string (⟨#[]⟩ : ByteArray)]) ?_ 3 _ rfl; (with_reducible repeat (first | refine kn_ ?_ _ | refine kd_ ?_ | refine ka_ ?_ _)); refine blk_put (cs := #[.slice A727_0 ((rd_T44 l0 x11_1).f0).length c727_0, .int .i64 ((rd_T44 l0 x11_1).f1), .int .i64 0, .string (⟨#[]⟩ : ByteArray)]) ?_ 2 _ rfl; (with_reducible repeat (first | refine kn_ ?_ _ | refine kd_ ?_ | refine ka_ ?_ _)); refine blk_put (cs := #[.slice A727_0 ((rd_T44 l0 x11_1).f0).length c727_0, .int .i64 0, .int .i64 0, .string (⟨#[]⟩ : ByteArray)]) ?_ 1 _ rfl; (with_reducible repeat (first | refine kn_ ?_ _ | refine kd_ ?_ | refine ka_ ?_ _)); refine blk_put (cs := #[.slice none 0 0, .int .i64 0, .int .i64 0, .string (⟨#[]⟩ : ByteArray)]) ?_ 0 _ rfl; (with_reducible repeat (first | refine kn_ ?_ _ | refine kd_ ?_ | refine ka_ ?_ _)); exact BK728.out⟩
      have n1_ : Aside0 (Below w.heap.size w ((((w46.setCell ⟨gb728, 0, none⟩ (.slice A727_0 ((rd_T44 l0 x11_1).f0).length c727_0)).setCell ⟨gb728, 1, none⟩ (.int .i64 ((rd_T44 l0 x11_1).f1))).setCell ⟨gb728, 2, none⟩ (.int .i64 ((rd_T44 l0 x11_1).f2))).setCell ⟨gb728, 3, none⟩ (.string ((rd_T44 l0 x11_1).f3)))) := ⟨by repeat (first | (with_reducible first | exact HB.out | apply ba_ | apply bn_ | apply bd_ | refine below_set ?_ GE728.out) | exact HB.out)⟩
      (try clear BK728)
      (try clear HB)
      generalize ((((w46.setCell ⟨gb728, 0, none⟩ (.slice A727_0 ((rd_T44 l0 x11_1).f0).length c727_0)).setCell ⟨gb728, 1, none⟩ (.int .i64 ((rd_T44 l0 x11_1).f1))).setCell ⟨gb728, 2, none⟩ (.int .i64 ((rd_T44 l0 x11_1).f2))).setCell ⟨gb728, 3, none⟩ (.string ((rd_T44 l0 x11_1).f3))) = w48 at n0_ n1_ ⊢
      have BK728 := n0_
      have HB := n1_
      clear n0_ n1_
      have n0_ := Aside0.mk (blk_drew BK728.out)
      have n1_ := Aside0.mk (bd_ HB.out)
      clear BK728
      clear HB
      have BK728 := n0_
      have HB := n1_
      clear n0_ n1_
      refine start_ (n := 27) (S := fun w' => w'.cell? ⟨gb728, 0, none⟩ = some (.slice A727_0 ((rd_T44 l0 x11_1).f0).length c727_0) ∧ w'.cell? ⟨gb728, 1, none⟩ = some (.int .i64 ((rd_T44 l0 x11_1).f1)) ∧ w'.cell? ⟨gb728, 2, none⟩ = some (.int .i64 ((rd_T44 l0 x11_1).f2)) ∧ w'.cell? ⟨gb728, 3, none⟩ = some (.string ((rd_T44 l0 x11_1).f3))) (ds := []) #[f_,f_,f_,f_,f_,f_,f_,f_,f_,f_,f_,f_,f_,f_,f_,f_,f_,f_,f_,f_,f_,f_,f_,f_,f_,f_,f_] (by kernel_rfl) rfl rfl ⟨(blk_cell BK728.out 0).trans rfl, (blk_cell BK728.out 1).trans rfl, (blk_cell BK728.out 2).trans rfl, (blk_cell BK728.out 3).trans rfl⟩ (fun hHeld => ?_); refine with_tabW impl_keyedOk.tab4 impl_keyedOk.bits4 (fun HT_ HW_ => ?_)
      generalize w48.drew = w49 at BK728 HB hHeld ⊢
      refine take_ (i := 0) (N := some 16) (v := ?_) (a' := ?_) #[t_,f_,f_,f_,f_,f_,f_,f_,f_,f_,f_,f_,f_,f_,f_,f_,f_,f_,f_,f_,f_,f_,f_,f_,f_,f_,f_] rfl rfl (take_ofW HT_.out HW_.out (by kernel_rfl)) (fun _ _ _ h => h) (Or.inl ⟨by rfl, ?_⟩) hHeld ?_ ?_
      rotate_left
      ·
       rintro w' ⟨s0, s1, s2, s3⟩
       go_simp
       with_reducible rfl
      rotate_left
      ·
       simp only [fr_]
       rfl
      refine one_ (i := 1) (N := some 17) #[t_,t_,f_,f_,f_,f_,f_,f_,f_,f_,f_,f_,f_,f_,f_,f_,f_,f_,f_,f_,f_,f_,f_,f_,f_,f_,f_] rfl rfl (one_of HT_.out (by kernel_rfl)) (by decide) (fun K hK => ?_)
      refine goes_ Try.func124 (by kernel_rfl) rfl #[.agg #[.slice A727_0 ((rd_T44 l0 x11_1).f0).length c727_0, .int .i64 ((rd_T44 l0 x11_1).f1), .int .i64 ((rd_T44 l0 x11_1).f2), .string ((rd_T44 l0 x11_1).f3)]] (by rfl) rfl rfl (by (try simp only [mp_]); first | done | rfl | (simp only [List.length_drop, List.length_take]; rfl)) ?_
      with_reducible refine (impl_AlarmOk.calls k1 _ _ ((rd_T44 l0 x11_1).f0) ((rd_T44 l0 x11_1).f1) ((rd_T44 l0 x11_1).f2) ((rd_T44 l0 x11_1).f3) false _ ?side1 ?side2 A7.out).mono ?_
      (case side1 => repeat (first | exact (Kd.C_below HR727_0.out HB.out) | (with_reducible first | refine ca_ ?_ _ | refine cn_ ?_ _ | refine cd_ ?_)))
      (case side2 => exact HC727_0.out)
      rintro e w50 ⟨rfl, hb⟩
      refine ⟨_, rfl, ?_⟩
      have n0_ := Aside0.mk (blk_below (g := gb728) (o := .cells #[.slice A727_0 ((rd_T44 l0 x11_1).f0).length c727_0, .int .i64 ((rd_T44 l0 x11_1).f1), .int .i64 ((rd_T44 l0 x11_1).f2), .string ((rd_T44 l0 x11_1).f3)] 44 (0, 0)) (by (with_reducible repeat (first | refine kn_ ?_ _ | refine kd_ ?_ | refine ka_ ?_ _)); exact BK728.out) hb)
      have n1_ := Aside0.mk (below_step (by repeat (first | (with_reducible first | exact HB.out | apply ba_ | apply bn_ | apply bd_ | refine below_set ?_ GE728.out) | exact HB.out)) hb)
      clear BK728
      clear HB
      have BK728 := n0_
      have HB := n1_
      clear n0_ n1_
      (try clear hb)
      (try clear hb2)
      (try clear hk)
      (try clear hi)
      refine hK.out _ _ ⟨(blk_cell BK728.out 0).trans rfl, (blk_cell BK728.out 1).trans rfl, (blk_cell BK728.out 2).trans rfl, (blk_cell BK728.out 3).trans rfl⟩ (fun hHeld => ?_)
      clear hK K
      refine norm_ (a' := ?_) ?_ ?_
      rotate_left
      ·
       show Act.put _ (some 17) _ = _
       simp only [fr_]
       rfl
      refine pu_ 2 18 ?_ (b_ 3 24) rfl rfl HT_.out ?_ ?_ ?_ ?_; rotate_left; intro w'; go_simp; with_reducible rfl; rotate_left; simp only [fr_]; rfl
      refine pu_ 3 19 ?_ (b_ 4 23) rfl rfl HT_.out ?_ ?_ ?_ ?_; rotate_left; intro w'; go_simp; with_reducible rfl; rotate_left; simp only [fr_]; rfl
      refine pv_ 4 20 ?_ (b_ 5 22) rfl rfl HT_.out ?_ ?_; rotate_left; simp only [fr_]; rfl
      refine pv_ 5 21 ?_ (b_ 6 21) rfl rfl HT_.out ?_ ?_; rotate_left; simp only [fr_]; rfl
      refine pv_ 6 22 ?_ (b_ 7 20) rfl rfl HT_.out ?_ ?_; rotate_left; simp only [fr_]; rfl
      refine pv_ 7 23 ?_ (b_ 8 19) rfl rfl HT_.out ?_ ?_; rotate_left; simp only [fr_]; rfl
      refine pv_ 8 24 ?_ (b_ 9 18) rfl rfl HT_.out ?_ ?_; rotate_left; simp only [fr_]; rfl
      refine pv_ 9 25 ?_ (b_ 10 17) rfl rfl HT_.out ?_ ?_; rotate_left; simp only [fr_]; rfl
      refine pu_ 10 26 ?_ (b_ 11 16) rfl rfl HT_.out ?_ ?_ ?_ ?_; rotate_left; intro w'; go_simp; with_reducible rfl; rotate_left; simp only [fr_]; rfl
      refine pu_ 11 27 ?_ (b_ 12 15) rfl rfl HT_.out ?_ ?_ ?_ ?_; rotate_left; intro w'; go_simp; with_reducible rfl; rotate_left; simp only [fr_]; rfl
      refine pv_ 12 28 ?_ (b_ 13 14) rfl rfl HT_.out ?_ ?_; rotate_left; simp only [fr_]; rfl
      refine pv_ 13 29 ?_ (b_ 14 13) rfl rfl HT_.out ?_ ?_; rotate_left; simp only [fr_]; rfl
      refine pv_ 14 30 ?_ (b_ 15 12) rfl rfl HT_.out ?_ ?_; rotate_left; simp only [fr_]; rfl
      refine pv_ 15 31 ?_ (b_ 16 11) rfl rfl HT_.out ?_ ?_; rotate_left; simp only [fr_]; rfl
      refine pv_ 16 32 ?_ (b_ 17 10) rfl rfl HT_.out ?_ ?_; rotate_left; simp only [fr_]; rfl
      refine pv_ 17 33 ?_ (b_ 18 9) rfl rfl HT_.out ?_ ?_; rotate_left; simp only [fr_]; rfl
      refine pv_ 18 34 ?_ (b_ 19 8) rfl rfl HT_.out ?_ ?_; rotate_left; simp only [fr_]; rfl
      refine pv_ 19 35 ?_ (b_ 20 7) rfl rfl HT_.out ?_ ?_; rotate_left; simp only [fr_]; rfl
      refine pv_ 20 36 ?_ (b_ 21 6) rfl rfl HT_.out ?_ ?_; rotate_left; simp only [fr_]; rfl
      refine pv_ 21 37 ?_ (b_ 22 5) rfl rfl HT_.out ?_ ?_; rotate_left; simp only [fr_]; rfl
      refine pv_ 22 38 ?_ (b_ 23 4) rfl rfl HT_.out ?_ ?_; rotate_left; simp only [fr_]; rfl
      refine pv_ 23 39 ?_ (b_ 24 3) rfl rfl HT_.out ?_ ?_; rotate_left; simp only [fr_]; rfl
      refine pv_ 24 40 ?_ (b_ 25 2) rfl rfl HT_.out ?_ ?_; rotate_left; simp only [fr_]; rfl
      refine pv_ 25 41 ?_ (b_ 26 1) rfl rfl HT_.out ?_ ?_; rotate_left; simp only [fr_]; rfl
      refine pu_ 26 42 ?_ (b_ 27 0) rfl rfl HT_.out ?_ ?_ ?_ ?_; rotate_left; intro w'; go_simp; with_reducible rfl; rotate_left; simp only [fr_]; rfl
      refine done_ (done_of HT_.out (by kernel_rfl)) ?_
      try go_wp2
      go_ret
      exact ⟨by first | rfl | (simp [errW_none, errW_some] <;> rfl) | (simp [*, errW_none, errW_some] <;> rfl), by repeat (first | (with_reducible first | exact HB.out | apply ba_ | apply bn_ | apply bd_ | refine below_set ?_ GE728.out) | exact HB.out)⟩
     rw [if_neg c6] at H
     exact absurd H (by simp)
    rw [if_neg c5] at H
    exact absurd H (by simp)
   rw [if_neg c4] at H
   have c4b0 : decide (x11_1 < (l0.length : Int)) = false := decide_eq_false c4
   clear c4
   obtain rfl := Option.some.inj H
   go_wp2
   go_ret
   exact ⟨by first | rfl | (simp [errW_none, errW_some] <;> rfl) | (simp [*, errW_none, errW_some] <;> rfl), by repeat (first | (with_reducible first | exact HB.out | apply ba_ | apply bn_ | apply bd_) | exact HB.out)⟩
def impl_GroupOk.f (k : Nat) (a0_0 : Int) (l0_1 : List (S164)) (a0_2 : Int) (a0_3 : Int) (l0_4 : List (S44)) (l1 : List ByteArray) : Option (Bool) := if a0_0 < 0 then (some false) else ((impl_SetOk.f k l0_1).bind fun t737 => (if t737 = true then ((impl_in.f a0_2 0 99999).bind fun t738 => (if t738 = true then (if a0_3 = (-1) then (if (l0_4.length : Int) > 0 then ((impl_keyedOk.f k l0_4 l0_1 l1).bind fun t739 => (some t739)) else (some false)) else ((impl_in.f a0_3 a0_2 99999).bind fun t740 => (if t740 = true then (if (l0_4.length : Int) > 0 then ((impl_keyedOk.f k l0_4 l0_1 l1).bind fun t741 => (some t741)) else (some false)) else (some false)))) else (some false))) else (some false)))
theorem impl_GroupOk.mono : ∀ a0 a1 a2 a3 a4 a5 k, LeO (impl_GroupOk.f k a0 a1 a2 a3 a4 a5) (impl_GroupOk.f (k + 1) a0 a1 a2 a3 a4 a5) := by
 intro a0 a1 a2 a3 a4 a5 k
 unfold impl_GroupOk.f
 repeat' first
   | (with_reducible exact impl_SetOk.mono _ _)
   | (with_reducible exact impl_keyedOk.mono _ _ _ _)
   | (with_reducible exact LeO.refl _)
   | (with_reducible exact LeO.none _)
   | (with_reducible refine LeO.ite ?_ ?_)
   | (with_reducible refine LeO.bind ?_ (fun _ => ?_))
   | exact impl_SetOk.mono _ _
   | exact impl_keyedOk.mono _ _ _ _
theorem impl_GroupOk.calls (k : Nat) (a0_0 : Int) (A0_1 : Option Addr) (c0_1 : Nat) (l0_1 : List (S164)) (a0_2 : Int) (a0_3 : Int) (A0_4 : Option Addr) (c0_4 : Nat) (l0_4 : List (S44)) (A1 : Option Addr) (c1 : Nat) (l1 : List ByteArray) (r : Bool) (w : World) (hr0_1 : Kd.C k164 w A0_1 l0_1.length l0_1) (hc0_1 : l0_1.length ≤ c0_1) (hr0_4 : Kd.C k44 w A0_4 l0_4.length l0_4) (hc0_4 : l0_4.length ≤ c0_4) (hr1 : Kd.C Kd.string w A1 l1.length l1) (hc1 : l1.length ≤ c1) (h : impl_GroupOk.f k a0_0 l0_1 a0_2 a0_3 l0_4 l1 = some r) :
  Calls Try.prog 53 #[.agg #[.int .i64 a0_0, .slice A0_1 l0_1.length c0_1, .int .i64 a0_2, .int .i64 a0_3, .slice A0_4 l0_4.length c0_4], .slice A1 l1.length c1] w fun e w' => e = .returned (.bool r) ∧ Below w.heap.size w w' := by
 have hu75 := Try.underlying75
 have HR0_1 := Aside0.mk hr0_1
 have HC0_1 := Aside0.mk hc0_1
 clear hr0_1 hc0_1
 have HR0_4 := Aside0.mk hr0_4
 have HC0_4 := Aside0.mk hc0_4
 clear hr0_4 hc0_4
 have HR1 := Aside0.mk hr1
 have HC1 := Aside0.mk hc1
 clear hr1 hc1
 have HB := Aside0.mk (Below.refl w.heap.size w)
 have H : (if a0_0 < 0 then (some false) else ((impl_SetOk.f k l0_1).bind fun t737 => (if t737 = true then ((impl_in.f a0_2 0 99999).bind fun t738 => (if t738 = true then (if a0_3 = (-1) then (if (l0_4.length : Int) > 0 then ((impl_keyedOk.f k l0_4 l0_1 l1).bind fun t739 => (some t739)) else (some false)) else ((impl_in.f a0_3 a0_2 99999).bind fun t740 => (if t740 = true then (if (l0_4.length : Int) > 0 then ((impl_keyedOk.f k l0_4 l0_1 l1).bind fun t741 => (some t741)) else (some false)) else (some false)))) else (some false))) else (some false)))) = some r := h
 clear h
 by_cases c3 : a0_0 < 0
 ·
  rw [if_pos c3] at H
  have c3b0 := decide_eq_true c3
  clear c3
  obtain rfl := Option.some.inj H
  go_enter Try.func53, Try.ntmps53
  go_wp2_with (first | ((with_reducible refine gate_dst (N := 2) rfl ?_); refine box_event ?hg (N := 2) ?hd (cs := #[.int .i64 a0_0, .slice A0_1 l0_1.length c0_1, .int .i64 a0_2, .int .i64 a0_3, .slice A0_4 l0_4.length c0_4]) (t := 75) ?hr ?_; (case hd => rfl); (case hg => rfl); (case hr => first | (go_simp; done) | (go_simp; rfl)); intro gb736 hg w4 hbox hb; have n0_ := Aside0.mk (below_step (by repeat (first | (with_reducible first | exact HB.out | apply ba_ | apply bn_ | apply bd_) | exact HB.out)) hb); have BK736 := Aside0.mk (hbox); have GW736 := Aside0.mk ((by rw [hg]; exact (below_size (by repeat (first | (with_reducible first | exact HB.out | apply ba_ | apply bn_ | apply bd_) | exact HB.out))) : w.heap.size ≤ gb736)); have GE736 := GW736; clear HB; have HB := n0_; clear n0_; clear hb hbox hg; have hcz5_0 : w4.cell? ⟨gb736, 0, none⟩ = some (.int .i64 a0_0) := (blk_cell BK736.out 0).trans rfl; have hcz5_1 : w4.cell? ⟨gb736, 1, none⟩ = some (.slice A0_1 l0_1.length c0_1) := (blk_cell BK736.out 1).trans rfl; have hcz5_2 : w4.cell? ⟨gb736, 2, none⟩ = some (.int .i64 a0_2) := (blk_cell BK736.out 2).trans rfl; have hcz5_3 : w4.cell? ⟨gb736, 3, none⟩ = some (.int .i64 a0_3) := (blk_cell BK736.out 3).trans rfl; have hcz5_4 : w4.cell? ⟨gb736, 4, none⟩ = some (.slice A0_4 l0_4.length c0_4) := (blk_cell BK736.out 4).trans rfl; have hfz5_0 := blk_frozen BK736.out 0; have hfz5_1 := blk_frozen BK736.out 1; have hfz5_2 := blk_frozen BK736.out 2; have hfz5_3 := blk_frozen BK736.out 3; have hfz5_4 := blk_frozen BK736.out 4))
  go_ret
  exact ⟨by first | rfl | (simp [errW_none, errW_some] <;> rfl) | (simp [*, errW_none, errW_some] <;> rfl), by repeat (first | (with_reducible first | exact HB.out | apply ba_ | apply bn_ | apply bd_ | refine below_set ?_ GE736.out) | exact HB.out)⟩
 rw [if_neg c3] at H
 have c3b0 : decide (a0_0 < 0) = false := decide_eq_false c3
 clear c3
 replace H := Option.bind_eq_some_iff.mp H
 obtain ⟨t737, A60, H⟩ := H
 have A6 := Aside0.mk A60
 clear A60
 by_cases c7 : t737 = true
 ·
  subst c7
  rw [if_pos rfl] at H
  replace H := Option.bind_eq_some_iff.mp H
  obtain ⟨t738, A80, H⟩ := H
  have A8 := Aside0.mk A80
  clear A80
  by_cases c9 : t738 = true
  ·
   subst c9
   rw [if_pos rfl] at H
   by_cases c10 : a0_3 = (-1)
   ·
    rw [if_pos c10] at H
    have c10b0 : (a0_3 == (-1)) = true := beq_iff_eq.mpr c10
    have c10b1 : (a0_3 != (-1)) = false := bne_eq_false_iff_eq.mpr c10
    clear c10
    by_cases c11 : (l0_4.length : Int) > 0
    ·
     rw [if_pos c11] at H
     have c11b0 : decide (0 < (l0_4.length : Int)) = true := decide_eq_true c11
     have c11b1 : decide (0 < l0_4.length) = true := decide_eq_true (by omega)
     clear c11
     replace H := Option.bind_eq_some_iff.mp H
     obtain ⟨t739, A120, H⟩ := H
     have A12 := Aside0.mk A120
     clear A120
     obtain rfl := Option.some.inj H
     go_enter Try.func53, Try.ntmps53
     go_wp2_with (first | ((with_reducible refine gate_dst (N := 2) rfl ?_); refine box_event ?hg (N := 2) ?hd (cs := #[.int .i64 a0_0, .slice A0_1 l0_1.length c0_1, .int .i64 a0_2, .int .i64 a0_3, .slice A0_4 l0_4.length c0_4]) (t := 75) ?hr ?_; (case hd => rfl); (case hg => rfl); (case hr => first | (go_simp; done) | (go_simp; rfl)); intro gb736 hg w13 hbox hb; have n0_ := Aside0.mk (below_step (by repeat (first | (with_reducible first | exact HB.out | apply ba_ | apply bn_ | apply bd_) | exact HB.out)) hb); have BK736 := Aside0.mk (hbox); have GW736 := Aside0.mk ((by rw [hg]; exact (below_size (by repeat (first | (with_reducible first | exact HB.out | apply ba_ | apply bn_ | apply bd_) | exact HB.out))) : w.heap.size ≤ gb736)); have GE736 := GW736; clear HB; have HB := n0_; clear n0_; clear hb hbox hg; have hcz14_0 : w13.cell? ⟨gb736, 0, none⟩ = some (.int .i64 a0_0) := (blk_cell BK736.out 0).trans rfl; have hcz14_1 : w13.cell? ⟨gb736, 1, none⟩ = some (.slice A0_1 l0_1.length c0_1) := (blk_cell BK736.out 1).trans rfl; have hcz14_2 : w13.cell? ⟨gb736, 2, none⟩ = some (.int .i64 a0_2) := (blk_cell BK736.out 2).trans rfl; have hcz14_3 : w13.cell? ⟨gb736, 3, none⟩ = some (.int .i64 a0_3) := (blk_cell BK736.out 3).trans rfl; have hcz14_4 : w13.cell? ⟨gb736, 4, none⟩ = some (.slice A0_4 l0_4.length c0_4) := (blk_cell BK736.out 4).trans rfl; have hfz14_0 := blk_frozen BK736.out 0; have hfz14_1 := blk_frozen BK736.out 1; have hfz14_2 := blk_frozen BK736.out 2; have hfz14_3 := blk_frozen BK736.out 3; have hfz14_4 := blk_frozen BK736.out 4) | (go_at_call 110; (with_reducible refine (impl_SetOk.calls k _ _ l0_1 true _ ?side1 ?side2 A6.out).mono ?_); (case side1 => repeat (first | exact (Kd.C_below HR0_1.out HB.out) | (with_reducible first | refine ca_ ?_ _ | refine cn_ ?_ _ | refine cd_ ?_))); (case side2 => exact HC0_1.out); rintro e w15 ⟨rfl, hb⟩; have n0_ := Aside0.mk (blk_below (g := gb736) (o := .cells #[.int .i64 a0_0, .slice A0_1 l0_1.length c0_1, .int .i64 a0_2, .int .i64 a0_3, .slice A0_4 l0_4.length c0_4] 75 (0, 0)) (by (with_reducible repeat (first | refine kn_ ?_ _ | refine kd_ ?_ | refine ka_ ?_ _)); exact BK736.out) hb); have n1_ := Aside0.mk (below_step (by repeat (first | (with_reducible first | exact HB.out | apply ba_ | apply bn_ | apply bd_ | refine below_set ?_ GE736.out) | exact HB.out)) hb); clear BK736; clear HB; have BK736 := n0_; have HB := n1_; clear n0_ n1_; (try clear hb); (try clear hb2); (try clear hk); (try clear hi); have hcz16_0 : w15.cell? ⟨gb736, 0, none⟩ = some (.int .i64 a0_0) := (blk_cell BK736.out 0).trans rfl; have hcz16_1 : w15.cell? ⟨gb736, 1, none⟩ = some (.slice A0_1 l0_1.length c0_1) := (blk_cell BK736.out 1).trans rfl; have hcz16_2 : w15.cell? ⟨gb736, 2, none⟩ = some (.int .i64 a0_2) := (blk_cell BK736.out 2).trans rfl; have hcz16_3 : w15.cell? ⟨gb736, 3, none⟩ = some (.int .i64 a0_3) := (blk_cell BK736.out 3).trans rfl; have hcz16_4 : w15.cell? ⟨gb736, 4, none⟩ = some (.slice A0_4 l0_4.length c0_4) := (blk_cell BK736.out 4).trans rfl; have hfz16_0 := blk_frozen BK736.out 0; have hfz16_1 := blk_frozen BK736.out 1; have hfz16_2 := blk_frozen BK736.out 2; have hfz16_3 := blk_frozen BK736.out 3; have hfz16_4 := blk_frozen BK736.out 4) | (go_at_call 111; (with_reducible refine (impl_in.calls a0_2 0 99999 true _ A8.out).mono ?_); rintro e w' ⟨rfl, ⟨nd, rfl⟩⟩) | (go_at_call 112; (with_reducible refine (impl_keyedOk.calls k _ _ l0_4 _ _ l0_1 _ _ l1 t739 _ ?side1 ?side2 ?side3 ?side4 ?side5 ?side6 A12.out).mono ?_); (case side1 => repeat (first | exact (Kd.C_below HR0_4.out (by repeat (first | (with_reducible first | exact HB.out | apply ba_ | apply bn_ | apply bd_ | refine below_set ?_ GE736.out) | exact HB.out))) | (with_reducible first | refine ca_ ?_ _ | refine cn_ ?_ _ | refine cd_ ?_))); (case side2 => exact HC0_4.out); (case side3 => repeat (first | exact (Kd.C_below HR0_1.out (by repeat (first | (with_reducible first | exact HB.out | apply ba_ | apply bn_ | apply bd_ | refine below_set ?_ GE736.out) | exact HB.out))) | (with_reducible first | refine ca_ ?_ _ | refine cn_ ?_ _ | refine cd_ ?_))); (case side4 => exact HC0_1.out); (case side5 => repeat (first | exact (Kd.C_below HR1.out (by repeat (first | (with_reducible first | exact HB.out | apply ba_ | apply bn_ | apply bd_ | refine below_set ?_ GE736.out) | exact HB.out))) | (with_reducible first | refine ca_ ?_ _ | refine cn_ ?_ _ | refine cd_ ?_))); (case side6 => exact HC1.out); rintro e w17 ⟨rfl, hb⟩; have n0_ := Aside0.mk (blk_below (g := gb736) (o := .cells #[.int .i64 a0_0, .slice A0_1 l0_1.length c0_1, .int .i64 a0_2, .int .i64 a0_3, .slice A0_4 l0_4.length c0_4] 75 (0, 0)) (by (with_reducible repeat (first | refine kn_ ?_ _ | refine kd_ ?_ | refine ka_ ?_ _)); exact BK736.out) hb); have n1_ := Aside0.mk (below_step (by repeat (first | (with_reducible first | exact HB.out | apply ba_ | apply bn_ | apply bd_ | refine below_set ?_ GE736.out) | exact HB.out)) hb); clear BK736; clear HB; have BK736 := n0_; have HB := n1_; clear n0_ n1_; (try clear hb); (try clear hb2); (try clear hk); (try clear hi)))
     go_ret
     exact ⟨by first | rfl | (simp [errW_none, errW_some] <;> rfl) | (simp [*, errW_none, errW_some] <;> rfl), by repeat (first | (with_reducible first | exact HB.out | apply ba_ | apply bn_ | apply bd_ | refine below_set ?_ GE736.out) | exact HB.out)⟩
    rw [if_neg c11] at H
    have c11b0 : decide (0 < (l0_4.length : Int)) = false := decide_eq_false c11
    have c11b1 : decide (0 < l0_4.length) = false := decide_eq_false (by omega)
    clear c11
    obtain rfl := Option.some.inj H
    go_enter Try.func53, Try.ntmps53
    go_wp2_with (first | ((with_reducible refine gate_dst (N := 2) rfl ?_); refine box_event ?hg (N := 2) ?hd (cs := #[.int .i64 a0_0, .slice A0_1 l0_1.length c0_1, .int .i64 a0_2, .int .i64 a0_3, .slice A0_4 l0_4.length c0_4]) (t := 75) ?hr ?_; (case hd => rfl); (case hg => rfl); (case hr => first | (go_simp; done) | (go_simp; rfl)); intro gb736 hg w18 hbox hb; have n0_ := Aside0.mk (below_step (by repeat (first | (with_reducible first | exact HB.out | apply ba_ | apply bn_ | apply bd_) | exact HB.out)) hb); have BK736 := Aside0.mk (hbox); have GW736 := Aside0.mk ((by rw [hg]; exact (below_size (by repeat (first | (with_reducible first | exact HB.out | apply ba_ | apply bn_ | apply bd_) | exact HB.out))) : w.heap.size ≤ gb736)); have GE736 := GW736; clear HB; have HB := n0_; clear n0_; clear hb hbox hg; have hcz19_0 : w18.cell? ⟨gb736, 0, none⟩ = some (.int .i64 a0_0) := (blk_cell BK736.out 0).trans rfl; have hcz19_1 : w18.cell? ⟨gb736, 1, none⟩ = some (.slice A0_1 l0_1.length c0_1) := (blk_cell BK736.out 1).trans rfl; have hcz19_2 : w18.cell? ⟨gb736, 2, none⟩ = some (.int .i64 a0_2) := (blk_cell BK736.out 2).trans rfl; have hcz19_3 : w18.cell? ⟨gb736, 3, none⟩ = some (.int .i64 a0_3) := (blk_cell BK736.out 3).trans rfl; have hcz19_4 : w18.cell? ⟨gb736, 4, none⟩ = some (.slice A0_4 l0_4.length c0_4) := (blk_cell BK736.out 4).trans rfl; have hfz19_0 := blk_frozen BK736.out 0; have hfz19_1 := blk_frozen BK736.out 1; have hfz19_2 := blk_frozen BK736.out 2; have hfz19_3 := blk_frozen BK736.out 3; have hfz19_4 := blk_frozen BK736.out 4) | (go_at_call 110; (with_reducible refine (impl_SetOk.calls k _ _ l0_1 true _ ?side1 ?side2 A6.out).mono ?_); (case side1 => repeat (first | exact (Kd.C_below HR0_1.out HB.out) | (with_reducible first | refine ca_ ?_ _ | refine cn_ ?_ _ | refine cd_ ?_))); (case side2 => exact HC0_1.out); rintro e w20 ⟨rfl, hb⟩; have n0_ := Aside0.mk (blk_below (g := gb736) (o := .cells #[.int .i64 a0_0, .slice A0_1 l0_1.length c0_1, .int .i64 a0_2, .int .i64 a0_3, .slice A0_4 l0_4.length c0_4] 75 (0, 0)) (by (with_reducible repeat (first | refine kn_ ?_ _ | refine kd_ ?_ | refine ka_ ?_ _)); exact BK736.out) hb); have n1_ := Aside0.mk (below_step (by repeat (first | (with_reducible first | exact HB.out | apply ba_ | apply bn_ | apply bd_ | refine below_set ?_ GE736.out) | exact HB.out)) hb); clear BK736; clear HB; have BK736 := n0_; have HB := n1_; clear n0_ n1_; (try clear hb); (try clear hb2); (try clear hk); (try clear hi); have hcz21_0 : w20.cell? ⟨gb736, 0, none⟩ = some (.int .i64 a0_0) := (blk_cell BK736.out 0).trans rfl; have hcz21_1 : w20.cell? ⟨gb736, 1, none⟩ = some (.slice A0_1 l0_1.length c0_1) := (blk_cell BK736.out 1).trans rfl; have hcz21_2 : w20.cell? ⟨gb736, 2, none⟩ = some (.int .i64 a0_2) := (blk_cell BK736.out 2).trans rfl; have hcz21_3 : w20.cell? ⟨gb736, 3, none⟩ = some (.int .i64 a0_3) := (blk_cell BK736.out 3).trans rfl; have hcz21_4 : w20.cell? ⟨gb736, 4, none⟩ = some (.slice A0_4 l0_4.length c0_4) := (blk_cell BK736.out 4).trans rfl; have hfz21_0 := blk_frozen BK736.out 0; have hfz21_1 := blk_frozen BK736.out 1; have hfz21_2 := blk_frozen BK736.out 2; have hfz21_3 := blk_frozen BK736.out 3; have hfz21_4 := blk_frozen BK736.out 4) | (go_at_call 111; (with_reducible refine (impl_in.calls a0_2 0 99999 true _ A8.out).mono ?_); rintro e w' ⟨rfl, ⟨nd, rfl⟩⟩))
    go_ret
    exact ⟨by first | rfl | (simp [errW_none, errW_some] <;> rfl) | (simp [*, errW_none, errW_some] <;> rfl), by repeat (first | (with_reducible first | exact HB.out | apply ba_ | apply bn_ | apply bd_ | refine below_set ?_ GE736.out) | exact HB.out)⟩
   rw [if_neg c10] at H
   have c10b0 : (a0_3 == (-1)) = false := beq_eq_false_iff_ne.mpr c10
   have c10b1 : (a0_3 != (-1)) = true := bne_iff_ne.mpr c10
   replace H := Option.bind_eq_some_iff.mp H
   obtain ⟨t740, A220, H⟩ := H
   have A22 := Aside0.mk A220
   clear A220
   by_cases c23 : t740 = true
   ·
    subst c23
    rw [if_pos rfl] at H
    by_cases c24 : (l0_4.length : Int) > 0
    ·
     rw [if_pos c24] at H
     have c24b0 : decide (0 < (l0_4.length : Int)) = true := decide_eq_true c24
     have c24b1 : decide (0 < l0_4.length) = true := decide_eq_true (by omega)
     clear c24
     replace H := Option.bind_eq_some_iff.mp H
     obtain ⟨t741, A250, H⟩ := H
     have A25 := Aside0.mk A250
     clear A250
     obtain rfl := Option.some.inj H
     go_enter Try.func53, Try.ntmps53
     go_wp2_with (first | ((with_reducible refine gate_dst (N := 2) rfl ?_); refine box_event ?hg (N := 2) ?hd (cs := #[.int .i64 a0_0, .slice A0_1 l0_1.length c0_1, .int .i64 a0_2, .int .i64 a0_3, .slice A0_4 l0_4.length c0_4]) (t := 75) ?hr ?_; (case hd => rfl); (case hg => rfl); (case hr => first | (go_simp; done) | (go_simp; rfl)); intro gb736 hg w26 hbox hb; have n0_ := Aside0.mk (below_step (by repeat (first | (with_reducible first | exact HB.out | apply ba_ | apply bn_ | apply bd_) | exact HB.out)) hb); have BK736 := Aside0.mk (hbox); have GW736 := Aside0.mk ((by rw [hg]; exact (below_size (by repeat (first | (with_reducible first | exact HB.out | apply ba_ | apply bn_ | apply bd_) | exact HB.out))) : w.heap.size ≤ gb736)); have GE736 := GW736; clear HB; have HB := n0_; clear n0_; clear hb hbox hg; have hcz27_0 : w26.cell? ⟨gb736, 0, none⟩ = some (.int .i64 a0_0) := (blk_cell BK736.out 0).trans rfl; have hcz27_1 : w26.cell? ⟨gb736, 1, none⟩ = some (.slice A0_1 l0_1.length c0_1) := (blk_cell BK736.out 1).trans rfl; have hcz27_2 : w26.cell? ⟨gb736, 2, none⟩ = some (.int .i64 a0_2) := (blk_cell BK736.out 2).trans rfl; have hcz27_3 : w26.cell? ⟨gb736, 3, none⟩ = some (.int .i64 a0_3) := (blk_cell BK736.out 3).trans rfl; have hcz27_4 : w26.cell? ⟨gb736, 4, none⟩ = some (.slice A0_4 l0_4.length c0_4) := (blk_cell BK736.out 4).trans rfl; have hfz27_0 := blk_frozen BK736.out 0; have hfz27_1 := blk_frozen BK736.out 1; have hfz27_2 := blk_frozen BK736.out 2; have hfz27_3 := blk_frozen BK736.out 3; have hfz27_4 := blk_frozen BK736.out 4) | (go_at_call 110; (with_reducible refine (impl_SetOk.calls k _ _ l0_1 true _ ?side1 ?side2 A6.out).mono ?_); (case side1 => repeat (first | exact (Kd.C_below HR0_1.out HB.out) | (with_reducible first | refine ca_ ?_ _ | refine cn_ ?_ _ | refine cd_ ?_))); (case side2 => exact HC0_1.out); rintro e w28 ⟨rfl, hb⟩; have n0_ := Aside0.mk (blk_below (g := gb736) (o := .cells #[.int .i64 a0_0, .slice A0_1 l0_1.length c0_1, .int .i64 a0_2, .int .i64 a0_3, .slice A0_4 l0_4.length c0_4] 75 (0, 0)) (by (with_reducible repeat (first | refine kn_ ?_ _ | refine kd_ ?_ | refine ka_ ?_ _)); exact BK736.out) hb); have n1_ := Aside0.mk (below_step (by repeat (first | (with_reducible first | exact HB.out | apply ba_ | apply bn_ | apply bd_ | refine below_set ?_ GE736.out) | exact HB.out)) hb); clear BK736; clear HB; have BK736 := n0_; have HB := n1_; clear n0_ n1_; (try clear hb); (try clear hb2); (try clear hk); (try clear hi); have hcz29_0 : w28.cell? ⟨gb736, 0, none⟩ = some (.int .i64 a0_0) := (blk_cell BK736.out 0).trans rfl; have hcz29_1 : w28.cell? ⟨gb736, 1, none⟩ = some (.slice A0_1 l0_1.length c0_1) := (blk_cell BK736.out 1).trans rfl; have hcz29_2 : w28.cell? ⟨gb736, 2, none⟩ = some (.int .i64 a0_2) := (blk_cell BK736.out 2).trans rfl; have hcz29_3 : w28.cell? ⟨gb736, 3, none⟩ = some (.int .i64 a0_3) := (blk_cell BK736.out 3).trans rfl; have hcz29_4 : w28.cell? ⟨gb736, 4, none⟩ = some (.slice A0_4 l0_4.length c0_4) := (blk_cell BK736.out 4).trans rfl; have hfz29_0 := blk_frozen BK736.out 0; have hfz29_1 := blk_frozen BK736.out 1; have hfz29_2 := blk_frozen BK736.out 2; have hfz29_3 := blk_frozen BK736.out 3; have hfz29_4 := blk_frozen BK736.out 4) | (go_at_call 111; (with_reducible refine (impl_in.calls a0_2 0 99999 true _ A8.out).mono ?_); rintro e w' ⟨rfl, ⟨nd, rfl⟩⟩) | (go_at_call 111; (with_reducible refine (impl_in.calls a0_3 a0_2 99999 true _ A22.out).mono ?_); rintro e w' ⟨rfl, ⟨nd, rfl⟩⟩) | (go_at_call 112; (with_reducible refine (impl_keyedOk.calls k _ _ l0_4 _ _ l0_1 _ _ l1 t741 _ ?side1 ?side2 ?side3 ?side4 ?side5 ?side6 A25.out).mono ?_); (case side1 => repeat (first | exact (Kd.C_below HR0_4.out (by repeat (first | (with_reducible first | exact HB.out | apply ba_ | apply bn_ | apply bd_ | refine below_set ?_ GE736.out) | exact HB.out))) | (with_reducible first | refine ca_ ?_ _ | refine cn_ ?_ _ | refine cd_ ?_))); (case side2 => exact HC0_4.out); (case side3 => repeat (first | exact (Kd.C_below HR0_1.out (by repeat (first | (with_reducible first | exact HB.out | apply ba_ | apply bn_ | apply bd_ | refine below_set ?_ GE736.out) | exact HB.out))) | (with_reducible first | refine ca_ ?_ _ | refine cn_ ?_ _ | refine cd_ ?_))); (case side4 => exact HC0_1.out); (case side5 => repeat (first | exact (Kd.C_below HR1.out (by repeat (first | (with_reducible first | exact HB.out | apply ba_ | apply bn_ | apply bd_ | refine below_set ?_ GE736.out) | exact HB.out))) | (with_reducible first | refine ca_ ?_ _ | refine cn_ ?_ _ | refine cd_ ?_))); (case side6 => exact HC1.out); rintro e w30 ⟨rfl, hb⟩; have n0_ := Aside0.mk (blk_below (g := gb736) (o := .cells #[.int .i64 a0_0, .slice A0_1 l0_1.length c0_1, .int .i64 a0_2, .int .i64 a0_3, .slice A0_4 l0_4.length c0_4] 75 (0, 0)) (by (with_reducible repeat (first | refine kn_ ?_ _ | refine kd_ ?_ | refine ka_ ?_ _)); exact BK736.out) hb); have n1_ := Aside0.mk (below_step (by repeat (first | (with_reducible first | exact HB.out | apply ba_ | apply bn_ | apply bd_ | refine below_set ?_ GE736.out) | exact HB.out)) hb); clear BK736; clear HB; have BK736 := n0_; have HB := n1_; clear n0_ n1_; (try clear hb); (try clear hb2); (try clear hk); (try clear hi)))
     go_ret
     exact ⟨by first | rfl | (simp [errW_none, errW_some] <;> rfl) | (simp [*, errW_none, errW_some] <;> rfl), by repeat (first | (with_reducible first | exact HB.out | apply ba_ | apply bn_ | apply bd_ | refine below_set ?_ GE736.out) | exact HB.out)⟩
    rw [if_neg c24] at H
    have c24b0 : decide (0 < (l0_4.length : Int)) = false := decide_eq_false c24
    have c24b1 : decide (0 < l0_4.length) = false := decide_eq_false (by omega)
    clear c24
    obtain rfl := Option.some.inj H
    go_enter Try.func53, Try.ntmps53
    go_wp2_with (first | ((with_reducible refine gate_dst (N := 2) rfl ?_); refine box_event ?hg (N := 2) ?hd (cs := #[.int .i64 a0_0, .slice A0_1 l0_1.length c0_1, .int .i64 a0_2, .int .i64 a0_3, .slice A0_4 l0_4.length c0_4]) (t := 75) ?hr ?_; (case hd => rfl); (case hg => rfl); (case hr => first | (go_simp; done) | (go_simp; rfl)); intro gb736 hg w31 hbox hb; have n0_ := Aside0.mk (below_step (by repeat (first | (with_reducible first | exact HB.out | apply ba_ | apply bn_ | apply bd_) | exact HB.out)) hb); have BK736 := Aside0.mk (hbox); have GW736 := Aside0.mk ((by rw [hg]; exact (below_size (by repeat (first | (with_reducible first | exact HB.out | apply ba_ | apply bn_ | apply bd_) | exact HB.out))) : w.heap.size ≤ gb736)); have GE736 := GW736; clear HB; have HB := n0_; clear n0_; clear hb hbox hg; have hcz32_0 : w31.cell? ⟨gb736, 0, none⟩ = some (.int .i64 a0_0) := (blk_cell BK736.out 0).trans rfl; have hcz32_1 : w31.cell? ⟨gb736, 1, none⟩ = some (.slice A0_1 l0_1.length c0_1) := (blk_cell BK736.out 1).trans rfl; have hcz32_2 : w31.cell? ⟨gb736, 2, none⟩ = some (.int .i64 a0_2) := (blk_cell BK736.out 2).trans rfl; have hcz32_3 : w31.cell? ⟨gb736, 3, none⟩ = some (.int .i64 a0_3) := (blk_cell BK736.out 3).trans rfl; have hcz32_4 : w31.cell? ⟨gb736, 4, none⟩ = some (.slice A0_4 l0_4.length c0_4) := (blk_cell BK736.out 4).trans rfl; have hfz32_0 := blk_frozen BK736.out 0; have hfz32_1 := blk_frozen BK736.out 1; have hfz32_2 := blk_frozen BK736.out 2; have hfz32_3 := blk_frozen BK736.out 3; have hfz32_4 := blk_frozen BK736.out 4) | (go_at_call 110; (with_reducible refine (impl_SetOk.calls k _ _ l0_1 true _ ?side1 ?side2 A6.out).mono ?_); (case side1 => repeat (first | exact (Kd.C_below HR0_1.out HB.out) | (with_reducible first | refine ca_ ?_ _ | refine cn_ ?_ _ | refine cd_ ?_))); (case side2 => exact HC0_1.out); rintro e w33 ⟨rfl, hb⟩; have n0_ := Aside0.mk (blk_below (g := gb736) (o := .cells #[.int .i64 a0_0, .slice A0_1 l0_1.length c0_1, .int .i64 a0_2, .int .i64 a0_3, .slice A0_4 l0_4.length c0_4] 75 (0, 0)) (by (with_reducible repeat (first | refine kn_ ?_ _ | refine kd_ ?_ | refine ka_ ?_ _)); exact BK736.out) hb); have n1_ := Aside0.mk (below_step (by repeat (first | (with_reducible first | exact HB.out | apply ba_ | apply bn_ | apply bd_ | refine below_set ?_ GE736.out) | exact HB.out)) hb); clear BK736; clear HB; have BK736 := n0_; have HB := n1_; clear n0_ n1_; (try clear hb); (try clear hb2); (try clear hk); (try clear hi); have hcz34_0 : w33.cell? ⟨gb736, 0, none⟩ = some (.int .i64 a0_0) := (blk_cell BK736.out 0).trans rfl; have hcz34_1 : w33.cell? ⟨gb736, 1, none⟩ = some (.slice A0_1 l0_1.length c0_1) := (blk_cell BK736.out 1).trans rfl; have hcz34_2 : w33.cell? ⟨gb736, 2, none⟩ = some (.int .i64 a0_2) := (blk_cell BK736.out 2).trans rfl; have hcz34_3 : w33.cell? ⟨gb736, 3, none⟩ = some (.int .i64 a0_3) := (blk_cell BK736.out 3).trans rfl; have hcz34_4 : w33.cell? ⟨gb736, 4, none⟩ = some (.slice A0_4 l0_4.length c0_4) := (blk_cell BK736.out 4).trans rfl; have hfz34_0 := blk_frozen BK736.out 0; have hfz34_1 := blk_frozen BK736.out 1; have hfz34_2 := blk_frozen BK736.out 2; have hfz34_3 := blk_frozen BK736.out 3; have hfz34_4 := blk_frozen BK736.out 4) | (go_at_call 111; (with_reducible refine (impl_in.calls a0_2 0 99999 true _ A8.out).mono ?_); rintro e w' ⟨rfl, ⟨nd, rfl⟩⟩) | (go_at_call 111; (with_reducible refine (impl_in.calls a0_3 a0_2 99999 true _ A22.out).mono ?_); rintro e w' ⟨rfl, ⟨nd, rfl⟩⟩))
    go_ret
    exact ⟨by first | rfl | (simp [errW_none, errW_some] <;> rfl) | (simp [*, errW_none, errW_some] <;> rfl), by repeat (first | (with_reducible first | exact HB.out | apply ba_ | apply bn_ | apply bd_ | refine below_set ?_ GE736.out) | exact HB.out)⟩
   replace c23 := Bool.eq_false_iff.mpr c23
   subst c23
   rw [if_neg (show ¬ (false = true) by decide)] at H
   obtain rfl := Option.some.inj H
   go_enter Try.func53, Try.ntmps53
   go_wp2_with (first | ((with_reducible refine gate_dst (N := 2) rfl ?_); refine box_event ?hg (N := 2) ?hd (cs := #[.int .i64 a0_0, .slice A0_1 l0_1.length c0_1, .int .i64 a0_2, .int .i64 a0_3, .slice A0_4 l0_4.length c0_4]) (t := 75) ?hr ?_; (case hd => rfl); (case hg => rfl); (case hr => first | (go_simp; done) | (go_simp; rfl)); intro gb736 hg w35 hbox hb; have n0_ := Aside0.mk (below_step (by repeat (first | (with_reducible first | exact HB.out | apply ba_ | apply bn_ | apply bd_) | exact HB.out)) hb); have BK736 := Aside0.mk (hbox); have GW736 := Aside0.mk ((by rw [hg]; exact (below_size (by repeat (first | (with_reducible first | exact HB.out | apply ba_ | apply bn_ | apply bd_) | exact HB.out))) : w.heap.size ≤ gb736)); have GE736 := GW736; clear HB; have HB := n0_; clear n0_; clear hb hbox hg; have hcz36_0 : w35.cell? ⟨gb736, 0, none⟩ = some (.int .i64 a0_0) := (blk_cell BK736.out 0).trans rfl; have hcz36_1 : w35.cell? ⟨gb736, 1, none⟩ = some (.slice A0_1 l0_1.length c0_1) := (blk_cell BK736.out 1).trans rfl; have hcz36_2 : w35.cell? ⟨gb736, 2, none⟩ = some (.int .i64 a0_2) := (blk_cell BK736.out 2).trans rfl; have hcz36_3 : w35.cell? ⟨gb736, 3, none⟩ = some (.int .i64 a0_3) := (blk_cell BK736.out 3).trans rfl; have hcz36_4 : w35.cell? ⟨gb736, 4, none⟩ = some (.slice A0_4 l0_4.length c0_4) := (blk_cell BK736.out 4).trans rfl; have hfz36_0 := blk_frozen BK736.out 0; have hfz36_1 := blk_frozen BK736.out 1; have hfz36_2 := blk_frozen BK736.out 2; have hfz36_3 := blk_frozen BK736.out 3; have hfz36_4 := blk_frozen BK736.out 4) | (go_at_call 110; (with_reducible refine (impl_SetOk.calls k _ _ l0_1 true _ ?side1 ?side2 A6.out).mono ?_); (case side1 => repeat (first | exact (Kd.C_below HR0_1.out HB.out) | (with_reducible first | refine ca_ ?_ _ | refine cn_ ?_ _ | refine cd_ ?_))); (case side2 => exact HC0_1.out); rintro e w37 ⟨rfl, hb⟩; have n0_ := Aside0.mk (blk_below (g := gb736) (o := .cells #[.int .i64 a0_0, .slice A0_1 l0_1.length c0_1, .int .i64 a0_2, .int .i64 a0_3, .slice A0_4 l0_4.length c0_4] 75 (0, 0)) (by (with_reducible repeat (first | refine kn_ ?_ _ | refine kd_ ?_ | refine ka_ ?_ _)); exact BK736.out) hb); have n1_ := Aside0.mk (below_step (by repeat (first | (with_reducible first | exact HB.out | apply ba_ | apply bn_ | apply bd_ | refine below_set ?_ GE736.out) | exact HB.out)) hb); clear BK736; clear HB; have BK736 := n0_; have HB := n1_; clear n0_ n1_; (try clear hb); (try clear hb2); (try clear hk); (try clear hi); have hcz38_0 : w37.cell? ⟨gb736, 0, none⟩ = some (.int .i64 a0_0) := (blk_cell BK736.out 0).trans rfl; have hcz38_1 : w37.cell? ⟨gb736, 1, none⟩ = some (.slice A0_1 l0_1.length c0_1) := (blk_cell BK736.out 1).trans rfl; have hcz38_2 : w37.cell? ⟨gb736, 2, none⟩ = some (.int .i64 a0_2) := (blk_cell BK736.out 2).trans rfl; have hcz38_3 : w37.cell? ⟨gb736, 3, none⟩ = some (.int .i64 a0_3) := (blk_cell BK736.out 3).trans rfl; have hcz38_4 : w37.cell? ⟨gb736, 4, none⟩ = some (.slice A0_4 l0_4.length c0_4) := (blk_cell BK736.out 4).trans rfl; have hfz38_0 := blk_frozen BK736.out 0; have hfz38_1 := blk_frozen BK736.out 1; have hfz38_2 := blk_frozen BK736.out 2; have hfz38_3 := blk_frozen BK736.out 3; have hfz38_4 := blk_frozen BK736.out 4) | (go_at_call 111; (with_reducible refine (impl_in.calls a0_2 0 99999 true _ A8.out).mono ?_); rintro e w' ⟨rfl, ⟨nd, rfl⟩⟩) | (go_at_call 111; (with_reducible refine (impl_in.calls a0_3 a0_2 99999 false _ A22.out).mono ?_); rintro e w' ⟨rfl, ⟨nd, rfl⟩⟩))
   go_ret
   exact ⟨by first | rfl | (simp [errW_none, errW_some] <;> rfl) | (simp [*, errW_none, errW_some] <;> rfl), by repeat (first | (with_reducible first | exact HB.out | apply ba_ | apply bn_ | apply bd_ | refine below_set ?_ GE736.out) | exact HB.out)⟩
  replace c9 := Bool.eq_false_iff.mpr c9
  subst c9
  rw [if_neg (show ¬ (false = true) by decide)] at H
  obtain rfl := Option.some.inj H
  go_enter Try.func53, Try.ntmps53
  go_wp2_with (first | ((with_reducible refine gate_dst (N := 2) rfl ?_); refine box_event ?hg (N := 2) ?hd (cs := #[.int .i64 a0_0, .slice A0_1 l0_1.length c0_1, .int .i64 a0_2, .int .i64 a0_3, .slice A0_4 l0_4.length c0_4]) (t := 75) ?hr ?_; (case hd => rfl); (case hg => rfl); (case hr => first | (go_simp; done) | (go_simp; rfl)); intro gb736 hg w39 hbox hb; have n0_ := Aside0.mk (below_step (by repeat (first | (with_reducible first | exact HB.out | apply ba_ | apply bn_ | apply bd_) | exact HB.out)) hb); have BK736 := Aside0.mk (hbox); have GW736 := Aside0.mk ((by rw [hg]; exact (below_size (by repeat (first | (with_reducible first | exact HB.out | apply ba_ | apply bn_ | apply bd_) | exact HB.out))) : w.heap.size ≤ gb736)); have GE736 := GW736; clear HB; have HB := n0_; clear n0_; clear hb hbox hg; have hcz40_0 : w39.cell? ⟨gb736, 0, none⟩ = some (.int .i64 a0_0) := (blk_cell BK736.out 0).trans rfl; have hcz40_1 : w39.cell? ⟨gb736, 1, none⟩ = some (.slice A0_1 l0_1.length c0_1) := (blk_cell BK736.out 1).trans rfl; have hcz40_2 : w39.cell? ⟨gb736, 2, none⟩ = some (.int .i64 a0_2) := (blk_cell BK736.out 2).trans rfl; have hcz40_3 : w39.cell? ⟨gb736, 3, none⟩ = some (.int .i64 a0_3) := (blk_cell BK736.out 3).trans rfl; have hcz40_4 : w39.cell? ⟨gb736, 4, none⟩ = some (.slice A0_4 l0_4.length c0_4) := (blk_cell BK736.out 4).trans rfl; have hfz40_0 := blk_frozen BK736.out 0; have hfz40_1 := blk_frozen BK736.out 1; have hfz40_2 := blk_frozen BK736.out 2; have hfz40_3 := blk_frozen BK736.out 3; have hfz40_4 := blk_frozen BK736.out 4) | (go_at_call 110; (with_reducible refine (impl_SetOk.calls k _ _ l0_1 true _ ?side1 ?side2 A6.out).mono ?_); (case side1 => repeat (first | exact (Kd.C_below HR0_1.out HB.out) | (with_reducible first | refine ca_ ?_ _ | refine cn_ ?_ _ | refine cd_ ?_))); (case side2 => exact HC0_1.out); rintro e w41 ⟨rfl, hb⟩; have n0_ := Aside0.mk (blk_below (g := gb736) (o := .cells #[.int .i64 a0_0, .slice A0_1 l0_1.length c0_1, .int .i64 a0_2, .int .i64 a0_3, .slice A0_4 l0_4.length c0_4] 75 (0, 0)) (by (with_reducible repeat (first | refine kn_ ?_ _ | refine kd_ ?_ | refine ka_ ?_ _)); exact BK736.out) hb); have n1_ := Aside0.mk (below_step (by repeat (first | (with_reducible first | exact HB.out | apply ba_ | apply bn_ | apply bd_ | refine below_set ?_ GE736.out) | exact HB.out)) hb); clear BK736; clear HB; have BK736 := n0_; have HB := n1_; clear n0_ n1_; (try clear hb); (try clear hb2); (try clear hk); (try clear hi); have hcz42_0 : w41.cell? ⟨gb736, 0, none⟩ = some (.int .i64 a0_0) := (blk_cell BK736.out 0).trans rfl; have hcz42_1 : w41.cell? ⟨gb736, 1, none⟩ = some (.slice A0_1 l0_1.length c0_1) := (blk_cell BK736.out 1).trans rfl; have hcz42_2 : w41.cell? ⟨gb736, 2, none⟩ = some (.int .i64 a0_2) := (blk_cell BK736.out 2).trans rfl; have hcz42_3 : w41.cell? ⟨gb736, 3, none⟩ = some (.int .i64 a0_3) := (blk_cell BK736.out 3).trans rfl; have hcz42_4 : w41.cell? ⟨gb736, 4, none⟩ = some (.slice A0_4 l0_4.length c0_4) := (blk_cell BK736.out 4).trans rfl; have hfz42_0 := blk_frozen BK736.out 0; have hfz42_1 := blk_frozen BK736.out 1; have hfz42_2 := blk_frozen BK736.out 2; have hfz42_3 := blk_frozen BK736.out 3; have hfz42_4 := blk_frozen BK736.out 4) | (go_at_call 111; (with_reducible refine (impl_in.calls a0_2 0 99999 false _ A8.out).mono ?_); rintro e w' ⟨rfl, ⟨nd, rfl⟩⟩))
  go_ret
  exact ⟨by first | rfl | (simp [errW_none, errW_some] <;> rfl) | (simp [*, errW_none, errW_some] <;> rfl), by repeat (first | (with_reducible first | exact HB.out | apply ba_ | apply bn_ | apply bd_ | refine below_set ?_ GE736.out) | exact HB.out)⟩
 replace c7 := Bool.eq_false_iff.mpr c7
 subst c7
 rw [if_neg (show ¬ (false = true) by decide)] at H
 obtain rfl := Option.some.inj H
 go_enter Try.func53, Try.ntmps53
 go_wp2_with (first | ((with_reducible refine gate_dst (N := 2) rfl ?_); refine box_event ?hg (N := 2) ?hd (cs := #[.int .i64 a0_0, .slice A0_1 l0_1.length c0_1, .int .i64 a0_2, .int .i64 a0_3, .slice A0_4 l0_4.length c0_4]) (t := 75) ?hr ?_; (case hd => rfl); (case hg => rfl); (case hr => first | (go_simp; done) | (go_simp; rfl)); intro gb736 hg w43 hbox hb; have n0_ := Aside0.mk (below_step (by repeat (first | (with_reducible first | exact HB.out | apply ba_ | apply bn_ | apply bd_) | exact HB.out)) hb); have BK736 := Aside0.mk (hbox); have GW736 := Aside0.mk ((by rw [hg]; exact (below_size (by repeat (first | (with_reducible first | exact HB.out | apply ba_ | apply bn_ | apply bd_) | exact HB.out))) : w.heap.size ≤ gb736)); have GE736 := GW736; clear HB; have HB := n0_; clear n0_; clear hb hbox hg; have hcz44_0 : w43.cell? ⟨gb736, 0, none⟩ = some (.int .i64 a0_0) := (blk_cell BK736.out 0).trans rfl; have hcz44_1 : w43.cell? ⟨gb736, 1, none⟩ = some (.slice A0_1 l0_1.length c0_1) := (blk_cell BK736.out 1).trans rfl; have hcz44_2 : w43.cell? ⟨gb736, 2, none⟩ = some (.int .i64 a0_2) := (blk_cell BK736.out 2).trans rfl; have hcz44_3 : w43.cell? ⟨gb736, 3, none⟩ = some (.int .i64 a0_3) := (blk_cell BK736.out 3).trans rfl; have hcz44_4 : w43.cell? ⟨gb736, 4, none⟩ = some (.slice A0_4 l0_4.length c0_4) := (blk_cell BK736.out 4).trans rfl; have hfz44_0 := blk_frozen BK736.out 0; have hfz44_1 := blk_frozen BK736.out 1; have hfz44_2 := blk_frozen BK736.out 2; have hfz44_3 := blk_frozen BK736.out 3; have hfz44_4 := blk_frozen BK736.out 4) | (go_at_call 110; (with_reducible refine (impl_SetOk.calls k _ _ l0_1 false _ ?side1 ?side2 A6.out).mono ?_); (case side1 => repeat (first | exact (Kd.C_below HR0_1.out HB.out) | (with_reducible first | refine ca_ ?_ _ | refine cn_ ?_ _ | refine cd_ ?_))); (case side2 => exact HC0_1.out); rintro e w45 ⟨rfl, hb⟩; have n0_ := Aside0.mk (blk_below (g := gb736) (o := .cells #[.int .i64 a0_0, .slice A0_1 l0_1.length c0_1, .int .i64 a0_2, .int .i64 a0_3, .slice A0_4 l0_4.length c0_4] 75 (0, 0)) (by (with_reducible repeat (first | refine kn_ ?_ _ | refine kd_ ?_ | refine ka_ ?_ _)); exact BK736.out) hb); have n1_ := Aside0.mk (below_step (by repeat (first | (with_reducible first | exact HB.out | apply ba_ | apply bn_ | apply bd_ | refine below_set ?_ GE736.out) | exact HB.out)) hb); clear BK736; clear HB; have BK736 := n0_; have HB := n1_; clear n0_ n1_; (try clear hb); (try clear hb2); (try clear hk); (try clear hi)))
 go_ret
 exact ⟨by first | rfl | (simp [errW_none, errW_some] <;> rfl) | (simp [*, errW_none, errW_some] <;> rfl), by repeat (first | (with_reducible first | exact HB.out | apply ba_ | apply bn_ | apply bd_ | refine below_set ?_ GE736.out) | exact HB.out)⟩
def impl_GroupOf.l0 : Nat → List (S164) → List (S75) → Int → Int → Option (Int)
 | 0, _, _, _, _ => none
 | k + 1, x1, x7, x8, x9 => if x9 < x8 then (if 0 ≤ x9 then (if x9 < (x7.length : Int) then ((impl_SameSet.f k ((rd_T75 x7 x9).f1) x1).bind fun t1069 => (if t1069 = true then (some x9) else (impl_GroupOf.l0 k x1 x7 x8 (wrap64 (x9 + 1))))) else (none)) else (none)) else (some (-1))
def impl_GroupOf.f (k : Nat) (l0 : List (S75)) (l1 : List (S164)) : Option (Int) := impl_GroupOf.l0 k l1 l0 (l0.length : Int) 0
theorem impl_GroupOf.mono_l : ∀ k, (∀ y0 y1 y2 y3, LeO (impl_GroupOf.l0 k y0 y1 y2 y3) (impl_GroupOf.l0 (k + 1) y0 y1 y2 y3))
 | 0 => fun _ _ _ _ r h => by simp [impl_GroupOf.l0] at h
 | k + 1 => by
  have ih0 := impl_GroupOf.mono_l k
  intro y0 y1 y2 y3
  unfold impl_GroupOf.l0
  repeat' first
  | (with_reducible exact ih0 _ _ _ _)
  | (with_reducible exact impl_SameSet.mono _ _ _)
  | (with_reducible exact LeO.refl _)
  | (with_reducible exact LeO.none _)
  | (with_reducible refine LeO.ite ?_ ?_)
  | (with_reducible refine LeO.bind ?_ (fun _ => ?_))
  | exact ih0 _ _ _ _
  | exact impl_SameSet.mono _ _ _
theorem impl_GroupOf.mono : ∀ a0 a1 k, LeO (impl_GroupOf.f k a0 a1) (impl_GroupOf.f (k + 1) a0 a1) := by
 intro a0 a1 k
 have ih0 := impl_GroupOf.mono_l k
 unfold impl_GroupOf.f
 repeat' first
   | (with_reducible exact ih0 _ _ _ _)
   | (with_reducible exact impl_SameSet.mono _ _ _)
   | (with_reducible exact LeO.refl _)
   | (with_reducible exact LeO.none _)
   | (with_reducible refine LeO.ite ?_ ?_)
   | (with_reducible refine LeO.bind ?_ (fun _ => ?_))
   | exact ih0 _ _ _ _
   | exact impl_SameSet.mono _ _ _
theorem impl_GroupOf.calls (k : Nat) (A0 : Option Addr) (c0 : Nat) (l0 : List (S75)) (A1 : Option Addr) (c1 : Nat) (l1 : List (S164)) (r : Int) (w : World) (hr0 : Kd.C k75 w A0 l0.length l0) (hc0 : l0.length ≤ c0) (hr1 : Kd.C k164 w A1 l1.length l1) (hc1 : l1.length ≤ c1) (h : impl_GroupOf.f k l0 l1 = some r) :
  Calls Try.prog 117 #[.slice A0 l0.length c0, .slice A1 l1.length c1] w fun e w' => e = .returned (.int .i64 r) ∧ Below w.heap.size w w' := by
 have hu75 := Try.underlying75
 have HR0 := Aside0.mk hr0
 have HC0 := Aside0.mk hc0
 clear hr0 hc0
 have HR1 := Aside0.mk hr1
 have HC1 := Aside0.mk hc1
 clear hr1 hc1
 have HB := Aside0.mk (Below.refl w.heap.size w)
 have H : (impl_GroupOf.l0 k l1 l0 (l0.length : Int) 0) = some r := h
 clear h
 have H' := Aside0.mk H
 clear H
 go_enter Try.func117, Try.ntmps117
 go_wp2
 go_loopg [9] k (fun kq v9 w' => ∃ (x9_1 : Int), v9 = .int .i64 x9_1 ∧ Aside0 (impl_GroupOf.l0 kq l1 l0 (l0.length : Int) x9_1 = some r) ∧ Aside0 (kq ≤ k) ∧ Aside0 (Below w.heap.size w w'))
 case atStart => exact ⟨(0), (by first | rfl | (simp; done) | (simp [*]; done)), H', ⟨Nat.le_refl _⟩, ⟨by repeat (first | (with_reducible first | exact HB.out | apply ba_ | apply bn_ | apply bd_) | exact HB.out)⟩⟩
 case round =>
  clear H'
  try clear c1
  try clear p2
  obtain ⟨x9_1, rfl, HA, HK1, HB⟩ := hrel
  cases gk with
  | zero => exact absurd HA.out (by simp [impl_GroupOf.l0])
  | succ k1 =>
   have H := HA.out
   clear HA
   simp only [impl_GroupOf.l0] at H
   by_cases c3 : x9_1 < (l0.length : Int)
   ·
    rw [if_pos c3] at H
    have c3b0 := decide_eq_true c3
    clear c3
    by_cases c4 : 0 ≤ x9_1
    ·
     rw [if_pos c4] at H
     have c4b0 := decide_eq_true c4
     clear c4
     by_cases c5 : x9_1 < (l0.length : Int)
     ·
      rw [if_pos c5] at H
      have c5b0 := decide_eq_true c5
      clear c5
      replace H := Option.bind_eq_some_iff.mp H
      obtain ⟨t1069, A60, H⟩ := H
      have A6 := Aside0.mk A60
      clear A60
      by_cases c7 : t1069 = true
      ·
       subst c7
       rw [if_pos rfl] at H
       obtain rfl := Option.some.inj H
       have p1067 : 0 ≤ (x9_1 : Int) := of_decide_eq_true (by with_reducible assumption)
       have q1067 : x9_1 < (l0.length : Int) := of_decide_eq_true (by with_reducible assumption)
       obtain ⟨ad1067, A1067_1, c1067_1, A1067_4, c1067_4, e1067, hx1067_0, hx1067_1, hx1067_2, hx1067_3, hx1067_4, hl1067_1, hi1067_1, hl1067_4, hi1067_4⟩ := at_T75 HR0.out x9_1 p1067 q1067
       cases e1067
       replace hx1067_0 := cl_ HB.out hx1067_0
       replace hx1067_1 := cl_ HB.out hx1067_1
       replace hx1067_2 := cl_ HB.out hx1067_2
       replace hx1067_3 := cl_ HB.out hx1067_3
       replace hx1067_4 := cl_ HB.out hx1067_4
       have HR1067_1 := Aside0.mk hi1067_1
       have HC1067_1 := Aside0.mk hl1067_1
       clear hi1067_1 hl1067_1
       have HR1067_4 := Aside0.mk hi1067_4
       have HC1067_4 := Aside0.mk hl1067_4
       clear hi1067_4 hl1067_4
       replace p1067 := eq_true p1067
       replace q1067 := eq_true q1067
       go_wp2_with (first | ((with_reducible refine gate_dst (N := 6) rfl ?_); refine box_event ?hg (N := 6) ?hd (cs := #[.int .i64 0, .slice none 0 0, .int .i64 0, .int .i64 0, .slice none 0 0]) (t := 75) ?hr ?_; (case hd => rfl); (case hg => rfl); (case hr => first | (go_simp; done) | (go_simp; rfl)); intro gb1068 hg w8 hbox hb; have n0_ := Aside0.mk (below_step (by repeat (first | (with_reducible first | exact HB.out | apply ba_ | apply bn_ | apply bd_) | exact HB.out)) hb); have BK1068 := Aside0.mk (hbox); have GW1068 := Aside0.mk ((by rw [hg]; exact (below_size (by repeat (first | (with_reducible first | exact HB.out | apply ba_ | apply bn_ | apply bd_) | exact HB.out))) : w.heap.size ≤ gb1068)); have GE1068 := GW1068; clear HB; have HB := n0_; clear n0_; clear hb hbox hg; have hcz9_0 : w8.cell? ⟨gb1068, 0, none⟩ = some (.int .i64 0) := (blk_cell BK1068.out 0).trans rfl; have hcz9_1 : w8.cell? ⟨gb1068, 1, none⟩ = some (.slice none 0 0) := (blk_cell BK1068.out 1).trans rfl; have hcz9_2 : w8.cell? ⟨gb1068, 2, none⟩ = some (.int .i64 0) := (blk_cell BK1068.out 2).trans rfl; have hcz9_3 : w8.cell? ⟨gb1068, 3, none⟩ = some (.int .i64 0) := (blk_cell BK1068.out 3).trans rfl; have hcz9_4 : w8.cell? ⟨gb1068, 4, none⟩ = some (.slice none 0 0) := (blk_cell BK1068.out 4).trans rfl; have hfz9_0 := blk_frozen BK1068.out 0; have hfz9_1 := blk_frozen BK1068.out 1; have hfz9_2 := blk_frozen BK1068.out 2; have hfz9_3 := blk_frozen BK1068.out 3; have hfz9_4 := blk_frozen BK1068.out 4) | ((with_reducible refine gate_callee (f := 139) rfl ?_); refine goesL_ (some 17) rfl rfl Try.func139 (by kernel_rfl) rfl #[.slice A1067_1 ((rd_T75 l0 x9_1).f1).length c1067_1, .slice A1 l1.length c1] rfl (by (try simp only [mp_]); first | done | rfl | (simp only [List.length_drop, List.length_take]; rfl)) ?_; (with_reducible refine (impl_SameSet.calls k1 _ _ ((rd_T75 l0 x9_1).f1) _ _ l1 true _ ?side1 ?side2 ?side3 ?side4 A6.out).mono ?_); (case side1 => exact Kd.C_below HR1067_1.out (by repeat (first | (with_reducible first | exact HB.out | apply ba_ | apply bn_ | apply bd_ | refine below_set ?_ GE1068.out) | exact HB.out))); (case side2 => exact HC1067_1.out); (case side3 => exact Kd.C_below HR1.out (by repeat (first | (with_reducible first | exact HB.out | apply ba_ | apply bn_ | apply bd_ | refine below_set ?_ GE1068.out) | exact HB.out))); (case side4 => exact HC1.out); rintro e w' ⟨rfl, ⟨nd, rfl⟩⟩; refine ⟨_, rfl, ?_⟩))
       go_ret
       exact ⟨by first | rfl | (simp [errW_none, errW_some] <;> rfl) | (simp [*, errW_none, errW_some] <;> rfl), by repeat (first | (with_reducible first | exact HB.out | apply ba_ | apply bn_ | apply bd_ | refine below_set ?_ GE1068.out) | exact HB.out)⟩
      replace c7 := Bool.eq_false_iff.mpr c7
      subst c7
      rw [if_neg (show ¬ (false = true) by decide)] at H
      have H' := Aside0.mk H
      clear H
      have p1067 : 0 ≤ (x9_1 : Int) := of_decide_eq_true (by with_reducible assumption)
      have q1067 : x9_1 < (l0.length : Int) := of_decide_eq_true (by with_reducible assumption)
      obtain ⟨ad1067, A1067_1, c1067_1, A1067_4, c1067_4, e1067, hx1067_0, hx1067_1, hx1067_2, hx1067_3, hx1067_4, hl1067_1, hi1067_1, hl1067_4, hi1067_4⟩ := at_T75 HR0.out x9_1 p1067 q1067
      cases e1067
      replace hx1067_0 := cl_ HB.out hx1067_0
      replace hx1067_1 := cl_ HB.out hx1067_1
      replace hx1067_2 := cl_ HB.out hx1067_2
      replace hx1067_3 := cl_ HB.out hx1067_3
      replace hx1067_4 := cl_ HB.out hx1067_4
      have HR1067_1 := Aside0.mk hi1067_1
      have HC1067_1 := Aside0.mk hl1067_1
      clear hi1067_1 hl1067_1
      have HR1067_4 := Aside0.mk hi1067_4
      have HC1067_4 := Aside0.mk hl1067_4
      clear hi1067_4 hl1067_4
      replace p1067 := eq_true p1067
      replace q1067 := eq_true q1067
      go_wp2_with (first | ((with_reducible refine gate_dst (N := 6) rfl ?_); refine box_event ?hg (N := 6) ?hd (cs := #[.int .i64 0, .slice none 0 0, .int .i64 0, .int .i64 0, .slice none 0 0]) (t := 75) ?hr ?_; (case hd => rfl); (case hg => rfl); (case hr => first | (go_simp; done) | (go_simp; rfl)); intro gb1068 hg w10 hbox hb; have n0_ := Aside0.mk (below_step (by repeat (first | (with_reducible first | exact HB.out | apply ba_ | apply bn_ | apply bd_) | exact HB.out)) hb); have BK1068 := Aside0.mk (hbox); have GW1068 := Aside0.mk ((by rw [hg]; exact (below_size (by repeat (first | (with_reducible first | exact HB.out | apply ba_ | apply bn_ | apply bd_) | exact HB.out))) : w.heap.size ≤ gb1068)); have GE1068 := GW1068; clear HB; have HB := n0_; clear n0_; clear hb hbox hg; have hcz11_0 : w10.cell? ⟨gb1068, 0, none⟩ = some (.int .i64 0) := (blk_cell BK1068.out 0).trans rfl; have hcz11_1 : w10.cell? ⟨gb1068, 1, none⟩ = some (.slice none 0 0) := (blk_cell BK1068.out 1).trans rfl; have hcz11_2 : w10.cell? ⟨gb1068, 2, none⟩ = some (.int .i64 0) := (blk_cell BK1068.out 2).trans rfl; have hcz11_3 : w10.cell? ⟨gb1068, 3, none⟩ = some (.int .i64 0) := (blk_cell BK1068.out 3).trans rfl; have hcz11_4 : w10.cell? ⟨gb1068, 4, none⟩ = some (.slice none 0 0) := (blk_cell BK1068.out 4).trans rfl; have hfz11_0 := blk_frozen BK1068.out 0; have hfz11_1 := blk_frozen BK1068.out 1; have hfz11_2 := blk_frozen BK1068.out 2; have hfz11_3 := blk_frozen BK1068.out 3; have hfz11_4 := blk_frozen BK1068.out 4) | ((with_reducible refine gate_callee (f := 139) rfl ?_); refine goesL_ (some 17) rfl rfl Try.func139 (by kernel_rfl) rfl #[.slice A1067_1 ((rd_T75 l0 x9_1).f1).length c1067_1, .slice A1 l1.length c1] rfl (by (try simp only [mp_]); first | done | rfl | (simp only [List.length_drop, List.length_take]; rfl)) ?_; (with_reducible refine (impl_SameSet.calls k1 _ _ ((rd_T75 l0 x9_1).f1) _ _ l1 false _ ?side1 ?side2 ?side3 ?side4 A6.out).mono ?_); (case side1 => exact Kd.C_below HR1067_1.out (by repeat (first | (with_reducible first | exact HB.out | apply ba_ | apply bn_ | apply bd_ | refine below_set ?_ GE1068.out) | exact HB.out))); (case side2 => exact HC1067_1.out); (case side3 => exact Kd.C_below HR1.out (by repeat (first | (with_reducible first | exact HB.out | apply ba_ | apply bn_ | apply bd_ | refine below_set ?_ GE1068.out) | exact HB.out))); (case side4 => exact HC1.out); rintro e w' ⟨rfl, ⟨nd, rfl⟩⟩; refine ⟨_, rfl, ?_⟩))
      go_roundg k1
      case measure => have := HK1.out; omega
      case rel => exact ⟨(wrap64 (x9_1 + 1)), (by first | rfl | (simp; done) | (simp [*]; done)), H', ⟨by have := HK1.out; omega⟩, ⟨by repeat (first | (with_reducible first | exact HB.out | apply ba_ | apply bn_ | apply bd_ | refine below_set ?_ GE1068.out) | exact HB.out)⟩⟩
     rw [if_neg c5] at H
     exact absurd H (by simp)
    rw [if_neg c4] at H
    exact absurd H (by simp)
   rw [if_neg c3] at H
   have c3b0 : decide (x9_1 < (l0.length : Int)) = false := decide_eq_false c3
   clear c3
   obtain rfl := Option.some.inj H
   go_wp2
   go_ret
   exact ⟨by first | rfl | (simp [errW_none, errW_some] <;> rfl) | (simp [*, errW_none, errW_some] <;> rfl), by repeat (first | (with_reducible first | exact HB.out | apply ba_ | apply bn_ | apply bd_) | exact HB.out)⟩
def impl_GroupsOk.l0 : Nat → List (S75) → List ByteArray → List (S75) → Int → Int → Option (Bool)
 | 0, _, _, _, _, _ => none
 | k + 1, x0, x1, x7, x8, x9 => if x9 < x8 then (if 0 ≤ x9 then (if x9 < (x7.length : Int) then (if x9 ≥ 12 then (some false) else ((impl_GroupOk.f k ((rd_T75 x7 x9).f0) ((rd_T75 x7 x9).f1) ((rd_T75 x7 x9).f2) ((rd_T75 x7 x9).f3) ((rd_T75 x7 x9).f4) x1).bind fun t1072 => (if t1072 = true then (if x9 > 0 then (if 0 ≤ (wrap64 (x9 - 1)) then (if (wrap64 (x9 - 1)) < (x0.length : Int) then (if ((rd_T75 x0 (wrap64 (x9 - 1))).f0) ≥ ((rd_T75 x7 x9).f0) then (some false) else ((impl_GroupOf.f k x0 ((rd_T75 x7 x9).f1)).bind fun t1074 => (if t1074 = x9 then (impl_GroupsOk.l0 k x0 x1 x7 x8 (wrap64 (x9 + 1))) else (some false)))) else (none)) else (none)) else ((impl_GroupOf.f k x0 ((rd_T75 x7 x9).f1)).bind fun t1075 => (if t1075 = x9 then (impl_GroupsOk.l0 k x0 x1 x7 x8 (wrap64 (x9 + 1))) else (some false)))) else (some false)))) else (none)) else (none)) else (some true)
def impl_GroupsOk.f (k : Nat) (l0 : List (S75)) (l1 : List ByteArray) : Option (Bool) := impl_GroupsOk.l0 k l0 l1 l0 (l0.length : Int) 0
theorem impl_GroupsOk.mono_l : ∀ k, (∀ y0 y1 y2 y3 y4, LeO (impl_GroupsOk.l0 k y0 y1 y2 y3 y4) (impl_GroupsOk.l0 (k + 1) y0 y1 y2 y3 y4))
 | 0 => fun _ _ _ _ _ r h => by simp [impl_GroupsOk.l0] at h
 | k + 1 => by
  have ih0 := impl_GroupsOk.mono_l k
  intro y0 y1 y2 y3 y4
  unfold impl_GroupsOk.l0
  repeat' first
  | (with_reducible exact ih0 _ _ _ _ _)
  | (with_reducible exact impl_GroupOf.mono _ _ _)
  | (with_reducible exact impl_GroupOk.mono _ _ _ _ _ _ _)
  | (with_reducible exact LeO.refl _)
  | (with_reducible exact LeO.none _)
  | (with_reducible refine LeO.ite ?_ ?_)
  | (with_reducible refine LeO.bind ?_ (fun _ => ?_))
  | exact ih0 _ _ _ _ _
  | exact impl_GroupOf.mono _ _ _
  | exact impl_GroupOk.mono _ _ _ _ _ _ _
theorem impl_GroupsOk.mono : ∀ a0 a1 k, LeO (impl_GroupsOk.f k a0 a1) (impl_GroupsOk.f (k + 1) a0 a1) := by
 intro a0 a1 k
 have ih0 := impl_GroupsOk.mono_l k
 unfold impl_GroupsOk.f
 repeat' first
   | (with_reducible exact ih0 _ _ _ _ _)
   | (with_reducible exact impl_GroupOf.mono _ _ _)
   | (with_reducible exact impl_GroupOk.mono _ _ _ _ _ _ _)
   | (with_reducible exact LeO.refl _)
   | (with_reducible exact LeO.none _)
   | (with_reducible refine LeO.ite ?_ ?_)
   | (with_reducible refine LeO.bind ?_ (fun _ => ?_))
   | exact ih0 _ _ _ _ _
   | exact impl_GroupOf.mono _ _ _
   | exact impl_GroupOk.mono _ _ _ _ _ _ _
def impl_GroupsOk.T4 : Bool × List (List Nat × List Nat) := (true, [([], []), ([0], [0]), ([1], [1]), ([2], [2]), ([2], [2]), ([3, 4, 2, 2], [2, 3, 4]), ([5, 2], [2, 5]), ([2, 6], [2, 6]), ([7, 5], [7]), ([8], [8]), ([9, 8], [8, 9]), ([10, 8, 8], [8, 10]), ([11], [11]), ([11], [11]), ([13, 11], [11, 13]), ([12, 14, 11], [11, 12, 14]), ([15, 11], [11, 15]), ([16, 11], [11, 16]), ([11], [11]), ([18, 11], [11, 18]), ([17, 19, 11], [11, 17, 19]), ([11, 20, 8], [8, 11, 20]), ([8, 21], [8, 21]), ([22, 11], [22]), ([23], [23]), ([23], [23]), ([25, 23], [23, 25]), ([24, 26, 23, 23], [23, 24, 26]), ([23], [23]), ([27, 28, 23], [23, 27, 28]), ([23, 29], [23, 29])])
def impl_GroupsOk.B4 : List Nat := [0, 1, 3, 7, 7, 31, 63, 127, 255, 511, 1023, 2047, 4095, 4095, 12287, 32767, 65535, 131071, 4095, 266239, 1048575, 2097151, 4194303, 8388607, 16777215, 16777215, 50331647, 134217727, 16777215, 536870911, 1073741823]
theorem impl_GroupsOk.tab4 : rtab .any (opsOf Try.f63 4) = impl_GroupsOk.T4 := by kernel_rfl
theorem impl_GroupsOk.bits4 : waitsOk impl_GroupsOk.T4.2 impl_GroupsOk.B4 = true := by kernel_rfl
theorem impl_GroupsOk.calls (k : Nat) (A0 : Option Addr) (c0 : Nat) (l0 : List (S75)) (A1 : Option Addr) (c1 : Nat) (l1 : List ByteArray) (r : Bool) (w : World) (hr0 : Kd.C k75 w A0 l0.length l0) (hc0 : l0.length ≤ c0) (hr1 : Kd.C Kd.string w A1 l1.length l1) (hc1 : l1.length ≤ c1) (h : impl_GroupsOk.f k l0 l1 = some r) :
  Calls Try.prog 63 #[.slice A0 l0.length c0, .slice A1 l1.length c1] w fun e w' => e = .returned (.bool r) ∧ Below w.heap.size w w' := by
 have hu75 := Try.underlying75
 have HR0 := Aside0.mk hr0
 have HC0 := Aside0.mk hc0
 clear hr0 hc0
 have HR1 := Aside0.mk hr1
 have HC1 := Aside0.mk hc1
 clear hr1 hc1
 have HB := Aside0.mk (Below.refl w.heap.size w)
 have H : (impl_GroupsOk.l0 k l0 l1 l0 (l0.length : Int) 0) = some r := h
 clear h
 have H' := Aside0.mk H
 clear H
 go_enter Try.func63, Try.ntmps63
 go_wp2
 go_loopg [9] k (fun kq v9 w' => ∃ (x9_1 : Int), v9 = .int .i64 x9_1 ∧ Aside0 (impl_GroupsOk.l0 kq l0 l1 l0 (l0.length : Int) x9_1 = some r) ∧ Aside0 (kq ≤ k) ∧ Aside0 (Below w.heap.size w w'))
 case atStart => exact ⟨(0), (by first | rfl | (simp; done) | (simp [*]; done)), H', ⟨Nat.le_refl _⟩, ⟨by repeat (first | (with_reducible first | exact HB.out | apply ba_ | apply bn_ | apply bd_) | exact HB.out)⟩⟩
 case round =>
  clear H'
  try clear c1
  try clear p2
  obtain ⟨x9_1, rfl, HA, HK1, HB⟩ := hrel
  cases gk with
  | zero => exact absurd HA.out (by simp [impl_GroupsOk.l0])
  | succ k1 =>
   have H := HA.out
   clear HA
   simp only [impl_GroupsOk.l0] at H
   by_cases c3 : x9_1 < (l0.length : Int)
   ·
    rw [if_pos c3] at H
    have c3b0 := decide_eq_true c3
    clear c3
    by_cases c4 : 0 ≤ x9_1
    ·
     rw [if_pos c4] at H
     have c4b0 := decide_eq_true c4
     clear c4
     by_cases c5 : x9_1 < (l0.length : Int)
     ·
      rw [if_pos c5] at H
      have c5b0 := decide_eq_true c5
      clear c5
      by_cases c6 : x9_1 ≥ 12
      ·
       rw [if_pos c6] at H
       have c6b0 : decide (12 ≤ x9_1) = true := decide_eq_true c6
       clear c6
       obtain rfl := Option.some.inj H
       have p1070 : 0 ≤ (x9_1 : Int) := of_decide_eq_true (by with_reducible assumption)
       have q1070 : x9_1 < (l0.length : Int) := of_decide_eq_true (by with_reducible assumption)
       obtain ⟨ad1070, A1070_1, c1070_1, A1070_4, c1070_4, e1070, hx1070_0, hx1070_1, hx1070_2, hx1070_3, hx1070_4, hl1070_1, hi1070_1, hl1070_4, hi1070_4⟩ := at_T75 HR0.out x9_1 p1070 q1070
       cases e1070
       replace hx1070_0 := cl_ HB.out hx1070_0
       replace hx1070_1 := cl_ HB.out hx1070_1
       replace hx1070_2 := cl_ HB.out hx1070_2
       replace hx1070_3 := cl_ HB.out hx1070_3
       replace hx1070_4 := cl_ HB.out hx1070_4
       have HR1070_1 := Aside0.mk hi1070_1
       have HC1070_1 := Aside0.mk hl1070_1
       clear hi1070_1 hl1070_1
       have HR1070_4 := Aside0.mk hi1070_4
       have HC1070_4 := Aside0.mk hl1070_4
       clear hi1070_4 hl1070_4
       replace p1070 := eq_true p1070
       replace q1070 := eq_true q1070
       try go_wp2_with (first | ((with_reducible refine gate_dst (N := 6) rfl ?_); refine box_event ?hg (N := 6) ?hd (cs := #[.int .i64 0, .slice none 0 0, .int .i64 0, .int .i64 0, .slice none 0 0]) (t := 75) ?hr ?_; (case hd => rfl); (case hg => rfl); (case hr => first | (go_simp; done) | (go_simp; rfl)); intro gb1071 hg w7 hbox hb; have n0_ := Aside0.mk (below_step (by repeat (first | (with_reducible first | exact HB.out | apply ba_ | apply bn_ | apply bd_) | exact HB.out)) hb); have BK1071 := Aside0.mk (hbox); have GW1071 := Aside0.mk ((by rw [hg]; exact (below_size (by repeat (first | (with_reducible first | exact HB.out | apply ba_ | apply bn_ | apply bd_) | exact HB.out))) : w.heap.size ≤ gb1071)); have GE1071 := GW1071; clear HB; have HB := n0_; clear n0_; clear hb hbox hg; have hcz8_0 : w7.cell? ⟨gb1071, 0, none⟩ = some (.int .i64 0) := (blk_cell BK1071.out 0).trans rfl; have hcz8_1 : w7.cell? ⟨gb1071, 1, none⟩ = some (.slice none 0 0) := (blk_cell BK1071.out 1).trans rfl; have hcz8_2 : w7.cell? ⟨gb1071, 2, none⟩ = some (.int .i64 0) := (blk_cell BK1071.out 2).trans rfl; have hcz8_3 : w7.cell? ⟨gb1071, 3, none⟩ = some (.int .i64 0) := (blk_cell BK1071.out 3).trans rfl; have hcz8_4 : w7.cell? ⟨gb1071, 4, none⟩ = some (.slice none 0 0) := (blk_cell BK1071.out 4).trans rfl; have hfz8_0 := blk_frozen BK1071.out 0; have hfz8_1 := blk_frozen BK1071.out 1; have hfz8_2 := blk_frozen BK1071.out 2; have hfz8_3 := blk_frozen BK1071.out 3; have hfz8_4 := blk_frozen BK1071.out 4))
       have n0_ : Aside0 ((((((w7.setCell ⟨gb1071, 0, none⟩ (.int .i64 ((rd_T75 l0 x9_1).f0))).setCell ⟨gb1071, 1, none⟩ (.slice A1070_1 ((rd_T75 l0 x9_1).f1).length c1070_1)).setCell ⟨gb1071, 2, none⟩ (.int .i64 ((rd_T75 l0 x9_1).f2))).setCell ⟨gb1071, 3, none⟩ (.int .i64 ((rd_T75 l0 x9_1).f3))).setCell ⟨gb1071, 4, none⟩ (.slice A1070_4 ((rd_T75 l0 x9_1).f4).length c1070_4)).heap[gb1071]? = some (.cells #[.int .i64 ((rd_T75 l0 x9_1).f0), .slice A1070_1 ((rd_T75 l0 x9_1).f1).length c1070_1, .int .i64 ((rd_T75 l0 x9_1).f2), .int .i64 ((rd_T75 l0 x9_1).f3), .slice A1070_4 ((rd_T75 l0 x9_1).f4).length c1070_4] 75 (0, 0))) := ⟨by (with_reducible repeat (first | refine kn_ ?_ _ | refine kd_ ?_ | refine ka_ ?_ _)); refine blk_put (cs := #[.int .i64 ((rd_T75 l0 x9_1).f0), .slice A1070_1 ((rd_T75 l0 x9_1).f1).length c1070_1, .int .i64 ((rd_T75 l0 x9_1).f2), .int .i64 ((rd_T75 l0 x9_1).f3), .slice none 0 0]) ?_ 4 _ rfl; (with_reducible repeat (first | refine kn_ ?_ _ | refine kd_ ?_ | refine ka_ ?_ _)); refine blk_put (cs := #[.int .i64 ((rd_T75 l0 x9_1).f0), .slice A1070_1 ((rd_T75 l0 x9_1).f1).length c1070_1, .int .i64 ((rd_T75 l0 x9_1).f2), .int .i64 0, .slice none 0 0]) ?_ 3 _ rfl; (with_reducible repeat (first | refine kn_ ?_ _ | refine kd_ ?_ | refine ka_ ?_ _)); refine blk_put (cs := #[.int .i64 ((rd_T75 l0 x9_1).f0), .slice A1070_1 ((rd_T75 l0 x9_1).f1).length c1070_1, .int .i64 0, .int .i64 0, .slice none 0 0]) ?_ 2 _ rfl; (with_reducible repeat (first | refine kn_ ?_ _ | refine kd_ ?_ | refine ka_ ?_ _)); refine blk_put (cs := #[.int .i64 ((rd_T75 l0 x9_1).f0), .slice none 0 0, .int .i64 0, .int .i64 0, .slice none 0 0]) ?_ 1 _ rfl; (with_reducible repeat (first | refine kn_ ?_ _ | refine kd_ ?_ | refine ka_ ?_ _)); refine blk_put (cs := #[.int .i64 0, .slice none 0 0, .int .i64 0, .int .i64 0, .slice none 0 0]) ?_ 0 _ rfl; (with_reducible repeat (first | refine kn_ ?_ _ | refine kd_ ?_ | refine ka_ ?_ _)); exact BK1071.out⟩
       have n1_ : Aside0 (Below w.heap.size w (((((w7.setCell ⟨gb1071, 0, none⟩ (.int .i64 ((rd_T75 l0 x9_1).f0))).setCell ⟨gb1071, 1, none⟩ (.slice A1070_1 ((rd_T75 l0 x9_1).f1).length c1070_1)).setCell ⟨gb1071, 2, none⟩ (.int .i64 ((rd_T75 l0 x9_1).f2))).setCell ⟨gb1071, 3, none⟩ (.int .i64 ((rd_T75 l0 x9_1).f3))).setCell ⟨gb1071, 4, none⟩ (.slice A1070_4 ((rd_T75 l0 x9_1).f4).length c1070_4))) := ⟨by repeat (first | (with_reducible first | exact HB.out | apply ba_ | apply bn_ | apply bd_ | refine below_set ?_ GE1071.out) | exact HB.out)⟩
       (try clear BK1071)
       (try clear HB)
       generalize (((((w7.setCell ⟨gb1071, 0, none⟩ (.int .i64 ((rd_T75 l0 x9_1).f0))).setCell ⟨gb1071, 1, none⟩ (.slice A1070_1 ((rd_T75 l0 x9_1).f1).length c1070_1)).setCell ⟨gb1071, 2, none⟩ (.int .i64 ((rd_T75 l0 x9_1).f2))).setCell ⟨gb1071, 3, none⟩ (.int .i64 ((rd_T75 l0 x9_1).f3))).setCell ⟨gb1071, 4, none⟩ (.slice A1070_4 ((rd_T75 l0 x9_1).f4).length c1070_4)) = w9 at n0_ n1_ ⊢
       have BK1071 := n0_
       have HB := n1_
       clear n0_ n1_
       have n0_ := Aside0.mk (blk_drew BK1071.out)
       have n1_ := Aside0.mk (bd_ HB.out)
       clear BK1071
       clear HB
       have BK1071 := n0_
       have HB := n1_
       clear n0_ n1_
       refine start_ (n := 31) (S := fun w' => True) (ds := []) #[f_,f_,f_,f_,f_,f_,f_,f_,f_,f_,f_,f_,f_,f_,f_,f_,f_,f_,f_,f_,f_,f_,f_,f_,f_,f_,f_,f_,f_,f_,f_] (by kernel_rfl) rfl rfl trivial (fun hHeld => ?_); refine with_tabW impl_GroupsOk.tab4 impl_GroupsOk.bits4 (fun HT_ HW_ => ?_)
       generalize w9.drew = w10 at BK1071 HB hHeld ⊢
       refine pu_ 0 14 ?_ (b_ 1 30) rfl rfl HT_.out ?_ ?_ ?_ ?_; rotate_left; intro w'; go_simp; with_reducible rfl; rotate_left; simp only [fr_]; rfl
       refine pu_ 1 15 ?_ (b_ 2 29) rfl rfl HT_.out ?_ ?_ ?_ ?_; rotate_left; intro w'; go_simp; with_reducible rfl; rotate_left; simp only [fr_]; rfl
       refine pu_ 2 16 ?_ (b_ 3 28) rfl rfl HT_.out ?_ ?_ ?_ ?_; rotate_left; intro w'; go_simp; with_reducible rfl; rotate_left; simp only [fr_]; rfl
       refine pv_ 3 17 ?_ (b_ 4 27) rfl rfl HT_.out ?_ ?_; rotate_left; simp only [fr_]; rfl
       refine pv_ 4 18 ?_ (b_ 5 26) rfl rfl HT_.out ?_ ?_; rotate_left; simp only [fr_]; rfl
       refine pv_ 5 19 ?_ (b_ 6 25) rfl rfl HT_.out ?_ ?_; rotate_left; simp only [fr_]; rfl
       refine pv_ 6 20 ?_ (b_ 7 24) rfl rfl HT_.out ?_ ?_; rotate_left; simp only [fr_]; rfl
       refine pu_ 7 21 ?_ (b_ 8 23) rfl rfl HT_.out ?_ ?_ ?_ ?_; rotate_left; intro w'; go_simp; with_reducible rfl; rotate_left; simp only [fr_]; rfl
       refine pu_ 8 22 ?_ (b_ 9 22) rfl rfl HT_.out ?_ ?_ ?_ ?_; rotate_left; intro w'; go_simp; with_reducible rfl; rotate_left; simp only [fr_]; rfl
       refine pv_ 9 23 ?_ (b_ 10 21) rfl rfl HT_.out ?_ ?_; rotate_left; simp only [fr_]; rfl
       refine pv_ 10 24 ?_ (b_ 11 20) rfl rfl HT_.out ?_ ?_; rotate_left; simp only [fr_]; rfl
       refine pv_ 11 25 ?_ (b_ 12 19) rfl rfl HT_.out ?_ ?_; rotate_left; simp only [fr_]; rfl
       refine pv_ 12 26 ?_ (b_ 13 18) rfl rfl HT_.out ?_ ?_; rotate_left; simp only [fr_]; rfl
       refine pv_ 13 27 ?_ (b_ 14 17) rfl rfl HT_.out ?_ ?_; rotate_left; simp only [fr_]; rfl
       refine pv_ 14 28 ?_ (b_ 15 16) rfl rfl HT_.out ?_ ?_; rotate_left; simp only [fr_]; rfl
       refine pv_ 15 29 ?_ (b_ 16 15) rfl rfl HT_.out ?_ ?_; rotate_left; simp only [fr_]; rfl
       refine pv_ 16 30 ?_ (b_ 17 14) rfl rfl HT_.out ?_ ?_; rotate_left; simp only [fr_]; rfl
       refine pv_ 17 31 ?_ (b_ 18 13) rfl rfl HT_.out ?_ ?_; rotate_left; simp only [fr_]; rfl
       refine pv_ 18 32 ?_ (b_ 19 12) rfl rfl HT_.out ?_ ?_; rotate_left; simp only [fr_]; rfl
       refine pv_ 19 33 ?_ (b_ 20 11) rfl rfl HT_.out ?_ ?_; rotate_left; simp only [fr_]; rfl
       refine pv_ 20 34 ?_ (b_ 21 10) rfl rfl HT_.out ?_ ?_; rotate_left; simp only [fr_]; rfl
       refine pv_ 21 35 ?_ (b_ 22 9) rfl rfl HT_.out ?_ ?_; rotate_left; simp only [fr_]; rfl
       refine pu_ 22 36 ?_ (b_ 23 8) rfl rfl HT_.out ?_ ?_ ?_ ?_; rotate_left; intro w'; go_simp; with_reducible rfl; rotate_left; simp only [fr_]; rfl
       refine pu_ 23 37 ?_ (b_ 24 7) rfl rfl HT_.out ?_ ?_ ?_ ?_; rotate_left; intro w'; go_simp; with_reducible rfl; rotate_left; simp only [fr_]; rfl
       refine pv_ 24 38 ?_ (b_ 25 6) rfl rfl HT_.out ?_ ?_; rotate_left; simp only [fr_]; rfl
       refine pv_ 25 39 ?_ (b_ 26 5) rfl rfl HT_.out ?_ ?_; rotate_left; simp only [fr_]; rfl
       refine pv_ 26 40 ?_ (b_ 27 4) rfl rfl HT_.out ?_ ?_; rotate_left; simp only [fr_]; rfl
       refine pv_ 27 41 ?_ (b_ 28 3) rfl rfl HT_.out ?_ ?_; rotate_left; simp only [fr_]; rfl
       refine pv_ 28 42 ?_ (b_ 29 2) rfl rfl HT_.out ?_ ?_; rotate_left; simp only [fr_]; rfl
       refine pv_ 29 43 ?_ (b_ 30 1) rfl rfl HT_.out ?_ ?_; rotate_left; simp only [fr_]; rfl
       refine pu_ 30 44 ?_ (b_ 31 0) rfl rfl HT_.out ?_ ?_ ?_ ?_; rotate_left; intro w'; go_simp; with_reducible rfl; rotate_left; simp only [fr_]; rfl
       refine done_ (done_of HT_.out (by kernel_rfl)) ?_
       try go_wp2
       go_ret
       exact ⟨by first | rfl | (simp [errW_none, errW_some] <;> rfl) | (simp [*, errW_none, errW_some] <;> rfl), by repeat (first | (with_reducible first | exact HB.out | apply ba_ | apply bn_ | apply bd_ | refine below_set ?_ GE1071.out) | exact HB.out)⟩
      rw [if_neg c6] at H
      have c6b0 : decide (12 ≤ x9_1) = false := decide_eq_false c6
      clear c6
      replace H := Option.bind_eq_some_iff.mp H
      obtain ⟨t1072, A110, H⟩ := H
      have A11 := Aside0.mk A110
      clear A110
      by_cases c12 : t1072 = true
      ·
       subst c12
       rw [if_pos rfl] at H
       by_cases c13 : x9_1 > 0
       ·
        rw [if_pos c13] at H
        have c13b0 : decide (0 < x9_1) = true := decide_eq_true c13
        clear c13
        obtain ⟨ji14, hji14⟩ : ∃ j_ : Int, (wrap64 (x9_1 - 1)) = j_ := ⟨_, rfl⟩
        replace H : (if 0 ≤ (ji14) then (if (ji14) < (l0.length : Int) then (if ((rd_T75 l0 (ji14)).f0) ≥ ((rd_T75 l0 x9_1).f0) then (some false) else ((impl_GroupOf.f k1 l0 ((rd_T75 l0 x9_1).f1)).bind fun t1074 => (if t1074 = x9_1 then (impl_GroupsOk.l0 k1 l0 l1 l0 (l0.length : Int) (wrap64 (x9_1 + 1))) else (some false)))) else (none)) else (none)) = some r := by first | (rw [hji14] at H; exact H) | (simp only [hji14] at H ⊢; exact H)
        (try rw [hji14] at A11)
        have hji14w : (IntKind.i64.wrap (x9_1 - 1)) = ji14 := (i64_w _).trans hji14
        by_cases c15 : 0 ≤ (ji14)
        ·
         rw [if_pos c15] at H
         have c15b0 := decide_eq_true c15
         clear c15
         by_cases c16 : (ji14) < (l0.length : Int)
         ·
          rw [if_pos c16] at H
          have c16b0 := decide_eq_true c16
          clear c16
          by_cases c17 : ((rd_T75 l0 (ji14)).f0) ≥ ((rd_T75 l0 x9_1).f0)
          ·
           rw [if_pos c17] at H
           have c17b0 : decide (((rd_T75 l0 x9_1).f0) ≤ ((rd_T75 l0 (ji14)).f0)) = true := decide_eq_true c17
           clear c17
           obtain rfl := Option.some.inj H
           have p1070 : 0 ≤ (x9_1 : Int) := of_decide_eq_true (by with_reducible assumption)
           have q1070 : x9_1 < (l0.length : Int) := of_decide_eq_true (by with_reducible assumption)
           obtain ⟨ad1070, A1070_1, c1070_1, A1070_4, c1070_4, e1070, hx1070_0, hx1070_1, hx1070_2, hx1070_3, hx1070_4, hl1070_1, hi1070_1, hl1070_4, hi1070_4⟩ := at_T75 HR0.out x9_1 p1070 q1070
           cases e1070
           replace hx1070_0 := cl_ HB.out hx1070_0
           replace hx1070_1 := cl_ HB.out hx1070_1
           replace hx1070_2 := cl_ HB.out hx1070_2
           replace hx1070_3 := cl_ HB.out hx1070_3
           replace hx1070_4 := cl_ HB.out hx1070_4
           have HR1070_1 := Aside0.mk hi1070_1
           have HC1070_1 := Aside0.mk hl1070_1
           clear hi1070_1 hl1070_1
           have HR1070_4 := Aside0.mk hi1070_4
           have HC1070_4 := Aside0.mk hl1070_4
           clear hi1070_4 hl1070_4
           replace p1070 := eq_true p1070
           replace q1070 := eq_true q1070
           try go_wp2_with (first | ((with_reducible refine gate_dst (N := 6) rfl ?_); refine box_event ?hg (N := 6) ?hd (cs := #[.int .i64 0, .slice none 0 0, .int .i64 0, .int .i64 0, .slice none 0 0]) (t := 75) ?hr ?_; (case hd => rfl); (case hg => rfl); (case hr => first | (go_simp; done) | (go_simp; rfl)); intro gb1071 hg w18 hbox hb; have n0_ := Aside0.mk (below_step (by repeat (first | (with_reducible first | exact HB.out | apply ba_ | apply bn_ | apply bd_) | exact HB.out)) hb); have BK1071 := Aside0.mk (hbox); have GW1071 := Aside0.mk ((by rw [hg]; exact (below_size (by repeat (first | (with_reducible first | exact HB.out | apply ba_ | apply bn_ | apply bd_) | exact HB.out))) : w.heap.size ≤ gb1071)); have GE1071 := GW1071; clear HB; have HB := n0_; clear n0_; clear hb hbox hg; have hcz19_0 : w18.cell? ⟨gb1071, 0, none⟩ = some (.int .i64 0) := (blk_cell BK1071.out 0).trans rfl; have hcz19_1 : w18.cell? ⟨gb1071, 1, none⟩ = some (.slice none 0 0) := (blk_cell BK1071.out 1).trans rfl; have hcz19_2 : w18.cell? ⟨gb1071, 2, none⟩ = some (.int .i64 0) := (blk_cell BK1071.out 2).trans rfl; have hcz19_3 : w18.cell? ⟨gb1071, 3, none⟩ = some (.int .i64 0) := (blk_cell BK1071.out 3).trans rfl; have hcz19_4 : w18.cell? ⟨gb1071, 4, none⟩ = some (.slice none 0 0) := (blk_cell BK1071.out 4).trans rfl; have hfz19_0 := blk_frozen BK1071.out 0; have hfz19_1 := blk_frozen BK1071.out 1; have hfz19_2 := blk_frozen BK1071.out 2; have hfz19_3 := blk_frozen BK1071.out 3; have hfz19_4 := blk_frozen BK1071.out 4))
           have n0_ : Aside0 ((((((w18.setCell ⟨gb1071, 0, none⟩ (.int .i64 ((rd_T75 l0 x9_1).f0))).setCell ⟨gb1071, 1, none⟩ (.slice A1070_1 ((rd_T75 l0 x9_1).f1).length c1070_1)).setCell ⟨gb1071, 2, none⟩ (.int .i64 ((rd_T75 l0 x9_1).f2))).setCell ⟨gb1071, 3, none⟩ (.int .i64 ((rd_T75 l0 x9_1).f3))).setCell ⟨gb1071, 4, none⟩ (.slice A1070_4 ((rd_T75 l0 x9_1).f4).length c1070_4)).heap[gb1071]? = some (.cells #[.int .i64 ((rd_T75 l0 x9_1).f0), .slice A1070_1 ((rd_T75 l0 x9_1).f1).length c1070_1, .int .i64 ((rd_T75 l0 x9_1).f2), .int .i64 ((rd_T75 l0 x9_1).f3), .slice A1070_4 ((rd_T75 l0 x9_1).f4).length c1070_4] 75 (0, 0))) := ⟨by (with_reducible repeat (first | refine kn_ ?_ _ | refine kd_ ?_ | refine ka_ ?_ _)); refine blk_put (cs := #[.int .i64 ((rd_T75 l0 x9_1).f0), .slice A1070_1 ((rd_T75 l0 x9_1).f1).length c1070_1, .int .i64 ((rd_T75 l0 x9_1).f2), .int .i64 ((rd_T75 l0 x9_1).f3), .slice none 0 0]) ?_ 4 _ rfl; (with_reducible repeat (first | refine kn_ ?_ _ | refine kd_ ?_ | refine ka_ ?_ _)); refine blk_put (cs := #[.int .i64 ((rd_T75 l0 x9_1).f0), .slice A1070_1 ((rd_T75 l0 x9_1).f1).length c1070_1, .int .i64 ((rd_T75 l0 x9_1).f2), .int .i64 0, .slice none 0 0]) ?_ 3 _ rfl; (with_reducible repeat (first | refine kn_ ?_ _ | refine kd_ ?_ | refine ka_ ?_ _)); refine blk_put (cs := #[.int .i64 ((rd_T75 l0 x9_1).f0), .slice A1070_1 ((rd_T75 l0 x9_1).f1).length c1070_1, .int .i64 0, .int .i64 0, .slice none 0 0]) ?_ 2 _ rfl; (with_reducible repeat (first | refine kn_ ?_ _ | refine kd_ ?_ | refine ka_ ?_ _)); refine blk_put (cs := #[.int .i64 ((rd_T75 l0 x9_1).f0), .slice none 0 0, .int .i64 0, .int .i64 0, .slice none 0 0]) ?_ 1 _ rfl; (with_reducible repeat (first | refine kn_ ?_ _ | refine kd_ ?_ | refine ka_ ?_ _)); refine blk_put (cs := #[.int .i64 0, .slice none 0 0, .int .i64 0, .int .i64 0, .slice none 0 0]) ?_ 0 _ rfl; (with_reducible repeat (first | refine kn_ ?_ _ | refine kd_ ?_ | refine ka_ ?_ _)); exact BK1071.out⟩
           have n1_ : Aside0 (Below w.heap.size w (((((w18.setCell ⟨gb1071, 0, none⟩ (.int .i64 ((rd_T75 l0 x9_1).f0))).setCell ⟨gb1071, 1, none⟩ (.slice A1070_1 ((rd_T75 l0 x9_1).f1).length c1070_1)).setCell ⟨gb1071, 2, none⟩ (.int .i64 ((rd_T75 l0 x9_1).f2))).setCell ⟨gb1071, 3, none⟩ (.int .i64 ((rd_T75 l0 x9_1).f3))).setCell ⟨gb1071, 4, none⟩ (.slice A1070_4 ((rd_T75 l0 x9_1).f4).length c1070_4))) := ⟨by repeat (first | (with_reducible first | exact HB.out | apply ba_ | apply bn_ | apply bd_ | refine below_set ?_ GE1071.out) | exact HB.out)⟩
           (try clear BK1071)
           (try clear HB)
           generalize (((((w18.setCell ⟨gb1071, 0, none⟩ (.int .i64 ((rd_T75 l0 x9_1).f0))).setCell ⟨gb1071, 1, none⟩ (.slice A1070_1 ((rd_T75 l0 x9_1).f1).length c1070_1)).setCell ⟨gb1071, 2, none⟩ (.int .i64 ((rd_T75 l0 x9_1).f2))).setCell ⟨gb1071, 3, none⟩ (.int .i64 ((rd_T75 l0 x9_1).f3))).setCell ⟨gb1071, 4, none⟩ (.slice A1070_4 ((rd_T75 l0 x9_1).f4).length c1070_4)) = w20 at n0_ n1_ ⊢
           have BK1071 := n0_
           have HB := n1_
           clear n0_ n1_
           have n0_ := Aside0.mk (blk_drew BK1071.out)
           have n1_ := Aside0.mk (bd_ HB.out)
           clear BK1071
           clear HB
           have BK1071 := n0_
           have HB := n1_
           clear n0_ n1_
           have p1073 : 0 ≤ ((ji14) : Int) := of_decide_eq_true (by with_reducible assumption)
           have q1073 : (ji14) < (l0.length : Int) := of_decide_eq_true (by with_reducible assumption)
           obtain ⟨ad1073, A1073_1, c1073_1, A1073_4, c1073_4, e1073, hx1073_0, hx1073_1, hx1073_2, hx1073_3, hx1073_4, hl1073_1, hi1073_1, hl1073_4, hi1073_4⟩ := at_T75 HR0.out (ji14) p1073 q1073
           have hw1073_4 := hx1073_4
           have hw1073_3 := hx1073_3
           have hw1073_2 := hx1073_2
           have hw1073_1 := hx1073_1
           have hw1073_0 := hx1073_0
           obtain rfl : ad1070 = ad1073 := (by injection e1073)
           replace hx1073_0 := cl_ HB.out hx1073_0
           replace hx1073_1 := cl_ HB.out hx1073_1
           replace hx1073_2 := cl_ HB.out hx1073_2
           replace hx1073_3 := cl_ HB.out hx1073_3
           replace hx1073_4 := cl_ HB.out hx1073_4
           have HR1073_1 := Aside0.mk hi1073_1
           have HC1073_1 := Aside0.mk hl1073_1
           clear hi1073_1 hl1073_1
           have HR1073_4 := Aside0.mk hi1073_4
           have HC1073_4 := Aside0.mk hl1073_4
           clear hi1073_4 hl1073_4
           replace p1073 := eq_true p1073
           replace q1073 := eq_true q1073
           refine start_ (n := 31) (S := fun w' => w'.cell? ⟨gb1071, 0, none⟩ = some (.int .i64 ((rd_T75 l0 x9_1).f0)) ∧ w'.cell? ⟨gb1071, 1, none⟩ = some (.slice A1070_1 ((rd_T75 l0 x9_1).f1).length c1070_1) ∧ w'.cell? ⟨gb1071, 2, none⟩ = some (.int .i64 ((rd_T75 l0 x9_1).f2)) ∧ w'.cell? ⟨gb1071, 3, none⟩ = some (.int .i64 ((rd_T75 l0 x9_1).f3)) ∧ w'.cell? ⟨gb1071, 4, none⟩ = some (.slice A1070_4 ((rd_T75 l0 x9_1).f4).length c1070_4) ∧ w'.cell? (ad1070.add (((ji14)).toNat * 5)) = some (.int .i64 ((rd_T75 l0 (ji14)).f0)) ∧ w'.cell? ⟨(ad1070.add (((ji14)).toNat * 5)).block, (ad1070.add (((ji14)).toNat * 5)).off + 1, none⟩ = some (.slice A1073_1 ((rd_T75 l0 (ji14)).f1).length c1073_1) ∧ w'.cell? ⟨(ad1070.add (((ji14)).toNat * 5)).block, (ad1070.add (((ji14)).toNat * 5)).off + 2, none⟩ = some (.int .i64 ((rd_T75 l0 (ji14)).f2)) ∧ w'.cell? ⟨(ad1070.add (((ji14)).toNat * 5)).block, (ad1070.add (((ji14)).toNat * 5)).off + 3, none⟩ = some (.int .i64 ((rd_T75 l0 (ji14)).f3)) ∧ w'.cell? ⟨(ad1070.add (((ji14)).toNat * 5)).block, (ad1070.add (((ji14)).toNat * 5)).off + 4, none⟩ = some (.slice A1073_4 ((rd_T75 l0 (ji14)).f4).length c1073_4)) (ds := []) #[f_,f_,f_,f_,f_,f_,f_,f_,f_,f_,f_,f_,f_,f_,f_,f_,f_,f_,f_,f_,f_,f_,f_,f_,f_,f_,f_,f_,f_,f_,f_] (by kernel_rfl) rfl rfl ⟨(blk_cell BK1071.out 0).trans rfl, (blk_cell BK1071.out 1).trans rfl, (blk_cell BK1071.out 2).trans rfl, (blk_cell BK1071.out 3).trans rfl, (blk_cell BK1071.out 4).trans rfl, ((HB.out.cell (World.block_lt_of_cell? w _ hw1073_0)).trans hw1073_0), ((HB.out.cell (World.block_lt_of_cell? w _ hw1073_1)).trans hw1073_1), ((HB.out.cell (World.block_lt_of_cell? w _ hw1073_2)).trans hw1073_2), ((HB.out.cell (World.block_lt_of_cell? w _ hw1073_3)).trans hw1073_3), ((HB.out.cell (World.block_lt_of_cell? w _ hw1073_4)).trans hw1073_4)⟩ (fun hHeld => ?_); refine with_tabW impl_GroupsOk.tab4 impl_GroupsOk.bits4 (fun HT_ HW_ => ?_)
           generalize w20.drew = w21 at BK1071 HB HR1073_1 HR1073_4 hx1073_0 hx1073_1 hx1073_2 hx1073_3 hx1073_4 hHeld ⊢
           refine pu_ 0 14 ?_ (b_ 1 30) rfl rfl HT_.out ?_ ?_ ?_ ?_; rotate_left; intro w'; go_simp; with_reducible rfl; rotate_left; simp only [fr_]; rfl
           refine pu_ 1 15 ?_ (b_ 2 29) rfl rfl HT_.out ?_ ?_ ?_ ?_; rotate_left; intro w'; go_simp; with_reducible rfl; rotate_left; simp only [fr_]; rfl
           refine pu_ 2 16 ?_ (b_ 3 28) rfl rfl HT_.out ?_ ?_ ?_ ?_; rotate_left; intro w'; go_simp; with_reducible rfl; rotate_left; simp only [fr_]; rfl
           refine pu_ 4 18 ?_ #[t_,t_,t_,f_,t_,f_,f_,f_,f_,f_,f_,f_,f_,f_,f_,f_,f_,f_,f_,f_,f_,f_,f_,f_,f_,f_,f_,f_,f_,f_,f_] rfl rfl HT_.out ?_ ?_ ?_ ?_; rotate_left; intro w'; go_simp; with_reducible rfl; rotate_left; simp only [fr_]; rfl
           refine take_ (i := 3) (N := some 17) (v := ?_) (a' := ?_) #[t_,t_,t_,t_,t_,f_,f_,f_,f_,f_,f_,f_,f_,f_,f_,f_,f_,f_,f_,f_,f_,f_,f_,f_,f_,f_,f_,f_,f_,f_,f_] rfl rfl (take_ofW HT_.out HW_.out (by kernel_rfl)) (fun _ _ _ h => h) (Or.inl ⟨by rfl, ?_⟩) hHeld ?_ ?_
           rotate_left
           ·
            rintro w' ⟨s0, s1, s2, s3, s4, s5, s6, s7, s8, s9⟩
            go_simp
            with_reducible rfl
           rotate_left
           ·
            simp only [fr_]
            rfl
           refine one_ (i := 5) (N := some 19) #[t_,t_,t_,t_,t_,t_,f_,f_,f_,f_,f_,f_,f_,f_,f_,f_,f_,f_,f_,f_,f_,f_,f_,f_,f_,f_,f_,f_,f_,f_,f_] rfl rfl (one_of HT_.out (by kernel_rfl)) (by decide) (fun K hK => ?_)
           refine goes_ Try.func53 (by kernel_rfl) rfl #[.agg #[.int .i64 ((rd_T75 l0 x9_1).f0), .slice A1070_1 ((rd_T75 l0 x9_1).f1).length c1070_1, .int .i64 ((rd_T75 l0 x9_1).f2), .int .i64 ((rd_T75 l0 x9_1).f3), .slice A1070_4 ((rd_T75 l0 x9_1).f4).length c1070_4], .slice A1 l1.length c1] (by rfl) rfl rfl (by (try simp only [mp_]); first | done | rfl | (simp only [List.length_drop, List.length_take]; rfl)) ?_
           with_reducible refine (impl_GroupOk.calls k1 ((rd_T75 l0 x9_1).f0) _ _ ((rd_T75 l0 x9_1).f1) ((rd_T75 l0 x9_1).f2) ((rd_T75 l0 x9_1).f3) _ _ ((rd_T75 l0 x9_1).f4) _ _ l1 true _ ?side1 ?side2 ?side3 ?side4 ?side5 ?side6 A11.out).mono ?_
           (case side1 => repeat (first | exact (Kd.C_below HR1070_1.out HB.out) | (with_reducible first | refine ca_ ?_ _ | refine cn_ ?_ _ | refine cd_ ?_)))
           (case side2 => exact HC1070_1.out)
           (case side3 => repeat (first | exact (Kd.C_below HR1070_4.out HB.out) | (with_reducible first | refine ca_ ?_ _ | refine cn_ ?_ _ | refine cd_ ?_)))
           (case side4 => exact HC1070_4.out)
           (case side5 => repeat (first | exact (Kd.C_below HR1.out HB.out) | (with_reducible first | refine ca_ ?_ _ | refine cn_ ?_ _ | refine cd_ ?_)))
           (case side6 => exact HC1.out)
           rintro e w22 ⟨rfl, hb⟩
           refine ⟨_, rfl, ?_⟩
           have n0_ := Aside0.mk (blk_below (g := gb1071) (o := .cells #[.int .i64 ((rd_T75 l0 x9_1).f0), .slice A1070_1 ((rd_T75 l0 x9_1).f1).length c1070_1, .int .i64 ((rd_T75 l0 x9_1).f2), .int .i64 ((rd_T75 l0 x9_1).f3), .slice A1070_4 ((rd_T75 l0 x9_1).f4).length c1070_4] 75 (0, 0)) (by (with_reducible repeat (first | refine kn_ ?_ _ | refine kd_ ?_ | refine ka_ ?_ _)); exact BK1071.out) hb)
           have n1_ := Aside0.mk (below_step (by repeat (first | (with_reducible first | exact HB.out | apply ba_ | apply bn_ | apply bd_ | refine below_set ?_ GE1071.out) | exact HB.out)) hb)
           clear BK1071
           clear HB
           have BK1071 := n0_
           have HB := n1_
           clear n0_ n1_
           (try clear hb)
           (try clear hb2)
           (try clear hk)
           (try clear hi)
           refine hK.out _ _ ⟨(blk_cell BK1071.out 0).trans rfl, (blk_cell BK1071.out 1).trans rfl, (blk_cell BK1071.out 2).trans rfl, (blk_cell BK1071.out 3).trans rfl, (blk_cell BK1071.out 4).trans rfl, ((HB.out.cell (World.block_lt_of_cell? w _ hw1073_0)).trans hw1073_0), ((HB.out.cell (World.block_lt_of_cell? w _ hw1073_1)).trans hw1073_1), ((HB.out.cell (World.block_lt_of_cell? w _ hw1073_2)).trans hw1073_2), ((HB.out.cell (World.block_lt_of_cell? w _ hw1073_3)).trans hw1073_3), ((HB.out.cell (World.block_lt_of_cell? w _ hw1073_4)).trans hw1073_4)⟩ (fun hHeld => ?_)
           clear hK K
           refine norm_ (a' := ?_) ?_ ?_
           rotate_left
           ·
            show Act.put _ (some 19) _ = _
            simp only [fr_]
            rfl
           refine pu_ 6 20 ?_ (b_ 7 24) rfl rfl HT_.out ?_ ?_ ?_ ?_; rotate_left; intro w'; go_simp; with_reducible rfl; rotate_left; simp only [fr_]; rfl
           refine pu_ 7 21 ?_ (b_ 8 23) rfl rfl HT_.out ?_ ?_ ?_ ?_; rotate_left; intro w'; go_simp; with_reducible rfl; rotate_left; simp only [fr_]; rfl
           refine pu_ 8 22 ?_ (b_ 9 22) rfl rfl HT_.out ?_ ?_ ?_ ?_; rotate_left; intro w'; go_simp; with_reducible rfl; rotate_left; simp only [fr_]; rfl
           refine pu_ 9 23 ?_ (b_ 10 21) rfl rfl HT_.out ?_ ?_ ?_ ?_; rotate_left; intro w'; go_simp; with_reducible rfl; rotate_left; simp only [fr_]; rfl
           refine pu_ 10 24 ?_ (b_ 11 20) rfl rfl HT_.out ?_ ?_ ?_ ?_; rotate_left; intro w'; go_simp; with_reducible rfl; rotate_left; simp only [fr_]; rfl
           refine pu_ 11 25 ?_ (b_ 12 19) rfl rfl HT_.out ?_ ?_ ?_ ?_; rotate_left; intro w'; go_simp; with_reducible rfl; rotate_left; simp only [fr_]; rfl
           refine pu_ 12 26 ?_ (b_ 13 18) rfl rfl HT_.out ?_ ?_ ?_ ?_; rotate_left; intro w'; go_simp; with_reducible rfl; rotate_left; simp only [fr_]; rfl
           refine pu_ 13 27 ?_ (b_ 14 17) rfl rfl HT_.out ?_ ?_ ?_ ?_; rotate_left; intro w'; go_simp; with_reducible rfl; rotate_left; simp only [fr_]; rfl
           refine pu_ 14 28 ?_ (b_ 15 16) rfl rfl HT_.out ?_ ?_ ?_ ?_; rotate_left; intro w'; go_simp; with_reducible rfl; rotate_left; simp only [fr_]; rfl
           refine pu_ 15 29 ?_ (b_ 16 15) rfl rfl HT_.out ?_ ?_ ?_ ?_; rotate_left; intro w'; go_simp; with_reducible rfl; rotate_left; simp only [fr_]; rfl
           refine pu_ 16 30 ?_ (b_ 17 14) rfl rfl HT_.out ?_ ?_ ?_ ?_; rotate_left; intro w'; go_simp; with_reducible rfl; rotate_left; simp only [fr_]; rfl
           refine pu_ 18 32 ?_ #[t_,t_,t_,t_,t_,t_,t_,t_,t_,t_,t_,t_,t_,t_,t_,t_,t_,f_,t_,f_,f_,f_,f_,f_,f_,f_,f_,f_,f_,f_,f_] rfl rfl HT_.out ?_ ?_ ?_ ?_; rotate_left; intro w'; go_simp; with_reducible rfl; rotate_left; simp only [fr_]; rfl
           refine take_ (i := 17) (N := some 31) (v := ?_) (a' := ?_) #[t_,t_,t_,t_,t_,t_,t_,t_,t_,t_,t_,t_,t_,t_,t_,t_,t_,t_,t_,f_,f_,f_,f_,f_,f_,f_,f_,f_,f_,f_,f_] rfl rfl (take_ofW HT_.out HW_.out (by kernel_rfl)) (fun _ _ _ h => h) (Or.inl ⟨by rfl, ?_⟩) hHeld ?_ ?_
           rotate_left
           ·
            rintro w' ⟨s0, s1, s2, s3, s4, s5, s6, s7, s8, s9⟩
            go_simp
            with_reducible rfl
           rotate_left
           ·
            simp only [fr_]
            rfl
           refine take_ (i := 19) (N := some 33) (v := ?_) (a' := ?_) #[t_,t_,t_,t_,t_,t_,t_,t_,t_,t_,t_,t_,t_,t_,t_,t_,t_,t_,t_,t_,f_,f_,f_,f_,f_,f_,f_,f_,f_,f_,f_] rfl rfl (take_ofW HT_.out HW_.out (by kernel_rfl)) (fun _ _ _ h => h) (Or.inl ⟨by rfl, ?_⟩) hHeld ?_ ?_
           rotate_left
           ·
            rintro w' ⟨s0, s1, s2, s3, s4, s5, s6, s7, s8, s9⟩
            go_simp
            with_reducible rfl
           rotate_left
           ·
            simp only [fr_]
            rfl
           refine pu_ 20 34 ?_ (b_ 21 10) rfl rfl HT_.out ?_ ?_ ?_ ?_; rotate_left; intro w'; go_simp; with_reducible rfl; rotate_left; simp only [fr_]; rfl
           refine pu_ 21 35 ?_ (b_ 22 9) rfl rfl HT_.out ?_ ?_ ?_ ?_; rotate_left; intro w'; go_simp; with_reducible rfl; rotate_left; simp only [fr_]; rfl
           refine pu_ 22 36 ?_ (b_ 23 8) rfl rfl HT_.out ?_ ?_ ?_ ?_; rotate_left; intro w'; go_simp; with_reducible rfl; rotate_left; simp only [fr_]; rfl
           refine pu_ 23 37 ?_ (b_ 24 7) rfl rfl HT_.out ?_ ?_ ?_ ?_; rotate_left; intro w'; go_simp; with_reducible rfl; rotate_left; simp only [fr_]; rfl
           refine pv_ 24 38 ?_ (b_ 25 6) rfl rfl HT_.out ?_ ?_; rotate_left; simp only [fr_]; rfl
           refine pv_ 25 39 ?_ (b_ 26 5) rfl rfl HT_.out ?_ ?_; rotate_left; simp only [fr_]; rfl
           refine pv_ 26 40 ?_ (b_ 27 4) rfl rfl HT_.out ?_ ?_; rotate_left; simp only [fr_]; rfl
           refine pv_ 27 41 ?_ (b_ 28 3) rfl rfl HT_.out ?_ ?_; rotate_left; simp only [fr_]; rfl
           refine pv_ 28 42 ?_ (b_ 29 2) rfl rfl HT_.out ?_ ?_; rotate_left; simp only [fr_]; rfl
           refine pv_ 29 43 ?_ (b_ 30 1) rfl rfl HT_.out ?_ ?_; rotate_left; simp only [fr_]; rfl
           refine pu_ 30 44 ?_ (b_ 31 0) rfl rfl HT_.out ?_ ?_ ?_ ?_; rotate_left; intro w'; go_simp; with_reducible rfl; rotate_left; simp only [fr_]; rfl
           refine done_ (done_of HT_.out (by kernel_rfl)) ?_
           try go_wp2
           go_ret
           exact ⟨by first | rfl | (simp [errW_none, errW_some] <;> rfl) | (simp only [← hji14]; first | rfl | (simp [errW_none, errW_some] <;> rfl)) | (simp [*, errW_none, errW_some] <;> rfl), by repeat (first | (with_reducible first | exact HB.out | apply ba_ | apply bn_ | apply bd_ | refine below_set ?_ GE1071.out) | exact HB.out)⟩
          rw [if_neg c17] at H
          have c17b0 : decide (((rd_T75 l0 x9_1).f0) ≤ ((rd_T75 l0 (ji14)).f0)) = false := decide_eq_false c17
          clear c17
          replace H := Option.bind_eq_some_iff.mp H
          obtain ⟨t1074, A230, H⟩ := H
          have A23 := Aside0.mk A230
          clear A230
          by_cases c24 : t1074 = x9_1
          ·
           rw [if_pos c24] at H
           have c24b0 : (t1074 == x9_1) = true := beq_iff_eq.mpr c24
           have c24b1 : (t1074 != x9_1) = false := bne_eq_false_iff_eq.mpr c24
           clear c24
           have H' := Aside0.mk H
           clear H
           have p1070 : 0 ≤ (x9_1 : Int) := of_decide_eq_true (by with_reducible assumption)
           have q1070 : x9_1 < (l0.length : Int) := of_decide_eq_true (by with_reducible assumption)
           obtain ⟨ad1070, A1070_1, c1070_1, A1070_4, c1070_4, e1070, hx1070_0, hx1070_1, hx1070_2, hx1070_3, hx1070_4, hl1070_1, hi1070_1, hl1070_4, hi1070_4⟩ := at_T75 HR0.out x9_1 p1070 q1070
           cases e1070
           replace hx1070_0 := cl_ HB.out hx1070_0
           replace hx1070_1 := cl_ HB.out hx1070_1
           replace hx1070_2 := cl_ HB.out hx1070_2
           replace hx1070_3 := cl_ HB.out hx1070_3
           replace hx1070_4 := cl_ HB.out hx1070_4
           have HR1070_1 := Aside0.mk hi1070_1
           have HC1070_1 := Aside0.mk hl1070_1
           clear hi1070_1 hl1070_1
           have HR1070_4 := Aside0.mk hi1070_4
           have HC1070_4 := Aside0.mk hl1070_4
           clear hi1070_4 hl1070_4
           replace p1070 := eq_true p1070
           replace q1070 := eq_true q1070
           try go_wp2_with (first | ((with_reducible refine gate_dst (N := 6) rfl ?_); refine box_event ?hg (N := 6) ?hd (cs := #[.int .i64 0, .slice none 0 0, .int .i64 0, .int .i64 0, .slice none 0 0]) (t := 75) ?hr ?_; (case hd => rfl); (case hg => rfl); (case hr => first | (go_simp; done) | (go_simp; rfl)); intro gb1071 hg w25 hbox hb; have n0_ := Aside0.mk (below_step (by repeat (first | (with_reducible first | exact HB.out | apply ba_ | apply bn_ | apply bd_) | exact HB.out)) hb); have BK1071 := Aside0.mk (hbox); have GW1071 := Aside0.mk ((by rw [hg]; exact (below_size (by repeat (first | (with_reducible first | exact HB.out | apply ba_ | apply bn_ | apply bd_) | exact HB.out))) : w.heap.size ≤ gb1071)); have GE1071 := GW1071; clear HB; have HB := n0_; clear n0_; clear hb hbox hg; have hcz26_0 : w25.cell? ⟨gb1071, 0, none⟩ = some (.int .i64 0) := (blk_cell BK1071.out 0).trans rfl; have hcz26_1 : w25.cell? ⟨gb1071, 1, none⟩ = some (.slice none 0 0) := (blk_cell BK1071.out 1).trans rfl; have hcz26_2 : w25.cell? ⟨gb1071, 2, none⟩ = some (.int .i64 0) := (blk_cell BK1071.out 2).trans rfl; have hcz26_3 : w25.cell? ⟨gb1071, 3, none⟩ = some (.int .i64 0) := (blk_cell BK1071.out 3).trans rfl; have hcz26_4 : w25.cell? ⟨gb1071, 4, none⟩ = some (.slice none 0 0) := (blk_cell BK1071.out 4).trans rfl; have hfz26_0 := blk_frozen BK1071.out 0; have hfz26_1 := blk_frozen BK1071.out 1; have hfz26_2 := blk_frozen BK1071.out 2; have hfz26_3 := blk_frozen BK1071.out 3; have hfz26_4 := blk_frozen BK1071.out 4))
           have n0_ : Aside0 ((((((w25.setCell ⟨gb1071, 0, none⟩ (.int .i64 ((rd_T75 l0 x9_1).f0))).setCell ⟨gb1071, 1, none⟩ (.slice A1070_1 ((rd_T75 l0 x9_1).f1).length c1070_1)).setCell ⟨gb1071, 2, none⟩ (.int .i64 ((rd_T75 l0 x9_1).f2))).setCell ⟨gb1071, 3, none⟩ (.int .i64 ((rd_T75 l0 x9_1).f3))).setCell ⟨gb1071, 4, none⟩ (.slice A1070_4 ((rd_T75 l0 x9_1).f4).length c1070_4)).heap[gb1071]? = some (.cells #[.int .i64 ((rd_T75 l0 x9_1).f0), .slice A1070_1 ((rd_T75 l0 x9_1).f1).length c1070_1, .int .i64 ((rd_T75 l0 x9_1).f2), .int .i64 ((rd_T75 l0 x9_1).f3), .slice A1070_4 ((rd_T75 l0 x9_1).f4).length c1070_4] 75 (0, 0))) := ⟨by (with_reducible repeat (first | refine kn_ ?_ _ | refine kd_ ?_ | refine ka_ ?_ _)); refine blk_put (cs := #[.int .i64 ((rd_T75 l0 x9_1).f0), .slice A1070_1 ((rd_T75 l0 x9_1).f1).length c1070_1, .int .i64 ((rd_T75 l0 x9_1).f2), .int .i64 ((rd_T75 l0 x9_1).f3), .slice none 0 0]) ?_ 4 _ rfl; (with_reducible repeat (first | refine kn_ ?_ _ | refine kd_ ?_ | refine ka_ ?_ _)); refine blk_put (cs := #[.int .i64 ((rd_T75 l0 x9_1).f0), .slice A1070_1 ((rd_T75 l0 x9_1).f1).length c1070_1, .int .i64 ((rd_T75 l0 x9_1).f2), .int .i64 0, .slice none 0 0]) ?_ 3 _ rfl; (with_reducible repeat (first | refine kn_ ?_ _ | refine kd_ ?_ | refine ka_ ?_ _)); refine blk_put (cs := #[.int .i64 ((rd_T75 l0 x9_1).f0), .slice A1070_1 ((rd_T75 l0 x9_1).f1).length c1070_1, .int .i64 0, .int .i64 0, .slice none 0 0]) ?_ 2 _ rfl; (with_reducible repeat (first | refine kn_ ?_ _ | refine kd_ ?_ | refine ka_ ?_ _)); refine blk_put (cs := #[.int .i64 ((rd_T75 l0 x9_1).f0), .slice none 0 0, .int .i64 0, .int .i64 0, .slice none 0 0]) ?_ 1 _ rfl; (with_reducible repeat (first | refine kn_ ?_ _ | refine kd_ ?_ | refine ka_ ?_ _)); refine blk_put (cs := #[.int .i64 0, .slice none 0 0, .int .i64 0, .int .i64 0, .slice none 0 0]) ?_ 0 _ rfl; (with_reducible repeat (first | refine kn_ ?_ _ | refine kd_ ?_ | refine ka_ ?_ _)); exact BK1071.out⟩
           have n1_ : Aside0 (Below w.heap.size w (((((w25.setCell ⟨gb1071, 0, none⟩ (.int .i64 ((rd_T75 l0 x9_1).f0))).setCell ⟨gb1071, 1, none⟩ (.slice A1070_1 ((rd_T75 l0 x9_1).f1).length c1070_1)).setCell ⟨gb1071, 2, none⟩ (.int .i64 ((rd_T75 l0 x9_1).f2))).setCell ⟨gb1071, 3, none⟩ (.int .i64 ((rd_T75 l0 x9_1).f3))).setCell ⟨gb1071, 4, none⟩ (.slice A1070_4 ((rd_T75 l0 x9_1).f4).length c1070_4))) := ⟨by repeat (first | (with_reducible first | exact HB.out | apply ba_ | apply bn_ | apply bd_ | refine below_set ?_ GE1071.out) | exact HB.out)⟩
           (try clear BK1071)
           (try clear HB)
           generalize (((((w25.setCell ⟨gb1071, 0, none⟩ (.int .i64 ((rd_T75 l0 x9_1).f0))).setCell ⟨gb1071, 1, none⟩ (.slice A1070_1 ((rd_T75 l0 x9_1).f1).length c1070_1)).setCell ⟨gb1071, 2, none⟩ (.int .i64 ((rd_T75 l0 x9_1).f2))).setCell ⟨gb1071, 3, none⟩ (.int .i64 ((rd_T75 l0 x9_1).f3))).setCell ⟨gb1071, 4, none⟩ (.slice A1070_4 ((rd_T75 l0 x9_1).f4).length c1070_4)) = w27 at n0_ n1_ ⊢
           have BK1071 := n0_
           have HB := n1_
           clear n0_ n1_
           have n0_ := Aside0.mk (blk_drew BK1071.out)
           have n1_ := Aside0.mk (bd_ HB.out)
           clear BK1071
           clear HB
           have BK1071 := n0_
           have HB := n1_
           clear n0_ n1_
           have p1073 : 0 ≤ ((ji14) : Int) := of_decide_eq_true (by with_reducible assumption)
           have q1073 : (ji14) < (l0.length : Int) := of_decide_eq_true (by with_reducible assumption)
           obtain ⟨ad1073, A1073_1, c1073_1, A1073_4, c1073_4, e1073, hx1073_0, hx1073_1, hx1073_2, hx1073_3, hx1073_4, hl1073_1, hi1073_1, hl1073_4, hi1073_4⟩ := at_T75 HR0.out (ji14) p1073 q1073
           have hw1073_4 := hx1073_4
           have hw1073_3 := hx1073_3
           have hw1073_2 := hx1073_2
           have hw1073_1 := hx1073_1
           have hw1073_0 := hx1073_0
           obtain rfl : ad1070 = ad1073 := (by injection e1073)
           replace hx1073_0 := cl_ HB.out hx1073_0
           replace hx1073_1 := cl_ HB.out hx1073_1
           replace hx1073_2 := cl_ HB.out hx1073_2
           replace hx1073_3 := cl_ HB.out hx1073_3
           replace hx1073_4 := cl_ HB.out hx1073_4
           have HR1073_1 := Aside0.mk hi1073_1
           have HC1073_1 := Aside0.mk hl1073_1
           clear hi1073_1 hl1073_1
           have HR1073_4 := Aside0.mk hi1073_4
           have HC1073_4 := Aside0.mk hl1073_4
           clear hi1073_4 hl1073_4
           replace p1073 := eq_true p1073
           replace q1073 := eq_true q1073
           refine start_ (n := 31) (S := fun w' => w'.cell? ⟨gb1071, 0, none⟩ = some (.int .i64 ((rd_T75 l0 x9_1).f0)) ∧ w'.cell? ⟨gb1071, 1, none⟩ = some (.slice A1070_1 ((rd_T75 l0 x9_1).f1).length c1070_1) ∧ w'.cell? ⟨gb1071, 2, none⟩ = some (.int .i64 ((rd_T75 l0 x9_1).f2)) ∧ w'.cell? ⟨gb1071, 3, none⟩ = some (.int .i64 ((rd_T75 l0 x9_1).f3)) ∧ w'.cell? ⟨gb1071, 4, none⟩ = some (.slice A1070_4 ((rd_T75 l0 x9_1).f4).length c1070_4) ∧ w'.cell? (ad1070.add (((ji14)).toNat * 5)) = some (.int .i64 ((rd_T75 l0 (ji14)).f0)) ∧ w'.cell? ⟨(ad1070.add (((ji14)).toNat * 5)).block, (ad1070.add (((ji14)).toNat * 5)).off + 1, none⟩ = some (.slice A1073_1 ((rd_T75 l0 (ji14)).f1).length c1073_1) ∧ w'.cell? ⟨(ad1070.add (((ji14)).toNat * 5)).block, (ad1070.add (((ji14)).toNat * 5)).off + 2, none⟩ = some (.int .i64 ((rd_T75 l0 (ji14)).f2)) ∧ w'.cell? ⟨(ad1070.add (((ji14)).toNat * 5)).block, (ad1070.add (((ji14)).toNat * 5)).off + 3, none⟩ = some (.int .i64 ((rd_T75 l0 (ji14)).f3)) ∧ w'.cell? ⟨(ad1070.add (((ji14)).toNat * 5)).block, (ad1070.add (((ji14)).toNat * 5)).off + 4, none⟩ = some (.slice A1073_4 ((rd_T75 l0 (ji14)).f4).length c1073_4)) (ds := []) #[f_,f_,f_,f_,f_,f_,f_,f_,f_,f_,f_,f_,f_,f_,f_,f_,f_,f_,f_,f_,f_,f_,f_,f_,f_,f_,f_,f_,f_,f_,f_] (by kernel_rfl) rfl rfl ⟨(blk_cell BK1071.out 0).trans rfl, (blk_cell BK1071.out 1).trans rfl, (blk_cell BK1071.out 2).trans rfl, (blk_cell BK1071.out 3).trans rfl, (blk_cell BK1071.out 4).trans rfl, ((HB.out.cell (World.block_lt_of_cell? w _ hw1073_0)).trans hw1073_0), ((HB.out.cell (World.block_lt_of_cell? w _ hw1073_1)).trans hw1073_1), ((HB.out.cell (World.block_lt_of_cell? w _ hw1073_2)).trans hw1073_2), ((HB.out.cell (World.block_lt_of_cell? w _ hw1073_3)).trans hw1073_3), ((HB.out.cell (World.block_lt_of_cell? w _ hw1073_4)).trans hw1073_4)⟩ (fun hHeld => ?_); refine with_tabW impl_GroupsOk.tab4 impl_GroupsOk.bits4 (fun HT_ HW_ => ?_)
           generalize w27.drew = w28 at BK1071 HB HR1073_1 HR1073_4 hx1073_0 hx1073_1 hx1073_2 hx1073_3 hx1073_4 hHeld ⊢
           refine pu_ 0 14 ?_ (b_ 1 30) rfl rfl HT_.out ?_ ?_ ?_ ?_; rotate_left; intro w'; go_simp; with_reducible rfl; rotate_left; simp only [fr_]; rfl
           refine pu_ 1 15 ?_ (b_ 2 29) rfl rfl HT_.out ?_ ?_ ?_ ?_; rotate_left; intro w'; go_simp; with_reducible rfl; rotate_left; simp only [fr_]; rfl
           refine pu_ 2 16 ?_ (b_ 3 28) rfl rfl HT_.out ?_ ?_ ?_ ?_; rotate_left; intro w'; go_simp; with_reducible rfl; rotate_left; simp only [fr_]; rfl
           refine pu_ 4 18 ?_ #[t_,t_,t_,f_,t_,f_,f_,f_,f_,f_,f_,f_,f_,f_,f_,f_,f_,f_,f_,f_,f_,f_,f_,f_,f_,f_,f_,f_,f_,f_,f_] rfl rfl HT_.out ?_ ?_ ?_ ?_; rotate_left; intro w'; go_simp; with_reducible rfl; rotate_left; simp only [fr_]; rfl
           refine take_ (i := 3) (N := some 17) (v := ?_) (a' := ?_) #[t_,t_,t_,t_,t_,f_,f_,f_,f_,f_,f_,f_,f_,f_,f_,f_,f_,f_,f_,f_,f_,f_,f_,f_,f_,f_,f_,f_,f_,f_,f_] rfl rfl (take_ofW HT_.out HW_.out (by kernel_rfl)) (fun _ _ _ h => h) (Or.inl ⟨by rfl, ?_⟩) hHeld ?_ ?_
           rotate_left
           ·
            rintro w' ⟨s0, s1, s2, s3, s4, s5, s6, s7, s8, s9⟩
            go_simp
            with_reducible rfl
           rotate_left
           ·
            simp only [fr_]
            rfl
           refine one_ (i := 5) (N := some 19) #[t_,t_,t_,t_,t_,t_,f_,f_,f_,f_,f_,f_,f_,f_,f_,f_,f_,f_,f_,f_,f_,f_,f_,f_,f_,f_,f_,f_,f_,f_,f_] rfl rfl (one_of HT_.out (by kernel_rfl)) (by decide) (fun K hK => ?_)
           refine goes_ Try.func53 (by kernel_rfl) rfl #[.agg #[.int .i64 ((rd_T75 l0 x9_1).f0), .slice A1070_1 ((rd_T75 l0 x9_1).f1).length c1070_1, .int .i64 ((rd_T75 l0 x9_1).f2), .int .i64 ((rd_T75 l0 x9_1).f3), .slice A1070_4 ((rd_T75 l0 x9_1).f4).length c1070_4], .slice A1 l1.length c1] (by rfl) rfl rfl (by (try simp only [mp_]); first | done | rfl | (simp only [List.length_drop, List.length_take]; rfl)) ?_
           with_reducible refine (impl_GroupOk.calls k1 ((rd_T75 l0 x9_1).f0) _ _ ((rd_T75 l0 x9_1).f1) ((rd_T75 l0 x9_1).f2) ((rd_T75 l0 x9_1).f3) _ _ ((rd_T75 l0 x9_1).f4) _ _ l1 true _ ?side1 ?side2 ?side3 ?side4 ?side5 ?side6 A11.out).mono ?_
           (case side1 => repeat (first | exact (Kd.C_below HR1070_1.out HB.out) | (with_reducible first | refine ca_ ?_ _ | refine cn_ ?_ _ | refine cd_ ?_)))
           (case side2 => exact HC1070_1.out)
           (case side3 => repeat (first | exact (Kd.C_below HR1070_4.out HB.out) | (with_reducible first | refine ca_ ?_ _ | refine cn_ ?_ _ | refine cd_ ?_)))
           (case side4 => exact HC1070_4.out)
           (case side5 => repeat (first | exact (Kd.C_below HR1.out HB.out) | (with_reducible first | refine ca_ ?_ _ | refine cn_ ?_ _ | refine cd_ ?_)))
           (case side6 => exact HC1.out)
           rintro e w29 ⟨rfl, hb⟩
           refine ⟨_, rfl, ?_⟩
           have n0_ := Aside0.mk (blk_below (g := gb1071) (o := .cells #[.int .i64 ((rd_T75 l0 x9_1).f0), .slice A1070_1 ((rd_T75 l0 x9_1).f1).length c1070_1, .int .i64 ((rd_T75 l0 x9_1).f2), .int .i64 ((rd_T75 l0 x9_1).f3), .slice A1070_4 ((rd_T75 l0 x9_1).f4).length c1070_4] 75 (0, 0)) (by (with_reducible repeat (first | refine kn_ ?_ _ | refine kd_ ?_ | refine ka_ ?_ _)); exact BK1071.out) hb)
           have n1_ := Aside0.mk (below_step (by repeat (first | (with_reducible first | exact HB.out | apply ba_ | apply bn_ | apply bd_ | refine below_set ?_ GE1071.out) | exact HB.out)) hb)
           clear BK1071
           clear HB
           have BK1071 := n0_
           have HB := n1_
           clear n0_ n1_
           (try clear hb)
           (try clear hb2)
           (try clear hk)
           (try clear hi)
           refine hK.out _ _ ⟨(blk_cell BK1071.out 0).trans rfl, (blk_cell BK1071.out 1).trans rfl, (blk_cell BK1071.out 2).trans rfl, (blk_cell BK1071.out 3).trans rfl, (blk_cell BK1071.out 4).trans rfl, ((HB.out.cell (World.block_lt_of_cell? w _ hw1073_0)).trans hw1073_0), ((HB.out.cell (World.block_lt_of_cell? w _ hw1073_1)).trans hw1073_1), ((HB.out.cell (World.block_lt_of_cell? w _ hw1073_2)).trans hw1073_2), ((HB.out.cell (World.block_lt_of_cell? w _ hw1073_3)).trans hw1073_3), ((HB.out.cell (World.block_lt_of_cell? w _ hw1073_4)).trans hw1073_4)⟩ (fun hHeld => ?_)
           clear hK K
           refine norm_ (a' := ?_) ?_ ?_
           rotate_left
           ·
            show Act.put _ (some 19) _ = _
            simp only [fr_]
            rfl
           refine pu_ 6 20 ?_ (b_ 7 24) rfl rfl HT_.out ?_ ?_ ?_ ?_; rotate_left; intro w'; go_simp; with_reducible rfl; rotate_left; simp only [fr_]; rfl
           refine pu_ 7 21 ?_ (b_ 8 23) rfl rfl HT_.out ?_ ?_ ?_ ?_; rotate_left; intro w'; go_simp; with_reducible rfl; rotate_left; simp only [fr_]; rfl
           refine pu_ 8 22 ?_ (b_ 9 22) rfl rfl HT_.out ?_ ?_ ?_ ?_; rotate_left; intro w'; go_simp; with_reducible rfl; rotate_left; simp only [fr_]; rfl
           refine pu_ 9 23 ?_ (b_ 10 21) rfl rfl HT_.out ?_ ?_ ?_ ?_; rotate_left; intro w'; go_simp; with_reducible rfl; rotate_left; simp only [fr_]; rfl
           refine pu_ 10 24 ?_ (b_ 11 20) rfl rfl HT_.out ?_ ?_ ?_ ?_; rotate_left; intro w'; go_simp; with_reducible rfl; rotate_left; simp only [fr_]; rfl
           refine pu_ 11 25 ?_ (b_ 12 19) rfl rfl HT_.out ?_ ?_ ?_ ?_; rotate_left; intro w'; go_simp; with_reducible rfl; rotate_left; simp only [fr_]; rfl
           refine pu_ 12 26 ?_ (b_ 13 18) rfl rfl HT_.out ?_ ?_ ?_ ?_; rotate_left; intro w'; go_simp; with_reducible rfl; rotate_left; simp only [fr_]; rfl
           refine pu_ 13 27 ?_ (b_ 14 17) rfl rfl HT_.out ?_ ?_ ?_ ?_; rotate_left; intro w'; go_simp; with_reducible rfl; rotate_left; simp only [fr_]; rfl
           refine pu_ 14 28 ?_ (b_ 15 16) rfl rfl HT_.out ?_ ?_ ?_ ?_; rotate_left; intro w'; go_simp; with_reducible rfl; rotate_left; simp only [fr_]; rfl
           refine pu_ 15 29 ?_ (b_ 16 15) rfl rfl HT_.out ?_ ?_ ?_ ?_; rotate_left; intro w'; go_simp; with_reducible rfl; rotate_left; simp only [fr_]; rfl
           refine pu_ 16 30 ?_ (b_ 17 14) rfl rfl HT_.out ?_ ?_ ?_ ?_; rotate_left; intro w'; go_simp; with_reducible rfl; rotate_left; simp only [fr_]; rfl
           refine pu_ 18 32 ?_ #[t_,t_,t_,t_,t_,t_,t_,t_,t_,t_,t_,t_,t_,t_,t_,t_,t_,f_,t_,f_,f_,f_,f_,f_,f_,f_,f_,f_,f_,f_,f_] rfl rfl HT_.out ?_ ?_ ?_ ?_; rotate_left; intro w'; go_simp; with_reducible rfl; rotate_left; simp only [fr_]; rfl
           refine take_ (i := 17) (N := some 31) (v := ?_) (a' := ?_) #[t_,t_,t_,t_,t_,t_,t_,t_,t_,t_,t_,t_,t_,t_,t_,t_,t_,t_,t_,f_,f_,f_,f_,f_,f_,f_,f_,f_,f_,f_,f_] rfl rfl (take_ofW HT_.out HW_.out (by kernel_rfl)) (fun _ _ _ h => h) (Or.inl ⟨by rfl, ?_⟩) hHeld ?_ ?_
           rotate_left
           ·
            rintro w' ⟨s0, s1, s2, s3, s4, s5, s6, s7, s8, s9⟩
            go_simp
            with_reducible rfl
           rotate_left
           ·
            simp only [fr_]
            rfl
           refine take_ (i := 19) (N := some 33) (v := ?_) (a' := ?_) #[t_,t_,t_,t_,t_,t_,t_,t_,t_,t_,t_,t_,t_,t_,t_,t_,t_,t_,t_,t_,f_,f_,f_,f_,f_,f_,f_,f_,f_,f_,f_] rfl rfl (take_ofW HT_.out HW_.out (by kernel_rfl)) (fun _ _ _ h => h) (Or.inl ⟨by rfl, ?_⟩) hHeld ?_ ?_
           rotate_left
           ·
            rintro w' ⟨s0, s1, s2, s3, s4, s5, s6, s7, s8, s9⟩
            go_simp
            with_reducible rfl
           rotate_left
           ·
            simp only [fr_]
            rfl
           refine pu_ 20 34 ?_ (b_ 21 10) rfl rfl HT_.out ?_ ?_ ?_ ?_; rotate_left; intro w'; go_simp; with_reducible rfl; rotate_left; simp only [fr_]; rfl
           refine pu_ 21 35 ?_ (b_ 22 9) rfl rfl HT_.out ?_ ?_ ?_ ?_; rotate_left; intro w'; go_simp; with_reducible rfl; rotate_left; simp only [fr_]; rfl
           refine pu_ 22 36 ?_ (b_ 23 8) rfl rfl HT_.out ?_ ?_ ?_ ?_; rotate_left; intro w'; go_simp; with_reducible rfl; rotate_left; simp only [fr_]; rfl
           refine pu_ 23 37 ?_ (b_ 24 7) rfl rfl HT_.out ?_ ?_ ?_ ?_; rotate_left; intro w'; go_simp; with_reducible rfl; rotate_left; simp only [fr_]; rfl
           refine pu_ 24 38 ?_ (b_ 25 6) rfl rfl HT_.out ?_ ?_ ?_ ?_; rotate_left; intro w'; go_simp; with_reducible rfl; rotate_left; simp only [fr_]; rfl
           refine pu_ 25 39 ?_ (b_ 26 5) rfl rfl HT_.out ?_ ?_ ?_ ?_; rotate_left; intro w'; go_simp; with_reducible rfl; rotate_left; simp only [fr_]; rfl
           refine pu_ 28 42 ?_ #[t_,t_,t_,t_,t_,t_,t_,t_,t_,t_,t_,t_,t_,t_,t_,t_,t_,t_,t_,t_,t_,t_,t_,t_,t_,t_,f_,f_,t_,f_,f_] rfl rfl HT_.out ?_ ?_ ?_ ?_; rotate_left; intro w'; go_simp; with_reducible rfl; rotate_left; simp only [fr_]; rfl
           refine take_ (i := 26) (N := some 40) (v := ?_) (a' := ?_) #[t_,t_,t_,t_,t_,t_,t_,t_,t_,t_,t_,t_,t_,t_,t_,t_,t_,t_,t_,t_,t_,t_,t_,t_,t_,t_,t_,f_,t_,f_,f_] rfl rfl (take_ofW HT_.out HW_.out (by kernel_rfl)) (fun _ _ _ h => h) (Or.inl ⟨by rfl, ?_⟩) hHeld ?_ ?_
           rotate_left
           ·
            rintro w' ⟨s0, s1, s2, s3, s4, s5, s6, s7, s8, s9⟩
            go_simp
            with_reducible rfl
           rotate_left
           ·
            simp only [fr_]
            rfl
           refine one_ (i := 27) (N := some 41) #[t_,t_,t_,t_,t_,t_,t_,t_,t_,t_,t_,t_,t_,t_,t_,t_,t_,t_,t_,t_,t_,t_,t_,t_,t_,t_,t_,t_,t_,f_,f_] rfl rfl (one_of HT_.out (by kernel_rfl)) (by decide) (fun K hK => ?_)
           refine goes_ Try.func117 (by kernel_rfl) rfl #[.slice (some ad1070) l0.length c0, .slice A1070_1 ((rd_T75 l0 x9_1).f1).length c1070_1] (by rfl) rfl rfl (by (try simp only [mp_]); first | done | rfl | (simp only [List.length_drop, List.length_take]; rfl)) ?_
           with_reducible refine (impl_GroupOf.calls k1 _ _ l0 _ _ ((rd_T75 l0 x9_1).f1) t1074 _ ?side1 ?side2 ?side3 ?side4 A23.out).mono ?_
           (case side1 => repeat (first | exact (Kd.C_below HR0.out HB.out) | (with_reducible first | refine ca_ ?_ _ | refine cn_ ?_ _ | refine cd_ ?_)))
           (case side2 => exact HC0.out)
           (case side3 => repeat (first | exact (Kd.C_below HR1070_1.out HB.out) | (with_reducible first | refine ca_ ?_ _ | refine cn_ ?_ _ | refine cd_ ?_)))
           (case side4 => exact HC1070_1.out)
           rintro e w30 ⟨rfl, hb⟩
           refine ⟨_, rfl, ?_⟩
           have n0_ := Aside0.mk (blk_below (g := gb1071) (o := .cells #[.int .i64 ((rd_T75 l0 x9_1).f0), .slice A1070_1 ((rd_T75 l0 x9_1).f1).length c1070_1, .int .i64 ((rd_T75 l0 x9_1).f2), .int .i64 ((rd_T75 l0 x9_1).f3), .slice A1070_4 ((rd_T75 l0 x9_1).f4).length c1070_4] 75 (0, 0)) (by (with_reducible repeat (first | refine kn_ ?_ _ | refine kd_ ?_ | refine ka_ ?_ _)); exact BK1071.out) hb)
           have n1_ := Aside0.mk (below_step (by repeat (first | (with_reducible first | exact HB.out | apply ba_ | apply bn_ | apply bd_ | refine below_set ?_ GE1071.out) | exact HB.out)) hb)
           clear BK1071
           clear HB
           have BK1071 := n0_
           have HB := n1_
           clear n0_ n1_
           (try clear hb)
           (try clear hb2)
           (try clear hk)
           (try clear hi)
           refine hK.out _ _ ⟨(blk_cell BK1071.out 0).trans rfl, (blk_cell BK1071.out 1).trans rfl, (blk_cell BK1071.out 2).trans rfl, (blk_cell BK1071.out 3).trans rfl, (blk_cell BK1071.out 4).trans rfl, ((HB.out.cell (World.block_lt_of_cell? w _ hw1073_0)).trans hw1073_0), ((HB.out.cell (World.block_lt_of_cell? w _ hw1073_1)).trans hw1073_1), ((HB.out.cell (World.block_lt_of_cell? w _ hw1073_2)).trans hw1073_2), ((HB.out.cell (World.block_lt_of_cell? w _ hw1073_3)).trans hw1073_3), ((HB.out.cell (World.block_lt_of_cell? w _ hw1073_4)).trans hw1073_4)⟩ (fun hHeld => ?_)
           clear hK K
           refine norm_ (a' := ?_) ?_ ?_
           rotate_left
           ·
            show Act.put _ (some 41) _ = _
            simp only [fr_]
            rfl
           refine pu_ 29 43 ?_ (b_ 30 1) rfl rfl HT_.out ?_ ?_ ?_ ?_; rotate_left; intro w'; go_simp; with_reducible rfl; rotate_left; simp only [fr_]; rfl
           refine pu_ 30 44 ?_ (b_ 31 0) rfl rfl HT_.out ?_ ?_ ?_ ?_; rotate_left; intro w'; go_simp; with_reducible rfl; rotate_left; simp only [fr_]; rfl
           refine done_ (done_of HT_.out (by kernel_rfl)) ?_
           try go_wp2
           go_roundg k1
           case measure => have := HK1.out; omega
           case rel => exact ⟨(wrap64 (x9_1 + 1)), (by first | rfl | (simp; done) | (simp [*]; done)), H', ⟨by have := HK1.out; omega⟩, ⟨by repeat (first | (with_reducible first | exact HB.out | apply ba_ | apply bn_ | apply bd_ | refine below_set ?_ GE1071.out) | exact HB.out)⟩⟩
          rw [if_neg c24] at H
          have c24b0 : (t1074 == x9_1) = false := beq_eq_false_iff_ne.mpr c24
          have c24b1 : (t1074 != x9_1) = true := bne_iff_ne.mpr c24
          obtain rfl := Option.some.inj H
          have p1070 : 0 ≤ (x9_1 : Int) := of_decide_eq_true (by with_reducible assumption)
          have q1070 : x9_1 < (l0.length : Int) := of_decide_eq_true (by with_reducible assumption)
          obtain ⟨ad1070, A1070_1, c1070_1, A1070_4, c1070_4, e1070, hx1070_0, hx1070_1, hx1070_2, hx1070_3, hx1070_4, hl1070_1, hi1070_1, hl1070_4, hi1070_4⟩ := at_T75 HR0.out x9_1 p1070 q1070
          cases e1070
          replace hx1070_0 := cl_ HB.out hx1070_0
          replace hx1070_1 := cl_ HB.out hx1070_1
          replace hx1070_2 := cl_ HB.out hx1070_2
          replace hx1070_3 := cl_ HB.out hx1070_3
          replace hx1070_4 := cl_ HB.out hx1070_4
          have HR1070_1 := Aside0.mk hi1070_1
          have HC1070_1 := Aside0.mk hl1070_1
          clear hi1070_1 hl1070_1
          have HR1070_4 := Aside0.mk hi1070_4
          have HC1070_4 := Aside0.mk hl1070_4
          clear hi1070_4 hl1070_4
          replace p1070 := eq_true p1070
          replace q1070 := eq_true q1070
          try go_wp2_with (first | ((with_reducible refine gate_dst (N := 6) rfl ?_); refine box_event ?hg (N := 6) ?hd (cs := #[.int .i64 0, .slice none 0 0, .int .i64 0, .int .i64 0, .slice none 0 0]) (t := 75) ?hr ?_; (case hd => rfl); (case hg => rfl); (case hr => first | (go_simp; done) | (go_simp; rfl)); intro gb1071 hg w31 hbox hb; have n0_ := Aside0.mk (below_step (by repeat (first | (with_reducible first | exact HB.out | apply ba_ | apply bn_ | apply bd_) | exact HB.out)) hb); have BK1071 := Aside0.mk (hbox); have GW1071 := Aside0.mk ((by rw [hg]; exact (below_size (by repeat (first | (with_reducible first | exact HB.out | apply ba_ | apply bn_ | apply bd_) | exact HB.out))) : w.heap.size ≤ gb1071)); have GE1071 := GW1071; clear HB; have HB := n0_; clear n0_; clear hb hbox hg; have hcz32_0 : w31.cell? ⟨gb1071, 0, none⟩ = some (.int .i64 0) := (blk_cell BK1071.out 0).trans rfl; have hcz32_1 : w31.cell? ⟨gb1071, 1, none⟩ = some (.slice none 0 0) := (blk_cell BK1071.out 1).trans rfl; have hcz32_2 : w31.cell? ⟨gb1071, 2, none⟩ = some (.int .i64 0) := (blk_cell BK1071.out 2).trans rfl; have hcz32_3 : w31.cell? ⟨gb1071, 3, none⟩ = some (.int .i64 0) := (blk_cell BK1071.out 3).trans rfl; have hcz32_4 : w31.cell? ⟨gb1071, 4, none⟩ = some (.slice none 0 0) := (blk_cell BK1071.out 4).trans rfl; have hfz32_0 := blk_frozen BK1071.out 0; have hfz32_1 := blk_frozen BK1071.out 1; have hfz32_2 := blk_frozen BK1071.out 2; have hfz32_3 := blk_frozen BK1071.out 3; have hfz32_4 := blk_frozen BK1071.out 4))
          have n0_ : Aside0 ((((((w31.setCell ⟨gb1071, 0, none⟩ (.int .i64 ((rd_T75 l0 x9_1).f0))).setCell ⟨gb1071, 1, none⟩ (.slice A1070_1 ((rd_T75 l0 x9_1).f1).length c1070_1)).setCell ⟨gb1071, 2, none⟩ (.int .i64 ((rd_T75 l0 x9_1).f2))).setCell ⟨gb1071, 3, none⟩ (.int .i64 ((rd_T75 l0 x9_1).f3))).setCell ⟨gb1071, 4, none⟩ (.slice A1070_4 ((rd_T75 l0 x9_1).f4).length c1070_4)).heap[gb1071]? = some (.cells #[.int .i64 ((rd_T75 l0 x9_1).f0), .slice A1070_1 ((rd_T75 l0 x9_1).f1).length c1070_1, .int .i64 ((rd_T75 l0 x9_1).f2), .int .i64 ((rd_T75 l0 x9_1).f3), .slice A1070_4 ((rd_T75 l0 x9_1).f4).length c1070_4] 75 (0, 0))) := ⟨by (with_reducible repeat (first | refine kn_ ?_ _ | refine kd_ ?_ | refine ka_ ?_ _)); refine blk_put (cs := #[.int .i64 ((rd_T75 l0 x9_1).f0), .slice A1070_1 ((rd_T75 l0 x9_1).f1).length c1070_1, .int .i64 ((rd_T75 l0 x9_1).f2), .int .i64 ((rd_T75 l0 x9_1).f3), .slice none 0 0]) ?_ 4 _ rfl; (with_reducible repeat (first | refine kn_ ?_ _ | refine kd_ ?_ | refine ka_ ?_ _)); refine blk_put (cs := #[.int .i64 ((rd_T75 l0 x9_1).f0), .slice A1070_1 ((rd_T75 l0 x9_1).f1).length c1070_1, .int .i64 ((rd_T75 l0 x9_1).f2), .int .i64 0, .slice none 0 0]) ?_ 3 _ rfl; (with_reducible repeat (first | refine kn_ ?_ _ | refine kd_ ?_ | refine ka_ ?_ _)); refine blk_put (cs := #[.int .i64 ((rd_T75 l0 x9_1).f0), .slice A1070_1 ((rd_T75 l0 x9_1).f1).length c1070_1, .int .i64 0, .int .i64 0, .slice none 0 0]) ?_ 2 _ rfl; (with_reducible repeat (first | refine kn_ ?_ _ | refine kd_ ?_ | refine ka_ ?_ _)); refine blk_put (cs := #[.int .i64 ((rd_T75 l0 x9_1).f0), .slice none 0 0, .int .i64 0, .int .i64 0, .slice none 0 0]) ?_ 1 _ rfl; (with_reducible repeat (first | refine kn_ ?_ _ | refine kd_ ?_ | refine ka_ ?_ _)); refine blk_put (cs := #[.int .i64 0, .slice none 0 0, .int .i64 0, .int .i64 0, .slice none 0 0]) ?_ 0 _ rfl; (with_reducible repeat (first | refine kn_ ?_ _ | refine kd_ ?_ | refine ka_ ?_ _)); exact BK1071.out⟩
          have n1_ : Aside0 (Below w.heap.size w (((((w31.setCell ⟨gb1071, 0, none⟩ (.int .i64 ((rd_T75 l0 x9_1).f0))).setCell ⟨gb1071, 1, none⟩ (.slice A1070_1 ((rd_T75 l0 x9_1).f1).length c1070_1)).setCell ⟨gb1071, 2, none⟩ (.int .i64 ((rd_T75 l0 x9_1).f2))).setCell ⟨gb1071, 3, none⟩ (.int .i64 ((rd_T75 l0 x9_1).f3))).setCell ⟨gb1071, 4, none⟩ (.slice A1070_4 ((rd_T75 l0 x9_1).f4).length c1070_4))) := ⟨by repeat (first | (with_reducible first | exact HB.out | apply ba_ | apply bn_ | apply bd_ | refine below_set ?_ GE1071.out) | exact HB.out)⟩
          (try clear BK1071)
          (try clear HB)
          generalize (((((w31.setCell ⟨gb1071, 0, none⟩ (.int .i64 ((rd_T75 l0 x9_1).f0))).setCell ⟨gb1071, 1, none⟩ (.slice A1070_1 ((rd_T75 l0 x9_1).f1).length c1070_1)).setCell ⟨gb1071, 2, none⟩ (.int .i64 ((rd_T75 l0 x9_1).f2))).setCell ⟨gb1071, 3, none⟩ (.int .i64 ((rd_T75 l0 x9_1).f3))).setCell ⟨gb1071, 4, none⟩ (.slice A1070_4 ((rd_T75 l0 x9_1).f4).length c1070_4)) = w33 at n0_ n1_ ⊢
          have BK1071 := n0_
          have HB := n1_
          clear n0_ n1_
          have n0_ := Aside0.mk (blk_drew BK1071.out)
          have n1_ := Aside0.mk (bd_ HB.out)
          clear BK1071
          clear HB
          have BK1071 := n0_
          have HB := n1_
          clear n0_ n1_
          have p1073 : 0 ≤ ((ji14) : Int) := of_decide_eq_true (by with_reducible assumption)
          have q1073 : (ji14) < (l0.length : Int) := of_decide_eq_true (by with_reducible assumption)
          obtain ⟨ad1073, A1073_1, c1073_1, A1073_4, c1073_4, e1073, hx1073_0, hx1073_1, hx1073_2, hx1073_3, hx1073_4, hl1073_1, hi1073_1, hl1073_4, hi1073_4⟩ := at_T75 HR0.out (ji14) p1073 q1073
          have hw1073_4 := hx1073_4
          have hw1073_3 := hx1073_3
          have hw1073_2 := hx1073_2
          have hw1073_1 := hx1073_1
          have hw1073_0 := hx1073_0
          obtain rfl : ad1070 = ad1073 := (by injection e1073)
          replace hx1073_0 := cl_ HB.out hx1073_0
          replace hx1073_1 := cl_ HB.out hx1073_1
          replace hx1073_2 := cl_ HB.out hx1073_2
          replace hx1073_3 := cl_ HB.out hx1073_3
          replace hx1073_4 := cl_ HB.out hx1073_4
          have HR1073_1 := Aside0.mk hi1073_1
          have HC1073_1 := Aside0.mk hl1073_1
          clear hi1073_1 hl1073_1
          have HR1073_4 := Aside0.mk hi1073_4
          have HC1073_4 := Aside0.mk hl1073_4
          clear hi1073_4 hl1073_4
          replace p1073 := eq_true p1073
          replace q1073 := eq_true q1073
          refine start_ (n := 31) (S := fun w' => w'.cell? ⟨gb1071, 0, none⟩ = some (.int .i64 ((rd_T75 l0 x9_1).f0)) ∧ w'.cell? ⟨gb1071, 1, none⟩ = some (.slice A1070_1 ((rd_T75 l0 x9_1).f1).length c1070_1) ∧ w'.cell? ⟨gb1071, 2, none⟩ = some (.int .i64 ((rd_T75 l0 x9_1).f2)) ∧ w'.cell? ⟨gb1071, 3, none⟩ = some (.int .i64 ((rd_T75 l0 x9_1).f3)) ∧ w'.cell? ⟨gb1071, 4, none⟩ = some (.slice A1070_4 ((rd_T75 l0 x9_1).f4).length c1070_4) ∧ w'.cell? (ad1070.add (((ji14)).toNat * 5)) = some (.int .i64 ((rd_T75 l0 (ji14)).f0)) ∧ w'.cell? ⟨(ad1070.add (((ji14)).toNat * 5)).block, (ad1070.add (((ji14)).toNat * 5)).off + 1, none⟩ = some (.slice A1073_1 ((rd_T75 l0 (ji14)).f1).length c1073_1) ∧ w'.cell? ⟨(ad1070.add (((ji14)).toNat * 5)).block, (ad1070.add (((ji14)).toNat * 5)).off + 2, none⟩ = some (.int .i64 ((rd_T75 l0 (ji14)).f2)) ∧ w'.cell? ⟨(ad1070.add (((ji14)).toNat * 5)).block, (ad1070.add (((ji14)).toNat * 5)).off + 3, none⟩ = some (.int .i64 ((rd_T75 l0 (ji14)).f3)) ∧ w'.cell? ⟨(ad1070.add (((ji14)).toNat * 5)).block, (ad1070.add (((ji14)).toNat * 5)).off + 4, none⟩ = some (.slice A1073_4 ((rd_T75 l0 (ji14)).f4).length c1073_4)) (ds := []) #[f_,f_,f_,f_,f_,f_,f_,f_,f_,f_,f_,f_,f_,f_,f_,f_,f_,f_,f_,f_,f_,f_,f_,f_,f_,f_,f_,f_,f_,f_,f_] (by kernel_rfl) rfl rfl ⟨(blk_cell BK1071.out 0).trans rfl, (blk_cell BK1071.out 1).trans rfl, (blk_cell BK1071.out 2).trans rfl, (blk_cell BK1071.out 3).trans rfl, (blk_cell BK1071.out 4).trans rfl, ((HB.out.cell (World.block_lt_of_cell? w _ hw1073_0)).trans hw1073_0), ((HB.out.cell (World.block_lt_of_cell? w _ hw1073_1)).trans hw1073_1), ((HB.out.cell (World.block_lt_of_cell? w _ hw1073_2)).trans hw1073_2), ((HB.out.cell (World.block_lt_of_cell? w _ hw1073_3)).trans hw1073_3), ((HB.out.cell (World.block_lt_of_cell? w _ hw1073_4)).trans hw1073_4)⟩ (fun hHeld => ?_); refine with_tabW impl_GroupsOk.tab4 impl_GroupsOk.bits4 (fun HT_ HW_ => ?_)
          generalize w33.drew = w34 at BK1071 HB HR1073_1 HR1073_4 hx1073_0 hx1073_1 hx1073_2 hx1073_3 hx1073_4 hHeld ⊢
          refine pu_ 0 14 ?_ (b_ 1 30) rfl rfl HT_.out ?_ ?_ ?_ ?_; rotate_left; intro w'; go_simp; with_reducible rfl; rotate_left; simp only [fr_]; rfl
          refine pu_ 1 15 ?_ (b_ 2 29) rfl rfl HT_.out ?_ ?_ ?_ ?_; rotate_left; intro w'; go_simp; with_reducible rfl; rotate_left; simp only [fr_]; rfl
          refine pu_ 2 16 ?_ (b_ 3 28) rfl rfl HT_.out ?_ ?_ ?_ ?_; rotate_left; intro w'; go_simp; with_reducible rfl; rotate_left; simp only [fr_]; rfl
          refine pu_ 4 18 ?_ #[t_,t_,t_,f_,t_,f_,f_,f_,f_,f_,f_,f_,f_,f_,f_,f_,f_,f_,f_,f_,f_,f_,f_,f_,f_,f_,f_,f_,f_,f_,f_] rfl rfl HT_.out ?_ ?_ ?_ ?_; rotate_left; intro w'; go_simp; with_reducible rfl; rotate_left; simp only [fr_]; rfl
          refine take_ (i := 3) (N := some 17) (v := ?_) (a' := ?_) #[t_,t_,t_,t_,t_,f_,f_,f_,f_,f_,f_,f_,f_,f_,f_,f_,f_,f_,f_,f_,f_,f_,f_,f_,f_,f_,f_,f_,f_,f_,f_] rfl rfl (take_ofW HT_.out HW_.out (by kernel_rfl)) (fun _ _ _ h => h) (Or.inl ⟨by rfl, ?_⟩) hHeld ?_ ?_
          rotate_left
          ·
           rintro w' ⟨s0, s1, s2, s3, s4, s5, s6, s7, s8, s9⟩
           go_simp
           with_reducible rfl
          rotate_left
          ·
           simp only [fr_]
           rfl
          refine one_ (i := 5) (N := some 19) #[t_,t_,t_,t_,t_,t_,f_,f_,f_,f_,f_,f_,f_,f_,f_,f_,f_,f_,f_,f_,f_,f_,f_,f_,f_,f_,f_,f_,f_,f_,f_] rfl rfl (one_of HT_.out (by kernel_rfl)) (by decide) (fun K hK => ?_)
          refine goes_ Try.func53 (by kernel_rfl) rfl #[.agg #[.int .i64 ((rd_T75 l0 x9_1).f0), .slice A1070_1 ((rd_T75 l0 x9_1).f1).length c1070_1, .int .i64 ((rd_T75 l0 x9_1).f2), .int .i64 ((rd_T75 l0 x9_1).f3), .slice A1070_4 ((rd_T75 l0 x9_1).f4).length c1070_4], .slice A1 l1.length c1] (by rfl) rfl rfl (by (try simp only [mp_]); first | done | rfl | (simp only [List.length_drop, List.length_take]; rfl)) ?_
          with_reducible refine (impl_GroupOk.calls k1 ((rd_T75 l0 x9_1).f0) _ _ ((rd_T75 l0 x9_1).f1) ((rd_T75 l0 x9_1).f2) ((rd_T75 l0 x9_1).f3) _ _ ((rd_T75 l0 x9_1).f4) _ _ l1 true _ ?side1 ?side2 ?side3 ?side4 ?side5 ?side6 A11.out).mono ?_
          (case side1 => repeat (first | exact (Kd.C_below HR1070_1.out HB.out) | (with_reducible first | refine ca_ ?_ _ | refine cn_ ?_ _ | refine cd_ ?_)))
          (case side2 => exact HC1070_1.out)
          (case side3 => repeat (first | exact (Kd.C_below HR1070_4.out HB.out) | (with_reducible first | refine ca_ ?_ _ | refine cn_ ?_ _ | refine cd_ ?_)))
          (case side4 => exact HC1070_4.out)
          (case side5 => repeat (first | exact (Kd.C_below HR1.out HB.out) | (with_reducible first | refine ca_ ?_ _ | refine cn_ ?_ _ | refine cd_ ?_)))
          (case side6 => exact HC1.out)
          rintro e w35 ⟨rfl, hb⟩
          refine ⟨_, rfl, ?_⟩
          have n0_ := Aside0.mk (blk_below (g := gb1071) (o := .cells #[.int .i64 ((rd_T75 l0 x9_1).f0), .slice A1070_1 ((rd_T75 l0 x9_1).f1).length c1070_1, .int .i64 ((rd_T75 l0 x9_1).f2), .int .i64 ((rd_T75 l0 x9_1).f3), .slice A1070_4 ((rd_T75 l0 x9_1).f4).length c1070_4] 75 (0, 0)) (by (with_reducible repeat (first | refine kn_ ?_ _ | refine kd_ ?_ | refine ka_ ?_ _)); exact BK1071.out) hb)
          have n1_ := Aside0.mk (below_step (by repeat (first | (with_reducible first | exact HB.out | apply ba_ | apply bn_ | apply bd_ | refine below_set ?_ GE1071.out) | exact HB.out)) hb)
          clear BK1071
          clear HB
          have BK1071 := n0_
          have HB := n1_
          clear n0_ n1_
          (try clear hb)
          (try clear hb2)
          (try clear hk)
          (try clear hi)
          refine hK.out _ _ ⟨(blk_cell BK1071.out 0).trans rfl, (blk_cell BK1071.out 1).trans rfl, (blk_cell BK1071.out 2).trans rfl, (blk_cell BK1071.out 3).trans rfl, (blk_cell BK1071.out 4).trans rfl, ((HB.out.cell (World.block_lt_of_cell? w _ hw1073_0)).trans hw1073_0), ((HB.out.cell (World.block_lt_of_cell? w _ hw1073_1)).trans hw1073_1), ((HB.out.cell (World.block_lt_of_cell? w _ hw1073_2)).trans hw1073_2), ((HB.out.cell (World.block_lt_of_cell? w _ hw1073_3)).trans hw1073_3), ((HB.out.cell (World.block_lt_of_cell? w _ hw1073_4)).trans hw1073_4)⟩ (fun hHeld => ?_)
          clear hK K
          refine norm_ (a' := ?_) ?_ ?_
          rotate_left
          ·
           show Act.put _ (some 19) _ = _
           simp only [fr_]
           rfl
          refine pu_ 6 20 ?_ (b_ 7 24) rfl rfl HT_.out ?_ ?_ ?_ ?_; rotate_left; intro w'; go_simp; with_reducible rfl; rotate_left; simp only [fr_]; rfl
          refine pu_ 7 21 ?_ (b_ 8 23) rfl rfl HT_.out ?_ ?_ ?_ ?_; rotate_left; intro w'; go_simp; with_reducible rfl; rotate_left; simp only [fr_]; rfl
          refine pu_ 8 22 ?_ (b_ 9 22) rfl rfl HT_.out ?_ ?_ ?_ ?_; rotate_left; intro w'; go_simp; with_reducible rfl; rotate_left; simp only [fr_]; rfl
          refine pu_ 9 23 ?_ (b_ 10 21) rfl rfl HT_.out ?_ ?_ ?_ ?_; rotate_left; intro w'; go_simp; with_reducible rfl; rotate_left; simp only [fr_]; rfl
          refine pu_ 10 24 ?_ (b_ 11 20) rfl rfl HT_.out ?_ ?_ ?_ ?_; rotate_left; intro w'; go_simp; with_reducible rfl; rotate_left; simp only [fr_]; rfl
          refine pu_ 11 25 ?_ (b_ 12 19) rfl rfl HT_.out ?_ ?_ ?_ ?_; rotate_left; intro w'; go_simp; with_reducible rfl; rotate_left; simp only [fr_]; rfl
          refine pu_ 12 26 ?_ (b_ 13 18) rfl rfl HT_.out ?_ ?_ ?_ ?_; rotate_left; intro w'; go_simp; with_reducible rfl; rotate_left; simp only [fr_]; rfl
          refine pu_ 13 27 ?_ (b_ 14 17) rfl rfl HT_.out ?_ ?_ ?_ ?_; rotate_left; intro w'; go_simp; with_reducible rfl; rotate_left; simp only [fr_]; rfl
          refine pu_ 14 28 ?_ (b_ 15 16) rfl rfl HT_.out ?_ ?_ ?_ ?_; rotate_left; intro w'; go_simp; with_reducible rfl; rotate_left; simp only [fr_]; rfl
          refine pu_ 15 29 ?_ (b_ 16 15) rfl rfl HT_.out ?_ ?_ ?_ ?_; rotate_left; intro w'; go_simp; with_reducible rfl; rotate_left; simp only [fr_]; rfl
          refine pu_ 16 30 ?_ (b_ 17 14) rfl rfl HT_.out ?_ ?_ ?_ ?_; rotate_left; intro w'; go_simp; with_reducible rfl; rotate_left; simp only [fr_]; rfl
          refine pu_ 18 32 ?_ #[t_,t_,t_,t_,t_,t_,t_,t_,t_,t_,t_,t_,t_,t_,t_,t_,t_,f_,t_,f_,f_,f_,f_,f_,f_,f_,f_,f_,f_,f_,f_] rfl rfl HT_.out ?_ ?_ ?_ ?_; rotate_left; intro w'; go_simp; with_reducible rfl; rotate_left; simp only [fr_]; rfl
          refine take_ (i := 17) (N := some 31) (v := ?_) (a' := ?_) #[t_,t_,t_,t_,t_,t_,t_,t_,t_,t_,t_,t_,t_,t_,t_,t_,t_,t_,t_,f_,f_,f_,f_,f_,f_,f_,f_,f_,f_,f_,f_] rfl rfl (take_ofW HT_.out HW_.out (by kernel_rfl)) (fun _ _ _ h => h) (Or.inl ⟨by rfl, ?_⟩) hHeld ?_ ?_
          rotate_left
          ·
           rintro w' ⟨s0, s1, s2, s3, s4, s5, s6, s7, s8, s9⟩
           go_simp
           with_reducible rfl
          rotate_left
          ·
           simp only [fr_]
           rfl
          refine take_ (i := 19) (N := some 33) (v := ?_) (a' := ?_) #[t_,t_,t_,t_,t_,t_,t_,t_,t_,t_,t_,t_,t_,t_,t_,t_,t_,t_,t_,t_,f_,f_,f_,f_,f_,f_,f_,f_,f_,f_,f_] rfl rfl (take_ofW HT_.out HW_.out (by kernel_rfl)) (fun _ _ _ h => h) (Or.inl ⟨by rfl, ?_⟩) hHeld ?_ ?_
          rotate_left
          ·
           rintro w' ⟨s0, s1, s2, s3, s4, s5, s6, s7, s8, s9⟩
           go_simp
           with_reducible rfl
          rotate_left
          ·
           simp only [fr_]
           rfl
          refine pu_ 20 34 ?_ (b_ 21 10) rfl rfl HT_.out ?_ ?_ ?_ ?_; rotate_left; intro w'; go_simp; with_reducible rfl; rotate_left; simp only [fr_]; rfl
          refine pu_ 21 35 ?_ (b_ 22 9) rfl rfl HT_.out ?_ ?_ ?_ ?_; rotate_left; intro w'; go_simp; with_reducible rfl; rotate_left; simp only [fr_]; rfl
          refine pu_ 22 36 ?_ (b_ 23 8) rfl rfl HT_.out ?_ ?_ ?_ ?_; rotate_left; intro w'; go_simp; with_reducible rfl; rotate_left; simp only [fr_]; rfl
          refine pu_ 23 37 ?_ (b_ 24 7) rfl rfl HT_.out ?_ ?_ ?_ ?_; rotate_left; intro w'; go_simp; with_reducible rfl; rotate_left; simp only [fr_]; rfl
          refine pu_ 24 38 ?_ (b_ 25 6) rfl rfl HT_.out ?_ ?_ ?_ ?_; rotate_left; intro w'; go_simp; with_reducible rfl; rotate_left; simp only [fr_]; rfl
          refine pu_ 25 39 ?_ (b_ 26 5) rfl rfl HT_.out ?_ ?_ ?_ ?_; rotate_left; intro w'; go_simp; with_reducible rfl; rotate_left; simp only [fr_]; rfl
          refine pu_ 28 42 ?_ #[t_,t_,t_,t_,t_,t_,t_,t_,t_,t_,t_,t_,t_,t_,t_,t_,t_,t_,t_,t_,t_,t_,t_,t_,t_,t_,f_,f_,t_,f_,f_] rfl rfl HT_.out ?_ ?_ ?_ ?_; rotate_left; intro w'; go_simp; with_reducible rfl; rotate_left; simp only [fr_]; rfl
          refine take_ (i := 26) (N := some 40) (v := ?_) (a' := ?_) #[t_,t_,t_,t_,t_,t_,t_,t_,t_,t_,t_,t_,t_,t_,t_,t_,t_,t_,t_,t_,t_,t_,t_,t_,t_,t_,t_,f_,t_,f_,f_] rfl rfl (take_ofW HT_.out HW_.out (by kernel_rfl)) (fun _ _ _ h => h) (Or.inl ⟨by rfl, ?_⟩) hHeld ?_ ?_
          rotate_left
          ·
           rintro w' ⟨s0, s1, s2, s3, s4, s5, s6, s7, s8, s9⟩
           go_simp
           with_reducible rfl
          rotate_left
          ·
           simp only [fr_]
           rfl
          refine one_ (i := 27) (N := some 41) #[t_,t_,t_,t_,t_,t_,t_,t_,t_,t_,t_,t_,t_,t_,t_,t_,t_,t_,t_,t_,t_,t_,t_,t_,t_,t_,t_,t_,t_,f_,f_] rfl rfl (one_of HT_.out (by kernel_rfl)) (by decide) (fun K hK => ?_)
          refine goes_ Try.func117 (by kernel_rfl) rfl #[.slice (some ad1070) l0.length c0, .slice A1070_1 ((rd_T75 l0 x9_1).f1).length c1070_1] (by rfl) rfl rfl (by (try simp only [mp_]); first | done | rfl | (simp only [List.length_drop, List.length_take]; rfl)) ?_
          with_reducible refine (impl_GroupOf.calls k1 _ _ l0 _ _ ((rd_T75 l0 x9_1).f1) t1074 _ ?side1 ?side2 ?side3 ?side4 A23.out).mono ?_
          (case side1 => repeat (first | exact (Kd.C_below HR0.out HB.out) | (with_reducible first | refine ca_ ?_ _ | refine cn_ ?_ _ | refine cd_ ?_)))
          (case side2 => exact HC0.out)
          (case side3 => repeat (first | exact (Kd.C_below HR1070_1.out HB.out) | (with_reducible first | refine ca_ ?_ _ | refine cn_ ?_ _ | refine cd_ ?_)))
          (case side4 => exact HC1070_1.out)
          rintro e w36 ⟨rfl, hb⟩
          refine ⟨_, rfl, ?_⟩
          have n0_ := Aside0.mk (blk_below (g := gb1071) (o := .cells #[.int .i64 ((rd_T75 l0 x9_1).f0), .slice A1070_1 ((rd_T75 l0 x9_1).f1).length c1070_1, .int .i64 ((rd_T75 l0 x9_1).f2), .int .i64 ((rd_T75 l0 x9_1).f3), .slice A1070_4 ((rd_T75 l0 x9_1).f4).length c1070_4] 75 (0, 0)) (by (with_reducible repeat (first | refine kn_ ?_ _ | refine kd_ ?_ | refine ka_ ?_ _)); exact BK1071.out) hb)
          have n1_ := Aside0.mk (below_step (by repeat (first | (with_reducible first | exact HB.out | apply ba_ | apply bn_ | apply bd_ | refine below_set ?_ GE1071.out) | exact HB.out)) hb)
          clear BK1071
          clear HB
          have BK1071 := n0_
          have HB := n1_
          clear n0_ n1_
          (try clear hb)
          (try clear hb2)
          (try clear hk)
          (try clear hi)
          refine hK.out _ _ ⟨(blk_cell BK1071.out 0).trans rfl, (blk_cell BK1071.out 1).trans rfl, (blk_cell BK1071.out 2).trans rfl, (blk_cell BK1071.out 3).trans rfl, (blk_cell BK1071.out 4).trans rfl, ((HB.out.cell (World.block_lt_of_cell? w _ hw1073_0)).trans hw1073_0), ((HB.out.cell (World.block_lt_of_cell? w _ hw1073_1)).trans hw1073_1), ((HB.out.cell (World.block_lt_of_cell? w _ hw1073_2)).trans hw1073_2), ((HB.out.cell (World.block_lt_of_cell? w _ hw1073_3)).trans hw1073_3), ((HB.out.cell (World.block_lt_of_cell? w _ hw1073_4)).trans hw1073_4)⟩ (fun hHeld => ?_)
          clear hK K
          refine norm_ (a' := ?_) ?_ ?_
          rotate_left
          ·
           show Act.put _ (some 41) _ = _
           simp only [fr_]
           rfl
          refine pu_ 29 43 ?_ (b_ 30 1) rfl rfl HT_.out ?_ ?_ ?_ ?_; rotate_left; intro w'; go_simp; with_reducible rfl; rotate_left; simp only [fr_]; rfl
          refine pu_ 30 44 ?_ (b_ 31 0) rfl rfl HT_.out ?_ ?_ ?_ ?_; rotate_left; intro w'; go_simp; with_reducible rfl; rotate_left; simp only [fr_]; rfl
          refine done_ (done_of HT_.out (by kernel_rfl)) ?_
          try go_wp2
          go_ret
          exact ⟨by first | rfl | (simp [errW_none, errW_some] <;> rfl) | (simp only [← hji14]; first | rfl | (simp [errW_none, errW_some] <;> rfl)) | (simp [*, errW_none, errW_some] <;> rfl), by repeat (first | (with_reducible first | exact HB.out | apply ba_ | apply bn_ | apply bd_ | refine below_set ?_ GE1071.out) | exact HB.out)⟩
         rw [if_neg c16] at H
         exact absurd H (by simp)
        rw [if_neg c15] at H
        exact absurd H (by simp)
       rw [if_neg c13] at H
       have c13b0 : decide (0 < x9_1) = false := decide_eq_false c13
       clear c13
       replace H := Option.bind_eq_some_iff.mp H
       obtain ⟨t1075, A370, H⟩ := H
       have A37 := Aside0.mk A370
       clear A370
       by_cases c38 : t1075 = x9_1
       ·
        rw [if_pos c38] at H
        have c38b0 : (t1075 == x9_1) = true := beq_iff_eq.mpr c38
        have c38b1 : (t1075 != x9_1) = false := bne_eq_false_iff_eq.mpr c38
        clear c38
        have H' := Aside0.mk H
        clear H
        have p1070 : 0 ≤ (x9_1 : Int) := of_decide_eq_true (by with_reducible assumption)
        have q1070 : x9_1 < (l0.length : Int) := of_decide_eq_true (by with_reducible assumption)
        obtain ⟨ad1070, A1070_1, c1070_1, A1070_4, c1070_4, e1070, hx1070_0, hx1070_1, hx1070_2, hx1070_3, hx1070_4, hl1070_1, hi1070_1, hl1070_4, hi1070_4⟩ := at_T75 HR0.out x9_1 p1070 q1070
        cases e1070
        replace hx1070_0 := cl_ HB.out hx1070_0
        replace hx1070_1 := cl_ HB.out hx1070_1
        replace hx1070_2 := cl_ HB.out hx1070_2
        replace hx1070_3 := cl_ HB.out hx1070_3
        replace hx1070_4 := cl_ HB.out hx1070_4
        have HR1070_1 := Aside0.mk hi1070_1
        have HC1070_1 := Aside0.mk hl1070_1
        clear hi1070_1 hl1070_1
        have HR1070_4 := Aside0.mk hi1070_4
        have HC1070_4 := Aside0.mk hl1070_4
        clear hi1070_4 hl1070_4
        replace p1070 := eq_true p1070
        replace q1070 := eq_true q1070
        try go_wp2_with (first | ((with_reducible refine gate_dst (N := 6) rfl ?_); refine box_event ?hg (N := 6) ?hd (cs := #[.int .i64 0, .slice none 0 0, .int .i64 0, .int .i64 0, .slice none 0 0]) (t := 75) ?hr ?_; (case hd => rfl); (case hg => rfl); (case hr => first | (go_simp; done) | (go_simp; rfl)); intro gb1071 hg w39 hbox hb; have n0_ := Aside0.mk (below_step (by repeat (first | (with_reducible first | exact HB.out | apply ba_ | apply bn_ | apply bd_) | exact HB.out)) hb); have BK1071 := Aside0.mk (hbox); have GW1071 := Aside0.mk ((by rw [hg]; exact (below_size (by repeat (first | (with_reducible first | exact HB.out | apply ba_ | apply bn_ | apply bd_) | exact HB.out))) : w.heap.size ≤ gb1071)); have GE1071 := GW1071; clear HB; have HB := n0_; clear n0_; clear hb hbox hg; have hcz40_0 : w39.cell? ⟨gb1071, 0, none⟩ = some (.int .i64 0) := (blk_cell BK1071.out 0).trans rfl; have hcz40_1 : w39.cell? ⟨gb1071, 1, none⟩ = some (.slice none 0 0) := (blk_cell BK1071.out 1).trans rfl; have hcz40_2 : w39.cell? ⟨gb1071, 2, none⟩ = some (.int .i64 0) := (blk_cell BK1071.out 2).trans rfl; have hcz40_3 : w39.cell? ⟨gb1071, 3, none⟩ = some (.int .i64 0) := (blk_cell BK1071.out 3).trans rfl; have hcz40_4 : w39.cell? ⟨gb1071, 4, none⟩ = some (.slice none 0 0) := (blk_cell BK1071.out 4).trans rfl; have hfz40_0 := blk_frozen BK1071.out 0; have hfz40_1 := blk_frozen BK1071.out 1; have hfz40_2 := blk_frozen BK1071.out 2; have hfz40_3 := blk_frozen BK1071.out 3; have hfz40_4 := blk_frozen BK1071.out 4))
        have n0_ : Aside0 ((((((w39.setCell ⟨gb1071, 0, none⟩ (.int .i64 ((rd_T75 l0 x9_1).f0))).setCell ⟨gb1071, 1, none⟩ (.slice A1070_1 ((rd_T75 l0 x9_1).f1).length c1070_1)).setCell ⟨gb1071, 2, none⟩ (.int .i64 ((rd_T75 l0 x9_1).f2))).setCell ⟨gb1071, 3, none⟩ (.int .i64 ((rd_T75 l0 x9_1).f3))).setCell ⟨gb1071, 4, none⟩ (.slice A1070_4 ((rd_T75 l0 x9_1).f4).length c1070_4)).heap[gb1071]? = some (.cells #[.int .i64 ((rd_T75 l0 x9_1).f0), .slice A1070_1 ((rd_T75 l0 x9_1).f1).length c1070_1, .int .i64 ((rd_T75 l0 x9_1).f2), .int .i64 ((rd_T75 l0 x9_1).f3), .slice A1070_4 ((rd_T75 l0 x9_1).f4).length c1070_4] 75 (0, 0))) := ⟨by (with_reducible repeat (first | refine kn_ ?_ _ | refine kd_ ?_ | refine ka_ ?_ _)); refine blk_put (cs := #[.int .i64 ((rd_T75 l0 x9_1).f0), .slice A1070_1 ((rd_T75 l0 x9_1).f1).length c1070_1, .int .i64 ((rd_T75 l0 x9_1).f2), .int .i64 ((rd_T75 l0 x9_1).f3), .slice none 0 0]) ?_ 4 _ rfl; (with_reducible repeat (first | refine kn_ ?_ _ | refine kd_ ?_ | refine ka_ ?_ _)); refine blk_put (cs := #[.int .i64 ((rd_T75 l0 x9_1).f0), .slice A1070_1 ((rd_T75 l0 x9_1).f1).length c1070_1, .int .i64 ((rd_T75 l0 x9_1).f2), .int .i64 0, .slice none 0 0]) ?_ 3 _ rfl; (with_reducible repeat (first | refine kn_ ?_ _ | refine kd_ ?_ | refine ka_ ?_ _)); refine blk_put (cs := #[.int .i64 ((rd_T75 l0 x9_1).f0), .slice A1070_1 ((rd_T75 l0 x9_1).f1).length c1070_1, .int .i64 0, .int .i64 0, .slice none 0 0]) ?_ 2 _ rfl; (with_reducible repeat (first | refine kn_ ?_ _ | refine kd_ ?_ | refine ka_ ?_ _)); refine blk_put (cs := #[.int .i64 ((rd_T75 l0 x9_1).f0), .slice none 0 0, .int .i64 0, .int .i64 0, .slice none 0 0]) ?_ 1 _ rfl; (with_reducible repeat (first | refine kn_ ?_ _ | refine kd_ ?_ | refine ka_ ?_ _)); refine blk_put (cs := #[.int .i64 0, .slice none 0 0, .int .i64 0, .int .i64 0, .slice none 0 0]) ?_ 0 _ rfl; (with_reducible repeat (first | refine kn_ ?_ _ | refine kd_ ?_ | refine ka_ ?_ _)); exact BK1071.out⟩
        have n1_ : Aside0 (Below w.heap.size w (((((w39.setCell ⟨gb1071, 0, none⟩ (.int .i64 ((rd_T75 l0 x9_1).f0))).setCell ⟨gb1071, 1, none⟩ (.slice A1070_1 ((rd_T75 l0 x9_1).f1).length c1070_1)).setCell ⟨gb1071, 2, none⟩ (.int .i64 ((rd_T75 l0 x9_1).f2))).setCell ⟨gb1071, 3, none⟩ (.int .i64 ((rd_T75 l0 x9_1).f3))).setCell ⟨gb1071, 4, none⟩ (.slice A1070_4 ((rd_T75 l0 x9_1).f4).length c1070_4))) := ⟨by repeat (first | (with_reducible first | exact HB.out | apply ba_ | apply bn_ | apply bd_ | refine below_set ?_ GE1071.out) | exact HB.out)⟩
        (try clear BK1071)
        (try clear HB)
        generalize (((((w39.setCell ⟨gb1071, 0, none⟩ (.int .i64 ((rd_T75 l0 x9_1).f0))).setCell ⟨gb1071, 1, none⟩ (.slice A1070_1 ((rd_T75 l0 x9_1).f1).length c1070_1)).setCell ⟨gb1071, 2, none⟩ (.int .i64 ((rd_T75 l0 x9_1).f2))).setCell ⟨gb1071, 3, none⟩ (.int .i64 ((rd_T75 l0 x9_1).f3))).setCell ⟨gb1071, 4, none⟩ (.slice A1070_4 ((rd_T75 l0 x9_1).f4).length c1070_4)) = w41 at n0_ n1_ ⊢
        have BK1071 := n0_
        have HB := n1_
        clear n0_ n1_
        have n0_ := Aside0.mk (blk_drew BK1071.out)
        have n1_ := Aside0.mk (bd_ HB.out)
        clear BK1071
        clear HB
        have BK1071 := n0_
        have HB := n1_
        clear n0_ n1_
        refine start_ (n := 31) (S := fun w' => w'.cell? ⟨gb1071, 0, none⟩ = some (.int .i64 ((rd_T75 l0 x9_1).f0)) ∧ w'.cell? ⟨gb1071, 1, none⟩ = some (.slice A1070_1 ((rd_T75 l0 x9_1).f1).length c1070_1) ∧ w'.cell? ⟨gb1071, 2, none⟩ = some (.int .i64 ((rd_T75 l0 x9_1).f2)) ∧ w'.cell? ⟨gb1071, 3, none⟩ = some (.int .i64 ((rd_T75 l0 x9_1).f3)) ∧ w'.cell? ⟨gb1071, 4, none⟩ = some (.slice A1070_4 ((rd_T75 l0 x9_1).f4).length c1070_4)) (ds := []) #[f_,f_,f_,f_,f_,f_,f_,f_,f_,f_,f_,f_,f_,f_,f_,f_,f_,f_,f_,f_,f_,f_,f_,f_,f_,f_,f_,f_,f_,f_,f_] (by kernel_rfl) rfl rfl ⟨(blk_cell BK1071.out 0).trans rfl, (blk_cell BK1071.out 1).trans rfl, (blk_cell BK1071.out 2).trans rfl, (blk_cell BK1071.out 3).trans rfl, (blk_cell BK1071.out 4).trans rfl⟩ (fun hHeld => ?_); refine with_tabW impl_GroupsOk.tab4 impl_GroupsOk.bits4 (fun HT_ HW_ => ?_)
        generalize w41.drew = w42 at BK1071 HB hHeld ⊢
        refine pu_ 0 14 ?_ (b_ 1 30) rfl rfl HT_.out ?_ ?_ ?_ ?_; rotate_left; intro w'; go_simp; with_reducible rfl; rotate_left; simp only [fr_]; rfl
        refine pu_ 1 15 ?_ (b_ 2 29) rfl rfl HT_.out ?_ ?_ ?_ ?_; rotate_left; intro w'; go_simp; with_reducible rfl; rotate_left; simp only [fr_]; rfl
        refine pu_ 2 16 ?_ (b_ 3 28) rfl rfl HT_.out ?_ ?_ ?_ ?_; rotate_left; intro w'; go_simp; with_reducible rfl; rotate_left; simp only [fr_]; rfl
        refine pu_ 4 18 ?_ #[t_,t_,t_,f_,t_,f_,f_,f_,f_,f_,f_,f_,f_,f_,f_,f_,f_,f_,f_,f_,f_,f_,f_,f_,f_,f_,f_,f_,f_,f_,f_] rfl rfl HT_.out ?_ ?_ ?_ ?_; rotate_left; intro w'; go_simp; with_reducible rfl; rotate_left; simp only [fr_]; rfl
        refine take_ (i := 3) (N := some 17) (v := ?_) (a' := ?_) #[t_,t_,t_,t_,t_,f_,f_,f_,f_,f_,f_,f_,f_,f_,f_,f_,f_,f_,f_,f_,f_,f_,f_,f_,f_,f_,f_,f_,f_,f_,f_] rfl rfl (take_ofW HT_.out HW_.out (by kernel_rfl)) (fun _ _ _ h => h) (Or.inl ⟨by rfl, ?_⟩) hHeld ?_ ?_
        rotate_left
        ·
         rintro w' ⟨s0, s1, s2, s3, s4⟩
         go_simp
         with_reducible rfl
        rotate_left
        ·
         simp only [fr_]
         rfl
        refine one_ (i := 5) (N := some 19) #[t_,t_,t_,t_,t_,t_,f_,f_,f_,f_,f_,f_,f_,f_,f_,f_,f_,f_,f_,f_,f_,f_,f_,f_,f_,f_,f_,f_,f_,f_,f_] rfl rfl (one_of HT_.out (by kernel_rfl)) (by decide) (fun K hK => ?_)
        refine goes_ Try.func53 (by kernel_rfl) rfl #[.agg #[.int .i64 ((rd_T75 l0 x9_1).f0), .slice A1070_1 ((rd_T75 l0 x9_1).f1).length c1070_1, .int .i64 ((rd_T75 l0 x9_1).f2), .int .i64 ((rd_T75 l0 x9_1).f3), .slice A1070_4 ((rd_T75 l0 x9_1).f4).length c1070_4], .slice A1 l1.length c1] (by rfl) rfl rfl (by (try simp only [mp_]); first | done | rfl | (simp only [List.length_drop, List.length_take]; rfl)) ?_
        with_reducible refine (impl_GroupOk.calls k1 ((rd_T75 l0 x9_1).f0) _ _ ((rd_T75 l0 x9_1).f1) ((rd_T75 l0 x9_1).f2) ((rd_T75 l0 x9_1).f3) _ _ ((rd_T75 l0 x9_1).f4) _ _ l1 true _ ?side1 ?side2 ?side3 ?side4 ?side5 ?side6 A11.out).mono ?_
        (case side1 => repeat (first | exact (Kd.C_below HR1070_1.out HB.out) | (with_reducible first | refine ca_ ?_ _ | refine cn_ ?_ _ | refine cd_ ?_)))
        (case side2 => exact HC1070_1.out)
        (case side3 => repeat (first | exact (Kd.C_below HR1070_4.out HB.out) | (with_reducible first | refine ca_ ?_ _ | refine cn_ ?_ _ | refine cd_ ?_)))
        (case side4 => exact HC1070_4.out)
        (case side5 => repeat (first | exact (Kd.C_below HR1.out HB.out) | (with_reducible first | refine ca_ ?_ _ | refine cn_ ?_ _ | refine cd_ ?_)))
        (case side6 => exact HC1.out)
        rintro e w43 ⟨rfl, hb⟩
        refine ⟨_, rfl, ?_⟩
        have n0_ := Aside0.mk (blk_below (g := gb1071) (o := .cells #[.int .i64 ((rd_T75 l0 x9_1).f0), .slice A1070_1 ((rd_T75 l0 x9_1).f1).length c1070_1, .int .i64 ((rd_T75 l0 x9_1).f2), .int .i64 ((rd_T75 l0 x9_1).f3), .slice A1070_4 ((rd_T75 l0 x9_1).f4).length c1070_4] 75 (0, 0)) (by (with_reducible repeat (first | refine kn_ ?_ _ | refine kd_ ?_ | refine ka_ ?_ _)); exact BK1071.out) hb)
        have n1_ := Aside0.mk (below_step (by repeat (first | (with_reducible first | exact HB.out | apply ba_ | apply bn_ | apply bd_ | refine below_set ?_ GE1071.out) | exact HB.out)) hb)
        clear BK1071
        clear HB
        have BK1071 := n0_
        have HB := n1_
        clear n0_ n1_
        (try clear hb)
        (try clear hb2)
        (try clear hk)
        (try clear hi)
        refine hK.out _ _ ⟨(blk_cell BK1071.out 0).trans rfl, (blk_cell BK1071.out 1).trans rfl, (blk_cell BK1071.out 2).trans rfl, (blk_cell BK1071.out 3).trans rfl, (blk_cell BK1071.out 4).trans rfl⟩ (fun hHeld => ?_)
        clear hK K
        refine norm_ (a' := ?_) ?_ ?_
        rotate_left
        ·
         show Act.put _ (some 19) _ = _
         simp only [fr_]
         rfl
        refine pu_ 6 20 ?_ (b_ 7 24) rfl rfl HT_.out ?_ ?_ ?_ ?_; rotate_left; intro w'; go_simp; with_reducible rfl; rotate_left; simp only [fr_]; rfl
        refine pu_ 7 21 ?_ (b_ 8 23) rfl rfl HT_.out ?_ ?_ ?_ ?_; rotate_left; intro w'; go_simp; with_reducible rfl; rotate_left; simp only [fr_]; rfl
        refine pu_ 8 22 ?_ (b_ 9 22) rfl rfl HT_.out ?_ ?_ ?_ ?_; rotate_left; intro w'; go_simp; with_reducible rfl; rotate_left; simp only [fr_]; rfl
        refine pu_ 9 23 ?_ (b_ 10 21) rfl rfl HT_.out ?_ ?_ ?_ ?_; rotate_left; intro w'; go_simp; with_reducible rfl; rotate_left; simp only [fr_]; rfl
        refine pu_ 10 24 ?_ (b_ 11 20) rfl rfl HT_.out ?_ ?_ ?_ ?_; rotate_left; intro w'; go_simp; with_reducible rfl; rotate_left; simp only [fr_]; rfl
        refine pu_ 11 25 ?_ (b_ 12 19) rfl rfl HT_.out ?_ ?_ ?_ ?_; rotate_left; intro w'; go_simp; with_reducible rfl; rotate_left; simp only [fr_]; rfl
        refine pv_ 12 26 ?_ (b_ 13 18) rfl rfl HT_.out ?_ ?_; rotate_left; simp only [fr_]; rfl
        refine pv_ 13 27 ?_ (b_ 14 17) rfl rfl HT_.out ?_ ?_; rotate_left; simp only [fr_]; rfl
        refine pv_ 14 28 ?_ (b_ 15 16) rfl rfl HT_.out ?_ ?_; rotate_left; simp only [fr_]; rfl
        refine pv_ 15 29 ?_ (b_ 16 15) rfl rfl HT_.out ?_ ?_; rotate_left; simp only [fr_]; rfl
        refine pv_ 16 30 ?_ (b_ 17 14) rfl rfl HT_.out ?_ ?_; rotate_left; simp only [fr_]; rfl
        refine pv_ 17 31 ?_ (b_ 18 13) rfl rfl HT_.out ?_ ?_; rotate_left; simp only [fr_]; rfl
        refine pv_ 18 32 ?_ (b_ 19 12) rfl rfl HT_.out ?_ ?_; rotate_left; simp only [fr_]; rfl
        refine pv_ 19 33 ?_ (b_ 20 11) rfl rfl HT_.out ?_ ?_; rotate_left; simp only [fr_]; rfl
        refine pv_ 20 34 ?_ (b_ 21 10) rfl rfl HT_.out ?_ ?_; rotate_left; simp only [fr_]; rfl
        refine pu_ 21 35 ?_ (b_ 22 9) rfl rfl HT_.out ?_ ?_ ?_ ?_; rotate_left; intro w'; go_simp; with_reducible rfl; rotate_left; simp only [fr_]; rfl
        refine pu_ 22 36 ?_ (b_ 23 8) rfl rfl HT_.out ?_ ?_ ?_ ?_; rotate_left; intro w'; go_simp; with_reducible rfl; rotate_left; simp only [fr_]; rfl
        refine pu_ 23 37 ?_ (b_ 24 7) rfl rfl HT_.out ?_ ?_ ?_ ?_; rotate_left; intro w'; go_simp; with_reducible rfl; rotate_left; simp only [fr_]; rfl
        refine pu_ 24 38 ?_ (b_ 25 6) rfl rfl HT_.out ?_ ?_ ?_ ?_; rotate_left; intro w'; go_simp; with_reducible rfl; rotate_left; simp only [fr_]; rfl
        refine pu_ 25 39 ?_ (b_ 26 5) rfl rfl HT_.out ?_ ?_ ?_ ?_; rotate_left; intro w'; go_simp; with_reducible rfl; rotate_left; simp only [fr_]; rfl
        refine pu_ 28 42 ?_ #[t_,t_,t_,t_,t_,t_,t_,t_,t_,t_,t_,t_,t_,t_,t_,t_,t_,t_,t_,t_,t_,t_,t_,t_,t_,t_,f_,f_,t_,f_,f_] rfl rfl HT_.out ?_ ?_ ?_ ?_; rotate_left; intro w'; go_simp; with_reducible rfl; rotate_left; simp only [fr_]; rfl
        refine take_ (i := 26) (N := some 40) (v := ?_) (a' := ?_) #[t_,t_,t_,t_,t_,t_,t_,t_,t_,t_,t_,t_,t_,t_,t_,t_,t_,t_,t_,t_,t_,t_,t_,t_,t_,t_,t_,f_,t_,f_,f_] rfl rfl (take_ofW HT_.out HW_.out (by kernel_rfl)) (fun _ _ _ h => h) (Or.inl ⟨by rfl, ?_⟩) hHeld ?_ ?_
        rotate_left
        ·
         rintro w' ⟨s0, s1, s2, s3, s4⟩
         go_simp
         with_reducible rfl
        rotate_left
        ·
         simp only [fr_]
         rfl
        refine one_ (i := 27) (N := some 41) #[t_,t_,t_,t_,t_,t_,t_,t_,t_,t_,t_,t_,t_,t_,t_,t_,t_,t_,t_,t_,t_,t_,t_,t_,t_,t_,t_,t_,t_,f_,f_] rfl rfl (one_of HT_.out (by kernel_rfl)) (by decide) (fun K hK => ?_)
        refine goes_ Try.func117 (by kernel_rfl) rfl #[.slice (some ad1070) l0.length c0, .slice A1070_1 ((rd_T75 l0 x9_1).f1).length c1070_1] (by rfl) rfl rfl (by (try simp only [mp_]); first | done | rfl | (simp only [List.length_drop, List.length_take]; rfl)) ?_
        with_reducible refine (impl_GroupOf.calls k1 _ _ l0 _ _ ((rd_T75 l0 x9_1).f1) t1075 _ ?side1 ?side2 ?side3 ?side4 A37.out).mono ?_
        (case side1 => repeat (first | exact (Kd.C_below HR0.out HB.out) | (with_reducible first | refine ca_ ?_ _ | refine cn_ ?_ _ | refine cd_ ?_)))
        (case side2 => exact HC0.out)
        (case side3 => repeat (first | exact (Kd.C_below HR1070_1.out HB.out) | (with_reducible first | refine ca_ ?_ _ | refine cn_ ?_ _ | refine cd_ ?_)))
        (case side4 => exact HC1070_1.out)
        rintro e w44 ⟨rfl, hb⟩
        refine ⟨_, rfl, ?_⟩
        have n0_ := Aside0.mk (blk_below (g := gb1071) (o := .cells #[.int .i64 ((rd_T75 l0 x9_1).f0), .slice A1070_1 ((rd_T75 l0 x9_1).f1).length c1070_1, .int .i64 ((rd_T75 l0 x9_1).f2), .int .i64 ((rd_T75 l0 x9_1).f3), .slice A1070_4 ((rd_T75 l0 x9_1).f4).length c1070_4] 75 (0, 0)) (by (with_reducible repeat (first | refine kn_ ?_ _ | refine kd_ ?_ | refine ka_ ?_ _)); exact BK1071.out) hb)
        have n1_ := Aside0.mk (below_step (by repeat (first | (with_reducible first | exact HB.out | apply ba_ | apply bn_ | apply bd_ | refine below_set ?_ GE1071.out) | exact HB.out)) hb)
        clear BK1071
        clear HB
        have BK1071 := n0_
        have HB := n1_
        clear n0_ n1_
        (try clear hb)
        (try clear hb2)
        (try clear hk)
        (try clear hi)
        refine hK.out _ _ ⟨(blk_cell BK1071.out 0).trans rfl, (blk_cell BK1071.out 1).trans rfl, (blk_cell BK1071.out 2).trans rfl, (blk_cell BK1071.out 3).trans rfl, (blk_cell BK1071.out 4).trans rfl⟩ (fun hHeld => ?_)
        clear hK K
        refine norm_ (a' := ?_) ?_ ?_
        rotate_left
        ·
         show Act.put _ (some 41) _ = _
         simp only [fr_]
         rfl
        refine pu_ 29 43 ?_ (b_ 30 1) rfl rfl HT_.out ?_ ?_ ?_ ?_; rotate_left; intro w'; go_simp; with_reducible rfl; rotate_left; simp only [fr_]; rfl
        refine pu_ 30 44 ?_ (b_ 31 0) rfl rfl HT_.out ?_ ?_ ?_ ?_; rotate_left; intro w'; go_simp; with_reducible rfl; rotate_left; simp only [fr_]; rfl
        refine done_ (done_of HT_.out (by kernel_rfl)) ?_
        try go_wp2
        go_roundg k1
        case measure => have := HK1.out; omega
        case rel => exact ⟨(wrap64 (x9_1 + 1)), (by first | rfl | (simp; done) | (simp [*]; done)), H', ⟨by have := HK1.out; omega⟩, ⟨by repeat (first | (with_reducible first | exact HB.out | apply ba_ | apply bn_ | apply bd_ | refine below_set ?_ GE1071.out) | exact HB.out)⟩⟩
       rw [if_neg c38] at H
       have c38b0 : (t1075 == x9_1) = false := beq_eq_false_iff_ne.mpr c38
       have c38b1 : (t1075 != x9_1) = true := bne_iff_ne.mpr c38
       obtain rfl := Option.some.inj H
       have p1070 : 0 ≤ (x9_1 : Int) := of_decide_eq_true (by with_reducible assumption)
       have q1070 : x9_1 < (l0.length : Int) := of_decide_eq_true (by with_reducible assumption)
       obtain ⟨ad1070, A1070_1, c1070_1, A1070_4, c1070_4, e1070, hx1070_0, hx1070_1, hx1070_2, hx1070_3, hx1070_4, hl1070_1, hi1070_1, hl1070_4, hi1070_4⟩ := at_T75 HR0.out x9_1 p1070 q1070
       cases e1070
       replace hx1070_0 := cl_ HB.out hx1070_0
       replace hx1070_1 := cl_ HB.out hx1070_1
       replace hx1070_2 := cl_ HB.out hx1070_2
       replace hx1070_3 := cl_ HB.out hx1070_3
       replace hx1070_4 := cl_ HB.out hx1070_4
       have HR1070_1 := Aside0.mk hi1070_1
       have HC1070_1 := Aside0.mk hl1070_1
       clear hi1070_1 hl1070_1
       have HR1070_4 := Aside0.mk hi1070_4
       have HC1070_4 := Aside0.mk hl1070_4
       clear hi1070_4 hl1070_4
       replace p1070 := eq_true p1070
       replace q1070 := eq_true q1070
       try go_wp2_with (first | ((with_reducible refine gate_dst (N := 6) rfl ?_); refine box_event ?hg (N := 6) ?hd (cs := #[.int .i64 0, .slice none 0 0, .int .i64 0, .int .i64 0, .slice none 0 0]) (t := 75) ?hr ?_; (case hd => rfl); (case hg => rfl); (case hr => first | (go_simp; done) | (go_simp; rfl)); intro gb1071 hg w45 hbox hb; have n0_ := Aside0.mk (below_step (by repeat (first | (with_reducible first | exact HB.out | apply ba_ | apply bn_ | apply bd_) | exact HB.out)) hb); have BK1071 := Aside0.mk (hbox); have GW1071 := Aside0.mk ((by rw [hg]; exact (below_size (by repeat (first | (with_reducible first | exact HB.out | apply ba_ | apply bn_ | apply bd_) | exact HB.out))) : w.heap.size ≤ gb1071)); have GE1071 := GW1071; clear HB; have HB := n0_; clear n0_; clear hb hbox hg; have hcz46_0 : w45.cell? ⟨gb1071, 0, none⟩ = some (.int .i64 0) := (blk_cell BK1071.out 0).trans rfl; have hcz46_1 : w45.cell? ⟨gb1071, 1, none⟩ = some (.slice none 0 0) := (blk_cell BK1071.out 1).trans rfl; have hcz46_2 : w45.cell? ⟨gb1071, 2, none⟩ = some (.int .i64 0) := (blk_cell BK1071.out 2).trans rfl; have hcz46_3 : w45.cell? ⟨gb1071, 3, none⟩ = some (.int .i64 0) := (blk_cell BK1071.out 3).trans rfl; have hcz46_4 : w45.cell? ⟨gb1071, 4, none⟩ = some (.slice none 0 0) := (blk_cell BK1071.out 4).trans rfl; have hfz46_0 := blk_frozen BK1071.out 0; have hfz46_1 := blk_frozen BK1071.out 1; have hfz46_2 := blk_frozen BK1071.out 2; have hfz46_3 := blk_frozen BK1071.out 3; have hfz46_4 := blk_frozen BK1071.out 4))
       have n0_ : Aside0 ((((((w45.setCell ⟨gb1071, 0, none⟩ (.int .i64 ((rd_T75 l0 x9_1).f0))).setCell ⟨gb1071, 1, none⟩ (.slice A1070_1 ((rd_T75 l0 x9_1).f1).length c1070_1)).setCell ⟨gb1071, 2, none⟩ (.int .i64 ((rd_T75 l0 x9_1).f2))).setCell ⟨gb1071, 3, none⟩ (.int .i64 ((rd_T75 l0 x9_1).f3))).setCell ⟨gb1071, 4, none⟩ (.slice A1070_4 ((rd_T75 l0 x9_1).f4).length c1070_4)).heap[gb1071]? = some (.cells #[.int .i64 ((rd_T75 l0 x9_1).f0), .slice A1070_1 ((rd_T75 l0 x9_1).f1).length c1070_1, .int .i64 ((rd_T75 l0 x9_1).f2), .int .i64 ((rd_T75 l0 x9_1).f3), .slice A1070_4 ((rd_T75 l0 x9_1).f4).length c1070_4] 75 (0, 0))) := ⟨by (with_reducible repeat (first | refine kn_ ?_ _ | refine kd_ ?_ | refine ka_ ?_ _)); refine blk_put (cs := #[.int .i64 ((rd_T75 l0 x9_1).f0), .slice A1070_1 ((rd_T75 l0 x9_1).f1).length c1070_1, .int .i64 ((rd_T75 l0 x9_1).f2), .int .i64 ((rd_T75 l0 x9_1).f3), .slice none 0 0]) ?_ 4 _ rfl; (with_reducible repeat (first | refine kn_ ?_ _ | refine kd_ ?_ | refine ka_ ?_ _)); refine blk_put (cs := #[.int .i64 ((rd_T75 l0 x9_1).f0), .slice A1070_1 ((rd_T75 l0 x9_1).f1).length c1070_1, .int .i64 ((rd_T75 l0 x9_1).f2), .int .i64 0, .slice none 0 0]) ?_ 3 _ rfl; (with_reducible repeat (first | refine kn_ ?_ _ | refine kd_ ?_ | refine ka_ ?_ _)); refine blk_put (cs := #[.int .i64 ((rd_T75 l0 x9_1).f0), .slice A1070_1 ((rd_T75 l0 x9_1).f1).length c1070_1, .int .i64 0, .int .i64 0, .slice none 0 0]) ?_ 2 _ rfl; (with_reducible repeat (first | refine kn_ ?_ _ | refine kd_ ?_ | refine ka_ ?_ _)); refine blk_put (cs := #[.int .i64 ((rd_T75 l0 x9_1).f0), .slice none 0 0, .int .i64 0, .int .i64 0, .slice none 0 0]) ?_ 1 _ rfl; (with_reducible repeat (first | refine kn_ ?_ _ | refine kd_ ?_ | refine ka_ ?_ _)); refine blk_put (cs := #[.int .i64 0, .slice none 0 0, .int .i64 0, .int .i64 0, .slice none 0 0]) ?_ 0 _ rfl; (with_reducible repeat (first | refine kn_ ?_ _ | refine kd_ ?_ | refine ka_ ?_ _)); exact BK1071.out⟩
       have n1_ : Aside0 (Below w.heap.size w (((((w45.setCell ⟨gb1071, 0, none⟩ (.int .i64 ((rd_T75 l0 x9_1).f0))).setCell ⟨gb1071, 1, none⟩ (.slice A1070_1 ((rd_T75 l0 x9_1).f1).length c1070_1)).setCell ⟨gb1071, 2, none⟩ (.int .i64 ((rd_T75 l0 x9_1).f2))).setCell ⟨gb1071, 3, none⟩ (.int .i64 ((rd_T75 l0 x9_1).f3))).setCell ⟨gb1071, 4, none⟩ (.slice A1070_4 ((rd_T75 l0 x9_1).f4).length c1070_4))) := ⟨by repeat (first | (with_reducible first | exact HB.out | apply ba_ | apply bn_ | apply bd_ | refine below_set ?_ GE1071.out) | exact HB.out)⟩
       (try clear BK1071)
       (try clear HB)
       generalize (((((w45.setCell ⟨gb1071, 0, none⟩ (.int .i64 ((rd_T75 l0 x9_1).f0))).setCell ⟨gb1071, 1, none⟩ (.slice A1070_1 ((rd_T75 l0 x9_1).f1).length c1070_1)).setCell ⟨gb1071, 2, none⟩ (.int .i64 ((rd_T75 l0 x9_1).f2))).setCell ⟨gb1071, 3, none⟩ (.int .i64 ((rd_T75 l0 x9_1).f3))).setCell ⟨gb1071, 4, none⟩ (.slice A1070_4 ((rd_T75 l0 x9_1).f4).length c1070_4)) = w47 at n0_ n1_ ⊢
       have BK1071 := n0_
       have HB := n1_
       clear n0_ n1_
       have n0_ := Aside0.mk (blk_drew BK1071.out)
       have n1_ := Aside0.mk (bd_ HB.out)
       clear BK1071
       clear HB
       have BK1071 := n0_
       have HB := n1_
       clear n0_ n1_
       refine start_ (n := 31) (S := fun w' => w'.cell? ⟨gb1071, 0, none⟩ = some (.int .i64 ((rd_T75 l0 x9_1).f0)) ∧ w'.cell? ⟨gb1071, 1, none⟩ = some (.slice A1070_1 ((rd_T75 l0 x9_1).f1).length c1070_1) ∧ w'.cell? ⟨gb1071, 2, none⟩ = some (.int .i64 ((rd_T75 l0 x9_1).f2)) ∧ w'.cell? ⟨gb1071, 3, none⟩ = some (.int .i64 ((rd_T75 l0 x9_1).f3)) ∧ w'.cell? ⟨gb1071, 4, none⟩ = some (.slice A1070_4 ((rd_T75 l0 x9_1).f4).length c1070_4)) (ds := []) #[f_,f_,f_,f_,f_,f_,f_,f_,f_,f_,f_,f_,f_,f_,f_,f_,f_,f_,f_,f_,f_,f_,f_,f_,f_,f_,f_,f_,f_,f_,f_] (by kernel_rfl) rfl rfl ⟨(blk_cell BK1071.out 0).trans rfl, (blk_cell BK1071.out 1).trans rfl, (blk_cell BK1071.out 2).trans rfl, (blk_cell BK1071.out 3).trans rfl, (blk_cell BK1071.out 4).trans rfl⟩ (fun hHeld => ?_); refine with_tabW impl_GroupsOk.tab4 impl_GroupsOk.bits4 (fun HT_ HW_ => ?_)
       generalize w47.drew = w48 at BK1071 HB hHeld ⊢
       refine pu_ 0 14 ?_ (b_ 1 30) rfl rfl HT_.out ?_ ?_ ?_ ?_; rotate_left; intro w'; go_simp; with_reducible rfl; rotate_left; simp only [fr_]; rfl
       refine pu_ 1 15 ?_ (b_ 2 29) rfl rfl HT_.out ?_ ?_ ?_ ?_; rotate_left; intro w'; go_simp; with_reducible rfl; rotate_left; simp only [fr_]; rfl
       refine pu_ 2 16 ?_ (b_ 3 28) rfl rfl HT_.out ?_ ?_ ?_ ?_; rotate_left; intro w'; go_simp; with_reducible rfl; rotate_left; simp only [fr_]; rfl
       refine pu_ 4 18 ?_ #[t_,t_,t_,f_,t_,f_,f_,f_,f_,f_,f_,f_,f_,f_,f_,f_,f_,f_,f_,f_,f_,f_,f_,f_,f_,f_,f_,f_,f_,f_,f_] rfl rfl HT_.out ?_ ?_ ?_ ?_; rotate_left; intro w'; go_simp; with_reducible rfl; rotate_left; simp only [fr_]; rfl
       refine take_ (i := 3) (N := some 17) (v := ?_) (a' := ?_) #[t_,t_,t_,t_,t_,f_,f_,f_,f_,f_,f_,f_,f_,f_,f_,f_,f_,f_,f_,f_,f_,f_,f_,f_,f_,f_,f_,f_,f_,f_,f_] rfl rfl (take_ofW HT_.out HW_.out (by kernel_rfl)) (fun _ _ _ h => h) (Or.inl ⟨by rfl, ?_⟩) hHeld ?_ ?_
       rotate_left
       ·
        rintro w' ⟨s0, s1, s2, s3, s4⟩
        go_simp
        with_reducible rfl
       rotate_left
       ·
        simp only [fr_]
        rfl
       refine one_ (i := 5) (N := some 19) #[t_,t_,t_,t_,t_,t_,f_,f_,f_,f_,f_,f_,f_,f_,f_,f_,f_,f_,f_,f_,f_,f_,f_,f_,f_,f_,f_,f_,f_,f_,f_] rfl rfl (one_of HT_.out (by kernel_rfl)) (by decide) (fun K hK => ?_)
       refine goes_ Try.func53 (by kernel_rfl) rfl #[.agg #[.int .i64 ((rd_T75 l0 x9_1).f0), .slice A1070_1 ((rd_T75 l0 x9_1).f1).length c1070_1, .int .i64 ((rd_T75 l0 x9_1).f2), .int .i64 ((rd_T75 l0 x9_1).f3), .slice A1070_4 ((rd_T75 l0 x9_1).f4).length c1070_4], .slice A1 l1.length c1] (by rfl) rfl rfl (by (try simp only [mp_]); first | done | rfl | (simp only [List.length_drop, List.length_take]; rfl)) ?_
       with_reducible refine (impl_GroupOk.calls k1 ((rd_T75 l0 x9_1).f0) _ _ ((rd_T75 l0 x9_1).f1) ((rd_T75 l0 x9_1).f2) ((rd_T75 l0 x9_1).f3) _ _ ((rd_T75 l0 x9_1).f4) _ _ l1 true _ ?side1 ?side2 ?side3 ?side4 ?side5 ?side6 A11.out).mono ?_
       (case side1 => repeat (first | exact (Kd.C_below HR1070_1.out HB.out) | (with_reducible first | refine ca_ ?_ _ | refine cn_ ?_ _ | refine cd_ ?_)))
       (case side2 => exact HC1070_1.out)
       (case side3 => repeat (first | exact (Kd.C_below HR1070_4.out HB.out) | (with_reducible first | refine ca_ ?_ _ | refine cn_ ?_ _ | refine cd_ ?_)))
       (case side4 => exact HC1070_4.out)
       (case side5 => repeat (first | exact (Kd.C_below HR1.out HB.out) | (with_reducible first | refine ca_ ?_ _ | refine cn_ ?_ _ | refine cd_ ?_)))
       (case side6 => exact HC1.out)
       rintro e w49 ⟨rfl, hb⟩
       refine ⟨_, rfl, ?_⟩
       have n0_ := Aside0.mk (blk_below (g := gb1071) (o := .cells #[.int .i64 ((rd_T75 l0 x9_1).f0), .slice A1070_1 ((rd_T75 l0 x9_1).f1).length c1070_1, .int .i64 ((rd_T75 l0 x9_1).f2), .int .i64 ((rd_T75 l0 x9_1).f3), .slice A1070_4 ((rd_T75 l0 x9_1).f4).length c1070_4] 75 (0, 0)) (by (with_reducible repeat (first | refine kn_ ?_ _ | refine kd_ ?_ | refine ka_ ?_ _)); exact BK1071.out) hb)
       have n1_ := Aside0.mk (below_step (by repeat (first | (with_reducible first | exact HB.out | apply ba_ | apply bn_ | apply bd_ | refine below_set ?_ GE1071.out) | exact HB.out)) hb)
       clear BK1071
       clear HB
       have BK1071 := n0_
       have HB := n1_
       clear n0_ n1_
       (try clear hb)
       (try clear hb2)
       (try clear hk)
       (try clear hi)
       refine hK.out _ _ ⟨(blk_cell BK1071.out 0).trans rfl, (blk_cell BK1071.out 1).trans rfl, (blk_cell BK1071.out 2).trans rfl, (blk_cell BK1071.out 3).trans rfl, (blk_cell BK1071.out 4).trans rfl⟩ (fun hHeld => ?_)
       clear hK K
       refine norm_ (a' := ?_) ?_ ?_
       rotate_left
       ·
        show Act.put _ (some 19) _ = _
        simp only [fr_]
        rfl
       refine pu_ 6 20 ?_ (b_ 7 24) rfl rfl HT_.out ?_ ?_ ?_ ?_; rotate_left; intro w'; go_simp; with_reducible rfl; rotate_left; simp only [fr_]; rfl
       refine pu_ 7 21 ?_ (b_ 8 23) rfl rfl HT_.out ?_ ?_ ?_ ?_; rotate_left; intro w'; go_simp; with_reducible rfl; rotate_left; simp only [fr_]; rfl
       refine pu_ 8 22 ?_ (b_ 9 22) rfl rfl HT_.out ?_ ?_ ?_ ?_; rotate_left; intro w'; go_simp; with_reducible rfl; rotate_left; simp only [fr_]; rfl
       refine pu_ 9 23 ?_ (b_ 10 21) rfl rfl HT_.out ?_ ?_ ?_ ?_; rotate_left; intro w'; go_simp; with_reducible rfl; rotate_left; simp only [fr_]; rfl
       refine pu_ 10 24 ?_ (b_ 11 20) rfl rfl HT_.out ?_ ?_ ?_ ?_; rotate_left; intro w'; go_simp; with_reducible rfl; rotate_left; simp only [fr_]; rfl
       refine pu_ 11 25 ?_ (b_ 12 19) rfl rfl HT_.out ?_ ?_ ?_ ?_; rotate_left; intro w'; go_simp; with_reducible rfl; rotate_left; simp only [fr_]; rfl
       refine pv_ 12 26 ?_ (b_ 13 18) rfl rfl HT_.out ?_ ?_; rotate_left; simp only [fr_]; rfl
       refine pv_ 13 27 ?_ (b_ 14 17) rfl rfl HT_.out ?_ ?_; rotate_left; simp only [fr_]; rfl
       refine pv_ 14 28 ?_ (b_ 15 16) rfl rfl HT_.out ?_ ?_; rotate_left; simp only [fr_]; rfl
       refine pv_ 15 29 ?_ (b_ 16 15) rfl rfl HT_.out ?_ ?_; rotate_left; simp only [fr_]; rfl
       refine pv_ 16 30 ?_ (b_ 17 14) rfl rfl HT_.out ?_ ?_; rotate_left; simp only [fr_]; rfl
       refine pv_ 17 31 ?_ (b_ 18 13) rfl rfl HT_.out ?_ ?_; rotate_left; simp only [fr_]; rfl
       refine pv_ 18 32 ?_ (b_ 19 12) rfl rfl HT_.out ?_ ?_; rotate_left; simp only [fr_]; rfl
       refine pv_ 19 33 ?_ (b_ 20 11) rfl rfl HT_.out ?_ ?_; rotate_left; simp only [fr_]; rfl
       refine pv_ 20 34 ?_ (b_ 21 10) rfl rfl HT_.out ?_ ?_; rotate_left; simp only [fr_]; rfl
       refine pu_ 21 35 ?_ (b_ 22 9) rfl rfl HT_.out ?_ ?_ ?_ ?_; rotate_left; intro w'; go_simp; with_reducible rfl; rotate_left; simp only [fr_]; rfl
       refine pu_ 22 36 ?_ (b_ 23 8) rfl rfl HT_.out ?_ ?_ ?_ ?_; rotate_left; intro w'; go_simp; with_reducible rfl; rotate_left; simp only [fr_]; rfl
       refine pu_ 23 37 ?_ (b_ 24 7) rfl rfl HT_.out ?_ ?_ ?_ ?_; rotate_left; intro w'; go_simp; with_reducible rfl; rotate_left; simp only [fr_]; rfl
       refine pu_ 24 38 ?_ (b_ 25 6) rfl rfl HT_.out ?_ ?_ ?_ ?_; rotate_left; intro w'; go_simp; with_reducible rfl; rotate_left; simp only [fr_]; rfl
       refine pu_ 25 39 ?_ (b_ 26 5) rfl rfl HT_.out ?_ ?_ ?_ ?_; rotate_left; intro w'; go_simp; with_reducible rfl; rotate_left; simp only [fr_]; rfl
       refine pu_ 28 42 ?_ #[t_,t_,t_,t_,t_,t_,t_,t_,t_,t_,t_,t_,t_,t_,t_,t_,t_,t_,t_,t_,t_,t_,t_,t_,t_,t_,f_,f_,t_,f_,f_] rfl rfl HT_.out ?_ ?_ ?_ ?_; rotate_left; intro w'; go_simp; with_reducible rfl; rotate_left; simp only [fr_]; rfl
       refine take_ (i := 26) (N := some 40) (v := ?_) (a' := ?_) #[t_,t_,t_,t_,t_,t_,t_,t_,t_,t_,t_,t_,t_,t_,t_,t_,t_,t_,t_,t_,t_,t_,t_,t_,t_,t_,t_,f_,t_,f_,f_] rfl rfl (take_ofW HT_.out HW_.out (by kernel_rfl)) (fun _ _ _ h => h) (Or.inl ⟨by rfl, ?_⟩) hHeld ?_ ?_
       rotate_left
       ·
        rintro w' ⟨s0, s1, s2, s3, s4⟩
        go_simp
        with_reducible rfl
       rotate_left
       ·
        simp only [fr_]
        rfl
       refine one_ (i := 27) (N := some 41) #[t_,t_,t_,t_,t_,t_,t_,t_,t_,t_,t_,t_,t_,t_,t_,t_,t_,t_,t_,t_,t_,t_,t_,t_,t_,t_,t_,t_,t_,f_,f_] rfl rfl (one_of HT_.out (by kernel_rfl)) (by decide) (fun K hK => ?_)
       refine goes_ Try.func117 (by kernel_rfl) rfl #[.slice (some ad1070) l0.length c0, .slice A1070_1 ((rd_T75 l0 x9_1).f1).length c1070_1] (by rfl) rfl rfl (by (try simp only [mp_]); first | done | rfl | (simp only [List.length_drop, List.length_take]; rfl)) ?_
       with_reducible refine (impl_GroupOf.calls k1 _ _ l0 _ _ ((rd_T75 l0 x9_1).f1) t1075 _ ?side1 ?side2 ?side3 ?side4 A37.out).mono ?_
       (case side1 => repeat (first | exact (Kd.C_below HR0.out HB.out) | (with_reducible first | refine ca_ ?_ _ | refine cn_ ?_ _ | refine cd_ ?_)))
       (case side2 => exact HC0.out)
       (case side3 => repeat (first | exact (Kd.C_below HR1070_1.out HB.out) | (with_reducible first | refine ca_ ?_ _ | refine cn_ ?_ _ | refine cd_ ?_)))
       (case side4 => exact HC1070_1.out)
       rintro e w50 ⟨rfl, hb⟩
       refine ⟨_, rfl, ?_⟩
       have n0_ := Aside0.mk (blk_below (g := gb1071) (o := .cells #[.int .i64 ((rd_T75 l0 x9_1).f0), .slice A1070_1 ((rd_T75 l0 x9_1).f1).length c1070_1, .int .i64 ((rd_T75 l0 x9_1).f2), .int .i64 ((rd_T75 l0 x9_1).f3), .slice A1070_4 ((rd_T75 l0 x9_1).f4).length c1070_4] 75 (0, 0)) (by (with_reducible repeat (first | refine kn_ ?_ _ | refine kd_ ?_ | refine ka_ ?_ _)); exact BK1071.out) hb)
       have n1_ := Aside0.mk (below_step (by repeat (first | (with_reducible first | exact HB.out | apply ba_ | apply bn_ | apply bd_ | refine below_set ?_ GE1071.out) | exact HB.out)) hb)
       clear BK1071
       clear HB
       have BK1071 := n0_
       have HB := n1_
       clear n0_ n1_
       (try clear hb)
       (try clear hb2)
       (try clear hk)
       (try clear hi)
       refine hK.out _ _ ⟨(blk_cell BK1071.out 0).trans rfl, (blk_cell BK1071.out 1).trans rfl, (blk_cell BK1071.out 2).trans rfl, (blk_cell BK1071.out 3).trans rfl, (blk_cell BK1071.out 4).trans rfl⟩ (fun hHeld => ?_)
       clear hK K
       refine norm_ (a' := ?_) ?_ ?_
       rotate_left
       ·
        show Act.put _ (some 41) _ = _
        simp only [fr_]
        rfl
       refine pu_ 29 43 ?_ (b_ 30 1) rfl rfl HT_.out ?_ ?_ ?_ ?_; rotate_left; intro w'; go_simp; with_reducible rfl; rotate_left; simp only [fr_]; rfl
       refine pu_ 30 44 ?_ (b_ 31 0) rfl rfl HT_.out ?_ ?_ ?_ ?_; rotate_left; intro w'; go_simp; with_reducible rfl; rotate_left; simp only [fr_]; rfl
       refine done_ (done_of HT_.out (by kernel_rfl)) ?_
       try go_wp2
       go_ret
       exact ⟨by first | rfl | (simp [errW_none, errW_some] <;> rfl) | (simp [*, errW_none, errW_some] <;> rfl), by repeat (first | (with_reducible first | exact HB.out | apply ba_ | apply bn_ | apply bd_ | refine below_set ?_ GE1071.out) | exact HB.out)⟩
      replace c12 := Bool.eq_false_iff.mpr c12
      subst c12
      rw [if_neg (show ¬ (false = true) by decide)] at H
      obtain rfl := Option.some.inj H
      have p1070 : 0 ≤ (x9_1 : Int) := of_decide_eq_true (by with_reducible assumption)
      have q1070 : x9_1 < (l0.length : Int) := of_decide_eq_true (by with_reducible assumption)
      obtain ⟨ad1070, A1070_1, c1070_1, A1070_4, c1070_4, e1070, hx1070_0, hx1070_1, hx1070_2, hx1070_3, hx1070_4, hl1070_1, hi1070_1, hl1070_4, hi1070_4⟩ := at_T75 HR0.out x9_1 p1070 q1070
      cases e1070
      replace hx1070_0 := cl_ HB.out hx1070_0
      replace hx1070_1 := cl_ HB.out hx1070_1
      replace hx1070_2 := cl_ HB.out hx1070_2
      replace hx1070_3 := cl_ HB.out hx1070_3
      replace hx1070_4 := cl_ HB.out hx1070_4
      have HR1070_1 := Aside0.mk hi1070_1
      have HC1070_1 := Aside0.mk hl1070_1
      clear hi1070_1 hl1070_1
      have HR1070_4 := Aside0.mk hi1070_4
      have HC1070_4 := Aside0.mk hl1070_4
      clear hi1070_4 hl1070_4
      replace p1070 := eq_true p1070
      replace q1070 := eq_true q1070
      try go_wp2_with (first | ((with_reducible refine gate_dst (N := 6) rfl ?_); refine box_event ?hg (N := 6) ?hd (cs := #[.int .i64 0, .slice none 0 0, .int .i64 0, .int .i64 0, .slice none 0 0]) (t := 75) ?hr ?_; (case hd => rfl); (case hg => rfl); (case hr => first | (go_simp; done) | (go_simp; rfl)); intro gb1071 hg w51 hbox hb; have n0_ := Aside0.mk (below_step (by repeat (first | (with_reducible first | exact HB.out | apply ba_ | apply bn_ | apply bd_) | exact HB.out)) hb); have BK1071 := Aside0.mk (hbox); have GW1071 := Aside0.mk ((by rw [hg]; exact (below_size (by repeat (first | (with_reducible first | exact HB.out | apply ba_ | apply bn_ | apply bd_) | exact HB.out))) : w.heap.size ≤ gb1071)); have GE1071 := GW1071; clear HB; have HB := n0_; clear n0_; clear hb hbox hg; have hcz52_0 : w51.cell? ⟨gb1071, 0, none⟩ = some (.int .i64 0) := (blk_cell BK1071.out 0).trans rfl; have hcz52_1 : w51.cell? ⟨gb1071, 1, none⟩ = some (.slice none 0 0) := (blk_cell BK1071.out 1).trans rfl; have hcz52_2 : w51.cell? ⟨gb1071, 2, none⟩ = some (.int .i64 0) := (blk_cell BK1071.out 2).trans rfl; have hcz52_3 : w51.cell? ⟨gb1071, 3, none⟩ = some (.int .i64 0) := (blk_cell BK1071.out 3).trans rfl; have hcz52_4 : w51.cell? ⟨gb1071, 4, none⟩ = some (.slice none 0 0) := (blk_cell BK1071.out 4).trans rfl; have hfz52_0 := blk_frozen BK1071.out 0; have hfz52_1 := blk_frozen BK1071.out 1; have hfz52_2 := blk_frozen BK1071.out 2; have hfz52_3 := blk_frozen BK1071.out 3; have hfz52_4 := blk_frozen BK1071.out 4))
      have n0_ : Aside0 ((((((w51.setCell ⟨gb1071, 0, none⟩ (.int .i64 ((rd_T75 l0 x9_1).f0))).setCell ⟨gb1071, 1, none⟩ (.slice A1070_1 ((rd_T75 l0 x9_1).f1).length c1070_1)).setCell ⟨gb1071, 2, none⟩ (.int .i64 ((rd_T75 l0 x9_1).f2))).setCell ⟨gb1071, 3, none⟩ (.int .i64 ((rd_T75 l0 x9_1).f3))).setCell ⟨gb1071, 4, none⟩ (.slice A1070_4 ((rd_T75 l0 x9_1).f4).length c1070_4)).heap[gb1071]? = some (.cells #[.int .i64 ((rd_T75 l0 x9_1).f0), .slice A1070_1 ((rd_T75 l0 x9_1).f1).length c1070_1, .int .i64 ((rd_T75 l0 x9_1).f2), .int .i64 ((rd_T75 l0 x9_1).f3), .slice A1070_4 ((rd_T75 l0 x9_1).f4).length c1070_4] 75 (0, 0))) := ⟨by (with_reducible repeat (first | refine kn_ ?_ _ | refine kd_ ?_ | refine ka_ ?_ _)); refine blk_put (cs := #[.int .i64 ((rd_T75 l0 x9_1).f0), .slice A1070_1 ((rd_T75 l0 x9_1).f1).length c1070_1, .int .i64 ((rd_T75 l0 x9_1).f2), .int .i64 ((rd_T75 l0 x9_1).f3), .slice none 0 0]) ?_ 4 _ rfl; (with_reducible repeat (first | refine kn_ ?_ _ | refine kd_ ?_ | refine ka_ ?_ _)); refine blk_put (cs := #[.int .i64 ((rd_T75 l0 x9_1).f0), .slice A1070_1 ((rd_T75 l0 x9_1).f1).length c1070_1, .int .i64 ((rd_T75 l0 x9_1).f2), .int .i64 0, .slice none 0 0]) ?_ 3 _ rfl; (with_reducible repeat (first | refine kn_ ?_ _ | refine kd_ ?_ | refine ka_ ?_ _)); refine blk_put (cs := #[.int .i64 ((rd_T75 l0 x9_1).f0), .slice A1070_1 ((rd_T75 l0 x9_1).f1).length c1070_1, .int .i64 0, .int .i64 0, .slice none 0 0]) ?_ 2 _ rfl; (with_reducible repeat (first | refine kn_ ?_ _ | refine kd_ ?_ | refine ka_ ?_ _)); refine blk_put (cs := #[.int .i64 ((rd_T75 l0 x9_1).f0), .slice none 0 0, .int .i64 0, .int .i64 0, .slice none 0 0]) ?_ 1 _ rfl; (with_reducible repeat (first | refine kn_ ?_ _ | refine kd_ ?_ | refine ka_ ?_ _)); refine blk_put (cs := #[.int .i64 0, .slice none 0 0, .int .i64 0, .int .i64 0, .slice none 0 0]) ?_ 0 _ rfl; (with_reducible repeat (first | refine kn_ ?_ _ | refine kd_ ?_ | refine ka_ ?_ _)); exact BK1071.out⟩
      have n1_ : Aside0 (Below w.heap.size w (((((w51.setCell ⟨gb1071, 0, none⟩ (.int .i64 ((rd_T75 l0 x9_1).f0))).setCell ⟨gb1071, 1, none⟩ (.slice A1070_1 ((rd_T75 l0 x9_1).f1).length c1070_1)).setCell ⟨gb1071, 2, none⟩ (.int .i64 ((rd_T75 l0 x9_1).f2))).setCell ⟨gb1071, 3, none⟩ (.int .i64 ((rd_T75 l0 x9_1).f3))).setCell ⟨gb1071, 4, none⟩ (.slice A1070_4 ((rd_T75 l0 x9_1).f4).length c1070_4))) := ⟨by repeat (first | (with_reducible first | exact HB.out | apply ba_ | apply bn_ | apply bd_ | refine below_set ?_ GE1071.out) | exact HB.out)⟩
      (try clear BK1071)
      (try clear HB)
      generalize (((((w51.setCell ⟨gb1071, 0, none⟩ (.int .i64 ((rd_T75 l0 x9_1).f0))).setCell ⟨gb1071, 1, none⟩ (.slice A1070_1 ((rd_T75 l0 x9_1).f1).length c1070_1)).setCell ⟨gb1071, 2, none⟩ (.int .i64 ((rd_T75 l0 x9_1).f2))).setCell ⟨gb1071, 3, none⟩ (.int .i64 ((rd_T75 l0 x9_1).f3))).setCell ⟨gb1071, 4, none⟩ (.slice A1070_4 ((rd_T75 l0 x9_1).f4).length c1070_4)) = w53 at n0_ n1_ ⊢
      have BK1071 := n0_
      have HB := n1_
      clear n0_ n1_
      have n0_ := Aside0.mk (blk_drew BK1071.out)
      have n1_ := Aside0.mk (bd_ HB.out)
      clear BK1071
      clear HB
      have BK1071 := n0_
      have HB := n1_
      clear n0_ n1_
      refine start_ (n := 31) (S := fun w' => w'.cell? ⟨gb1071, 0, none⟩ = some (.int .i64 ((rd_T75 l0 x9_1).f0)) ∧ w'.cell? ⟨gb1071, 1, none⟩ = some (.slice A1070_1 ((rd_T75 l0 x9_1).f1).length c1070_1) ∧ w'.cell? ⟨gb1071, 2, none⟩ = some (.int .i64 ((rd_T75 l0 x9_1).f2)) ∧ w'.cell? ⟨gb1071, 3, none⟩ = some (.int .i64 ((rd_T75 l0 x9_1).f3)) ∧ w'.cell? ⟨gb1071, 4, none⟩ = some (.slice A1070_4 ((rd_T75 l0 x9_1).f4).length c1070_4)) (ds := []) #[f_,f_,f_,f_,f_,f_,f_,f_,f_,f_,f_,f_,f_,f_,f_,f_,f_,f_,f_,f_,f_,f_,f_,f_,f_,f_,f_,f_,f_,f_,f_] (by kernel_rfl) rfl rfl ⟨(blk_cell BK1071.out 0).trans rfl, (blk_cell BK1071.out 1).trans rfl, (blk_cell BK1071.out 2).trans rfl, (blk_cell BK1071.out 3).trans rfl, (blk_cell BK1071.out 4).trans rfl⟩ (fun hHeld => ?_); refine with_tabW impl_GroupsOk.tab4 impl_GroupsOk.bits4 (fun HT_ HW_ => ?_)
      generalize w53.drew = w54 at BK1071 HB hHeld ⊢
      refine pu_ 0 14 ?_ (b_ 1 30) rfl rfl HT_.out ?_ ?_ ?_ ?_; rotate_left; intro w'; go_simp; with_reducible rfl; rotate_left; simp only [fr_]; rfl
      refine pu_ 1 15 ?_ (b_ 2 29) rfl rfl HT_.out ?_ ?_ ?_ ?_; rotate_left; intro w'; go_simp; with_reducible rfl; rotate_left; simp only [fr_]; rfl
      refine pu_ 2 16 ?_ (b_ 3 28) rfl rfl HT_.out ?_ ?_ ?_ ?_; rotate_left; intro w'; go_simp; with_reducible rfl; rotate_left; simp only [fr_]; rfl
      refine pu_ 4 18 ?_ #[t_,t_,t_,f_,t_,f_,f_,f_,f_,f_,f_,f_,f_,f_,f_,f_,f_,f_,f_,f_,f_,f_,f_,f_,f_,f_,f_,f_,f_,f_,f_] rfl rfl HT_.out ?_ ?_ ?_ ?_; rotate_left; intro w'; go_simp; with_reducible rfl; rotate_left; simp only [fr_]; rfl
      refine take_ (i := 3) (N := some 17) (v := ?_) (a' := ?_) #[t_,t_,t_,t_,t_,f_,f_,f_,f_,f_,f_,f_,f_,f_,f_,f_,f_,f_,f_,f_,f_,f_,f_,f_,f_,f_,f_,f_,f_,f_,f_] rfl rfl (take_ofW HT_.out HW_.out (by kernel_rfl)) (fun _ _ _ h => h) (Or.inl ⟨by rfl, ?_⟩) hHeld ?_ ?_
      rotate_left
      ·
       rintro w' ⟨s0, s1, s2, s3, s4⟩
       go_simp
       with_reducible rfl
      rotate_left
      ·
       simp only [fr_]
       rfl
      refine one_ (i := 5) (N := some 19) #[t_,t_,t_,t_,t_,t_,f_,f_,f_,f_,f_,f_,f_,f_,f_,f_,f_,f_,f_,f_,f_,f_,f_,f_,f_,f_,f_,f_,f_,f_,f_] rfl rfl (one_of HT_.out (by kernel_rfl)) (by decide) (fun K hK => ?_)
      refine goes_ Try.func53 (by kernel_rfl) rfl #[.agg #[.int .i64 ((rd_T75 l0 x9_1).f0), .slice A1070_1 ((rd_T75 l0 x9_1).f1).length c1070_1, .int .i64 ((rd_T75 l0 x9_1).f2), .int .i64 ((rd_T75 l0 x9_1).f3), .slice A1070_4 ((rd_T75 l0 x9_1).f4).length c1070_4], .slice A1 l1.length c1] (by rfl) rfl rfl (by (try simp only [mp_]); first | done | rfl | (simp only [List.length_drop, List.length_take]; rfl)) ?_
      with_reducible refine (impl_GroupOk.calls k1 ((rd_T75 l0 x9_1).f0) _ _ ((rd_T75 l0 x9_1).f1) ((rd_T75 l0 x9_1).f2) ((rd_T75 l0 x9_1).f3) _ _ ((rd_T75 l0 x9_1).f4) _ _ l1 false _ ?side1 ?side2 ?side3 ?side4 ?side5 ?side6 A11.out).mono ?_
      (case side1 => repeat (first | exact (Kd.C_below HR1070_1.out HB.out) | (with_reducible first | refine ca_ ?_ _ | refine cn_ ?_ _ | refine cd_ ?_)))
      (case side2 => exact HC1070_1.out)
      (case side3 => repeat (first | exact (Kd.C_below HR1070_4.out HB.out) | (with_reducible first | refine ca_ ?_ _ | refine cn_ ?_ _ | refine cd_ ?_)))
      (case side4 => exact HC1070_4.out)
      (case side5 => repeat (first | exact (Kd.C_below HR1.out HB.out) | (with_reducible first | refine ca_ ?_ _ | refine cn_ ?_ _ | refine cd_ ?_)))
      (case side6 => exact HC1.out)
      rintro e w55 ⟨rfl, hb⟩
      refine ⟨_, rfl, ?_⟩
      have n0_ := Aside0.mk (blk_below (g := gb1071) (o := .cells #[.int .i64 ((rd_T75 l0 x9_1).f0), .slice A1070_1 ((rd_T75 l0 x9_1).f1).length c1070_1, .int .i64 ((rd_T75 l0 x9_1).f2), .int .i64 ((rd_T75 l0 x9_1).f3), .slice A1070_4 ((rd_T75 l0 x9_1).f4).length c1070_4] 75 (0, 0)) (by (with_reducible repeat (first | refine kn_ ?_ _ | refine kd_ ?_ | refine ka_ ?_ _)); exact BK1071.out) hb)
      have n1_ := Aside0.mk (below_step (by repeat (first | (with_reducible first | exact HB.out | apply ba_ | apply bn_ | apply bd_ | refine below_set ?_ GE1071.out) | exact HB.out)) hb)
      clear BK1071
      clear HB
      have BK1071 := n0_
      have HB := n1_
      clear n0_ n1_
      (try clear hb)
      (try clear hb2)
      (try clear hk)
      (try clear hi)
      refine hK.out _ _ ⟨(blk_cell BK1071.out 0).trans rfl, (blk_cell BK1071.out 1).trans rfl, (blk_cell BK1071.out 2).trans rfl, (blk_cell BK1071.out 3).trans rfl, (blk_cell BK1071.out 4).trans rfl⟩ (fun hHeld => ?_)
      clear hK K
      refine norm_ (a' := ?_) ?_ ?_
      rotate_left
      ·
       show Act.put _ (some 19) _ = _
       simp only [fr_]
       rfl
      refine pu_ 6 20 ?_ (b_ 7 24) rfl rfl HT_.out ?_ ?_ ?_ ?_; rotate_left; intro w'; go_simp; with_reducible rfl; rotate_left; simp only [fr_]; rfl
      refine pu_ 7 21 ?_ (b_ 8 23) rfl rfl HT_.out ?_ ?_ ?_ ?_; rotate_left; intro w'; go_simp; with_reducible rfl; rotate_left; simp only [fr_]; rfl
      refine pu_ 8 22 ?_ (b_ 9 22) rfl rfl HT_.out ?_ ?_ ?_ ?_; rotate_left; intro w'; go_simp; with_reducible rfl; rotate_left; simp only [fr_]; rfl
      refine pv_ 9 23 ?_ (b_ 10 21) rfl rfl HT_.out ?_ ?_; rotate_left; simp only [fr_]; rfl
      refine pv_ 10 24 ?_ (b_ 11 20) rfl rfl HT_.out ?_ ?_; rotate_left; simp only [fr_]; rfl
      refine pv_ 11 25 ?_ (b_ 12 19) rfl rfl HT_.out ?_ ?_; rotate_left; simp only [fr_]; rfl
      refine pv_ 12 26 ?_ (b_ 13 18) rfl rfl HT_.out ?_ ?_; rotate_left; simp only [fr_]; rfl
      refine pv_ 13 27 ?_ (b_ 14 17) rfl rfl HT_.out ?_ ?_; rotate_left; simp only [fr_]; rfl
      refine pv_ 14 28 ?_ (b_ 15 16) rfl rfl HT_.out ?_ ?_; rotate_left; simp only [fr_]; rfl
      refine pv_ 15 29 ?_ (b_ 16 15) rfl rfl HT_.out ?_ ?_; rotate_left; simp only [fr_]; rfl
      refine pv_ 16 30 ?_ (b_ 17 14) rfl rfl HT_.out ?_ ?_; rotate_left; simp only [fr_]; rfl
      refine pv_ 17 31 ?_ (b_ 18 13) rfl rfl HT_.out ?_ ?_; rotate_left; simp only [fr_]; rfl
      refine pv_ 18 32 ?_ (b_ 19 12) rfl rfl HT_.out ?_ ?_; rotate_left; simp only [fr_]; rfl
      refine pv_ 19 33 ?_ (b_ 20 11) rfl rfl HT_.out ?_ ?_; rotate_left; simp only [fr_]; rfl
      refine pv_ 20 34 ?_ (b_ 21 10) rfl rfl HT_.out ?_ ?_; rotate_left; simp only [fr_]; rfl
      refine pv_ 21 35 ?_ (b_ 22 9) rfl rfl HT_.out ?_ ?_; rotate_left; simp only [fr_]; rfl
      refine pu_ 22 36 ?_ (b_ 23 8) rfl rfl HT_.out ?_ ?_ ?_ ?_; rotate_left; intro w'; go_simp; with_reducible rfl; rotate_left; simp only [fr_]; rfl
      refine pu_ 23 37 ?_ (b_ 24 7) rfl rfl HT_.out ?_ ?_ ?_ ?_; rotate_left; intro w'; go_simp; with_reducible rfl; rotate_left; simp only [fr_]; rfl
      refine pv_ 24 38 ?_ (b_ 25 6) rfl rfl HT_.out ?_ ?_; rotate_left; simp only [fr_]; rfl
      refine pv_ 25 39 ?_ (b_ 26 5) rfl rfl HT_.out ?_ ?_; rotate_left; simp only [fr_]; rfl
      refine pv_ 26 40 ?_ (b_ 27 4) rfl rfl HT_.out ?_ ?_; rotate_left; simp only [fr_]; rfl
      refine pv_ 27 41 ?_ (b_ 28 3) rfl rfl HT_.out ?_ ?_; rotate_left; simp only [fr_]; rfl
      refine pv_ 28 42 ?_ (b_ 29 2) rfl rfl HT_.out ?_ ?_; rotate_left; simp only [fr_]; rfl
      refine pv_ 29 43 ?_ (b_ 30 1) rfl rfl HT_.out ?_ ?_; rotate_left; simp only [fr_]; rfl
      refine pu_ 30 44 ?_ (b_ 31 0) rfl rfl HT_.out ?_ ?_ ?_ ?_; rotate_left; intro w'; go_simp; with_reducible rfl; rotate_left; simp only [fr_]; rfl
      refine done_ (done_of HT_.out (by kernel_rfl)) ?_
      try go_wp2
      go_ret
      exact ⟨by first | rfl | (simp [errW_none, errW_some] <;> rfl) | (simp [*, errW_none, errW_some] <;> rfl), by repeat (first | (with_reducible first | exact HB.out | apply ba_ | apply bn_ | apply bd_ | refine below_set ?_ GE1071.out) | exact HB.out)⟩
     rw [if_neg c5] at H
     exact absurd H (by simp)
    rw [if_neg c4] at H
    exact absurd H (by simp)
   rw [if_neg c3] at H
   have c3b0 : decide (x9_1 < (l0.length : Int)) = false := decide_eq_false c3
   clear c3
   obtain rfl := Option.some.inj H
   go_wp2
   go_ret
   exact ⟨by first | rfl | (simp [errW_none, errW_some] <;> rfl) | (simp [*, errW_none, errW_some] <;> rfl), by repeat (first | (with_reducible first | exact HB.out | apply ba_ | apply bn_ | apply bd_) | exact HB.out)⟩
end Go.Proofs.Ytfholjcelnkleaa.Print
end
