-- Written by printx.py, a program of this session (wip/gen), over the kit's print.py.
import Derived.Test.YtmmaondenopnpaaF0
import Derived.Test.YtmmaondenopnpaaF102
namespace Go.Proofs.Ytmmaondenopnpaa.Print
open Go.RowKit Go.Proofs.YtmmaondenopnpaaV.PrintWords Go.Proofs.YtmmaondenopnpaaV.PrintLast Go.Proofs.YtmmaondenopnpaaV.PrintMore
attribute [local go_sem] max2_int min2_int max_two min_two max_three min_three max_four min_four   -- for this text's walks alone
set_option linter.unusedVariables false
set_option linter.unusedSimpArgs false

/-! ### impl_MemberOf: function 63 -/
def impl_MemberOf.l0 : Nat → List (S116) → List (S68) → Int → Int → Option (Int)
 | 0, _, _, _, _ => none
 | k + 1, x1, x7, x8, x9 => if x9 < x8 then (if 0 ≤ x9 then (if x9 < (x7.length : Int) then ((impl_labelsAt.f k ((rd_T68 x7 x9).f4) x1).bind fun t813 => (if t813 ≥ 0 then (some ((rd_T68 x7 x9).f0)) else (impl_MemberOf.l0 k x1 x7 x8 (wrap64 (x9 + 1))))) else (none)) else (none)) else (some (-1))
def impl_MemberOf.f (k : Nat) (l0 : List (S68)) (l1 : List (S116)) : Option (Int) := impl_MemberOf.l0 k l1 l0 (l0.length : Int) 0
theorem impl_MemberOf.mono_l : ∀ k, (∀ y0 y1 y2 y3, LeO (impl_MemberOf.l0 k y0 y1 y2 y3) (impl_MemberOf.l0 (k + 1) y0 y1 y2 y3))
 | 0 => fun _ _ _ _ r h => by simp [impl_MemberOf.l0] at h
 | k + 1 => by
  have ih0 := impl_MemberOf.mono_l k
  ·
   intro y0 y1 y2 y3
   unfold impl_MemberOf.l0
   repeat' first
   | (with_reducible exact ih0 _ _ _ _)
   | (with_reducible exact impl_labelsAt.mono _ _ _)
   | (with_reducible exact LeO.refl _)
   | (with_reducible exact LeO.none _)
   | (with_reducible refine LeO.ite ?_ ?_)
   | (with_reducible refine LeO.bind ?_ (fun _ => ?_))
   | exact ih0 _ _ _ _
   | exact impl_labelsAt.mono _ _ _
   | exact LeO.none _
   | refine LeO.ite ?_ ?_
   | refine LeO.bind ?_ (fun _ => ?_)
theorem impl_MemberOf.mono : ∀ a0 a1 k, LeO (impl_MemberOf.f k a0 a1) (impl_MemberOf.f (k + 1) a0 a1) := by
 intro a0 a1 k
 have ih0 := impl_MemberOf.mono_l k
 unfold impl_MemberOf.f
 repeat' first
   | (with_reducible exact ih0 _ _ _ _)
   | (with_reducible exact impl_labelsAt.mono _ _ _)
   | (with_reducible exact LeO.refl _)
   | (with_reducible exact LeO.none _)
   | (with_reducible refine LeO.ite ?_ ?_)
   | (with_reducible refine LeO.bind ?_ (fun _ => ?_))
   | exact ih0 _ _ _ _
   | exact impl_labelsAt.mono _ _ _
   | exact LeO.none _
   | refine LeO.ite ?_ ?_
   | refine LeO.bind ?_ (fun _ => ?_)
set_option maxHeartbeats 8000000 in
set_option maxRecDepth 100000 in
theorem impl_MemberOf.calls (k : Nat) (A0 : Option Addr) (c0 : Nat) (l0 : List (S68)) (A1 : Option Addr) (c1 : Nat) (l1 : List (S116)) (r : Int) (w : World) (hr0 : Kd.C k68 w A0 l0.length l0) (hc0 : l0.length ≤ c0) (hr1 : Kd.C k116 w A1 l1.length l1) (hc1 : l1.length ≤ c1) (h : impl_MemberOf.f k l0 l1 = some r) :
  Calls Try.prog 63 #[.slice A0 l0.length c0, .slice A1 l1.length c1] w fun e w' => e = .returned (.int .i64 r) ∧ Below w.heap.size w w' := by
 have hu68 := Try.underlying68
 have HR0 := Aside0.mk hr0
 have HC0 := Aside0.mk hc0
 clear hr0 hc0
 have HR1 := Aside0.mk hr1
 have HC1 := Aside0.mk hc1
 clear hr1 hc1
 have HB := Aside0.mk (Below.refl w.heap.size w)
 have H : (impl_MemberOf.l0 k l1 l0 (l0.length : Int) 0) = some r := h
 clear h
 have H' := Aside0.mk H
 clear H
 go_enter Try.func63, Try.ntmps63
 go_wp2
 go_loopg [9] k (fun kq v9 w' => ∃ (x9_1 : Int), v9 = .int .i64 x9_1 ∧ Aside0 (impl_MemberOf.l0 kq l1 l0 (l0.length : Int) x9_1 = some r) ∧ Aside0 (kq ≤ k) ∧ Aside0 (Below w.heap.size w w'))
 case atStart => exact ⟨(0), (by first | rfl | (simp; done) | (simp [*]; done)), H', ⟨Nat.le_refl _⟩, ⟨by repeat (first | (with_reducible first | exact HB.out | apply below_alloc | apply pw_below_drewN | apply below_drew1) | exact HB.out)⟩⟩
 case round =>
  clear H'
  try clear c1
  try clear p2
  obtain ⟨x9_1, rfl, HA, HK1, HB⟩ := hrel
  cases gk with
  | zero => exact absurd HA.out (by simp [impl_MemberOf.l0])
  | succ k1 =>
   have H := HA.out
   clear HA
   simp only [impl_MemberOf.l0] at H
   by_cases c3 : x9_1 < (l0.length : Int)
   ·
    rw [if_pos c3] at H
    have c3b0 : decide (x9_1 < (l0.length : Int)) = true := decide_eq_true c3
    clear c3
    by_cases c4 : 0 ≤ x9_1
    ·
     rw [if_pos c4] at H
     have c4b0 : decide (0 ≤ x9_1) = true := decide_eq_true c4
     clear c4
     by_cases c5 : x9_1 < (l0.length : Int)
     ·
      rw [if_pos c5] at H
      have c5b0 : decide (x9_1 < (l0.length : Int)) = true := decide_eq_true c5
      clear c5
      replace H := Option.bind_eq_some_iff.mp H
      obtain ⟨t813, A60, H⟩ := H
      replace H : (if t813 ≥ 0 then (some ((rd_T68 l0 x9_1).f0)) else (impl_MemberOf.l0 k1 l1 l0 (l0.length : Int) (wrap64 (x9_1 + 1)))) = some r := H
      have A6 := Aside0.mk A60
      clear A60
      by_cases c7 : t813 ≥ 0
      ·
       rw [if_pos c7] at H
       have c7b0 : decide (0 ≤ t813) = true := decide_eq_true c7
       clear c7
       obtain rfl := Option.some.inj H
       have p811 : 0 ≤ (x9_1 : Int) := of_decide_eq_true (by first | (with_reducible assumption) | assumption)
       have q811 : x9_1 < (l0.length : Int) := of_decide_eq_true (by first | (with_reducible assumption) | assumption)
       obtain ⟨ad811, A811_1, c811_1, A811_4, c811_4, e811, hx811_0, hx811_1, hx811_2, hx811_3, hx811_4, hl811_1, hi811_1, hl811_4, hi811_4⟩ := at_T68 HR0.out x9_1 p811 q811
       cases e811
       replace hx811_0 := (HB.out.cell (World.block_lt_of_cell? w _ hx811_0)).trans hx811_0
       replace hx811_1 := (HB.out.cell (World.block_lt_of_cell? w _ hx811_1)).trans hx811_1
       replace hx811_2 := (HB.out.cell (World.block_lt_of_cell? w _ hx811_2)).trans hx811_2
       replace hx811_3 := (HB.out.cell (World.block_lt_of_cell? w _ hx811_3)).trans hx811_3
       replace hx811_4 := (HB.out.cell (World.block_lt_of_cell? w _ hx811_4)).trans hx811_4
       have HR811_1 := Aside0.mk hi811_1
       have HC811_1 := Aside0.mk hl811_1
       clear hi811_1 hl811_1
       have HR811_4 := Aside0.mk hi811_4
       have HC811_4 := Aside0.mk hl811_4
       clear hi811_4 hl811_4
       replace p811 := eq_true p811
       replace q811 := eq_true q811
       go_wp2_with (first | ((with_reducible refine gate_dst (N := 6) rfl ?_); refine box_event ?hg (N := 6) ?hd (cs := #[.int .i64 0, .slice none 0 0, .int .i64 0, .int .i64 0, .slice none 0 0]) (t := 68) ?hr ?_; (case hd => rfl); (case hg => rfl); (case hr => first | (go_simp; done) | (go_simp; rfl)); intro gb812 hg w8 hbox hb; have n0_ := Aside0.mk (below_step (by repeat (first | (with_reducible first | exact HB.out | apply below_alloc | apply pw_below_drewN | apply below_drew1) | exact HB.out)) hb); have n1_ := Aside0.mk (hbox); have n2_ := Aside0.mk ((by rw [hg]; exact (below_size (by repeat (first | (with_reducible first | exact HB.out | apply below_alloc | apply pw_below_drewN | apply below_drew1) | exact HB.out))) : w.heap.size ≤ gb812)); have n3_ := Aside0.mk ((by rw [hg]; exact (below_size (by repeat (first | (with_reducible first | exact HB.out | apply below_alloc | apply pw_below_drewN | apply below_drew1) | exact HB.out))) : w.heap.size ≤ gb812)); clear HB; have HB := n0_; have BK812 := n1_; have GW812 := n2_; have GE812 := n3_; clear n0_ n1_ n2_ n3_; clear hb hbox hg; have hcz9_0 : w8.cell? ⟨gb812, 0, none⟩ = some (.int .i64 0) := (blk_cell BK812.out 0).trans rfl; have hcz9_1 : w8.cell? ⟨gb812, 1, none⟩ = some (.slice none 0 0) := (blk_cell BK812.out 1).trans rfl; have hcz9_2 : w8.cell? ⟨gb812, 2, none⟩ = some (.int .i64 0) := (blk_cell BK812.out 2).trans rfl; have hcz9_3 : w8.cell? ⟨gb812, 3, none⟩ = some (.int .i64 0) := (blk_cell BK812.out 3).trans rfl; have hcz9_4 : w8.cell? ⟨gb812, 4, none⟩ = some (.slice none 0 0) := (blk_cell BK812.out 4).trans rfl; have hfz9_0 := blk_frozen BK812.out 0; have hfz9_1 := blk_frozen BK812.out 1; have hfz9_2 := blk_frozen BK812.out 2; have hfz9_3 := blk_frozen BK812.out 3; have hfz9_4 := blk_frozen BK812.out 4) | ((with_reducible refine gate_callee (f := 89) rfl ?_); refine goesL_ (some 16) rfl rfl Try.func89 (by kernel_rfl) rfl #[.slice A811_4 ((rd_T68 l0 x9_1).f4).length c811_4, .slice A1 l1.length c1] rfl (by (try simp only [List.map_toArray, List.map_cons, List.map_nil]); first | done | rfl | (simp only [List.length_drop, List.length_take]; rfl)) ?_; (with_reducible refine (impl_labelsAt.calls k1 _ _ ((rd_T68 l0 x9_1).f4) _ _ l1 t813 _ ?side1 ?side2 ?side3 ?side4 A6.out).mono ?_); (case side1 => exact Kd.C_below HR811_4.out (by repeat (first | (with_reducible first | exact HB.out | apply below_alloc | apply pw_below_drewN | apply below_drew1 | refine below_set ?_ GE812.out) | exact HB.out))); (case side2 => exact HC811_4.out); (case side3 => exact Kd.C_below HR1.out (by repeat (first | (with_reducible first | exact HB.out | apply below_alloc | apply pw_below_drewN | apply below_drew1 | refine below_set ?_ GE812.out) | exact HB.out))); (case side4 => exact HC1.out); rintro e w10 ⟨rfl, hb⟩; refine ⟨_, rfl, ?_⟩; have n0_ := Aside0.mk (blk_below (g := gb812) (o := .cells #[.int .i64 ((rd_T68 l0 x9_1).f0), .slice A811_1 ((rd_T68 l0 x9_1).f1).length c811_1, .int .i64 ((rd_T68 l0 x9_1).f2), .int .i64 ((rd_T68 l0 x9_1).f3), .slice A811_4 ((rd_T68 l0 x9_1).f4).length c811_4] 68 (0, 0)) (by (with_reducible repeat (first | refine blk_drewN ?_ _ | refine blk_drew ?_ | refine blk_alloc ?_ _)); refine blk_put (cs := #[.int .i64 ((rd_T68 l0 x9_1).f0), .slice A811_1 ((rd_T68 l0 x9_1).f1).length c811_1, .int .i64 ((rd_T68 l0 x9_1).f2), .int .i64 ((rd_T68 l0 x9_1).f3), .slice none 0 0]) ?_ 4 _ rfl; (with_reducible repeat (first | refine blk_drewN ?_ _ | refine blk_drew ?_ | refine blk_alloc ?_ _)); refine blk_put (cs := #[.int .i64 ((rd_T68 l0 x9_1).f0), .slice A811_1 ((rd_T68 l0 x9_1).f1).length c811_1, .int .i64 ((rd_T68 l0 x9_1).f2), .int .i64 0, .slice none 0 0]) ?_ 3 _ rfl; (with_reducible repeat (first | refine blk_drewN ?_ _ | refine blk_drew ?_ | refine blk_alloc ?_ _)); refine blk_put (cs := #[.int .i64 ((rd_T68 l0 x9_1).f0), .slice A811_1 ((rd_T68 l0 x9_1).f1).length c811_1, .int .i64 0, .int .i64 0, .slice none 0 0]) ?_ 2 _ rfl; (with_reducible repeat (first | refine blk_drewN ?_ _ | refine blk_drew ?_ | refine blk_alloc ?_ _)); refine blk_put (cs := #[.int .i64 ((rd_T68 l0 x9_1).f0), .slice none 0 0, .int .i64 0, .int .i64 0, .slice none 0 0]) ?_ 1 _ rfl; (with_reducible repeat (first | refine blk_drewN ?_ _ | refine blk_drew ?_ | refine blk_alloc ?_ _)); refine blk_put (cs := #[.int .i64 0, .slice none 0 0, .int .i64 0, .int .i64 0, .slice none 0 0]) ?_ 0 _ rfl; (with_reducible repeat (first | refine blk_drewN ?_ _ | refine blk_drew ?_ | refine blk_alloc ?_ _)); exact BK812.out) hb); have n1_ := Aside0.mk (below_step (by repeat (first | (with_reducible first | exact HB.out | apply below_alloc | apply pw_below_drewN | apply below_drew1 | refine below_set ?_ GE812.out) | exact HB.out)) hb); clear BK812; clear HB; have BK812 := n0_; have HB := n1_; clear n0_ n1_; (try clear hb); (try clear hb2); (try clear hk); (try clear hi); have hcz11_0 : w10.cell? ⟨gb812, 0, none⟩ = some (.int .i64 ((rd_T68 l0 x9_1).f0)) := (blk_cell BK812.out 0).trans rfl; have hcz11_1 : w10.cell? ⟨gb812, 1, none⟩ = some (.slice A811_1 ((rd_T68 l0 x9_1).f1).length c811_1) := (blk_cell BK812.out 1).trans rfl; have hcz11_2 : w10.cell? ⟨gb812, 2, none⟩ = some (.int .i64 ((rd_T68 l0 x9_1).f2)) := (blk_cell BK812.out 2).trans rfl; have hcz11_3 : w10.cell? ⟨gb812, 3, none⟩ = some (.int .i64 ((rd_T68 l0 x9_1).f3)) := (blk_cell BK812.out 3).trans rfl; have hcz11_4 : w10.cell? ⟨gb812, 4, none⟩ = some (.slice A811_4 ((rd_T68 l0 x9_1).f4).length c811_4) := (blk_cell BK812.out 4).trans rfl; have hfz11_0 := blk_frozen BK812.out 0; have hfz11_1 := blk_frozen BK812.out 1; have hfz11_2 := blk_frozen BK812.out 2; have hfz11_3 := blk_frozen BK812.out 3; have hfz11_4 := blk_frozen BK812.out 4))
       go_ret
       exact ⟨by first | rfl | (simp [errW_none, errW_some] <;> rfl) | (simp [*, errW_none, errW_some] <;> rfl), by repeat (first | (with_reducible first | exact HB.out | apply below_alloc | apply pw_below_drewN | apply below_drew1 | refine below_set ?_ GE812.out) | exact HB.out)⟩
      ·
       rw [if_neg c7] at H
       have c7b0 : decide (0 ≤ t813) = false := decide_eq_false c7
       clear c7
       have H' := Aside0.mk H
       clear H
       have p811 : 0 ≤ (x9_1 : Int) := of_decide_eq_true (by first | (with_reducible assumption) | assumption)
       have q811 : x9_1 < (l0.length : Int) := of_decide_eq_true (by first | (with_reducible assumption) | assumption)
       obtain ⟨ad811, A811_1, c811_1, A811_4, c811_4, e811, hx811_0, hx811_1, hx811_2, hx811_3, hx811_4, hl811_1, hi811_1, hl811_4, hi811_4⟩ := at_T68 HR0.out x9_1 p811 q811
       cases e811
       replace hx811_0 := (HB.out.cell (World.block_lt_of_cell? w _ hx811_0)).trans hx811_0
       replace hx811_1 := (HB.out.cell (World.block_lt_of_cell? w _ hx811_1)).trans hx811_1
       replace hx811_2 := (HB.out.cell (World.block_lt_of_cell? w _ hx811_2)).trans hx811_2
       replace hx811_3 := (HB.out.cell (World.block_lt_of_cell? w _ hx811_3)).trans hx811_3
       replace hx811_4 := (HB.out.cell (World.block_lt_of_cell? w _ hx811_4)).trans hx811_4
       have HR811_1 := Aside0.mk hi811_1
       have HC811_1 := Aside0.mk hl811_1
       clear hi811_1 hl811_1
       have HR811_4 := Aside0.mk hi811_4
       have HC811_4 := Aside0.mk hl811_4
       clear hi811_4 hl811_4
       replace p811 := eq_true p811
       replace q811 := eq_true q811
       go_wp2_with (first | ((with_reducible refine gate_dst (N := 6) rfl ?_); refine box_event ?hg (N := 6) ?hd (cs := #[.int .i64 0, .slice none 0 0, .int .i64 0, .int .i64 0, .slice none 0 0]) (t := 68) ?hr ?_; (case hd => rfl); (case hg => rfl); (case hr => first | (go_simp; done) | (go_simp; rfl)); intro gb812 hg w12 hbox hb; have n0_ := Aside0.mk (below_step (by repeat (first | (with_reducible first | exact HB.out | apply below_alloc | apply pw_below_drewN | apply below_drew1) | exact HB.out)) hb); have n1_ := Aside0.mk (hbox); have n2_ := Aside0.mk ((by rw [hg]; exact (below_size (by repeat (first | (with_reducible first | exact HB.out | apply below_alloc | apply pw_below_drewN | apply below_drew1) | exact HB.out))) : w.heap.size ≤ gb812)); have n3_ := Aside0.mk ((by rw [hg]; exact (below_size (by repeat (first | (with_reducible first | exact HB.out | apply below_alloc | apply pw_below_drewN | apply below_drew1) | exact HB.out))) : w.heap.size ≤ gb812)); clear HB; have HB := n0_; have BK812 := n1_; have GW812 := n2_; have GE812 := n3_; clear n0_ n1_ n2_ n3_; clear hb hbox hg; have hcz13_0 : w12.cell? ⟨gb812, 0, none⟩ = some (.int .i64 0) := (blk_cell BK812.out 0).trans rfl; have hcz13_1 : w12.cell? ⟨gb812, 1, none⟩ = some (.slice none 0 0) := (blk_cell BK812.out 1).trans rfl; have hcz13_2 : w12.cell? ⟨gb812, 2, none⟩ = some (.int .i64 0) := (blk_cell BK812.out 2).trans rfl; have hcz13_3 : w12.cell? ⟨gb812, 3, none⟩ = some (.int .i64 0) := (blk_cell BK812.out 3).trans rfl; have hcz13_4 : w12.cell? ⟨gb812, 4, none⟩ = some (.slice none 0 0) := (blk_cell BK812.out 4).trans rfl; have hfz13_0 := blk_frozen BK812.out 0; have hfz13_1 := blk_frozen BK812.out 1; have hfz13_2 := blk_frozen BK812.out 2; have hfz13_3 := blk_frozen BK812.out 3; have hfz13_4 := blk_frozen BK812.out 4) | ((with_reducible refine gate_callee (f := 89) rfl ?_); refine goesL_ (some 16) rfl rfl Try.func89 (by kernel_rfl) rfl #[.slice A811_4 ((rd_T68 l0 x9_1).f4).length c811_4, .slice A1 l1.length c1] rfl (by (try simp only [List.map_toArray, List.map_cons, List.map_nil]); first | done | rfl | (simp only [List.length_drop, List.length_take]; rfl)) ?_; (with_reducible refine (impl_labelsAt.calls k1 _ _ ((rd_T68 l0 x9_1).f4) _ _ l1 t813 _ ?side1 ?side2 ?side3 ?side4 A6.out).mono ?_); (case side1 => exact Kd.C_below HR811_4.out (by repeat (first | (with_reducible first | exact HB.out | apply below_alloc | apply pw_below_drewN | apply below_drew1 | refine below_set ?_ GE812.out) | exact HB.out))); (case side2 => exact HC811_4.out); (case side3 => exact Kd.C_below HR1.out (by repeat (first | (with_reducible first | exact HB.out | apply below_alloc | apply pw_below_drewN | apply below_drew1 | refine below_set ?_ GE812.out) | exact HB.out))); (case side4 => exact HC1.out); rintro e w14 ⟨rfl, hb⟩; refine ⟨_, rfl, ?_⟩; have n0_ := Aside0.mk (blk_below (g := gb812) (o := .cells #[.int .i64 ((rd_T68 l0 x9_1).f0), .slice A811_1 ((rd_T68 l0 x9_1).f1).length c811_1, .int .i64 ((rd_T68 l0 x9_1).f2), .int .i64 ((rd_T68 l0 x9_1).f3), .slice A811_4 ((rd_T68 l0 x9_1).f4).length c811_4] 68 (0, 0)) (by (with_reducible repeat (first | refine blk_drewN ?_ _ | refine blk_drew ?_ | refine blk_alloc ?_ _)); refine blk_put (cs := #[.int .i64 ((rd_T68 l0 x9_1).f0), .slice A811_1 ((rd_T68 l0 x9_1).f1).length c811_1, .int .i64 ((rd_T68 l0 x9_1).f2), .int .i64 ((rd_T68 l0 x9_1).f3), .slice none 0 0]) ?_ 4 _ rfl; (with_reducible repeat (first | refine blk_drewN ?_ _ | refine blk_drew ?_ | refine blk_alloc ?_ _)); refine blk_put (cs := #[.int .i64 ((rd_T68 l0 x9_1).f0), .slice A811_1 ((rd_T68 l0 x9_1).f1).length c811_1, .int .i64 ((rd_T68 l0 x9_1).f2), .int .i64 0, .slice none 0 0]) ?_ 3 _ rfl; (with_reducible repeat (first | refine blk_drewN ?_ _ | refine blk_drew ?_ | refine blk_alloc ?_ _)); refine blk_put (cs := #[.int .i64 ((rd_T68 l0 x9_1).f0), .slice A811_1 ((rd_T68 l0 x9_1).f1).length c811_1, .int .i64 0, .int .i64 0, .slice none 0 0]) ?_ 2 _ rfl; (with_reducible repeat (first | refine blk_drewN ?_ _ | refine blk_drew ?_ | refine blk_alloc ?_ _)); refine blk_put (cs := #[.int .i64 ((rd_T68 l0 x9_1).f0), .slice none 0 0, .int .i64 0, .int .i64 0, .slice none 0 0]) ?_ 1 _ rfl; (with_reducible repeat (first | refine blk_drewN ?_ _ | refine blk_drew ?_ | refine blk_alloc ?_ _)); refine blk_put (cs := #[.int .i64 0, .slice none 0 0, .int .i64 0, .int .i64 0, .slice none 0 0]) ?_ 0 _ rfl; (with_reducible repeat (first | refine blk_drewN ?_ _ | refine blk_drew ?_ | refine blk_alloc ?_ _)); exact BK812.out) hb); have n1_ := Aside0.mk (below_step (by repeat (first | (with_reducible first | exact HB.out | apply below_alloc | apply pw_below_drewN | apply below_drew1 | refine below_set ?_ GE812.out) | exact HB.out)) hb); clear BK812; clear HB; have BK812 := n0_; have HB := n1_; clear n0_ n1_; (try clear hb); (try clear hb2); (try clear hk); (try clear hi)))
       go_roundg k1
       case measure => have := HK1.out; omega
       case rel => exact ⟨(wrap64 (x9_1 + 1)), (by first | rfl | (simp; done) | (simp [*]; done)), H', ⟨by have := HK1.out; omega⟩, ⟨by repeat (first | (with_reducible first | exact HB.out | apply below_alloc | apply pw_below_drewN | apply below_drew1 | refine below_set ?_ GE812.out) | exact HB.out)⟩⟩
     ·
      rw [if_neg c5] at H
      exact absurd H (by simp)
    ·
     rw [if_neg c4] at H
     exact absurd H (by simp)
   ·
    rw [if_neg c3] at H
    have c3b0 : decide (x9_1 < (l0.length : Int)) = false := decide_eq_false c3
    clear c3
    obtain rfl := Option.some.inj H
    go_wp2
    go_ret
    exact ⟨by first | rfl | (simp [errW_none, errW_some] <;> rfl) | (simp [*, errW_none, errW_some] <;> rfl), by repeat (first | (with_reducible first | exact HB.out | apply below_alloc | apply pw_below_drewN | apply below_drew1) | exact HB.out)⟩

end Go.Proofs.Ytmmaondenopnpaa.Print
