-- Written by printx.py, a program of this session (wip/gen), over the kit's print.py.
import Derived.Test.YtkjakmbmnbjpbaaF0
namespace Go.Proofs.Ytkjakmbmnbjpbaa.Print
open Go.RowKit Go.Proofs.YtkjakmbmnbjpbaaV.PrintWords Go.Proofs.YtkjakmbmnbjpbaaV.PrintLast Go.Proofs.YtkjakmbmnbjpbaaV.PrintMore
attribute [local go_sem] max2_int min2_int max_two min_two max_three min_three max_four min_four   -- for this text's walks alone
set_option linter.unusedVariables false
set_option linter.unusedSimpArgs false

/-! ### spec_NextDue: function 44 -/
def spec_NextDue.f (a0_0 : Int) (l0_1 : List (S101)) (a0_2 : Int) (a0_3 : Int) (l0_4 : List (S104)) (a1 : Int) (a2 : Int) : Option (Int) := if a0_3 = (-1) then (some (wrap64 (a0_2 + a1))) else (some (wrap64 (a0_3 + a2)))
set_option maxHeartbeats 8000000 in
set_option maxRecDepth 100000 in
theorem spec_NextDue.calls (a0_0 : Int) (A0_1 : Option Addr) (c0_1 : Nat) (l0_1 : List (S101)) (a0_2 : Int) (a0_3 : Int) (A0_4 : Option Addr) (c0_4 : Nat) (l0_4 : List (S104)) (a1 : Int) (a2 : Int) (r : Int) (w : World) (hr0_1 : Kd.C k101 w A0_1 l0_1.length l0_1) (hc0_1 : l0_1.length ≤ c0_1) (hr0_4 : Kd.C k104 w A0_4 l0_4.length l0_4) (hc0_4 : l0_4.length ≤ c0_4) (h : spec_NextDue.f a0_0 l0_1 a0_2 a0_3 l0_4 a1 a2 = some r) :
  Calls Try.prog 44 #[.agg #[.int .i64 a0_0, .slice A0_1 l0_1.length c0_1, .int .i64 a0_2, .int .i64 a0_3, .slice A0_4 l0_4.length c0_4], .int .i64 a1, .int .i64 a2] w fun e w' => e = .returned (.int .i64 r) ∧ Below w.heap.size w w' := by
 have hu66 := Try.underlying66
 have HR0_1 := Aside0.mk hr0_1
 have HC0_1 := Aside0.mk hc0_1
 clear hr0_1 hc0_1
 have HR0_4 := Aside0.mk hr0_4
 have HC0_4 := Aside0.mk hc0_4
 clear hr0_4 hc0_4
 have HB := Aside0.mk (Below.refl w.heap.size w)
 have H : (if a0_3 = (-1) then (some (wrap64 (a0_2 + a1))) else (some (wrap64 (a0_3 + a2)))) = some r := h
 clear h
 by_cases c4 : a0_3 = (-1)
 ·
  rw [if_pos c4] at H
  have c4b0 : (a0_3 == (-1)) = true := beq_iff_eq.mpr c4
  have c4b1 : (a0_3 != (-1)) = false := bne_eq_false_iff_eq.mpr c4
  clear c4
  obtain rfl := Option.some.inj H
  go_enter Try.func44, Try.ntmps44
  go_wp2_with (first | ((with_reducible refine gate_dst (N := 3) rfl ?_); refine box_event ?hg (N := 3) ?hd (cs := #[.int .i64 a0_0, .slice A0_1 l0_1.length c0_1, .int .i64 a0_2, .int .i64 a0_3, .slice A0_4 l0_4.length c0_4]) (t := 66) ?hr ?_; (case hd => rfl); (case hg => rfl); (case hr => first | (go_simp; done) | (go_simp; rfl)); intro gb710 hg w5 hbox hb; have n0_ := Aside0.mk (below_step (by repeat (first | (with_reducible first | exact HB.out | apply below_alloc | apply pw_below_drewN | apply below_drew1) | exact HB.out)) hb); have n1_ := Aside0.mk (hbox); have n2_ := Aside0.mk ((by rw [hg]; exact (below_size (by repeat (first | (with_reducible first | exact HB.out | apply below_alloc | apply pw_below_drewN | apply below_drew1) | exact HB.out))) : w.heap.size ≤ gb710)); have n3_ := Aside0.mk ((by rw [hg]; exact (below_size (by repeat (first | (with_reducible first | exact HB.out | apply below_alloc | apply pw_below_drewN | apply below_drew1) | exact HB.out))) : w.heap.size ≤ gb710)); clear HB; have HB := n0_; have BK710 := n1_; have GW710 := n2_; have GE710 := n3_; clear n0_ n1_ n2_ n3_; clear hb hbox hg; have hcz6_0 : w5.cell? ⟨gb710, 0, none⟩ = some (.int .i64 a0_0) := (blk_cell BK710.out 0).trans rfl; have hcz6_1 : w5.cell? ⟨gb710, 1, none⟩ = some (.slice A0_1 l0_1.length c0_1) := (blk_cell BK710.out 1).trans rfl; have hcz6_2 : w5.cell? ⟨gb710, 2, none⟩ = some (.int .i64 a0_2) := (blk_cell BK710.out 2).trans rfl; have hcz6_3 : w5.cell? ⟨gb710, 3, none⟩ = some (.int .i64 a0_3) := (blk_cell BK710.out 3).trans rfl; have hcz6_4 : w5.cell? ⟨gb710, 4, none⟩ = some (.slice A0_4 l0_4.length c0_4) := (blk_cell BK710.out 4).trans rfl; have hfz6_0 := blk_frozen BK710.out 0; have hfz6_1 := blk_frozen BK710.out 1; have hfz6_2 := blk_frozen BK710.out 2; have hfz6_3 := blk_frozen BK710.out 3; have hfz6_4 := blk_frozen BK710.out 4))
  go_ret
  exact ⟨by first | rfl | (simp [errW_none, errW_some] <;> rfl) | (simp [*, errW_none, errW_some] <;> rfl), by repeat (first | (with_reducible first | exact HB.out | apply below_alloc | apply pw_below_drewN | apply below_drew1 | refine below_set ?_ GE710.out) | exact HB.out)⟩
 ·
  rw [if_neg c4] at H
  have c4b0 : (a0_3 == (-1)) = false := beq_eq_false_iff_ne.mpr c4
  have c4b1 : (a0_3 != (-1)) = true := bne_iff_ne.mpr c4
  obtain rfl := Option.some.inj H
  go_enter Try.func44, Try.ntmps44
  go_wp2_with (first | ((with_reducible refine gate_dst (N := 3) rfl ?_); refine box_event ?hg (N := 3) ?hd (cs := #[.int .i64 a0_0, .slice A0_1 l0_1.length c0_1, .int .i64 a0_2, .int .i64 a0_3, .slice A0_4 l0_4.length c0_4]) (t := 66) ?hr ?_; (case hd => rfl); (case hg => rfl); (case hr => first | (go_simp; done) | (go_simp; rfl)); intro gb710 hg w7 hbox hb; have n0_ := Aside0.mk (below_step (by repeat (first | (with_reducible first | exact HB.out | apply below_alloc | apply pw_below_drewN | apply below_drew1) | exact HB.out)) hb); have n1_ := Aside0.mk (hbox); have n2_ := Aside0.mk ((by rw [hg]; exact (below_size (by repeat (first | (with_reducible first | exact HB.out | apply below_alloc | apply pw_below_drewN | apply below_drew1) | exact HB.out))) : w.heap.size ≤ gb710)); have n3_ := Aside0.mk ((by rw [hg]; exact (below_size (by repeat (first | (with_reducible first | exact HB.out | apply below_alloc | apply pw_below_drewN | apply below_drew1) | exact HB.out))) : w.heap.size ≤ gb710)); clear HB; have HB := n0_; have BK710 := n1_; have GW710 := n2_; have GE710 := n3_; clear n0_ n1_ n2_ n3_; clear hb hbox hg; have hcz8_0 : w7.cell? ⟨gb710, 0, none⟩ = some (.int .i64 a0_0) := (blk_cell BK710.out 0).trans rfl; have hcz8_1 : w7.cell? ⟨gb710, 1, none⟩ = some (.slice A0_1 l0_1.length c0_1) := (blk_cell BK710.out 1).trans rfl; have hcz8_2 : w7.cell? ⟨gb710, 2, none⟩ = some (.int .i64 a0_2) := (blk_cell BK710.out 2).trans rfl; have hcz8_3 : w7.cell? ⟨gb710, 3, none⟩ = some (.int .i64 a0_3) := (blk_cell BK710.out 3).trans rfl; have hcz8_4 : w7.cell? ⟨gb710, 4, none⟩ = some (.slice A0_4 l0_4.length c0_4) := (blk_cell BK710.out 4).trans rfl; have hfz8_0 := blk_frozen BK710.out 0; have hfz8_1 := blk_frozen BK710.out 1; have hfz8_2 := blk_frozen BK710.out 2; have hfz8_3 := blk_frozen BK710.out 3; have hfz8_4 := blk_frozen BK710.out 4))
  go_ret
  exact ⟨by first | rfl | (simp [errW_none, errW_some] <;> rfl) | (simp [*, errW_none, errW_some] <;> rfl), by repeat (first | (with_reducible first | exact HB.out | apply below_alloc | apply pw_below_drewN | apply below_drew1 | refine below_set ?_ GE710.out) | exact HB.out)⟩

end Go.Proofs.Ytkjakmbmnbjpbaa.Print
