-- Written by printx.py, a program of this session (wip/gen), over the kit's print.py.
import Derived.Test.YtmmaondenopnpaaF0
import Derived.Test.YtmmaondenopnpaaF57
import Derived.Test.YtmmaondenopnpaaF85
import Derived.Test.YtmmaondenopnpaaF88
namespace Go.Proofs.Ytmmaondenopnpaa.Print
open Go.RowKit Go.Proofs.YtmmaondenopnpaaV.PrintWords Go.Proofs.YtmmaondenopnpaaV.PrintLast Go.Proofs.YtmmaondenopnpaaV.PrintMore
attribute [local go_sem] max2_int min2_int max_two min_two max_three min_three max_four min_four   -- for this text's walks alone
set_option linter.unusedVariables false
set_option linter.unusedSimpArgs false

/-! ### impl_AlarmOk: function 83 -/
def impl_AlarmOk.f (k : Nat) (l0_0 : List (S116)) (a0_1 : Int) (a0_2 : Int) (a0_3 : ByteArray) : Option (Bool) := if (l0_0.length : Int) > 0 then ((impl_SetOk.f k l0_0).bind fun t684 => (if t684 = true then ((impl_in.f a0_1 0 99999).bind fun t685 => (if t685 = true then ((impl_in.f a0_2 a0_1 99999).bind fun t686 => (if t686 = true then ((impl_PlainOk.f k a0_3).bind fun t687 => (some t687)) else (some false))) else (some false))) else (some false))) else (some false)
theorem impl_AlarmOk.mono : ∀ a0 a1 a2 a3 k, LeO (impl_AlarmOk.f k a0 a1 a2 a3) (impl_AlarmOk.f (k + 1) a0 a1 a2 a3) := by
 intro a0 a1 a2 a3 k
 unfold impl_AlarmOk.f
 repeat' first
   | (with_reducible exact impl_PlainOk.mono _ _)
   | (with_reducible exact impl_SetOk.mono _ _)
   | (with_reducible exact LeO.refl _)
   | (with_reducible exact LeO.none _)
   | (with_reducible refine LeO.ite ?_ ?_)
   | (with_reducible refine LeO.bind ?_ (fun _ => ?_))
   | exact impl_PlainOk.mono _ _
   | exact impl_SetOk.mono _ _
   | exact LeO.none _
   | refine LeO.ite ?_ ?_
   | refine LeO.bind ?_ (fun _ => ?_)
set_option maxHeartbeats 8000000 in
set_option maxRecDepth 100000 in
theorem impl_AlarmOk.calls (k : Nat) (A0_0 : Option Addr) (c0_0 : Nat) (l0_0 : List (S116)) (a0_1 : Int) (a0_2 : Int) (a0_3 : ByteArray) (r : Bool) (w : World) (hr0_0 : Kd.C k116 w A0_0 l0_0.length l0_0) (hc0_0 : l0_0.length ≤ c0_0) (h : impl_AlarmOk.f k l0_0 a0_1 a0_2 a0_3 = some r) :
  Calls Try.prog 83 #[.agg #[.slice A0_0 l0_0.length c0_0, .int .i64 a0_1, .int .i64 a0_2, .string a0_3]] w fun e w' => e = .returned (.bool r) ∧ Below w.heap.size w w' := by
 have hu57 := Try.underlying57
 have HR0_0 := Aside0.mk hr0_0
 have HC0_0 := Aside0.mk hc0_0
 clear hr0_0 hc0_0
 have HB := Aside0.mk (Below.refl w.heap.size w)
 have H : (if (l0_0.length : Int) > 0 then ((impl_SetOk.f k l0_0).bind fun t684 => (if t684 = true then ((impl_in.f a0_1 0 99999).bind fun t685 => (if t685 = true then ((impl_in.f a0_2 a0_1 99999).bind fun t686 => (if t686 = true then ((impl_PlainOk.f k a0_3).bind fun t687 => (some t687)) else (some false))) else (some false))) else (some false))) else (some false)) = some r := h
 clear h
 by_cases c2 : (l0_0.length : Int) > 0
 ·
  rw [if_pos c2] at H
  have c2b0 : decide (0 < (l0_0.length : Int)) = true := decide_eq_true c2
  have c2b1 : decide (0 < l0_0.length) = true := decide_eq_true (by omega)
  clear c2
  replace H := Option.bind_eq_some_iff.mp H
  obtain ⟨t684, A30, H⟩ := H
  replace H : (if t684 = true then ((impl_in.f a0_1 0 99999).bind fun t685 => (if t685 = true then ((impl_in.f a0_2 a0_1 99999).bind fun t686 => (if t686 = true then ((impl_PlainOk.f k a0_3).bind fun t687 => (some t687)) else (some false))) else (some false))) else (some false)) = some r := H
  have A3 := Aside0.mk A30
  clear A30
  by_cases c4 : t684 = true
  ·
   subst c4
   have H1 : ((impl_in.f a0_1 0 99999).bind fun t685 => (if t685 = true then ((impl_in.f a0_2 a0_1 99999).bind fun t686 => (if t686 = true then ((impl_PlainOk.f k a0_3).bind fun t687 => (some t687)) else (some false))) else (some false))) = some r := by rw [if_pos rfl] at H; exact H
   clear H
   have H := H1
   clear H1
   replace H := Option.bind_eq_some_iff.mp H
   obtain ⟨t685, A50, H⟩ := H
   replace H : (if t685 = true then ((impl_in.f a0_2 a0_1 99999).bind fun t686 => (if t686 = true then ((impl_PlainOk.f k a0_3).bind fun t687 => (some t687)) else (some false))) else (some false)) = some r := H
   have A5 := Aside0.mk A50
   clear A50
   by_cases c6 : t685 = true
   ·
    subst c6
    have H1 : ((impl_in.f a0_2 a0_1 99999).bind fun t686 => (if t686 = true then ((impl_PlainOk.f k a0_3).bind fun t687 => (some t687)) else (some false))) = some r := by rw [if_pos rfl] at H; exact H
    clear H
    have H := H1
    clear H1
    replace H := Option.bind_eq_some_iff.mp H
    obtain ⟨t686, A70, H⟩ := H
    replace H : (if t686 = true then ((impl_PlainOk.f k a0_3).bind fun t687 => (some t687)) else (some false)) = some r := H
    have A7 := Aside0.mk A70
    clear A70
    by_cases c8 : t686 = true
    ·
     subst c8
     have H1 : ((impl_PlainOk.f k a0_3).bind fun t687 => (some t687)) = some r := by rw [if_pos rfl] at H; exact H
     clear H
     have H := H1
     clear H1
     replace H := Option.bind_eq_some_iff.mp H
     obtain ⟨t687, A90, H⟩ := H
     replace H : (some t687) = some r := H
     have A9 := Aside0.mk A90
     clear A90
     obtain rfl := Option.some.inj H
     go_enter Try.func83, Try.ntmps83
     go_wp2_with (first | ((with_reducible refine gate_dst (N := 1) rfl ?_); refine box_event ?hg (N := 1) ?hd (cs := #[.slice A0_0 l0_0.length c0_0, .int .i64 a0_1, .int .i64 a0_2, .string a0_3]) (t := 57) ?hr ?_; (case hd => rfl); (case hg => rfl); (case hr => first | (go_simp; done) | (go_simp; rfl)); intro gb683 hg w10 hbox hb; have n0_ := Aside0.mk (below_step (by repeat (first | (with_reducible first | exact HB.out | apply below_alloc | apply pw_below_drewN | apply below_drew1) | exact HB.out)) hb); have n1_ := Aside0.mk (hbox); have n2_ := Aside0.mk ((by rw [hg]; exact (below_size (by repeat (first | (with_reducible first | exact HB.out | apply below_alloc | apply pw_below_drewN | apply below_drew1) | exact HB.out))) : w.heap.size ≤ gb683)); have n3_ := Aside0.mk ((by rw [hg]; exact (below_size (by repeat (first | (with_reducible first | exact HB.out | apply below_alloc | apply pw_below_drewN | apply below_drew1) | exact HB.out))) : w.heap.size ≤ gb683)); clear HB; have HB := n0_; have BK683 := n1_; have GW683 := n2_; have GE683 := n3_; clear n0_ n1_ n2_ n3_; clear hb hbox hg; have hcz11_0 : w10.cell? ⟨gb683, 0, none⟩ = some (.slice A0_0 l0_0.length c0_0) := (blk_cell BK683.out 0).trans rfl; have hcz11_1 : w10.cell? ⟨gb683, 1, none⟩ = some (.int .i64 a0_1) := (blk_cell BK683.out 1).trans rfl; have hcz11_2 : w10.cell? ⟨gb683, 2, none⟩ = some (.int .i64 a0_2) := (blk_cell BK683.out 2).trans rfl; have hcz11_3 : w10.cell? ⟨gb683, 3, none⟩ = some (.string a0_3) := (blk_cell BK683.out 3).trans rfl; have hfz11_0 := blk_frozen BK683.out 0; have hfz11_1 := blk_frozen BK683.out 1; have hfz11_2 := blk_frozen BK683.out 2; have hfz11_3 := blk_frozen BK683.out 3) | (go_at_call 100; (with_reducible refine (impl_SetOk.calls k _ _ l0_0 true _ ?side1 ?side2 A3.out).mono ?_); (case side1 => repeat (first | exact (Kd.C_below HR0_0.out HB.out) | (with_reducible refine Kd.C_alloc ?_ _) | (with_reducible refine Kd.C_drewN ?_ _) | (with_reducible refine Kd.C_drew ?_))); (case side2 => exact HC0_0.out); rintro e w12 ⟨rfl, hb⟩; have n0_ := Aside0.mk (blk_below (g := gb683) (o := .cells #[.slice A0_0 l0_0.length c0_0, .int .i64 a0_1, .int .i64 a0_2, .string a0_3] 57 (0, 0)) (by (with_reducible repeat (first | refine blk_drewN ?_ _ | refine blk_drew ?_ | refine blk_alloc ?_ _)); exact BK683.out) hb); have n1_ := Aside0.mk (below_step (by repeat (first | (with_reducible first | exact HB.out | apply below_alloc | apply pw_below_drewN | apply below_drew1 | refine below_set ?_ GE683.out) | exact HB.out)) hb); clear BK683; clear HB; have BK683 := n0_; have HB := n1_; clear n0_ n1_; (try clear hb); (try clear hb2); (try clear hk); (try clear hi); have hcz13_0 : w12.cell? ⟨gb683, 0, none⟩ = some (.slice A0_0 l0_0.length c0_0) := (blk_cell BK683.out 0).trans rfl; have hcz13_1 : w12.cell? ⟨gb683, 1, none⟩ = some (.int .i64 a0_1) := (blk_cell BK683.out 1).trans rfl; have hcz13_2 : w12.cell? ⟨gb683, 2, none⟩ = some (.int .i64 a0_2) := (blk_cell BK683.out 2).trans rfl; have hcz13_3 : w12.cell? ⟨gb683, 3, none⟩ = some (.string a0_3) := (blk_cell BK683.out 3).trans rfl; have hfz13_0 := blk_frozen BK683.out 0; have hfz13_1 := blk_frozen BK683.out 1; have hfz13_2 := blk_frozen BK683.out 2; have hfz13_3 := blk_frozen BK683.out 3) | (go_at_call 76; (with_reducible refine (impl_in.calls a0_1 0 99999 true _ A5.out).mono ?_); rintro e w' ⟨rfl, ⟨nd, rfl⟩⟩) | (go_at_call 76; (with_reducible refine (impl_in.calls a0_2 a0_1 99999 true _ A7.out).mono ?_); rintro e w' ⟨rfl, ⟨nd, rfl⟩⟩) | (go_at_call 101; (with_reducible refine (impl_PlainOk.calls k a0_3 t687 _ A9.out).mono ?_); rintro e w' ⟨rfl, ⟨nd, rfl⟩⟩))
     go_ret
     exact ⟨by first | rfl | (simp [errW_none, errW_some] <;> rfl) | (simp [*, errW_none, errW_some] <;> rfl), by repeat (first | (with_reducible first | exact HB.out | apply below_alloc | apply pw_below_drewN | apply below_drew1 | refine below_set ?_ GE683.out) | exact HB.out)⟩
    ·
     replace c8 := Bool.eq_false_iff.mpr c8
     subst c8
     have H1 : (some false) = some r := by rw [if_neg (show ¬ (false = true) by decide)] at H; exact H
     clear H
     have H := H1
     clear H1
     obtain rfl := Option.some.inj H
     go_enter Try.func83, Try.ntmps83
     go_wp2_with (first | ((with_reducible refine gate_dst (N := 1) rfl ?_); refine box_event ?hg (N := 1) ?hd (cs := #[.slice A0_0 l0_0.length c0_0, .int .i64 a0_1, .int .i64 a0_2, .string a0_3]) (t := 57) ?hr ?_; (case hd => rfl); (case hg => rfl); (case hr => first | (go_simp; done) | (go_simp; rfl)); intro gb683 hg w14 hbox hb; have n0_ := Aside0.mk (below_step (by repeat (first | (with_reducible first | exact HB.out | apply below_alloc | apply pw_below_drewN | apply below_drew1) | exact HB.out)) hb); have n1_ := Aside0.mk (hbox); have n2_ := Aside0.mk ((by rw [hg]; exact (below_size (by repeat (first | (with_reducible first | exact HB.out | apply below_alloc | apply pw_below_drewN | apply below_drew1) | exact HB.out))) : w.heap.size ≤ gb683)); have n3_ := Aside0.mk ((by rw [hg]; exact (below_size (by repeat (first | (with_reducible first | exact HB.out | apply below_alloc | apply pw_below_drewN | apply below_drew1) | exact HB.out))) : w.heap.size ≤ gb683)); clear HB; have HB := n0_; have BK683 := n1_; have GW683 := n2_; have GE683 := n3_; clear n0_ n1_ n2_ n3_; clear hb hbox hg; have hcz15_0 : w14.cell? ⟨gb683, 0, none⟩ = some (.slice A0_0 l0_0.length c0_0) := (blk_cell BK683.out 0).trans rfl; have hcz15_1 : w14.cell? ⟨gb683, 1, none⟩ = some (.int .i64 a0_1) := (blk_cell BK683.out 1).trans rfl; have hcz15_2 : w14.cell? ⟨gb683, 2, none⟩ = some (.int .i64 a0_2) := (blk_cell BK683.out 2).trans rfl; have hcz15_3 : w14.cell? ⟨gb683, 3, none⟩ = some (.string a0_3) := (blk_cell BK683.out 3).trans rfl; have hfz15_0 := blk_frozen BK683.out 0; have hfz15_1 := blk_frozen BK683.out 1; have hfz15_2 := blk_frozen BK683.out 2; have hfz15_3 := blk_frozen BK683.out 3) | (go_at_call 100; (with_reducible refine (impl_SetOk.calls k _ _ l0_0 true _ ?side1 ?side2 A3.out).mono ?_); (case side1 => repeat (first | exact (Kd.C_below HR0_0.out HB.out) | (with_reducible refine Kd.C_alloc ?_ _) | (with_reducible refine Kd.C_drewN ?_ _) | (with_reducible refine Kd.C_drew ?_))); (case side2 => exact HC0_0.out); rintro e w16 ⟨rfl, hb⟩; have n0_ := Aside0.mk (blk_below (g := gb683) (o := .cells #[.slice A0_0 l0_0.length c0_0, .int .i64 a0_1, .int .i64 a0_2, .string a0_3] 57 (0, 0)) (by (with_reducible repeat (first | refine blk_drewN ?_ _ | refine blk_drew ?_ | refine blk_alloc ?_ _)); exact BK683.out) hb); have n1_ := Aside0.mk (below_step (by repeat (first | (with_reducible first | exact HB.out | apply below_alloc | apply pw_below_drewN | apply below_drew1 | refine below_set ?_ GE683.out) | exact HB.out)) hb); clear BK683; clear HB; have BK683 := n0_; have HB := n1_; clear n0_ n1_; (try clear hb); (try clear hb2); (try clear hk); (try clear hi); have hcz17_0 : w16.cell? ⟨gb683, 0, none⟩ = some (.slice A0_0 l0_0.length c0_0) := (blk_cell BK683.out 0).trans rfl; have hcz17_1 : w16.cell? ⟨gb683, 1, none⟩ = some (.int .i64 a0_1) := (blk_cell BK683.out 1).trans rfl; have hcz17_2 : w16.cell? ⟨gb683, 2, none⟩ = some (.int .i64 a0_2) := (blk_cell BK683.out 2).trans rfl; have hcz17_3 : w16.cell? ⟨gb683, 3, none⟩ = some (.string a0_3) := (blk_cell BK683.out 3).trans rfl; have hfz17_0 := blk_frozen BK683.out 0; have hfz17_1 := blk_frozen BK683.out 1; have hfz17_2 := blk_frozen BK683.out 2; have hfz17_3 := blk_frozen BK683.out 3) | (go_at_call 76; (with_reducible refine (impl_in.calls a0_1 0 99999 true _ A5.out).mono ?_); rintro e w' ⟨rfl, ⟨nd, rfl⟩⟩) | (go_at_call 76; (with_reducible refine (impl_in.calls a0_2 a0_1 99999 false _ A7.out).mono ?_); rintro e w' ⟨rfl, ⟨nd, rfl⟩⟩))
     go_ret
     exact ⟨by first | rfl | (simp [errW_none, errW_some] <;> rfl) | (simp [*, errW_none, errW_some] <;> rfl), by repeat (first | (with_reducible first | exact HB.out | apply below_alloc | apply pw_below_drewN | apply below_drew1 | refine below_set ?_ GE683.out) | exact HB.out)⟩
   ·
    replace c6 := Bool.eq_false_iff.mpr c6
    subst c6
    have H1 : (some false) = some r := by rw [if_neg (show ¬ (false = true) by decide)] at H; exact H
    clear H
    have H := H1
    clear H1
    obtain rfl := Option.some.inj H
    go_enter Try.func83, Try.ntmps83
    go_wp2_with (first | ((with_reducible refine gate_dst (N := 1) rfl ?_); refine box_event ?hg (N := 1) ?hd (cs := #[.slice A0_0 l0_0.length c0_0, .int .i64 a0_1, .int .i64 a0_2, .string a0_3]) (t := 57) ?hr ?_; (case hd => rfl); (case hg => rfl); (case hr => first | (go_simp; done) | (go_simp; rfl)); intro gb683 hg w18 hbox hb; have n0_ := Aside0.mk (below_step (by repeat (first | (with_reducible first | exact HB.out | apply below_alloc | apply pw_below_drewN | apply below_drew1) | exact HB.out)) hb); have n1_ := Aside0.mk (hbox); have n2_ := Aside0.mk ((by rw [hg]; exact (below_size (by repeat (first | (with_reducible first | exact HB.out | apply below_alloc | apply pw_below_drewN | apply below_drew1) | exact HB.out))) : w.heap.size ≤ gb683)); have n3_ := Aside0.mk ((by rw [hg]; exact (below_size (by repeat (first | (with_reducible first | exact HB.out | apply below_alloc | apply pw_below_drewN | apply below_drew1) | exact HB.out))) : w.heap.size ≤ gb683)); clear HB; have HB := n0_; have BK683 := n1_; have GW683 := n2_; have GE683 := n3_; clear n0_ n1_ n2_ n3_; clear hb hbox hg; have hcz19_0 : w18.cell? ⟨gb683, 0, none⟩ = some (.slice A0_0 l0_0.length c0_0) := (blk_cell BK683.out 0).trans rfl; have hcz19_1 : w18.cell? ⟨gb683, 1, none⟩ = some (.int .i64 a0_1) := (blk_cell BK683.out 1).trans rfl; have hcz19_2 : w18.cell? ⟨gb683, 2, none⟩ = some (.int .i64 a0_2) := (blk_cell BK683.out 2).trans rfl; have hcz19_3 : w18.cell? ⟨gb683, 3, none⟩ = some (.string a0_3) := (blk_cell BK683.out 3).trans rfl; have hfz19_0 := blk_frozen BK683.out 0; have hfz19_1 := blk_frozen BK683.out 1; have hfz19_2 := blk_frozen BK683.out 2; have hfz19_3 := blk_frozen BK683.out 3) | (go_at_call 100; (with_reducible refine (impl_SetOk.calls k _ _ l0_0 true _ ?side1 ?side2 A3.out).mono ?_); (case side1 => repeat (first | exact (Kd.C_below HR0_0.out HB.out) | (with_reducible refine Kd.C_alloc ?_ _) | (with_reducible refine Kd.C_drewN ?_ _) | (with_reducible refine Kd.C_drew ?_))); (case side2 => exact HC0_0.out); rintro e w20 ⟨rfl, hb⟩; have n0_ := Aside0.mk (blk_below (g := gb683) (o := .cells #[.slice A0_0 l0_0.length c0_0, .int .i64 a0_1, .int .i64 a0_2, .string a0_3] 57 (0, 0)) (by (with_reducible repeat (first | refine blk_drewN ?_ _ | refine blk_drew ?_ | refine blk_alloc ?_ _)); exact BK683.out) hb); have n1_ := Aside0.mk (below_step (by repeat (first | (with_reducible first | exact HB.out | apply below_alloc | apply pw_below_drewN | apply below_drew1 | refine below_set ?_ GE683.out) | exact HB.out)) hb); clear BK683; clear HB; have BK683 := n0_; have HB := n1_; clear n0_ n1_; (try clear hb); (try clear hb2); (try clear hk); (try clear hi); have hcz21_0 : w20.cell? ⟨gb683, 0, none⟩ = some (.slice A0_0 l0_0.length c0_0) := (blk_cell BK683.out 0).trans rfl; have hcz21_1 : w20.cell? ⟨gb683, 1, none⟩ = some (.int .i64 a0_1) := (blk_cell BK683.out 1).trans rfl; have hcz21_2 : w20.cell? ⟨gb683, 2, none⟩ = some (.int .i64 a0_2) := (blk_cell BK683.out 2).trans rfl; have hcz21_3 : w20.cell? ⟨gb683, 3, none⟩ = some (.string a0_3) := (blk_cell BK683.out 3).trans rfl; have hfz21_0 := blk_frozen BK683.out 0; have hfz21_1 := blk_frozen BK683.out 1; have hfz21_2 := blk_frozen BK683.out 2; have hfz21_3 := blk_frozen BK683.out 3) | (go_at_call 76; (with_reducible refine (impl_in.calls a0_1 0 99999 false _ A5.out).mono ?_); rintro e w' ⟨rfl, ⟨nd, rfl⟩⟩))
    go_ret
    exact ⟨by first | rfl | (simp [errW_none, errW_some] <;> rfl) | (simp [*, errW_none, errW_some] <;> rfl), by repeat (first | (with_reducible first | exact HB.out | apply below_alloc | apply pw_below_drewN | apply below_drew1 | refine below_set ?_ GE683.out) | exact HB.out)⟩
  ·
   replace c4 := Bool.eq_false_iff.mpr c4
   subst c4
   have H1 : (some false) = some r := by rw [if_neg (show ¬ (false = true) by decide)] at H; exact H
   clear H
   have H := H1
   clear H1
   obtain rfl := Option.some.inj H
   go_enter Try.func83, Try.ntmps83
   go_wp2_with (first | ((with_reducible refine gate_dst (N := 1) rfl ?_); refine box_event ?hg (N := 1) ?hd (cs := #[.slice A0_0 l0_0.length c0_0, .int .i64 a0_1, .int .i64 a0_2, .string a0_3]) (t := 57) ?hr ?_; (case hd => rfl); (case hg => rfl); (case hr => first | (go_simp; done) | (go_simp; rfl)); intro gb683 hg w22 hbox hb; have n0_ := Aside0.mk (below_step (by repeat (first | (with_reducible first | exact HB.out | apply below_alloc | apply pw_below_drewN | apply below_drew1) | exact HB.out)) hb); have n1_ := Aside0.mk (hbox); have n2_ := Aside0.mk ((by rw [hg]; exact (below_size (by repeat (first | (with_reducible first | exact HB.out | apply below_alloc | apply pw_below_drewN | apply below_drew1) | exact HB.out))) : w.heap.size ≤ gb683)); have n3_ := Aside0.mk ((by rw [hg]; exact (below_size (by repeat (first | (with_reducible first | exact HB.out | apply below_alloc | apply pw_below_drewN | apply below_drew1) | exact HB.out))) : w.heap.size ≤ gb683)); clear HB; have HB := n0_; have BK683 := n1_; have GW683 := n2_; have GE683 := n3_; clear n0_ n1_ n2_ n3_; clear hb hbox hg; have hcz23_0 : w22.cell? ⟨gb683, 0, none⟩ = some (.slice A0_0 l0_0.length c0_0) := (blk_cell BK683.out 0).trans rfl; have hcz23_1 : w22.cell? ⟨gb683, 1, none⟩ = some (.int .i64 a0_1) := (blk_cell BK683.out 1).trans rfl; have hcz23_2 : w22.cell? ⟨gb683, 2, none⟩ = some (.int .i64 a0_2) := (blk_cell BK683.out 2).trans rfl; have hcz23_3 : w22.cell? ⟨gb683, 3, none⟩ = some (.string a0_3) := (blk_cell BK683.out 3).trans rfl; have hfz23_0 := blk_frozen BK683.out 0; have hfz23_1 := blk_frozen BK683.out 1; have hfz23_2 := blk_frozen BK683.out 2; have hfz23_3 := blk_frozen BK683.out 3) | (go_at_call 100; (with_reducible refine (impl_SetOk.calls k _ _ l0_0 false _ ?side1 ?side2 A3.out).mono ?_); (case side1 => repeat (first | exact (Kd.C_below HR0_0.out HB.out) | (with_reducible refine Kd.C_alloc ?_ _) | (with_reducible refine Kd.C_drewN ?_ _) | (with_reducible refine Kd.C_drew ?_))); (case side2 => exact HC0_0.out); rintro e w24 ⟨rfl, hb⟩; have n0_ := Aside0.mk (blk_below (g := gb683) (o := .cells #[.slice A0_0 l0_0.length c0_0, .int .i64 a0_1, .int .i64 a0_2, .string a0_3] 57 (0, 0)) (by (with_reducible repeat (first | refine blk_drewN ?_ _ | refine blk_drew ?_ | refine blk_alloc ?_ _)); exact BK683.out) hb); have n1_ := Aside0.mk (below_step (by repeat (first | (with_reducible first | exact HB.out | apply below_alloc | apply pw_below_drewN | apply below_drew1 | refine below_set ?_ GE683.out) | exact HB.out)) hb); clear BK683; clear HB; have BK683 := n0_; have HB := n1_; clear n0_ n1_; (try clear hb); (try clear hb2); (try clear hk); (try clear hi)))
   go_ret
   exact ⟨by first | rfl | (simp [errW_none, errW_some] <;> rfl) | (simp [*, errW_none, errW_some] <;> rfl), by repeat (first | (with_reducible first | exact HB.out | apply below_alloc | apply pw_below_drewN | apply below_drew1 | refine below_set ?_ GE683.out) | exact HB.out)⟩
 ·
  rw [if_neg c2] at H
  have c2b0 : decide (0 < (l0_0.length : Int)) = false := decide_eq_false c2
  have c2b1 : decide (0 < l0_0.length) = false := decide_eq_false (by omega)
  clear c2
  obtain rfl := Option.some.inj H
  go_enter Try.func83, Try.ntmps83
  go_wp2_with (first | ((with_reducible refine gate_dst (N := 1) rfl ?_); refine box_event ?hg (N := 1) ?hd (cs := #[.slice A0_0 l0_0.length c0_0, .int .i64 a0_1, .int .i64 a0_2, .string a0_3]) (t := 57) ?hr ?_; (case hd => rfl); (case hg => rfl); (case hr => first | (go_simp; done) | (go_simp; rfl)); intro gb683 hg w25 hbox hb; have n0_ := Aside0.mk (below_step (by repeat (first | (with_reducible first | exact HB.out | apply below_alloc | apply pw_below_drewN | apply below_drew1) | exact HB.out)) hb); have n1_ := Aside0.mk (hbox); have n2_ := Aside0.mk ((by rw [hg]; exact (below_size (by repeat (first | (with_reducible first | exact HB.out | apply below_alloc | apply pw_below_drewN | apply below_drew1) | exact HB.out))) : w.heap.size ≤ gb683)); have n3_ := Aside0.mk ((by rw [hg]; exact (below_size (by repeat (first | (with_reducible first | exact HB.out | apply below_alloc | apply pw_below_drewN | apply below_drew1) | exact HB.out))) : w.heap.size ≤ gb683)); clear HB; have HB := n0_; have BK683 := n1_; have GW683 := n2_; have GE683 := n3_; clear n0_ n1_ n2_ n3_; clear hb hbox hg; have hcz26_0 : w25.cell? ⟨gb683, 0, none⟩ = some (.slice A0_0 l0_0.length c0_0) := (blk_cell BK683.out 0).trans rfl; have hcz26_1 : w25.cell? ⟨gb683, 1, none⟩ = some (.int .i64 a0_1) := (blk_cell BK683.out 1).trans rfl; have hcz26_2 : w25.cell? ⟨gb683, 2, none⟩ = some (.int .i64 a0_2) := (blk_cell BK683.out 2).trans rfl; have hcz26_3 : w25.cell? ⟨gb683, 3, none⟩ = some (.string a0_3) := (blk_cell BK683.out 3).trans rfl; have hfz26_0 := blk_frozen BK683.out 0; have hfz26_1 := blk_frozen BK683.out 1; have hfz26_2 := blk_frozen BK683.out 2; have hfz26_3 := blk_frozen BK683.out 3))
  go_ret
  exact ⟨by first | rfl | (simp [errW_none, errW_some] <;> rfl) | (simp [*, errW_none, errW_some] <;> rfl), by repeat (first | (with_reducible first | exact HB.out | apply below_alloc | apply pw_below_drewN | apply below_drew1 | refine below_set ?_ GE683.out) | exact HB.out)⟩

end Go.Proofs.Ytmmaondenopnpaa.Print
