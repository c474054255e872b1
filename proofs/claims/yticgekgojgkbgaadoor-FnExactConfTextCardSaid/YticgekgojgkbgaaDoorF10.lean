-- Written by printx.py, a program of this session (wip/gen), over the kit's print.py.
import Derived.Test.YticgekgojgkbgaaDoorF0
import Derived.Test.YticgekgojgkbgaaDoorF8
import Derived.Test.YticgekgojgkbgaaDoorF9
namespace Go.Proofs.YticgekgojgkbgaaDoor.Print
open Go.RowKit Go.Proofs.YticgekgojgkbgaaDoorV.PrintWords Go.Proofs.YticgekgojgkbgaaDoorV.PrintLast Go.Proofs.YticgekgojgkbgaaDoorV.PrintMore
attribute [local go_sem] max2_int min2_int max_two min_two max_three min_three max_four min_four   -- for this text's walks alone
set_option linter.unusedVariables false
set_option linter.unusedSimpArgs false

/-! ### spec_ConfText: function 5 -/
def spec_ConfText.l0 : Nat → ByteArray → Int → Int → Int → Int → Int → Int → List ByteArray → Option (ByteArray)
 | 0, _, _, _, _, _, _, _, _ => none
 | k + 1, x3, x4, x125000, x125001, x125002, x125003, x125004, x125005 => if x4 < (x125005.length : Int) then (if x4 = 0 then (if 0 ≤ x4 then (spec_ConfText.l0 k (rdOf ByteArray.empty x125005 x4) (wrap64 (x4 + 1)) x125000 x125001 x125002 x125003 x125004 x125005) else (none)) else (if x3.size + 1 ≤ 9223372036854775807 then (if 0 ≤ x4 then (if (x3 ++ (⟨#[44]⟩ : ByteArray)).size + (rdOf ByteArray.empty x125005 x4).size ≤ 9223372036854775807 then (spec_ConfText.l0 k ((x3 ++ (⟨#[44]⟩ : ByteArray)) ++ (rdOf ByteArray.empty x125005 x4)) (wrap64 (x4 + 1)) x125000 x125001 x125002 x125003 x125004 x125005) else (none)) else (none)) else (none))) else ((spec_NumText.f k x125000).bind fun t128 => (if 6 + t128.size ≤ 9223372036854775807 then (if ((⟨#[112, 97, 114, 116, 115, 32]⟩ : ByteArray) ++ t128).size + 5 ≤ 9223372036854775807 then ((spec_NumText.f k x125001).bind fun t129 => (if (((⟨#[112, 97, 114, 116, 115, 32]⟩ : ByteArray) ++ t128) ++ (⟨#[32, 99, 97, 112, 32]⟩ : ByteArray)).size + t129.size ≤ 9223372036854775807 then (if ((((⟨#[112, 97, 114, 116, 115, 32]⟩ : ByteArray) ++ t128) ++ (⟨#[32, 99, 97, 112, 32]⟩ : ByteArray)) ++ t129).size + 6 ≤ 9223372036854775807 then ((spec_NumText.f k x125002).bind fun t130 => (if (((((⟨#[112, 97, 114, 116, 115, 32]⟩ : ByteArray) ++ t128) ++ (⟨#[32, 99, 97, 112, 32]⟩ : ByteArray)) ++ t129) ++ (⟨#[32, 115, 117, 98, 115, 32]⟩ : ByteArray)).size + t130.size ≤ 9223372036854775807 then (if ((((((⟨#[112, 97, 114, 116, 115, 32]⟩ : ByteArray) ++ t128) ++ (⟨#[32, 99, 97, 112, 32]⟩ : ByteArray)) ++ t129) ++ (⟨#[32, 115, 117, 98, 115, 32]⟩ : ByteArray)) ++ t130).size + 6 ≤ 9223372036854775807 then ((spec_NumText.f k x125003).bind fun t131 => (if (((((((⟨#[112, 97, 114, 116, 115, 32]⟩ : ByteArray) ++ t128) ++ (⟨#[32, 99, 97, 112, 32]⟩ : ByteArray)) ++ t129) ++ (⟨#[32, 115, 117, 98, 115, 32]⟩ : ByteArray)) ++ t130) ++ (⟨#[32, 119, 97, 105, 116, 32]⟩ : ByteArray)).size + t131.size ≤ 9223372036854775807 then (if ((((((((⟨#[112, 97, 114, 116, 115, 32]⟩ : ByteArray) ++ t128) ++ (⟨#[32, 99, 97, 112, 32]⟩ : ByteArray)) ++ t129) ++ (⟨#[32, 115, 117, 98, 115, 32]⟩ : ByteArray)) ++ t130) ++ (⟨#[32, 119, 97, 105, 116, 32]⟩ : ByteArray)) ++ t131).size + 7 ≤ 9223372036854775807 then ((spec_NumText.f k x125004).bind fun t132 => (if (((((((((⟨#[112, 97, 114, 116, 115, 32]⟩ : ByteArray) ++ t128) ++ (⟨#[32, 99, 97, 112, 32]⟩ : ByteArray)) ++ t129) ++ (⟨#[32, 115, 117, 98, 115, 32]⟩ : ByteArray)) ++ t130) ++ (⟨#[32, 119, 97, 105, 116, 32]⟩ : ByteArray)) ++ t131) ++ (⟨#[32, 101, 118, 101, 114, 121, 32]⟩ : ByteArray)).size + t132.size ≤ 9223372036854775807 then (if ((((((((((⟨#[112, 97, 114, 116, 115, 32]⟩ : ByteArray) ++ t128) ++ (⟨#[32, 99, 97, 112, 32]⟩ : ByteArray)) ++ t129) ++ (⟨#[32, 115, 117, 98, 115, 32]⟩ : ByteArray)) ++ t130) ++ (⟨#[32, 119, 97, 105, 116, 32]⟩ : ByteArray)) ++ t131) ++ (⟨#[32, 101, 118, 101, 114, 121, 32]⟩ : ByteArray)) ++ t132).size + 4 ≤ 9223372036854775807 then (if (((((((((((⟨#[112, 97, 114, 116, 115, 32]⟩ : ByteArray) ++ t128) ++ (⟨#[32, 99, 97, 112, 32]⟩ : ByteArray)) ++ t129) ++ (⟨#[32, 115, 117, 98, 115, 32]⟩ : ByteArray)) ++ t130) ++ (⟨#[32, 119, 97, 105, 116, 32]⟩ : ByteArray)) ++ t131) ++ (⟨#[32, 101, 118, 101, 114, 121, 32]⟩ : ByteArray)) ++ t132) ++ (⟨#[32, 98, 121, 32]⟩ : ByteArray)).size + x3.size ≤ 9223372036854775807 then (some ((((((((((((⟨#[112, 97, 114, 116, 115, 32]⟩ : ByteArray) ++ t128) ++ (⟨#[32, 99, 97, 112, 32]⟩ : ByteArray)) ++ t129) ++ (⟨#[32, 115, 117, 98, 115, 32]⟩ : ByteArray)) ++ t130) ++ (⟨#[32, 119, 97, 105, 116, 32]⟩ : ByteArray)) ++ t131) ++ (⟨#[32, 101, 118, 101, 114, 121, 32]⟩ : ByteArray)) ++ t132) ++ (⟨#[32, 98, 121, 32]⟩ : ByteArray)) ++ x3)) else (none)) else (none)) else (none))) else (none)) else (none))) else (none)) else (none))) else (none)) else (none))) else (none)) else (none)))
def spec_ConfText.f (k : Nat) (a0_0 : Int) (a0_1 : Int) (a0_2 : Int) (a0_3 : Int) (a0_4 : Int) (l0_5 : List ByteArray) : Option (ByteArray) := (spec_ConfOk.f k a0_0 a0_1 a0_2 a0_3 a0_4 l0_5).bind fun t125 => (if t125 = true then (spec_ConfText.l0 k (⟨#[45]⟩ : ByteArray) 0 a0_0 a0_1 a0_2 a0_3 a0_4 l0_5) else (some (⟨#[]⟩ : ByteArray)))
theorem spec_ConfText.mono_l : ∀ k, (∀ y0 y1 y2 y3 y4 y5 y6 y7, LeO (spec_ConfText.l0 k y0 y1 y2 y3 y4 y5 y6 y7) (spec_ConfText.l0 (k + 1) y0 y1 y2 y3 y4 y5 y6 y7))
 | 0 => fun _ _ _ _ _ _ _ _ r h => by simp [spec_ConfText.l0] at h
 | k + 1 => by
  have ih0 := spec_ConfText.mono_l k
  ·
   intro y0 y1 y2 y3 y4 y5 y6 y7
   unfold spec_ConfText.l0
   repeat' first
   | (with_reducible exact ih0 _ _ _ _ _ _ _ _)
   | (with_reducible exact spec_ConfOk.mono _ _ _ _ _ _ _)
   | (with_reducible exact spec_NumText.mono _ _)
   | (with_reducible exact LeO.refl _)
   | (with_reducible exact LeO.none _)
   | (with_reducible refine LeO.ite ?_ ?_)
   | (with_reducible refine LeO.bind ?_ (fun _ => ?_))
   | exact ih0 _ _ _ _ _ _ _ _
   | exact spec_ConfOk.mono _ _ _ _ _ _ _
   | exact spec_NumText.mono _ _
   | exact LeO.none _
   | refine LeO.ite ?_ ?_
   | refine LeO.bind ?_ (fun _ => ?_)
theorem spec_ConfText.mono : ∀ a0 a1 a2 a3 a4 a5 k, LeO (spec_ConfText.f k a0 a1 a2 a3 a4 a5) (spec_ConfText.f (k + 1) a0 a1 a2 a3 a4 a5) := by
 intro a0 a1 a2 a3 a4 a5 k
 have ih0 := spec_ConfText.mono_l k
 unfold spec_ConfText.f
 repeat' first
   | (with_reducible exact ih0 _ _ _ _ _ _ _ _)
   | (with_reducible exact spec_ConfOk.mono _ _ _ _ _ _ _)
   | (with_reducible exact spec_NumText.mono _ _)
   | (with_reducible exact LeO.refl _)
   | (with_reducible exact LeO.none _)
   | (with_reducible refine LeO.ite ?_ ?_)
   | (with_reducible refine LeO.bind ?_ (fun _ => ?_))
   | exact ih0 _ _ _ _ _ _ _ _
   | exact spec_ConfOk.mono _ _ _ _ _ _ _
   | exact spec_NumText.mono _ _
   | exact LeO.none _
   | refine LeO.ite ?_ ?_
   | refine LeO.bind ?_ (fun _ => ?_)
def spec_ConfText.T10 : Bool × List (List Nat × List Nat) := (true, [([], []), ([0], [0]), ([1], [1]), ([2], [2]), ([3], [3]), ([], []), ([5], [5]), ([6, 2], [6]), ([4, 7], [4, 7]), ([8], [8]), ([], []), ([10], [10]), ([11, 7], [11]), ([9, 12], [9, 12]), ([13], [13]), ([], []), ([15], [15]), ([16, 12], [16]), ([14, 17], [14, 17]), ([18], [18]), ([], []), ([20], [20]), ([21, 17], [21]), ([19, 22], [19, 22]), ([23], [23]), ([], []), ([24, 25], [24, 25]), ([26, 22, 0, 1, 2, 3, 4, 5, 6, 7, 8, 9, 10, 11, 12, 13, 14, 15, 16, 17, 18, 19, 20, 21, 22, 23, 24, 25, 26], [26])])
def spec_ConfText.B10 : List Nat := [0, 1, 3, 7, 15, 0, 32, 103, 255, 511, 0, 1024, 3303, 8191, 16383, 0, 32768, 105703, 262143, 524287, 0, 1048576, 3382503, 8388607, 16777215, 0, 67108863, 134217727]
theorem spec_ConfText.tab10 : rtab .any (opsOf Tryd.f5 10) = spec_ConfText.T10 := by kernel_rfl
theorem spec_ConfText.bits10 : waitsOk spec_ConfText.T10.2 spec_ConfText.B10 = true := by kernel_rfl
set_option maxHeartbeats 8000000 in
set_option maxRecDepth 100000 in
theorem spec_ConfText.calls (k : Nat) (a0_0 : Int) (a0_1 : Int) (a0_2 : Int) (a0_3 : Int) (a0_4 : Int) (A0_5 : Option Addr) (c0_5 : Nat) (l0_5 : List ByteArray) (r : ByteArray) (w : World) (hr0_5 : Kd.C Kd.string w A0_5 l0_5.length l0_5) (hc0_5 : l0_5.length ≤ c0_5) (h : spec_ConfText.f k a0_0 a0_1 a0_2 a0_3 a0_4 l0_5 = some r) :
  Calls Tryd.prog 5 #[.agg #[.int .i64 a0_0, .int .i64 a0_1, .int .i64 a0_2, .int .i64 a0_3, .int .i64 a0_4, .slice A0_5 l0_5.length c0_5]] w fun e w' => e = .returned (.string r) ∧ Below w.heap.size w w' := by
 have hu27 := Tryd.underlying27
 have HR0_5 := Aside0.mk hr0_5
 have HC0_5 := Aside0.mk hc0_5
 clear hr0_5 hc0_5
 have HB := Aside0.mk (Below.refl w.heap.size w)
 have H : ((spec_ConfOk.f k a0_0 a0_1 a0_2 a0_3 a0_4 l0_5).bind fun t125 => (if t125 = true then (spec_ConfText.l0 k (⟨#[45]⟩ : ByteArray) 0 a0_0 a0_1 a0_2 a0_3 a0_4 l0_5) else (some (⟨#[]⟩ : ByteArray)))) = some r := h
 clear h
 replace H := Option.bind_eq_some_iff.mp H
 obtain ⟨t125, A20, H⟩ := H
 replace H : (if t125 = true then (spec_ConfText.l0 k (⟨#[45]⟩ : ByteArray) 0 a0_0 a0_1 a0_2 a0_3 a0_4 l0_5) else (some (⟨#[]⟩ : ByteArray))) = some r := H
 have A2 := Aside0.mk A20
 clear A20
 by_cases c3 : t125 = true
 ·
  subst c3
  have H1 : (spec_ConfText.l0 k (⟨#[45]⟩ : ByteArray) 0 a0_0 a0_1 a0_2 a0_3 a0_4 l0_5) = some r := by rw [if_pos rfl] at H; exact H
  clear H
  have H := H1
  clear H1
  have H' := Aside0.mk H
  clear H
  go_enter Tryd.func5, Tryd.ntmps5
  go_wp2_with (first | ((with_reducible refine gate_dst (N := 1) rfl ?_); refine box_event ?hg (N := 1) ?hd (cs := #[.int .i64 a0_0, .int .i64 a0_1, .int .i64 a0_2, .int .i64 a0_3, .int .i64 a0_4, .slice A0_5 l0_5.length c0_5]) (t := 27) ?hr ?_; (case hd => rfl); (case hg => rfl); (case hr => first | (go_simp; done) | (go_simp; rfl)); intro gb124 hg w4 hbox hb; have n0_ := Aside0.mk (below_step (by repeat (first | (with_reducible first | exact HB.out | apply below_alloc | apply pw_below_drewN | apply below_drew1) | exact HB.out)) hb); have n1_ := Aside0.mk (hbox); have n2_ := Aside0.mk ((by rw [hg]; exact (below_size (by repeat (first | (with_reducible first | exact HB.out | apply below_alloc | apply pw_below_drewN | apply below_drew1) | exact HB.out))) : w.heap.size ≤ gb124)); have n3_ := Aside0.mk ((by rw [hg]; exact (below_size (by repeat (first | (with_reducible first | exact HB.out | apply below_alloc | apply pw_below_drewN | apply below_drew1) | exact HB.out))) : w.heap.size ≤ gb124)); clear HB; have HB := n0_; have BK124 := n1_; have GW124 := n2_; have GE124 := n3_; clear n0_ n1_ n2_ n3_; clear hb hbox hg; have hcz5_0 : w4.cell? ⟨gb124, 0, none⟩ = some (.int .i64 a0_0) := (blk_cell BK124.out 0).trans rfl; have hcz5_1 : w4.cell? ⟨gb124, 1, none⟩ = some (.int .i64 a0_1) := (blk_cell BK124.out 1).trans rfl; have hcz5_2 : w4.cell? ⟨gb124, 2, none⟩ = some (.int .i64 a0_2) := (blk_cell BK124.out 2).trans rfl; have hcz5_3 : w4.cell? ⟨gb124, 3, none⟩ = some (.int .i64 a0_3) := (blk_cell BK124.out 3).trans rfl; have hcz5_4 : w4.cell? ⟨gb124, 4, none⟩ = some (.int .i64 a0_4) := (blk_cell BK124.out 4).trans rfl; have hcz5_5 : w4.cell? ⟨gb124, 5, none⟩ = some (.slice A0_5 l0_5.length c0_5) := (blk_cell BK124.out 5).trans rfl; have hfz5_0 := blk_frozen BK124.out 0; have hfz5_1 := blk_frozen BK124.out 1; have hfz5_2 := blk_frozen BK124.out 2; have hfz5_3 := blk_frozen BK124.out 3; have hfz5_4 := blk_frozen BK124.out 4; have hfz5_5 := blk_frozen BK124.out 5) | ((with_reducible refine gate_callee (f := 10) rfl ?_); refine goesL_ (some 6) rfl rfl Tryd.func10 (by kernel_rfl) rfl #[.agg #[.int .i64 a0_0, .int .i64 a0_1, .int .i64 a0_2, .int .i64 a0_3, .int .i64 a0_4, .slice A0_5 l0_5.length c0_5]] rfl (by (try simp only [List.map_toArray, List.map_cons, List.map_nil]); first | done | rfl | (simp only [List.length_drop, List.length_take]; rfl)) ?_; (with_reducible refine (spec_ConfOk.calls k a0_0 a0_1 a0_2 a0_3 a0_4 _ _ l0_5 true _ ?side1 ?side2 A2.out).mono ?_); (case side1 => repeat (first | exact (Kd.C_below HR0_5.out HB.out) | (with_reducible refine Kd.C_alloc ?_ _) | (with_reducible refine Kd.C_drewN ?_ _) | (with_reducible refine Kd.C_drew ?_))); (case side2 => exact HC0_5.out); rintro e w6 ⟨rfl, hb⟩; refine ⟨_, rfl, ?_⟩; have n0_ := Aside0.mk (blk_below (g := gb124) (o := .cells #[.int .i64 a0_0, .int .i64 a0_1, .int .i64 a0_2, .int .i64 a0_3, .int .i64 a0_4, .slice A0_5 l0_5.length c0_5] 27 (0, 0)) (by (with_reducible repeat (first | refine blk_drewN ?_ _ | refine blk_drew ?_ | refine blk_alloc ?_ _)); exact BK124.out) hb); have n1_ := Aside0.mk (below_step (by repeat (first | (with_reducible first | exact HB.out | apply below_alloc | apply pw_below_drewN | apply below_drew1 | refine below_set ?_ GE124.out) | exact HB.out)) hb); clear BK124; clear HB; have BK124 := n0_; have HB := n1_; clear n0_ n1_; (try clear hb); (try clear hb2); (try clear hk); (try clear hi)))
  go_loopg [3, 4] k (fun kq v3 v4 w' => ∃ (x3_1 : ByteArray) (x4_1 : Int), v3 = .string x3_1 ∧ v4 = .int .i64 x4_1 ∧ Aside0 (spec_ConfText.l0 kq x3_1 x4_1 a0_0 a0_1 a0_2 a0_3 a0_4 l0_5 = some r) ∧ Aside0 (kq ≤ k) ∧ Aside0 (w'.heap[gb124]? = some (.cells #[.int .i64 a0_0, .int .i64 a0_1, .int .i64 a0_2, .int .i64 a0_3, .int .i64 a0_4, (.slice A0_5 l0_5.length c0_5)] 27 (0, 0))) ∧ Aside0 (Below w.heap.size w w'))
  case atStart => exact ⟨((⟨#[45]⟩ : ByteArray)), (0), (by first | rfl | (simp; done) | (simp [*]; done)), (by first | rfl | (simp; done) | (simp [*]; done)), H', ⟨Nat.le_refl _⟩, ⟨by (with_reducible repeat (first | refine blk_drewN ?_ _ | refine blk_drew ?_ | refine blk_alloc ?_ _)); exact BK124.out⟩, ⟨by repeat (first | (with_reducible first | exact HB.out | apply below_alloc | apply pw_below_drewN | apply below_drew1 | refine below_set ?_ GE124.out) | exact HB.out)⟩⟩
  case round =>
   clear H'
   try clear c1
   try clear p2
   try clear c3
   try clear c5
   try clear hcz5_0
   try clear hcz5_1
   try clear hcz5_2
   try clear hcz5_3
   try clear hcz5_4
   try clear hcz5_5
   try clear hfz5_0
   try clear hfz5_1
   try clear hfz5_2
   try clear hfz5_3
   try clear hfz5_4
   try clear hfz5_5
   obtain ⟨x3_1, x4_1, rfl, rfl, HA, HK1, BK124, HB⟩ := hrel
   cases gk with
   | zero => exact absurd HA.out (by simp [spec_ConfText.l0])
   | succ k1 =>
    have H := HA.out
    clear HA
    simp only [spec_ConfText.l0] at H
    by_cases c7 : x4_1 < (l0_5.length : Int)
    ·
     rw [if_pos c7] at H
     have c7b0 : decide (x4_1 < (l0_5.length : Int)) = true := decide_eq_true c7
     clear c7
     by_cases c8 : x4_1 = 0
     ·
      rw [if_pos c8] at H
      have c8b0 : (x4_1 == 0) = true := beq_iff_eq.mpr c8
      have c8b1 : (x4_1 != 0) = false := bne_eq_false_iff_eq.mpr c8
      clear c8
      by_cases c9 : 0 ≤ x4_1
      ·
       rw [if_pos c9] at H
       have c9b0 : decide (0 ≤ x4_1) = true := decide_eq_true c9
       clear c9
       have H' := Aside0.mk H
       clear H
       have hcz10_0 : wr.cell? ⟨gb124, 0, none⟩ = some (.int .i64 a0_0) := (blk_cell BK124.out 0).trans rfl
       have hcz10_1 : wr.cell? ⟨gb124, 1, none⟩ = some (.int .i64 a0_1) := (blk_cell BK124.out 1).trans rfl
       have hcz10_2 : wr.cell? ⟨gb124, 2, none⟩ = some (.int .i64 a0_2) := (blk_cell BK124.out 2).trans rfl
       have hcz10_3 : wr.cell? ⟨gb124, 3, none⟩ = some (.int .i64 a0_3) := (blk_cell BK124.out 3).trans rfl
       have hcz10_4 : wr.cell? ⟨gb124, 4, none⟩ = some (.int .i64 a0_4) := (blk_cell BK124.out 4).trans rfl
       have hcz10_5 : wr.cell? ⟨gb124, 5, none⟩ = some (.slice A0_5 l0_5.length c0_5) := (blk_cell BK124.out 5).trans rfl
       have hfz10_0 := blk_frozen BK124.out 0
       have hfz10_1 := blk_frozen BK124.out 1
       have hfz10_2 := blk_frozen BK124.out 2
       have hfz10_3 := blk_frozen BK124.out 3
       have hfz10_4 := blk_frozen BK124.out 4
       have hfz10_5 := blk_frozen BK124.out 5
       have p126 : 0 ≤ (x4_1 : Int) := of_decide_eq_true (by first | (with_reducible assumption) | assumption)
       have q126 : x4_1 < (l0_5.length : Int) := of_decide_eq_true (by first | (with_reducible assumption) | assumption)
       obtain ⟨ad126, e126, hx126_0⟩ := Kd.at_string HR0_5.out x4_1 p126 q126
       cases e126
       replace hx126_0 := (HB.out.cell (World.block_lt_of_cell? w _ hx126_0)).trans hx126_0
       replace p126 := eq_true p126
       replace q126 := eq_true q126
       go_wp2
       go_roundg k1
       case measure => have := HK1.out; omega
       case rel => exact ⟨(rdOf ByteArray.empty l0_5 x4_1), (wrap64 (x4_1 + 1)), (by first | rfl | (simp; done) | (simp [*]; done)), (by first | rfl | (simp; done) | (simp [*]; done)), H', ⟨by have := HK1.out; omega⟩, ⟨by (with_reducible repeat (first | refine blk_drewN ?_ _ | refine blk_drew ?_ | refine blk_alloc ?_ _)); exact BK124.out⟩, ⟨by repeat (first | (with_reducible first | exact HB.out | apply below_alloc | apply pw_below_drewN | apply below_drew1 | refine below_set ?_ GE124.out) | exact HB.out)⟩⟩
      ·
       rw [if_neg c9] at H
       exact absurd H (by simp)
     ·
      rw [if_neg c8] at H
      have c8b0 : (x4_1 == 0) = false := beq_eq_false_iff_ne.mpr c8
      have c8b1 : (x4_1 != 0) = true := bne_iff_ne.mpr c8
      by_cases c11 : x3_1.size + 1 ≤ 9223372036854775807
      ·
       rw [if_pos c11] at H
       have c11b0 := eq_true c11
       have c11b1 : decide (x3_1.size + 1 ≤ 9223372036854775807) = true := decide_eq_true c11
       try have c11b2 : (9223372036854775807 < x3_1.size + 1) = False := eq_false (Nat.not_lt.2 c11)
       by_cases c12 : 0 ≤ x4_1
       ·
        rw [if_pos c12] at H
        have c12b0 : decide (0 ≤ x4_1) = true := decide_eq_true c12
        clear c12
        by_cases c13 : (x3_1 ++ (⟨#[44]⟩ : ByteArray)).size + (rdOf ByteArray.empty l0_5 x4_1).size ≤ 9223372036854775807
        ·
         rw [if_pos c13] at H
         have c13b0 := eq_true c13
         have c13b1 : decide ((x3_1 ++ (⟨#[44]⟩ : ByteArray)).size + (rdOf ByteArray.empty l0_5 x4_1).size ≤ 9223372036854775807) = true := decide_eq_true c13
         try have c13b2 : (9223372036854775807 < (x3_1 ++ (⟨#[44]⟩ : ByteArray)).size + (rdOf ByteArray.empty l0_5 x4_1).size) = False := eq_false (Nat.not_lt.2 c13)
         have c13s := c13
         simp only [ByteArray.size_append, show (⟨#[44]⟩ : ByteArray).size = 1 from rfl] at c13s
         have c13b3 := eq_false (Nat.not_lt.2 c13s)
         have c13b4 := decide_eq_true c13s
         have c13b5 := eq_true c13s
         clear c13s
         have H' := Aside0.mk H
         clear H
         have hcz14_0 : wr.cell? ⟨gb124, 0, none⟩ = some (.int .i64 a0_0) := (blk_cell BK124.out 0).trans rfl
         have hcz14_1 : wr.cell? ⟨gb124, 1, none⟩ = some (.int .i64 a0_1) := (blk_cell BK124.out 1).trans rfl
         have hcz14_2 : wr.cell? ⟨gb124, 2, none⟩ = some (.int .i64 a0_2) := (blk_cell BK124.out 2).trans rfl
         have hcz14_3 : wr.cell? ⟨gb124, 3, none⟩ = some (.int .i64 a0_3) := (blk_cell BK124.out 3).trans rfl
         have hcz14_4 : wr.cell? ⟨gb124, 4, none⟩ = some (.int .i64 a0_4) := (blk_cell BK124.out 4).trans rfl
         have hcz14_5 : wr.cell? ⟨gb124, 5, none⟩ = some (.slice A0_5 l0_5.length c0_5) := (blk_cell BK124.out 5).trans rfl
         have hfz14_0 := blk_frozen BK124.out 0
         have hfz14_1 := blk_frozen BK124.out 1
         have hfz14_2 := blk_frozen BK124.out 2
         have hfz14_3 := blk_frozen BK124.out 3
         have hfz14_4 := blk_frozen BK124.out 4
         have hfz14_5 := blk_frozen BK124.out 5
         have p127 : 0 ≤ (x4_1 : Int) := of_decide_eq_true (by first | (with_reducible assumption) | assumption)
         have q127 : x4_1 < (l0_5.length : Int) := of_decide_eq_true (by first | (with_reducible assumption) | assumption)
         obtain ⟨ad127, e127, hx127_0⟩ := Kd.at_string HR0_5.out x4_1 p127 q127
         cases e127
         replace hx127_0 := (HB.out.cell (World.block_lt_of_cell? w _ hx127_0)).trans hx127_0
         replace p127 := eq_true p127
         replace q127 := eq_true q127
         go_wp2
         go_roundg k1
         case measure => have := HK1.out; omega
         case rel => exact ⟨((x3_1 ++ (⟨#[44]⟩ : ByteArray)) ++ (rdOf ByteArray.empty l0_5 x4_1)), (wrap64 (x4_1 + 1)), (by first | rfl | (simp; done) | (simp [*]; done)), (by first | rfl | (simp; done) | (simp [*]; done)), H', ⟨by have := HK1.out; omega⟩, ⟨by (with_reducible repeat (first | refine blk_drewN ?_ _ | refine blk_drew ?_ | refine blk_alloc ?_ _)); exact BK124.out⟩, ⟨by repeat (first | (with_reducible first | exact HB.out | apply below_alloc | apply pw_below_drewN | apply below_drew1 | refine below_set ?_ GE124.out) | exact HB.out)⟩⟩
        ·
         rw [if_neg c13] at H
         exact absurd H (by simp)
       ·
        rw [if_neg c12] at H
        exact absurd H (by simp)
      ·
       rw [if_neg c11] at H
       exact absurd H (by simp)
    ·
     rw [if_neg c7] at H
     have c7b0 : decide (x4_1 < (l0_5.length : Int)) = false := decide_eq_false c7
     clear c7
     replace H := Option.bind_eq_some_iff.mp H
     obtain ⟨t128, A150, H⟩ := H
     replace H : (if 6 + t128.size ≤ 9223372036854775807 then (if ((⟨#[112, 97, 114, 116, 115, 32]⟩ : ByteArray) ++ t128).size + 5 ≤ 9223372036854775807 then ((spec_NumText.f k1 a0_1).bind fun t129 => (if (((⟨#[112, 97, 114, 116, 115, 32]⟩ : ByteArray) ++ t128) ++ (⟨#[32, 99, 97, 112, 32]⟩ : ByteArray)).size + t129.size ≤ 9223372036854775807 then (if ((((⟨#[112, 97, 114, 116, 115, 32]⟩ : ByteArray) ++ t128) ++ (⟨#[32, 99, 97, 112, 32]⟩ : ByteArray)) ++ t129).size + 6 ≤ 9223372036854775807 then ((spec_NumText.f k1 a0_2).bind fun t130 => (if (((((⟨#[112, 97, 114, 116, 115, 32]⟩ : ByteArray) ++ t128) ++ (⟨#[32, 99, 97, 112, 32]⟩ : ByteArray)) ++ t129) ++ (⟨#[32, 115, 117, 98, 115, 32]⟩ : ByteArray)).size + t130.size ≤ 9223372036854775807 then (if ((((((⟨#[112, 97, 114, 116, 115, 32]⟩ : ByteArray) ++ t128) ++ (⟨#[32, 99, 97, 112, 32]⟩ : ByteArray)) ++ t129) ++ (⟨#[32, 115, 117, 98, 115, 32]⟩ : ByteArray)) ++ t130).size + 6 ≤ 9223372036854775807 then ((spec_NumText.f k1 a0_3).bind fun t131 => (if (((((((⟨#[112, 97, 114, 116, 115, 32]⟩ : ByteArray) ++ t128) ++ (⟨#[32, 99, 97, 112, 32]⟩ : ByteArray)) ++ t129) ++ (⟨#[32, 115, 117, 98, 115, 32]⟩ : ByteArray)) ++ t130) ++ (⟨#[32, 119, 97, 105, 116, 32]⟩ : ByteArray)).size + t131.size ≤ 9223372036854775807 then (if ((((((((⟨#[112, 97, 114, 116, 115, 32]⟩ : ByteArray) ++ t128) ++ (⟨#[32, 99, 97, 112, 32]⟩ : ByteArray)) ++ t129) ++ (⟨#[32, 115, 117, 98, 115, 32]⟩ : ByteArray)) ++ t130) ++ (⟨#[32, 119, 97, 105, 116, 32]⟩ : ByteArray)) ++ t131).size + 7 ≤ 9223372036854775807 then ((spec_NumText.f k1 a0_4).bind fun t132 => (if (((((((((⟨#[112, 97, 114, 116, 115, 32]⟩ : ByteArray) ++ t128) ++ (⟨#[32, 99, 97, 112, 32]⟩ : ByteArray)) ++ t129) ++ (⟨#[32, 115, 117, 98, 115, 32]⟩ : ByteArray)) ++ t130) ++ (⟨#[32, 119, 97, 105, 116, 32]⟩ : ByteArray)) ++ t131) ++ (⟨#[32, 101, 118, 101, 114, 121, 32]⟩ : ByteArray)).size + t132.size ≤ 9223372036854775807 then (if ((((((((((⟨#[112, 97, 114, 116, 115, 32]⟩ : ByteArray) ++ t128) ++ (⟨#[32, 99, 97, 112, 32]⟩ : ByteArray)) ++ t129) ++ (⟨#[32, 115, 117, 98, 115, 32]⟩ : ByteArray)) ++ t130) ++ (⟨#[32, 119, 97, 105, 116, 32]⟩ : ByteArray)) ++ t131) ++ (⟨#[32, 101, 118, 101, 114, 121, 32]⟩ : ByteArray)) ++ t132).size + 4 ≤ 9223372036854775807 then (if (((((((((((⟨#[112, 97, 114, 116, 115, 32]⟩ : ByteArray) ++ t128) ++ (⟨#[32, 99, 97, 112, 32]⟩ : ByteArray)) ++ t129) ++ (⟨#[32, 115, 117, 98, 115, 32]⟩ : ByteArray)) ++ t130) ++ (⟨#[32, 119, 97, 105, 116, 32]⟩ : ByteArray)) ++ t131) ++ (⟨#[32, 101, 118, 101, 114, 121, 32]⟩ : ByteArray)) ++ t132) ++ (⟨#[32, 98, 121, 32]⟩ : ByteArray)).size + x3_1.size ≤ 9223372036854775807 then (some ((((((((((((⟨#[112, 97, 114, 116, 115, 32]⟩ : ByteArray) ++ t128) ++ (⟨#[32, 99, 97, 112, 32]⟩ : ByteArray)) ++ t129) ++ (⟨#[32, 115, 117, 98, 115, 32]⟩ : ByteArray)) ++ t130) ++ (⟨#[32, 119, 97, 105, 116, 32]⟩ : ByteArray)) ++ t131) ++ (⟨#[32, 101, 118, 101, 114, 121, 32]⟩ : ByteArray)) ++ t132) ++ (⟨#[32, 98, 121, 32]⟩ : ByteArray)) ++ x3_1)) else (none)) else (none)) else (none))) else (none)) else (none))) else (none)) else (none))) else (none)) else (none))) else (none)) else (none)) = some r := H
     have A15 := Aside0.mk A150
     clear A150
     by_cases c16 : 6 + t128.size ≤ 9223372036854775807
     ·
      rw [if_pos c16] at H
      have c16b0 := eq_true c16
      have c16b1 : decide (6 + t128.size ≤ 9223372036854775807) = true := decide_eq_true c16
      try have c16b2 : (9223372036854775807 < 6 + t128.size) = False := eq_false (Nat.not_lt.2 c16)
      by_cases c17 : ((⟨#[112, 97, 114, 116, 115, 32]⟩ : ByteArray) ++ t128).size + 5 ≤ 9223372036854775807
      ·
       rw [if_pos c17] at H
       have c17b0 := eq_true c17
       have c17b1 : decide (((⟨#[112, 97, 114, 116, 115, 32]⟩ : ByteArray) ++ t128).size + 5 ≤ 9223372036854775807) = true := decide_eq_true c17
       try have c17b2 : (9223372036854775807 < ((⟨#[112, 97, 114, 116, 115, 32]⟩ : ByteArray) ++ t128).size + 5) = False := eq_false (Nat.not_lt.2 c17)
       have c17s := c17
       simp only [ByteArray.size_append, show (⟨#[112, 97, 114, 116, 115, 32]⟩ : ByteArray).size = 6 from rfl] at c17s
       have c17b3 := eq_false (Nat.not_lt.2 c17s)
       have c17b4 := decide_eq_true c17s
       have c17b5 := eq_true c17s
       clear c17s
       replace H := Option.bind_eq_some_iff.mp H
       obtain ⟨t129, A180, H⟩ := H
       replace H : (if (((⟨#[112, 97, 114, 116, 115, 32]⟩ : ByteArray) ++ t128) ++ (⟨#[32, 99, 97, 112, 32]⟩ : ByteArray)).size + t129.size ≤ 9223372036854775807 then (if ((((⟨#[112, 97, 114, 116, 115, 32]⟩ : ByteArray) ++ t128) ++ (⟨#[32, 99, 97, 112, 32]⟩ : ByteArray)) ++ t129).size + 6 ≤ 9223372036854775807 then ((spec_NumText.f k1 a0_2).bind fun t130 => (if (((((⟨#[112, 97, 114, 116, 115, 32]⟩ : ByteArray) ++ t128) ++ (⟨#[32, 99, 97, 112, 32]⟩ : ByteArray)) ++ t129) ++ (⟨#[32, 115, 117, 98, 115, 32]⟩ : ByteArray)).size + t130.size ≤ 9223372036854775807 then (if ((((((⟨#[112, 97, 114, 116, 115, 32]⟩ : ByteArray) ++ t128) ++ (⟨#[32, 99, 97, 112, 32]⟩ : ByteArray)) ++ t129) ++ (⟨#[32, 115, 117, 98, 115, 32]⟩ : ByteArray)) ++ t130).size + 6 ≤ 9223372036854775807 then ((spec_NumText.f k1 a0_3).bind fun t131 => (if (((((((⟨#[112, 97, 114, 116, 115, 32]⟩ : ByteArray) ++ t128) ++ (⟨#[32, 99, 97, 112, 32]⟩ : ByteArray)) ++ t129) ++ (⟨#[32, 115, 117, 98, 115, 32]⟩ : ByteArray)) ++ t130) ++ (⟨#[32, 119, 97, 105, 116, 32]⟩ : ByteArray)).size + t131.size ≤ 9223372036854775807 then (if ((((((((⟨#[112, 97, 114, 116, 115, 32]⟩ : ByteArray) ++ t128) ++ (⟨#[32, 99, 97, 112, 32]⟩ : ByteArray)) ++ t129) ++ (⟨#[32, 115, 117, 98, 115, 32]⟩ : ByteArray)) ++ t130) ++ (⟨#[32, 119, 97, 105, 116, 32]⟩ : ByteArray)) ++ t131).size + 7 ≤ 9223372036854775807 then ((spec_NumText.f k1 a0_4).bind fun t132 => (if (((((((((⟨#[112, 97, 114, 116, 115, 32]⟩ : ByteArray) ++ t128) ++ (⟨#[32, 99, 97, 112, 32]⟩ : ByteArray)) ++ t129) ++ (⟨#[32, 115, 117, 98, 115, 32]⟩ : ByteArray)) ++ t130) ++ (⟨#[32, 119, 97, 105, 116, 32]⟩ : ByteArray)) ++ t131) ++ (⟨#[32, 101, 118, 101, 114, 121, 32]⟩ : ByteArray)).size + t132.size ≤ 9223372036854775807 then (if ((((((((((⟨#[112, 97, 114, 116, 115, 32]⟩ : ByteArray) ++ t128) ++ (⟨#[32, 99, 97, 112, 32]⟩ : ByteArray)) ++ t129) ++ (⟨#[32, 115, 117, 98, 115, 32]⟩ : ByteArray)) ++ t130) ++ (⟨#[32, 119, 97, 105, 116, 32]⟩ : ByteArray)) ++ t131) ++ (⟨#[32, 101, 118, 101, 114, 121, 32]⟩ : ByteArray)) ++ t132).size + 4 ≤ 9223372036854775807 then (if (((((((((((⟨#[112, 97, 114, 116, 115, 32]⟩ : ByteArray) ++ t128) ++ (⟨#[32, 99, 97, 112, 32]⟩ : ByteArray)) ++ t129) ++ (⟨#[32, 115, 117, 98, 115, 32]⟩ : ByteArray)) ++ t130) ++ (⟨#[32, 119, 97, 105, 116, 32]⟩ : ByteArray)) ++ t131) ++ (⟨#[32, 101, 118, 101, 114, 121, 32]⟩ : ByteArray)) ++ t132) ++ (⟨#[32, 98, 121, 32]⟩ : ByteArray)).size + x3_1.size ≤ 9223372036854775807 then (some ((((((((((((⟨#[112, 97, 114, 116, 115, 32]⟩ : ByteArray) ++ t128) ++ (⟨#[32, 99, 97, 112, 32]⟩ : ByteArray)) ++ t129) ++ (⟨#[32, 115, 117, 98, 115, 32]⟩ : ByteArray)) ++ t130) ++ (⟨#[32, 119, 97, 105, 116, 32]⟩ : ByteArray)) ++ t131) ++ (⟨#[32, 101, 118, 101, 114, 121, 32]⟩ : ByteArray)) ++ t132) ++ (⟨#[32, 98, 121, 32]⟩ : ByteArray)) ++ x3_1)) else (none)) else (none)) else (none))) else (none)) else (none))) else (none)) else (none))) else (none)) else (none)) = some r := H
       have A18 := Aside0.mk A180
       clear A180
       by_cases c19 : (((⟨#[112, 97, 114, 116, 115, 32]⟩ : ByteArray) ++ t128) ++ (⟨#[32, 99, 97, 112, 32]⟩ : ByteArray)).size + t129.size ≤ 9223372036854775807
       ·
        rw [if_pos c19] at H
        have c19b0 := eq_true c19
        have c19b1 : decide ((((⟨#[112, 97, 114, 116, 115, 32]⟩ : ByteArray) ++ t128) ++ (⟨#[32, 99, 97, 112, 32]⟩ : ByteArray)).size + t129.size ≤ 9223372036854775807) = true := decide_eq_true c19
        try have c19b2 : (9223372036854775807 < (((⟨#[112, 97, 114, 116, 115, 32]⟩ : ByteArray) ++ t128) ++ (⟨#[32, 99, 97, 112, 32]⟩ : ByteArray)).size + t129.size) = False := eq_false (Nat.not_lt.2 c19)
        have c19s := c19
        simp only [ByteArray.size_append, show (⟨#[112, 97, 114, 116, 115, 32]⟩ : ByteArray).size = 6 from rfl, show (⟨#[32, 99, 97, 112, 32]⟩ : ByteArray).size = 5 from rfl] at c19s
        have c19b3 := eq_false (Nat.not_lt.2 c19s)
        have c19b4 := decide_eq_true c19s
        have c19b5 := eq_true c19s
        clear c19s
        by_cases c20 : ((((⟨#[112, 97, 114, 116, 115, 32]⟩ : ByteArray) ++ t128) ++ (⟨#[32, 99, 97, 112, 32]⟩ : ByteArray)) ++ t129).size + 6 ≤ 9223372036854775807
        ·
         rw [if_pos c20] at H
         have c20b0 := eq_true c20
         have c20b1 : decide (((((⟨#[112, 97, 114, 116, 115, 32]⟩ : ByteArray) ++ t128) ++ (⟨#[32, 99, 97, 112, 32]⟩ : ByteArray)) ++ t129).size + 6 ≤ 9223372036854775807) = true := decide_eq_true c20
         try have c20b2 : (9223372036854775807 < ((((⟨#[112, 97, 114, 116, 115, 32]⟩ : ByteArray) ++ t128) ++ (⟨#[32, 99, 97, 112, 32]⟩ : ByteArray)) ++ t129).size + 6) = False := eq_false (Nat.not_lt.2 c20)
         have c20s := c20
         simp only [ByteArray.size_append, show (⟨#[112, 97, 114, 116, 115, 32]⟩ : ByteArray).size = 6 from rfl, show (⟨#[32, 99, 97, 112, 32]⟩ : ByteArray).size = 5 from rfl] at c20s
         have c20b3 := eq_false (Nat.not_lt.2 c20s)
         have c20b4 := decide_eq_true c20s
         have c20b5 := eq_true c20s
         clear c20s
         replace H := Option.bind_eq_some_iff.mp H
         obtain ⟨t130, A210, H⟩ := H
         replace H : (if (((((⟨#[112, 97, 114, 116, 115, 32]⟩ : ByteArray) ++ t128) ++ (⟨#[32, 99, 97, 112, 32]⟩ : ByteArray)) ++ t129) ++ (⟨#[32, 115, 117, 98, 115, 32]⟩ : ByteArray)).size + t130.size ≤ 9223372036854775807 then (if ((((((⟨#[112, 97, 114, 116, 115, 32]⟩ : ByteArray) ++ t128) ++ (⟨#[32, 99, 97, 112, 32]⟩ : ByteArray)) ++ t129) ++ (⟨#[32, 115, 117, 98, 115, 32]⟩ : ByteArray)) ++ t130).size + 6 ≤ 9223372036854775807 then ((spec_NumText.f k1 a0_3).bind fun t131 => (if (((((((⟨#[112, 97, 114, 116, 115, 32]⟩ : ByteArray) ++ t128) ++ (⟨#[32, 99, 97, 112, 32]⟩ : ByteArray)) ++ t129) ++ (⟨#[32, 115, 117, 98, 115, 32]⟩ : ByteArray)) ++ t130) ++ (⟨#[32, 119, 97, 105, 116, 32]⟩ : ByteArray)).size + t131.size ≤ 9223372036854775807 then (if ((((((((⟨#[112, 97, 114, 116, 115, 32]⟩ : ByteArray) ++ t128) ++ (⟨#[32, 99, 97, 112, 32]⟩ : ByteArray)) ++ t129) ++ (⟨#[32, 115, 117, 98, 115, 32]⟩ : ByteArray)) ++ t130) ++ (⟨#[32, 119, 97, 105, 116, 32]⟩ : ByteArray)) ++ t131).size + 7 ≤ 9223372036854775807 then ((spec_NumText.f k1 a0_4).bind fun t132 => (if (((((((((⟨#[112, 97, 114, 116, 115, 32]⟩ : ByteArray) ++ t128) ++ (⟨#[32, 99, 97, 112, 32]⟩ : ByteArray)) ++ t129) ++ (⟨#[32, 115, 117, 98, 115, 32]⟩ : ByteArray)) ++ t130) ++ (⟨#[32, 119, 97, 105, 116, 32]⟩ : ByteArray)) ++ t131) ++ (⟨#[32, 101, 118, 101, 114, 121, 32]⟩ : ByteArray)).size + t132.size ≤ 9223372036854775807 then (if ((((((((((⟨#[112, 97, 114, 116, 115, 32]⟩ : ByteArray) ++ t128) ++ (⟨#[32, 99, 97, 112, 32]⟩ : ByteArray)) ++ t129) ++ (⟨#[32, 115, 117, 98, 115, 32]⟩ : ByteArray)) ++ t130) ++ (⟨#[32, 119, 97, 105, 116, 32]⟩ : ByteArray)) ++ t131) ++ (⟨#[32, 101, 118, 101, 114, 121, 32]⟩ : ByteArray)) ++ t132).size + 4 ≤ 9223372036854775807 then (if (((((((((((⟨#[112, 97, 114, 116, 115, 32]⟩ : ByteArray) ++ t128) ++ (⟨#[32, 99, 97, 112, 32]⟩ : ByteArray)) ++ t129) ++ (⟨#[32, 115, 117, 98, 115, 32]⟩ : ByteArray)) ++ t130) ++ (⟨#[32, 119, 97, 105, 116, 32]⟩ : ByteArray)) ++ t131) ++ (⟨#[32, 101, 118, 101, 114, 121, 32]⟩ : ByteArray)) ++ t132) ++ (⟨#[32, 98, 121, 32]⟩ : ByteArray)).size + x3_1.size ≤ 9223372036854775807 then (some ((((((((((((⟨#[112, 97, 114, 116, 115, 32]⟩ : ByteArray) ++ t128) ++ (⟨#[32, 99, 97, 112, 32]⟩ : ByteArray)) ++ t129) ++ (⟨#[32, 115, 117, 98, 115, 32]⟩ : ByteArray)) ++ t130) ++ (⟨#[32, 119, 97, 105, 116, 32]⟩ : ByteArray)) ++ t131) ++ (⟨#[32, 101, 118, 101, 114, 121, 32]⟩ : ByteArray)) ++ t132) ++ (⟨#[32, 98, 121, 32]⟩ : ByteArray)) ++ x3_1)) else (none)) else (none)) else (none))) else (none)) else (none))) else (none)) else (none)) = some r := H
         have A21 := Aside0.mk A210
         clear A210
         by_cases c22 : (((((⟨#[112, 97, 114, 116, 115, 32]⟩ : ByteArray) ++ t128) ++ (⟨#[32, 99, 97, 112, 32]⟩ : ByteArray)) ++ t129) ++ (⟨#[32, 115, 117, 98, 115, 32]⟩ : ByteArray)).size + t130.size ≤ 9223372036854775807
         ·
          rw [if_pos c22] at H
          have c22b0 := eq_true c22
          have c22b1 : decide ((((((⟨#[112, 97, 114, 116, 115, 32]⟩ : ByteArray) ++ t128) ++ (⟨#[32, 99, 97, 112, 32]⟩ : ByteArray)) ++ t129) ++ (⟨#[32, 115, 117, 98, 115, 32]⟩ : ByteArray)).size + t130.size ≤ 9223372036854775807) = true := decide_eq_true c22
          try have c22b2 : (9223372036854775807 < (((((⟨#[112, 97, 114, 116, 115, 32]⟩ : ByteArray) ++ t128) ++ (⟨#[32, 99, 97, 112, 32]⟩ : ByteArray)) ++ t129) ++ (⟨#[32, 115, 117, 98, 115, 32]⟩ : ByteArray)).size + t130.size) = False := eq_false (Nat.not_lt.2 c22)
          have c22s := c22
          simp only [ByteArray.size_append, show (⟨#[112, 97, 114, 116, 115, 32]⟩ : ByteArray).size = 6 from rfl, show (⟨#[32, 99, 97, 112, 32]⟩ : ByteArray).size = 5 from rfl, show (⟨#[32, 115, 117, 98, 115, 32]⟩ : ByteArray).size = 6 from rfl] at c22s
          have c22b3 := eq_false (Nat.not_lt.2 c22s)
          have c22b4 := decide_eq_true c22s
          have c22b5 := eq_true c22s
          clear c22s
          by_cases c23 : ((((((⟨#[112, 97, 114, 116, 115, 32]⟩ : ByteArray) ++ t128) ++ (⟨#[32, 99, 97, 112, 32]⟩ : ByteArray)) ++ t129) ++ (⟨#[32, 115, 117, 98, 115, 32]⟩ : ByteArray)) ++ t130).size + 6 ≤ 9223372036854775807
          ·
           rw [if_pos c23] at H
           have c23b0 := eq_true c23
           have c23b1 : decide (((((((⟨#[112, 97, 114, 116, 115, 32]⟩ : ByteArray) ++ t128) ++ (⟨#[32, 99, 97, 112, 32]⟩ : ByteArray)) ++ t129) ++ (⟨#[32, 115, 117, 98, 115, 32]⟩ : ByteArray)) ++ t130).size + 6 ≤ 9223372036854775807) = true := decide_eq_true c23
           try have c23b2 : (9223372036854775807 < ((((((⟨#[112, 97, 114, 116, 115, 32]⟩ : ByteArray) ++ t128) ++ (⟨#[32, 99, 97, 112, 32]⟩ : ByteArray)) ++ t129) ++ (⟨#[32, 115, 117, 98, 115, 32]⟩ : ByteArray)) ++ t130).size + 6) = False := eq_false (Nat.not_lt.2 c23)
           have c23s := c23
           simp only [ByteArray.size_append, show (⟨#[112, 97, 114, 116, 115, 32]⟩ : ByteArray).size = 6 from rfl, show (⟨#[32, 99, 97, 112, 32]⟩ : ByteArray).size = 5 from rfl, show (⟨#[32, 115, 117, 98, 115, 32]⟩ : ByteArray).size = 6 from rfl] at c23s
           have c23b3 := eq_false (Nat.not_lt.2 c23s)
           have c23b4 := decide_eq_true c23s
           have c23b5 := eq_true c23s
           clear c23s
           replace H := Option.bind_eq_some_iff.mp H
           obtain ⟨t131, A240, H⟩ := H
           replace H : (if (((((((⟨#[112, 97, 114, 116, 115, 32]⟩ : ByteArray) ++ t128) ++ (⟨#[32, 99, 97, 112, 32]⟩ : ByteArray)) ++ t129) ++ (⟨#[32, 115, 117, 98, 115, 32]⟩ : ByteArray)) ++ t130) ++ (⟨#[32, 119, 97, 105, 116, 32]⟩ : ByteArray)).size + t131.size ≤ 9223372036854775807 then (if ((((((((⟨#[112, 97, 114, 116, 115, 32]⟩ : ByteArray) ++ t128) ++ (⟨#[32, 99, 97, 112, 32]⟩ : ByteArray)) ++ t129) ++ (⟨#[32, 115, 117, 98, 115, 32]⟩ : ByteArray)) ++ t130) ++ (⟨#[32, 119, 97, 105, 116, 32]⟩ : ByteArray)) ++ t131).size + 7 ≤ 9223372036854775807 then ((spec_NumText.f k1 a0_4).bind fun t132 => (if (((((((((⟨#[112, 97, 114, 116, 115, 32]⟩ : ByteArray) ++ t128) ++ (⟨#[32, 99, 97, 112, 32]⟩ : ByteArray)) ++ t129) ++ (⟨#[32, 115, 117, 98, 115, 32]⟩ : ByteArray)) ++ t130) ++ (⟨#[32, 119, 97, 105, 116, 32]⟩ : ByteArray)) ++ t131) ++ (⟨#[32, 101, 118, 101, 114, 121, 32]⟩ : ByteArray)).size + t132.size ≤ 9223372036854775807 then (if ((((((((((⟨#[112, 97, 114, 116, 115, 32]⟩ : ByteArray) ++ t128) ++ (⟨#[32, 99, 97, 112, 32]⟩ : ByteArray)) ++ t129) ++ (⟨#[32, 115, 117, 98, 115, 32]⟩ : ByteArray)) ++ t130) ++ (⟨#[32, 119, 97, 105, 116, 32]⟩ : ByteArray)) ++ t131) ++ (⟨#[32, 101, 118, 101, 114, 121, 32]⟩ : ByteArray)) ++ t132).size + 4 ≤ 9223372036854775807 then (if (((((((((((⟨#[112, 97, 114, 116, 115, 32]⟩ : ByteArray) ++ t128) ++ (⟨#[32, 99, 97, 112, 32]⟩ : ByteArray)) ++ t129) ++ (⟨#[32, 115, 117, 98, 115, 32]⟩ : ByteArray)) ++ t130) ++ (⟨#[32, 119, 97, 105, 116, 32]⟩ : ByteArray)) ++ t131) ++ (⟨#[32, 101, 118, 101, 114, 121, 32]⟩ : ByteArray)) ++ t132) ++ (⟨#[32, 98, 121, 32]⟩ : ByteArray)).size + x3_1.size ≤ 9223372036854775807 then (some ((((((((((((⟨#[112, 97, 114, 116, 115, 32]⟩ : ByteArray) ++ t128) ++ (⟨#[32, 99, 97, 112, 32]⟩ : ByteArray)) ++ t129) ++ (⟨#[32, 115, 117, 98, 115, 32]⟩ : ByteArray)) ++ t130) ++ (⟨#[32, 119, 97, 105, 116, 32]⟩ : ByteArray)) ++ t131) ++ (⟨#[32, 101, 118, 101, 114, 121, 32]⟩ : ByteArray)) ++ t132) ++ (⟨#[32, 98, 121, 32]⟩ : ByteArray)) ++ x3_1)) else (none)) else (none)) else (none))) else (none)) else (none)) = some r := H
           have A24 := Aside0.mk A240
           clear A240
           by_cases c25 : (((((((⟨#[112, 97, 114, 116, 115, 32]⟩ : ByteArray) ++ t128) ++ (⟨#[32, 99, 97, 112, 32]⟩ : ByteArray)) ++ t129) ++ (⟨#[32, 115, 117, 98, 115, 32]⟩ : ByteArray)) ++ t130) ++ (⟨#[32, 119, 97, 105, 116, 32]⟩ : ByteArray)).size + t131.size ≤ 9223372036854775807
           ·
            rw [if_pos c25] at H
            have c25b0 := eq_true c25
            have c25b1 : decide ((((((((⟨#[112, 97, 114, 116, 115, 32]⟩ : ByteArray) ++ t128) ++ (⟨#[32, 99, 97, 112, 32]⟩ : ByteArray)) ++ t129) ++ (⟨#[32, 115, 117, 98, 115, 32]⟩ : ByteArray)) ++ t130) ++ (⟨#[32, 119, 97, 105, 116, 32]⟩ : ByteArray)).size + t131.size ≤ 9223372036854775807) = true := decide_eq_true c25
            try have c25b2 : (9223372036854775807 < (((((((⟨#[112, 97, 114, 116, 115, 32]⟩ : ByteArray) ++ t128) ++ (⟨#[32, 99, 97, 112, 32]⟩ : ByteArray)) ++ t129) ++ (⟨#[32, 115, 117, 98, 115, 32]⟩ : ByteArray)) ++ t130) ++ (⟨#[32, 119, 97, 105, 116, 32]⟩ : ByteArray)).size + t131.size) = False := eq_false (Nat.not_lt.2 c25)
            have c25s := c25
            simp only [ByteArray.size_append, show (⟨#[112, 97, 114, 116, 115, 32]⟩ : ByteArray).size = 6 from rfl, show (⟨#[32, 99, 97, 112, 32]⟩ : ByteArray).size = 5 from rfl, show (⟨#[32, 115, 117, 98, 115, 32]⟩ : ByteArray).size = 6 from rfl, show (⟨#[32, 119, 97, 105, 116, 32]⟩ : ByteArray).size = 6 from rfl] at c25s
            have c25b3 := eq_false (Nat.not_lt.2 c25s)
            have c25b4 := decide_eq_true c25s
            have c25b5 := eq_true c25s
            clear c25s
            by_cases c26 : ((((((((⟨#[112, 97, 114, 116, 115, 32]⟩ : ByteArray) ++ t128) ++ (⟨#[32, 99, 97, 112, 32]⟩ : ByteArray)) ++ t129) ++ (⟨#[32, 115, 117, 98, 115, 32]⟩ : ByteArray)) ++ t130) ++ (⟨#[32, 119, 97, 105, 116, 32]⟩ : ByteArray)) ++ t131).size + 7 ≤ 9223372036854775807
            ·
             rw [if_pos c26] at H
             have c26b0 := eq_true c26
             have c26b1 : decide (((((((((⟨#[112, 97, 114, 116, 115, 32]⟩ : ByteArray) ++ t128) ++ (⟨#[32, 99, 97, 112, 32]⟩ : ByteArray)) ++ t129) ++ (⟨#[32, 115, 117, 98, 115, 32]⟩ : ByteArray)) ++ t130) ++ (⟨#[32, 119, 97, 105, 116, 32]⟩ : ByteArray)) ++ t131).size + 7 ≤ 9223372036854775807) = true := decide_eq_true c26
             try have c26b2 : (9223372036854775807 < ((((((((⟨#[112, 97, 114, 116, 115, 32]⟩ : ByteArray) ++ t128) ++ (⟨#[32, 99, 97, 112, 32]⟩ : ByteArray)) ++ t129) ++ (⟨#[32, 115, 117, 98, 115, 32]⟩ : ByteArray)) ++ t130) ++ (⟨#[32, 119, 97, 105, 116, 32]⟩ : ByteArray)) ++ t131).size + 7) = False := eq_false (Nat.not_lt.2 c26)
             have c26s := c26
             simp only [ByteArray.size_append, show (⟨#[112, 97, 114, 116, 115, 32]⟩ : ByteArray).size = 6 from rfl, show (⟨#[32, 99, 97, 112, 32]⟩ : ByteArray).size = 5 from rfl, show (⟨#[32, 115, 117, 98, 115, 32]⟩ : ByteArray).size = 6 from rfl, show (⟨#[32, 119, 97, 105, 116, 32]⟩ : ByteArray).size = 6 from rfl] at c26s
             have c26b3 := eq_false (Nat.not_lt.2 c26s)
             have c26b4 := decide_eq_true c26s
             have c26b5 := eq_true c26s
             clear c26s
             replace H := Option.bind_eq_some_iff.mp H
             obtain ⟨t132, A270, H⟩ := H
             replace H : (if (((((((((⟨#[112, 97, 114, 116, 115, 32]⟩ : ByteArray) ++ t128) ++ (⟨#[32, 99, 97, 112, 32]⟩ : ByteArray)) ++ t129) ++ (⟨#[32, 115, 117, 98, 115, 32]⟩ : ByteArray)) ++ t130) ++ (⟨#[32, 119, 97, 105, 116, 32]⟩ : ByteArray)) ++ t131) ++ (⟨#[32, 101, 118, 101, 114, 121, 32]⟩ : ByteArray)).size + t132.size ≤ 9223372036854775807 then (if ((((((((((⟨#[112, 97, 114, 116, 115, 32]⟩ : ByteArray) ++ t128) ++ (⟨#[32, 99, 97, 112, 32]⟩ : ByteArray)) ++ t129) ++ (⟨#[32, 115, 117, 98, 115, 32]⟩ : ByteArray)) ++ t130) ++ (⟨#[32, 119, 97, 105, 116, 32]⟩ : ByteArray)) ++ t131) ++ (⟨#[32, 101, 118, 101, 114, 121, 32]⟩ : ByteArray)) ++ t132).size + 4 ≤ 9223372036854775807 then (if (((((((((((⟨#[112, 97, 114, 116, 115, 32]⟩ : ByteArray) ++ t128) ++ (⟨#[32, 99, 97, 112, 32]⟩ : ByteArray)) ++ t129) ++ (⟨#[32, 115, 117, 98, 115, 32]⟩ : ByteArray)) ++ t130) ++ (⟨#[32, 119, 97, 105, 116, 32]⟩ : ByteArray)) ++ t131) ++ (⟨#[32, 101, 118, 101, 114, 121, 32]⟩ : ByteArray)) ++ t132) ++ (⟨#[32, 98, 121, 32]⟩ : ByteArray)).size + x3_1.size ≤ 9223372036854775807 then (some ((((((((((((⟨#[112, 97, 114, 116, 115, 32]⟩ : ByteArray) ++ t128) ++ (⟨#[32, 99, 97, 112, 32]⟩ : ByteArray)) ++ t129) ++ (⟨#[32, 115, 117, 98, 115, 32]⟩ : ByteArray)) ++ t130) ++ (⟨#[32, 119, 97, 105, 116, 32]⟩ : ByteArray)) ++ t131) ++ (⟨#[32, 101, 118, 101, 114, 121, 32]⟩ : ByteArray)) ++ t132) ++ (⟨#[32, 98, 121, 32]⟩ : ByteArray)) ++ x3_1)) else (none)) else (none)) else (none)) = some r := H
             have A27 := Aside0.mk A270
             clear A270
             by_cases c28 : (((((((((⟨#[112, 97, 114, 116, 115, 32]⟩ : ByteArray) ++ t128) ++ (⟨#[32, 99, 97, 112, 32]⟩ : ByteArray)) ++ t129) ++ (⟨#[32, 115, 117, 98, 115, 32]⟩ : ByteArray)) ++ t130) ++ (⟨#[32, 119, 97, 105, 116, 32]⟩ : ByteArray)) ++ t131) ++ (⟨#[32, 101, 118, 101, 114, 121, 32]⟩ : ByteArray)).size + t132.size ≤ 9223372036854775807
             ·
              rw [if_pos c28] at H
              have c28b0 := eq_true c28
              have c28b1 : decide ((((((((((⟨#[112, 97, 114, 116, 115, 32]⟩ : ByteArray) ++ t128) ++ (⟨#[32, 99, 97, 112, 32]⟩ : ByteArray)) ++ t129) ++ (⟨#[32, 115, 117, 98, 115, 32]⟩ : ByteArray)) ++ t130) ++ (⟨#[32, 119, 97, 105, 116, 32]⟩ : ByteArray)) ++ t131) ++ (⟨#[32, 101, 118, 101, 114, 121, 32]⟩ : ByteArray)).size + t132.size ≤ 9223372036854775807) = true := decide_eq_true c28
              try have c28b2 : (9223372036854775807 < (((((((((⟨#[112, 97, 114, 116, 115, 32]⟩ : ByteArray) ++ t128) ++ (⟨#[32, 99, 97, 112, 32]⟩ : ByteArray)) ++ t129) ++ (⟨#[32, 115, 117, 98, 115, 32]⟩ : ByteArray)) ++ t130) ++ (⟨#[32, 119, 97, 105, 116, 32]⟩ : ByteArray)) ++ t131) ++ (⟨#[32, 101, 118, 101, 114, 121, 32]⟩ : ByteArray)).size + t132.size) = False := eq_false (Nat.not_lt.2 c28)
              have c28s := c28
              simp only [ByteArray.size_append, show (⟨#[112, 97, 114, 116, 115, 32]⟩ : ByteArray).size = 6 from rfl, show (⟨#[32, 99, 97, 112, 32]⟩ : ByteArray).size = 5 from rfl, show (⟨#[32, 115, 117, 98, 115, 32]⟩ : ByteArray).size = 6 from rfl, show (⟨#[32, 119, 97, 105, 116, 32]⟩ : ByteArray).size = 6 from rfl, show (⟨#[32, 101, 118, 101, 114, 121, 32]⟩ : ByteArray).size = 7 from rfl] at c28s
              have c28b3 := eq_false (Nat.not_lt.2 c28s)
              have c28b4 := decide_eq_true c28s
              have c28b5 := eq_true c28s
              clear c28s
              by_cases c29 : ((((((((((⟨#[112, 97, 114, 116, 115, 32]⟩ : ByteArray) ++ t128) ++ (⟨#[32, 99, 97, 112, 32]⟩ : ByteArray)) ++ t129) ++ (⟨#[32, 115, 117, 98, 115, 32]⟩ : ByteArray)) ++ t130) ++ (⟨#[32, 119, 97, 105, 116, 32]⟩ : ByteArray)) ++ t131) ++ (⟨#[32, 101, 118, 101, 114, 121, 32]⟩ : ByteArray)) ++ t132).size + 4 ≤ 9223372036854775807
              ·
               rw [if_pos c29] at H
               have c29b0 := eq_true c29
               have c29b1 : decide (((((((((((⟨#[112, 97, 114, 116, 115, 32]⟩ : ByteArray) ++ t128) ++ (⟨#[32, 99, 97, 112, 32]⟩ : ByteArray)) ++ t129) ++ (⟨#[32, 115, 117, 98, 115, 32]⟩ : ByteArray)) ++ t130) ++ (⟨#[32, 119, 97, 105, 116, 32]⟩ : ByteArray)) ++ t131) ++ (⟨#[32, 101, 118, 101, 114, 121, 32]⟩ : ByteArray)) ++ t132).size + 4 ≤ 9223372036854775807) = true := decide_eq_true c29
               try have c29b2 : (9223372036854775807 < ((((((((((⟨#[112, 97, 114, 116, 115, 32]⟩ : ByteArray) ++ t128) ++ (⟨#[32, 99, 97, 112, 32]⟩ : ByteArray)) ++ t129) ++ (⟨#[32, 115, 117, 98, 115, 32]⟩ : ByteArray)) ++ t130) ++ (⟨#[32, 119, 97, 105, 116, 32]⟩ : ByteArray)) ++ t131) ++ (⟨#[32, 101, 118, 101, 114, 121, 32]⟩ : ByteArray)) ++ t132).size + 4) = False := eq_false (Nat.not_lt.2 c29)
               have c29s := c29
               simp only [ByteArray.size_append, show (⟨#[112, 97, 114, 116, 115, 32]⟩ : ByteArray).size = 6 from rfl, show (⟨#[32, 99, 97, 112, 32]⟩ : ByteArray).size = 5 from rfl, show (⟨#[32, 115, 117, 98, 115, 32]⟩ : ByteArray).size = 6 from rfl, show (⟨#[32, 119, 97, 105, 116, 32]⟩ : ByteArray).size = 6 from rfl, show (⟨#[32, 101, 118, 101, 114, 121, 32]⟩ : ByteArray).size = 7 from rfl] at c29s
               have c29b3 := eq_false (Nat.not_lt.2 c29s)
               have c29b4 := decide_eq_true c29s
               have c29b5 := eq_true c29s
               clear c29s
               by_cases c30 : (((((((((((⟨#[112, 97, 114, 116, 115, 32]⟩ : ByteArray) ++ t128) ++ (⟨#[32, 99, 97, 112, 32]⟩ : ByteArray)) ++ t129) ++ (⟨#[32, 115, 117, 98, 115, 32]⟩ : ByteArray)) ++ t130) ++ (⟨#[32, 119, 97, 105, 116, 32]⟩ : ByteArray)) ++ t131) ++ (⟨#[32, 101, 118, 101, 114, 121, 32]⟩ : ByteArray)) ++ t132) ++ (⟨#[32, 98, 121, 32]⟩ : ByteArray)).size + x3_1.size ≤ 9223372036854775807
               ·
                rw [if_pos c30] at H
                have c30b0 := eq_true c30
                have c30b1 : decide ((((((((((((⟨#[112, 97, 114, 116, 115, 32]⟩ : ByteArray) ++ t128) ++ (⟨#[32, 99, 97, 112, 32]⟩ : ByteArray)) ++ t129) ++ (⟨#[32, 115, 117, 98, 115, 32]⟩ : ByteArray)) ++ t130) ++ (⟨#[32, 119, 97, 105, 116, 32]⟩ : ByteArray)) ++ t131) ++ (⟨#[32, 101, 118, 101, 114, 121, 32]⟩ : ByteArray)) ++ t132) ++ (⟨#[32, 98, 121, 32]⟩ : ByteArray)).size + x3_1.size ≤ 9223372036854775807) = true := decide_eq_true c30
                try have c30b2 : (9223372036854775807 < (((((((((((⟨#[112, 97, 114, 116, 115, 32]⟩ : ByteArray) ++ t128) ++ (⟨#[32, 99, 97, 112, 32]⟩ : ByteArray)) ++ t129) ++ (⟨#[32, 115, 117, 98, 115, 32]⟩ : ByteArray)) ++ t130) ++ (⟨#[32, 119, 97, 105, 116, 32]⟩ : ByteArray)) ++ t131) ++ (⟨#[32, 101, 118, 101, 114, 121, 32]⟩ : ByteArray)) ++ t132) ++ (⟨#[32, 98, 121, 32]⟩ : ByteArray)).size + x3_1.size) = False := eq_false (Nat.not_lt.2 c30)
                have c30s := c30
                simp only [ByteArray.size_append, show (⟨#[112, 97, 114, 116, 115, 32]⟩ : ByteArray).size = 6 from rfl, show (⟨#[32, 99, 97, 112, 32]⟩ : ByteArray).size = 5 from rfl, show (⟨#[32, 115, 117, 98, 115, 32]⟩ : ByteArray).size = 6 from rfl, show (⟨#[32, 119, 97, 105, 116, 32]⟩ : ByteArray).size = 6 from rfl, show (⟨#[32, 101, 118, 101, 114, 121, 32]⟩ : ByteArray).size = 7 from rfl, show (⟨#[32, 98, 121, 32]⟩ : ByteArray).size = 4 from rfl] at c30s
                have c30b3 := eq_false (Nat.not_lt.2 c30s)
                have c30b4 := decide_eq_true c30s
                have c30b5 := eq_true c30s
                clear c30s
                obtain rfl := Option.some.inj H
                have hcz31_0 : wr.cell? ⟨gb124, 0, none⟩ = some (.int .i64 a0_0) := (blk_cell BK124.out 0).trans rfl
                have hcz31_1 : wr.cell? ⟨gb124, 1, none⟩ = some (.int .i64 a0_1) := (blk_cell BK124.out 1).trans rfl
                have hcz31_2 : wr.cell? ⟨gb124, 2, none⟩ = some (.int .i64 a0_2) := (blk_cell BK124.out 2).trans rfl
                have hcz31_3 : wr.cell? ⟨gb124, 3, none⟩ = some (.int .i64 a0_3) := (blk_cell BK124.out 3).trans rfl
                have hcz31_4 : wr.cell? ⟨gb124, 4, none⟩ = some (.int .i64 a0_4) := (blk_cell BK124.out 4).trans rfl
                have hcz31_5 : wr.cell? ⟨gb124, 5, none⟩ = some (.slice A0_5 l0_5.length c0_5) := (blk_cell BK124.out 5).trans rfl
                have hfz31_0 := blk_frozen BK124.out 0
                have hfz31_1 := blk_frozen BK124.out 1
                have hfz31_2 := blk_frozen BK124.out 2
                have hfz31_3 := blk_frozen BK124.out 3
                have hfz31_4 := blk_frozen BK124.out 4
                have hfz31_5 := blk_frozen BK124.out 5
                try go_wp2
                have n0_ := Aside0.mk (blk_drew BK124.out)
                have n1_ := Aside0.mk (below_drew1 HB.out)
                clear BK124
                clear HB
                have BK124 := n0_
                have HB := n1_
                clear n0_ n1_
                refine start_ (n := 28) (S := fun w' => w'.cell? ⟨gb124, 0, none⟩ = some (.int .i64 a0_0) ∧ w'.cell? ⟨gb124, 1, none⟩ = some (.int .i64 a0_1) ∧ w'.cell? ⟨gb124, 2, none⟩ = some (.int .i64 a0_2) ∧ w'.cell? ⟨gb124, 3, none⟩ = some (.int .i64 a0_3) ∧ w'.cell? ⟨gb124, 4, none⟩ = some (.int .i64 a0_4) ∧ w'.cell? ⟨gb124, 5, none⟩ = some (.slice A0_5 l0_5.length c0_5)) (ds := []) #[false, false, false, false, false, false, false, false, false, false, false, false, false, false, false, false, false, false, false, false, false, false, false, false, false, false, false, false] (by kernel_rfl) rfl rfl ⟨(blk_cell BK124.out 0).trans rfl, (blk_cell BK124.out 1).trans rfl, (blk_cell BK124.out 2).trans rfl, (blk_cell BK124.out 3).trans rfl, (blk_cell BK124.out 4).trans rfl, (blk_cell BK124.out 5).trans rfl⟩ (fun hHeld => ?_); refine with_tabW spec_ConfText.tab10 spec_ConfText.bits10 (fun HT_ HW_ => ?_)
                generalize wr.drew = w32 at BK124 HB hHeld ⊢
                refine pure_ (i := 0) (N := some 30) (v := ?_) (a' := ?_) #[true, false, false, false, false, false, false, false, false, false, false, false, false, false, false, false, false, false, false, false, false, false, false, false, false, false, false, false] rfl rfl (any_of HT_.out (by kernel_rfl)) (fun _ _ _ h => h) (Or.inl ⟨by rfl, ?_⟩) ?_ ?_
                rotate_left
                ·
                 intro w'
                 go_simp
                 with_reducible rfl
                rotate_left
                ·
                 simp only [Act.put, List.setIfInBounds_toArray, List.set_cons_zero, List.set_cons_succ, i64_w, i32_w]
                 rfl
                refine pure_ (i := 5) (N := some 35) (v := ?_) (a' := ?_) #[true, false, false, false, false, true, false, false, false, false, false, false, false, false, false, false, false, false, false, false, false, false, false, false, false, false, false, false] rfl rfl (any_of HT_.out (by kernel_rfl)) (fun _ _ _ h => h) (Or.inl ⟨by rfl, ?_⟩) ?_ ?_
                rotate_left
                ·
                 intro w'
                 go_simp
                 with_reducible rfl
                rotate_left
                ·
                 simp only [Act.put, List.setIfInBounds_toArray, List.set_cons_zero, List.set_cons_succ, i64_w, i32_w]
                 rfl
                refine pure_ (i := 10) (N := some 40) (v := ?_) (a' := ?_) #[true, false, false, false, false, true, false, false, false, false, true, false, false, false, false, false, false, false, false, false, false, false, false, false, false, false, false, false] rfl rfl (any_of HT_.out (by kernel_rfl)) (fun _ _ _ h => h) (Or.inl ⟨by rfl, ?_⟩) ?_ ?_
                rotate_left
                ·
                 intro w'
                 go_simp
                 with_reducible rfl
                rotate_left
                ·
                 simp only [Act.put, List.setIfInBounds_toArray, List.set_cons_zero, List.set_cons_succ, i64_w, i32_w]
                 rfl
                refine pure_ (i := 15) (N := some 45) (v := ?_) (a' := ?_) #[true, false, false, false, false, true, false, false, false, false, true, false, false, false, false, true, false, false, false, false, false, false, false, false, false, false, false, false] rfl rfl (any_of HT_.out (by kernel_rfl)) (fun _ _ _ h => h) (Or.inl ⟨by rfl, ?_⟩) ?_ ?_
                rotate_left
                ·
                 intro w'
                 go_simp
                 with_reducible rfl
                rotate_left
                ·
                 simp only [Act.put, List.setIfInBounds_toArray, List.set_cons_zero, List.set_cons_succ, i64_w, i32_w]
                 rfl
                refine pure_ (i := 20) (N := some 50) (v := ?_) (a' := ?_) #[true, false, false, false, false, true, false, false, false, false, true, false, false, false, false, true, false, false, false, false, true, false, false, false, false, false, false, false] rfl rfl (any_of HT_.out (by kernel_rfl)) (fun _ _ _ h => h) (Or.inl ⟨by rfl, ?_⟩) ?_ ?_
                rotate_left
                ·
                 intro w'
                 go_simp
                 with_reducible rfl
                rotate_left
                ·
                 simp only [Act.put, List.setIfInBounds_toArray, List.set_cons_zero, List.set_cons_succ, i64_w, i32_w]
                 rfl
                refine pure_ (i := 25) (N := some 55) (v := ?_) (a' := ?_) #[true, false, false, false, false, true, false, false, false, false, true, false, false, false, false, true, false, false, false, false, true, false, false, false, false, true, false, false] rfl rfl (any_of HT_.out (by kernel_rfl)) (fun _ _ _ h => h) (Or.inl ⟨by rfl, ?_⟩) ?_ ?_
                rotate_left
                ·
                 intro w'
                 go_simp
                 with_reducible rfl
                rotate_left
                ·
                 simp only [Act.put, List.setIfInBounds_toArray, List.set_cons_zero, List.set_cons_succ, i64_w, i32_w]
                 rfl
                refine take_ (i := 1) (N := some 31) (v := ?_) (a' := ?_) #[true, true, false, false, false, true, false, false, false, false, true, false, false, false, false, true, false, false, false, false, true, false, false, false, false, true, false, false] rfl rfl (take_ofW HT_.out HW_.out (by kernel_rfl)) (fun _ _ _ h => h) (Or.inl ⟨by rfl, ?_⟩) hHeld ?_ ?_
                rotate_left
                ·
                 rintro w' ⟨s0, s1, s2, s3, s4, s5⟩
                 go_simp
                 with_reducible rfl
                rotate_left
                ·
                 simp only [Act.put, List.setIfInBounds_toArray, List.set_cons_zero, List.set_cons_succ, i64_w, i32_w]
                 rfl
                refine take_ (i := 6) (N := some 36) (v := ?_) (a' := ?_) #[true, true, false, false, false, true, true, false, false, false, true, false, false, false, false, true, false, false, false, false, true, false, false, false, false, true, false, false] rfl rfl (take_ofW HT_.out HW_.out (by kernel_rfl)) (fun _ _ _ h => h) (Or.inl ⟨by rfl, ?_⟩) hHeld ?_ ?_
                rotate_left
                ·
                 rintro w' ⟨s0, s1, s2, s3, s4, s5⟩
                 go_simp
                 with_reducible rfl
                rotate_left
                ·
                 simp only [Act.put, List.setIfInBounds_toArray, List.set_cons_zero, List.set_cons_succ, i64_w, i32_w]
                 rfl
                refine take_ (i := 11) (N := some 41) (v := ?_) (a' := ?_) #[true, true, false, false, false, true, true, false, false, false, true, true, false, false, false, true, false, false, false, false, true, false, false, false, false, true, false, false] rfl rfl (take_ofW HT_.out HW_.out (by kernel_rfl)) (fun _ _ _ h => h) (Or.inl ⟨by rfl, ?_⟩) hHeld ?_ ?_
                rotate_left
                ·
                 rintro w' ⟨s0, s1, s2, s3, s4, s5⟩
                 go_simp
                 with_reducible rfl
                rotate_left
                ·
                 simp only [Act.put, List.setIfInBounds_toArray, List.set_cons_zero, List.set_cons_succ, i64_w, i32_w]
                 rfl
                refine take_ (i := 16) (N := some 46) (v := ?_) (a' := ?_) #[true, true, false, false, false, true, true, false, false, false, true, true, false, false, false, true, true, false, false, false, true, false, false, false, false, true, false, false] rfl rfl (take_ofW HT_.out HW_.out (by kernel_rfl)) (fun _ _ _ h => h) (Or.inl ⟨by rfl, ?_⟩) hHeld ?_ ?_
                rotate_left
                ·
                 rintro w' ⟨s0, s1, s2, s3, s4, s5⟩
                 go_simp
                 with_reducible rfl
                rotate_left
                ·
                 simp only [Act.put, List.setIfInBounds_toArray, List.set_cons_zero, List.set_cons_succ, i64_w, i32_w]
                 rfl
                refine take_ (i := 21) (N := some 51) (v := ?_) (a' := ?_) #[true, true, false, false, false, true, true, false, false, false, true, true, false, false, false, true, true, false, false, false, true, true, false, false, false, true, false, false] rfl rfl (take_ofW HT_.out HW_.out (by kernel_rfl)) (fun _ _ _ h => h) (Or.inl ⟨by rfl, ?_⟩) hHeld ?_ ?_
                rotate_left
                ·
                 rintro w' ⟨s0, s1, s2, s3, s4, s5⟩
                 go_simp
                 with_reducible rfl
                rotate_left
                ·
                 simp only [Act.put, List.setIfInBounds_toArray, List.set_cons_zero, List.set_cons_succ, i64_w, i32_w]
                 rfl
                refine one_ (i := 2) (N := some 32) #[true, true, true, false, false, true, true, false, false, false, true, true, false, false, false, true, true, false, false, false, true, true, false, false, false, true, false, false] rfl rfl (one_of HT_.out (by kernel_rfl)) (by decide) (fun K hK => ?_)
                refine goes_ Tryd.func11 (by kernel_rfl) rfl #[.int .i64 a0_0] (by rfl) rfl rfl (by (try simp only [List.map_toArray, List.map_cons, List.map_nil]); first | done | rfl | (simp only [List.length_drop, List.length_take]; rfl)) ?_
                with_reducible refine (spec_NumText.calls k1 a0_0 t128 _ A15.out).mono ?_
                rintro e w33 ⟨rfl, hb⟩
                refine ⟨_, rfl, ?_⟩
                have n0_ := Aside0.mk (blk_below (g := gb124) (o := .cells #[.int .i64 a0_0, .int .i64 a0_1, .int .i64 a0_2, .int .i64 a0_3, .int .i64 a0_4, .slice A0_5 l0_5.length c0_5] 27 (0, 0)) (by (with_reducible repeat (first | refine blk_drewN ?_ _ | refine blk_drew ?_ | refine blk_alloc ?_ _)); exact BK124.out) hb)
                have n1_ := Aside0.mk (below_step (by repeat (first | (with_reducible first | exact HB.out | apply below_alloc | apply pw_below_drewN | apply below_drew1 | refine below_set ?_ GE124.out) | exact HB.out)) hb)
                clear BK124
                clear HB
                have BK124 := n0_
                have HB := n1_
                clear n0_ n1_
                (try clear hb)
                (try clear hb2)
                (try clear hk)
                (try clear hi)
                refine hK.out _ _ ⟨(blk_cell BK124.out 0).trans rfl, (blk_cell BK124.out 1).trans rfl, (blk_cell BK124.out 2).trans rfl, (blk_cell BK124.out 3).trans rfl, (blk_cell BK124.out 4).trans rfl, (blk_cell BK124.out 5).trans rfl⟩ (fun hHeld => ?_)
                clear hK K
                refine norm_ (a' := ?_) ?_ ?_
                rotate_left
                ·
                 show Act.put _ (some 32) _ = _
                 simp only [Act.put, List.setIfInBounds_toArray, List.set_cons_zero, List.set_cons_succ, i64_w, i32_w]
                 rfl
                refine pure_ (i := 3) (N := some 33) (v := ?_) (a' := ?_) #[true, true, true, true, false, true, true, false, false, false, true, true, false, false, false, true, true, false, false, false, true, true, false, false, false, true, false, false] rfl rfl (any_of HT_.out (by kernel_rfl)) (fun _ _ _ h => h) (Or.inl ⟨by rfl, ?_⟩) ?_ ?_
                rotate_left
                ·
                 intro w'
                 go_simp
                 with_reducible rfl
                rotate_left
                ·
                 simp only [Act.put, List.setIfInBounds_toArray, List.set_cons_zero, List.set_cons_succ, i64_w, i32_w]
                 rfl
                refine pure_ (i := 4) (N := some 34) (v := ?_) (a' := ?_) #[true, true, true, true, true, true, true, false, false, false, true, true, false, false, false, true, true, false, false, false, true, true, false, false, false, true, false, false] rfl rfl (any_of HT_.out (by kernel_rfl)) (fun _ _ _ h => h) (Or.inl ⟨by rfl, ?_⟩) ?_ ?_
                rotate_left
                ·
                 intro w'
                 go_simp
                 with_reducible rfl
                rotate_left
                ·
                 simp only [Act.put, List.setIfInBounds_toArray, List.set_cons_zero, List.set_cons_succ, i64_w, i32_w]
                 rfl
                refine one_ (i := 7) (N := some 37) #[true, true, true, true, true, true, true, true, false, false, true, true, false, false, false, true, true, false, false, false, true, true, false, false, false, true, false, false] rfl rfl (one_of HT_.out (by kernel_rfl)) (by decide) (fun K hK => ?_)
                refine goes_ Tryd.func11 (by kernel_rfl) rfl #[.int .i64 a0_1] (by rfl) rfl rfl (by (try simp only [List.map_toArray, List.map_cons, List.map_nil]); first | done | rfl | (simp only [List.length_drop, List.length_take]; rfl)) ?_
                with_reducible refine (spec_NumText.calls k1 a0_1 t129 _ A18.out).mono ?_
                rintro e w34 ⟨rfl, hb⟩
                refine ⟨_, rfl, ?_⟩
                have n0_ := Aside0.mk (blk_below (g := gb124) (o := .cells #[.int .i64 a0_0, .int .i64 a0_1, .int .i64 a0_2, .int .i64 a0_3, .int .i64 a0_4, .slice A0_5 l0_5.length c0_5] 27 (0, 0)) (by (with_reducible repeat (first | refine blk_drewN ?_ _ | refine blk_drew ?_ | refine blk_alloc ?_ _)); exact BK124.out) hb)
                have n1_ := Aside0.mk (below_step (by repeat (first | (with_reducible first | exact HB.out | apply below_alloc | apply pw_below_drewN | apply below_drew1 | refine below_set ?_ GE124.out) | exact HB.out)) hb)
                clear BK124
                clear HB
                have BK124 := n0_
                have HB := n1_
                clear n0_ n1_
                (try clear hb)
                (try clear hb2)
                (try clear hk)
                (try clear hi)
                refine hK.out _ _ ⟨(blk_cell BK124.out 0).trans rfl, (blk_cell BK124.out 1).trans rfl, (blk_cell BK124.out 2).trans rfl, (blk_cell BK124.out 3).trans rfl, (blk_cell BK124.out 4).trans rfl, (blk_cell BK124.out 5).trans rfl⟩ (fun hHeld => ?_)
                clear hK K
                refine norm_ (a' := ?_) ?_ ?_
                rotate_left
                ·
                 show Act.put _ (some 37) _ = _
                 simp only [Act.put, List.setIfInBounds_toArray, List.set_cons_zero, List.set_cons_succ, i64_w, i32_w]
                 rfl
                refine pure_ (i := 8) (N := some 38) (v := ?_) (a' := ?_) #[true, true, true, true, true, true, true, true, true, false, true, true, false, false, false, true, true, false, false, false, true, true, false, false, false, true, false, false] rfl rfl (any_of HT_.out (by kernel_rfl)) (fun _ _ _ h => h) (Or.inl ⟨by rfl, ?_⟩) ?_ ?_
                rotate_left
                ·
                 intro w'
                 go_simp
                 with_reducible rfl
                rotate_left
                ·
                 simp only [Act.put, List.setIfInBounds_toArray, List.set_cons_zero, List.set_cons_succ, i64_w, i32_w]
                 rfl
                refine pure_ (i := 9) (N := some 39) (v := ?_) (a' := ?_) #[true, true, true, true, true, true, true, true, true, true, true, true, false, false, false, true, true, false, false, false, true, true, false, false, false, true, false, false] rfl rfl (any_of HT_.out (by kernel_rfl)) (fun _ _ _ h => h) (Or.inl ⟨by rfl, ?_⟩) ?_ ?_
                rotate_left
                ·
                 intro w'
                 go_simp
                 with_reducible rfl
                rotate_left
                ·
                 simp only [Act.put, List.setIfInBounds_toArray, List.set_cons_zero, List.set_cons_succ, i64_w, i32_w]
                 rfl
                refine one_ (i := 12) (N := some 42) #[true, true, true, true, true, true, true, true, true, true, true, true, true, false, false, true, true, false, false, false, true, true, false, false, false, true, false, false] rfl rfl (one_of HT_.out (by kernel_rfl)) (by decide) (fun K hK => ?_)
                refine goes_ Tryd.func11 (by kernel_rfl) rfl #[.int .i64 a0_2] (by rfl) rfl rfl (by (try simp only [List.map_toArray, List.map_cons, List.map_nil]); first | done | rfl | (simp only [List.length_drop, List.length_take]; rfl)) ?_
                with_reducible refine (spec_NumText.calls k1 a0_2 t130 _ A21.out).mono ?_
                rintro e w35 ⟨rfl, hb⟩
                refine ⟨_, rfl, ?_⟩
                have n0_ := Aside0.mk (blk_below (g := gb124) (o := .cells #[.int .i64 a0_0, .int .i64 a0_1, .int .i64 a0_2, .int .i64 a0_3, .int .i64 a0_4, .slice A0_5 l0_5.length c0_5] 27 (0, 0)) (by (with_reducible repeat (first | refine blk_drewN ?_ _ | refine blk_drew ?_ | refine blk_alloc ?_ _)); exact BK124.out) hb)
                have n1_ := Aside0.mk (below_step (by repeat (first | (with_reducible first | exact HB.out | apply below_alloc | apply pw_below_drewN | apply below_drew1 | refine below_set ?_ GE124.out) | exact HB.out)) hb)
                clear BK124
                clear HB
                have BK124 := n0_
                have HB := n1_
                clear n0_ n1_
                (try clear hb)
                (try clear hb2)
                (try clear hk)
                (try clear hi)
                refine hK.out _ _ ⟨(blk_cell BK124.out 0).trans rfl, (blk_cell BK124.out 1).trans rfl, (blk_cell BK124.out 2).trans rfl, (blk_cell BK124.out 3).trans rfl, (blk_cell BK124.out 4).trans rfl, (blk_cell BK124.out 5).trans rfl⟩ (fun hHeld => ?_)
                clear hK K
                refine norm_ (a' := ?_) ?_ ?_
                rotate_left
                ·
                 show Act.put _ (some 42) _ = _
                 simp only [Act.put, List.setIfInBounds_toArray, List.set_cons_zero, List.set_cons_succ, i64_w, i32_w]
                 rfl
                refine pure_ (i := 13) (N := some 43) (v := ?_) (a' := ?_) #[true, true, true, true, true, true, true, true, true, true, true, true, true, true, false, true, true, false, false, false, true, true, false, false, false, true, false, false] rfl rfl (any_of HT_.out (by kernel_rfl)) (fun _ _ _ h => h) (Or.inl ⟨by rfl, ?_⟩) ?_ ?_
                rotate_left
                ·
                 intro w'
                 go_simp
                 with_reducible rfl
                rotate_left
                ·
                 simp only [Act.put, List.setIfInBounds_toArray, List.set_cons_zero, List.set_cons_succ, i64_w, i32_w]
                 rfl
                refine pure_ (i := 14) (N := some 44) (v := ?_) (a' := ?_) #[true, true, true, true, true, true, true, true, true, true, true, true, true, true, true, true, true, false, false, false, true, true, false, false, false, true, false, false] rfl rfl (any_of HT_.out (by kernel_rfl)) (fun _ _ _ h => h) (Or.inl ⟨by rfl, ?_⟩) ?_ ?_
                rotate_left
                ·
                 intro w'
                 go_simp
                 with_reducible rfl
                rotate_left
                ·
                 simp only [Act.put, List.setIfInBounds_toArray, List.set_cons_zero, List.set_cons_succ, i64_w, i32_w]
                 rfl
                refine one_ (i := 17) (N := some 47) #[true, true, true, true, true, true, true, true, true, true, true, true, true, true, true, true, true, true, false, false, true, true, false, false, false, true, false, false] rfl rfl (one_of HT_.out (by kernel_rfl)) (by decide) (fun K hK => ?_)
                refine goes_ Tryd.func11 (by kernel_rfl) rfl #[.int .i64 a0_3] (by rfl) rfl rfl (by (try simp only [List.map_toArray, List.map_cons, List.map_nil]); first | done | rfl | (simp only [List.length_drop, List.length_take]; rfl)) ?_
                with_reducible refine (spec_NumText.calls k1 a0_3 t131 _ A24.out).mono ?_
                rintro e w36 ⟨rfl, hb⟩
                refine ⟨_, rfl, ?_⟩
                have n0_ := Aside0.mk (blk_below (g := gb124) (o := .cells #[.int .i64 a0_0, .int .i64 a0_1, .int .i64 a0_2, .int .i64 a0_3, .int .i64 a0_4, .slice A0_5 l0_5.length c0_5] 27 (0, 0)) (by (with_reducible repeat (first | refine blk_drewN ?_ _ | refine blk_drew ?_ | refine blk_alloc ?_ _)); exact BK124.out) hb)
                have n1_ := Aside0.mk (below_step (by repeat (first | (with_reducible first | exact HB.out | apply below_alloc | apply pw_below_drewN | apply below_drew1 | refine below_set ?_ GE124.out) | exact HB.out)) hb)
                clear BK124
                clear HB
                have BK124 := n0_
                have HB := n1_
                clear n0_ n1_
                (try clear hb)
                (try clear hb2)
                (try clear hk)
                (try clear hi)
                refine hK.out _ _ ⟨(blk_cell BK124.out 0).trans rfl, (blk_cell BK124.out 1).trans rfl, (blk_cell BK124.out 2).trans rfl, (blk_cell BK124.out 3).trans rfl, (blk_cell BK124.out 4).trans rfl, (blk_cell BK124.out 5).trans rfl⟩ (fun hHeld => ?_)
                clear hK K
                refine norm_ (a' := ?_) ?_ ?_
                rotate_left
                ·
                 show Act.put _ (some 47) _ = _
                 simp only [Act.put, List.setIfInBounds_toArray, List.set_cons_zero, List.set_cons_succ, i64_w, i32_w]
                 rfl
                refine pure_ (i := 18) (N := some 48) (v := ?_) (a' := ?_) #[true, true, true, true, true, true, true, true, true, true, true, true, true, true, true, true, true, true, true, false, true, true, false, false, false, true, false, false] rfl rfl (any_of HT_.out (by kernel_rfl)) (fun _ _ _ h => h) (Or.inl ⟨by rfl, ?_⟩) ?_ ?_
                rotate_left
                ·
                 intro w'
                 go_simp
                 with_reducible rfl
                rotate_left
                ·
                 simp only [Act.put, List.setIfInBounds_toArray, List.set_cons_zero, List.set_cons_succ, i64_w, i32_w]
                 rfl
                refine pure_ (i := 19) (N := some 49) (v := ?_) (a' := ?_) #[true, true, true, true, true, true, true, true, true, true, true, true, true, true, true, true, true, true, true, true, true, true, false, false, false, true, false, false] rfl rfl (any_of HT_.out (by kernel_rfl)) (fun _ _ _ h => h) (Or.inl ⟨by rfl, ?_⟩) ?_ ?_
                rotate_left
                ·
                 intro w'
                 go_simp
                 with_reducible rfl
                rotate_left
                ·
                 simp only [Act.put, List.setIfInBounds_toArray, List.set_cons_zero, List.set_cons_succ, i64_w, i32_w]
                 rfl
                refine one_ (i := 22) (N := some 52) #[true, true, true, true, true, true, true, true, true, true, true, true, true, true, true, true, true, true, true, true, true, true, true, false, false, true, false, false] rfl rfl (one_of HT_.out (by kernel_rfl)) (by decide) (fun K hK => ?_)
                refine goes_ Tryd.func11 (by kernel_rfl) rfl #[.int .i64 a0_4] (by rfl) rfl rfl (by (try simp only [List.map_toArray, List.map_cons, List.map_nil]); first | done | rfl | (simp only [List.length_drop, List.length_take]; rfl)) ?_
                with_reducible refine (spec_NumText.calls k1 a0_4 t132 _ A27.out).mono ?_
                rintro e w37 ⟨rfl, hb⟩
                refine ⟨_, rfl, ?_⟩
                have n0_ := Aside0.mk (blk_below (g := gb124) (o := .cells #[.int .i64 a0_0, .int .i64 a0_1, .int .i64 a0_2, .int .i64 a0_3, .int .i64 a0_4, .slice A0_5 l0_5.length c0_5] 27 (0, 0)) (by (with_reducible repeat (first | refine blk_drewN ?_ _ | refine blk_drew ?_ | refine blk_alloc ?_ _)); exact BK124.out) hb)
                have n1_ := Aside0.mk (below_step (by repeat (first | (with_reducible first | exact HB.out | apply below_alloc | apply pw_below_drewN | apply below_drew1 | refine below_set ?_ GE124.out) | exact HB.out)) hb)
                clear BK124
                clear HB
                have BK124 := n0_
                have HB := n1_
                clear n0_ n1_
                (try clear hb)
                (try clear hb2)
                (try clear hk)
                (try clear hi)
                refine hK.out _ _ ⟨(blk_cell BK124.out 0).trans rfl, (blk_cell BK124.out 1).trans rfl, (blk_cell BK124.out 2).trans rfl, (blk_cell BK124.out 3).trans rfl, (blk_cell BK124.out 4).trans rfl, (blk_cell BK124.out 5).trans rfl⟩ (fun hHeld => ?_)
                clear hK K
                refine norm_ (a' := ?_) ?_ ?_
                rotate_left
                ·
                 show Act.put _ (some 52) _ = _
                 simp only [Act.put, List.setIfInBounds_toArray, List.set_cons_zero, List.set_cons_succ, i64_w, i32_w]
                 rfl
                refine pure_ (i := 23) (N := some 53) (v := ?_) (a' := ?_) #[true, true, true, true, true, true, true, true, true, true, true, true, true, true, true, true, true, true, true, true, true, true, true, true, false, true, false, false] rfl rfl (any_of HT_.out (by kernel_rfl)) (fun _ _ _ h => h) (Or.inl ⟨by rfl, ?_⟩) ?_ ?_
                rotate_left
                ·
                 intro w'
                 go_simp
                 with_reducible rfl
                rotate_left
                ·
                 simp only [Act.put, List.setIfInBounds_toArray, List.set_cons_zero, List.set_cons_succ, i64_w, i32_w]
                 rfl
                refine pure_ (i := 24) (N := some 54) (v := ?_) (a' := ?_) #[true, true, true, true, true, true, true, true, true, true, true, true, true, true, true, true, true, true, true, true, true, true, true, true, true, true, false, false] rfl rfl (any_of HT_.out (by kernel_rfl)) (fun _ _ _ h => h) (Or.inl ⟨by rfl, ?_⟩) ?_ ?_
                rotate_left
                ·
                 intro w'
                 go_simp
                 with_reducible rfl
                rotate_left
                ·
                 simp only [Act.put, List.setIfInBounds_toArray, List.set_cons_zero, List.set_cons_succ, i64_w, i32_w]
                 rfl
                refine pure_ (i := 26) (N := some 56) (v := ?_) (a' := ?_) #[true, true, true, true, true, true, true, true, true, true, true, true, true, true, true, true, true, true, true, true, true, true, true, true, true, true, true, false] rfl rfl (any_of HT_.out (by kernel_rfl)) (fun _ _ _ h => h) (Or.inl ⟨by rfl, ?_⟩) ?_ ?_
                rotate_left
                ·
                 intro w'
                 go_simp
                 with_reducible rfl
                rotate_left
                ·
                 simp only [Act.put, List.setIfInBounds_toArray, List.set_cons_zero, List.set_cons_succ, i64_w, i32_w]
                 rfl
                refine pure_ (i := 27) (N := some 2) (v := ?_) (a' := ?_) #[true, true, true, true, true, true, true, true, true, true, true, true, true, true, true, true, true, true, true, true, true, true, true, true, true, true, true, true] rfl rfl (any_of HT_.out (by kernel_rfl)) (fun _ _ _ h => h) (Or.inl ⟨by rfl, ?_⟩) ?_ ?_
                rotate_left
                ·
                 intro w'
                 go_simp
                 with_reducible rfl
                rotate_left
                ·
                 simp only [Act.put, List.setIfInBounds_toArray, List.set_cons_zero, List.set_cons_succ, i64_w, i32_w]
                 rfl
                refine done_ (done_of HT_.out (by kernel_rfl)) ?_
                try go_wp2
                go_ret
                exact ⟨by first | rfl | (simp [errW_none, errW_some] <;> rfl) | (simp [*, errW_none, errW_some] <;> rfl), by repeat (first | (with_reducible first | exact HB.out | apply below_alloc | apply pw_below_drewN | apply below_drew1 | refine below_set ?_ GE124.out) | exact HB.out)⟩
               ·
                rw [if_neg c30] at H
                exact absurd H (by simp)
              ·
               rw [if_neg c29] at H
               exact absurd H (by simp)
             ·
              rw [if_neg c28] at H
              exact absurd H (by simp)
            ·
             rw [if_neg c26] at H
             exact absurd H (by simp)
           ·
            rw [if_neg c25] at H
            exact absurd H (by simp)
          ·
           rw [if_neg c23] at H
           exact absurd H (by simp)
         ·
          rw [if_neg c22] at H
          exact absurd H (by simp)
        ·
         rw [if_neg c20] at H
         exact absurd H (by simp)
       ·
        rw [if_neg c19] at H
        exact absurd H (by simp)
      ·
       rw [if_neg c17] at H
       exact absurd H (by simp)
     ·
      rw [if_neg c16] at H
      exact absurd H (by simp)
 ·
  replace c3 := Bool.eq_false_iff.mpr c3
  subst c3
  have H1 : (some (⟨#[]⟩ : ByteArray)) = some r := by rw [if_neg (show ¬ (false = true) by decide)] at H; exact H
  clear H
  have H := H1
  clear H1
  obtain rfl := Option.some.inj H
  go_enter Tryd.func5, Tryd.ntmps5
  go_wp2_with (first | ((with_reducible refine gate_dst (N := 1) rfl ?_); refine box_event ?hg (N := 1) ?hd (cs := #[.int .i64 a0_0, .int .i64 a0_1, .int .i64 a0_2, .int .i64 a0_3, .int .i64 a0_4, .slice A0_5 l0_5.length c0_5]) (t := 27) ?hr ?_; (case hd => rfl); (case hg => rfl); (case hr => first | (go_simp; done) | (go_simp; rfl)); intro gb124 hg w38 hbox hb; have n0_ := Aside0.mk (below_step (by repeat (first | (with_reducible first | exact HB.out | apply below_alloc | apply pw_below_drewN | apply below_drew1) | exact HB.out)) hb); have n1_ := Aside0.mk (hbox); have n2_ := Aside0.mk ((by rw [hg]; exact (below_size (by repeat (first | (with_reducible first | exact HB.out | apply below_alloc | apply pw_below_drewN | apply below_drew1) | exact HB.out))) : w.heap.size ≤ gb124)); have n3_ := Aside0.mk ((by rw [hg]; exact (below_size (by repeat (first | (with_reducible first | exact HB.out | apply below_alloc | apply pw_below_drewN | apply below_drew1) | exact HB.out))) : w.heap.size ≤ gb124)); clear HB; have HB := n0_; have BK124 := n1_; have GW124 := n2_; have GE124 := n3_; clear n0_ n1_ n2_ n3_; clear hb hbox hg; have hcz39_0 : w38.cell? ⟨gb124, 0, none⟩ = some (.int .i64 a0_0) := (blk_cell BK124.out 0).trans rfl; have hcz39_1 : w38.cell? ⟨gb124, 1, none⟩ = some (.int .i64 a0_1) := (blk_cell BK124.out 1).trans rfl; have hcz39_2 : w38.cell? ⟨gb124, 2, none⟩ = some (.int .i64 a0_2) := (blk_cell BK124.out 2).trans rfl; have hcz39_3 : w38.cell? ⟨gb124, 3, none⟩ = some (.int .i64 a0_3) := (blk_cell BK124.out 3).trans rfl; have hcz39_4 : w38.cell? ⟨gb124, 4, none⟩ = some (.int .i64 a0_4) := (blk_cell BK124.out 4).trans rfl; have hcz39_5 : w38.cell? ⟨gb124, 5, none⟩ = some (.slice A0_5 l0_5.length c0_5) := (blk_cell BK124.out 5).trans rfl; have hfz39_0 := blk_frozen BK124.out 0; have hfz39_1 := blk_frozen BK124.out 1; have hfz39_2 := blk_frozen BK124.out 2; have hfz39_3 := blk_frozen BK124.out 3; have hfz39_4 := blk_frozen BK124.out 4; have hfz39_5 := blk_frozen BK124.out 5) | ((with_reducible refine gate_callee (f := 10) rfl ?_); refine goesL_ (some 6) rfl rfl Tryd.func10 (by kernel_rfl) rfl #[.agg #[.int .i64 a0_0, .int .i64 a0_1, .int .i64 a0_2, .int .i64 a0_3, .int .i64 a0_4, .slice A0_5 l0_5.length c0_5]] rfl (by (try simp only [List.map_toArray, List.map_cons, List.map_nil]); first | done | rfl | (simp only [List.length_drop, List.length_take]; rfl)) ?_; (with_reducible refine (spec_ConfOk.calls k a0_0 a0_1 a0_2 a0_3 a0_4 _ _ l0_5 false _ ?side1 ?side2 A2.out).mono ?_); (case side1 => repeat (first | exact (Kd.C_below HR0_5.out HB.out) | (with_reducible refine Kd.C_alloc ?_ _) | (with_reducible refine Kd.C_drewN ?_ _) | (with_reducible refine Kd.C_drew ?_))); (case side2 => exact HC0_5.out); rintro e w40 ⟨rfl, hb⟩; refine ⟨_, rfl, ?_⟩; have n0_ := Aside0.mk (blk_below (g := gb124) (o := .cells #[.int .i64 a0_0, .int .i64 a0_1, .int .i64 a0_2, .int .i64 a0_3, .int .i64 a0_4, .slice A0_5 l0_5.length c0_5] 27 (0, 0)) (by (with_reducible repeat (first | refine blk_drewN ?_ _ | refine blk_drew ?_ | refine blk_alloc ?_ _)); exact BK124.out) hb); have n1_ := Aside0.mk (below_step (by repeat (first | (with_reducible first | exact HB.out | apply below_alloc | apply pw_below_drewN | apply below_drew1 | refine below_set ?_ GE124.out) | exact HB.out)) hb); clear BK124; clear HB; have BK124 := n0_; have HB := n1_; clear n0_ n1_; (try clear hb); (try clear hb2); (try clear hk); (try clear hi)))
  go_ret
  exact ⟨by first | rfl | (simp [errW_none, errW_some] <;> rfl) | (simp [*, errW_none, errW_some] <;> rfl), by repeat (first | (with_reducible first | exact HB.out | apply below_alloc | apply pw_below_drewN | apply below_drew1 | refine below_set ?_ GE124.out) | exact HB.out)⟩

end Go.Proofs.YticgekgojgkbgaaDoor.Print
