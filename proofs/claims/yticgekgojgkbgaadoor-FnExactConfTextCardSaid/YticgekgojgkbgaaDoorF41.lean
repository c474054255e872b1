-- Written by printx.py, a program of this session (wip/gen), over the kit's print.py.
import Derived.Test.YticgekgojgkbgaaDoorF0
import Derived.Test.YticgekgojgkbgaaDoorF17
import Derived.Test.YticgekgojgkbgaaDoorF25
import Derived.Test.YticgekgojgkbgaaDoorF40
namespace Go.Proofs.YticgekgojgkbgaaDoor.Print
open Go.RowKit Go.Proofs.YticgekgojgkbgaaDoorV.PrintWords Go.Proofs.YticgekgojgkbgaaDoorV.PrintLast Go.Proofs.YticgekgojgkbgaaDoorV.PrintMore
attribute [local go_sem] max2_int min2_int max_two min_two max_three min_three max_four min_four   -- for this text's walks alone
set_option linter.unusedVariables false
set_option linter.unusedSimpArgs false

/-! ### impl_ConfText: function 7 -/
def impl_ConfText.j0 : Nat → ByteArray → Int → Int → Int → Int → Int → List ByteArray → Option (ByteArray)
 | 0, _, _, _, _, _, _, _ => none
 | k + 1, x3, x178000, x178001, x178002, x178003, x178004, x178005 => (impl_NumText.f x178000).bind fun t180 => (if 6 + t180.size ≤ 9223372036854775807 then (if ((⟨#[112, 97, 114, 116, 115, 32]⟩ : ByteArray) ++ t180).size + 5 ≤ 9223372036854775807 then ((impl_NumText.f x178001).bind fun t181 => (if (((⟨#[112, 97, 114, 116, 115, 32]⟩ : ByteArray) ++ t180) ++ (⟨#[32, 99, 97, 112, 32]⟩ : ByteArray)).size + t181.size ≤ 9223372036854775807 then (if ((((⟨#[112, 97, 114, 116, 115, 32]⟩ : ByteArray) ++ t180) ++ (⟨#[32, 99, 97, 112, 32]⟩ : ByteArray)) ++ t181).size + 6 ≤ 9223372036854775807 then ((impl_NumText.f x178002).bind fun t182 => (if (((((⟨#[112, 97, 114, 116, 115, 32]⟩ : ByteArray) ++ t180) ++ (⟨#[32, 99, 97, 112, 32]⟩ : ByteArray)) ++ t181) ++ (⟨#[32, 115, 117, 98, 115, 32]⟩ : ByteArray)).size + t182.size ≤ 9223372036854775807 then (if ((((((⟨#[112, 97, 114, 116, 115, 32]⟩ : ByteArray) ++ t180) ++ (⟨#[32, 99, 97, 112, 32]⟩ : ByteArray)) ++ t181) ++ (⟨#[32, 115, 117, 98, 115, 32]⟩ : ByteArray)) ++ t182).size + 6 ≤ 9223372036854775807 then ((impl_NumText.f x178003).bind fun t183 => (if (((((((⟨#[112, 97, 114, 116, 115, 32]⟩ : ByteArray) ++ t180) ++ (⟨#[32, 99, 97, 112, 32]⟩ : ByteArray)) ++ t181) ++ (⟨#[32, 115, 117, 98, 115, 32]⟩ : ByteArray)) ++ t182) ++ (⟨#[32, 119, 97, 105, 116, 32]⟩ : ByteArray)).size + t183.size ≤ 9223372036854775807 then (if ((((((((⟨#[112, 97, 114, 116, 115, 32]⟩ : ByteArray) ++ t180) ++ (⟨#[32, 99, 97, 112, 32]⟩ : ByteArray)) ++ t181) ++ (⟨#[32, 115, 117, 98, 115, 32]⟩ : ByteArray)) ++ t182) ++ (⟨#[32, 119, 97, 105, 116, 32]⟩ : ByteArray)) ++ t183).size + 7 ≤ 9223372036854775807 then ((impl_NumText.f x178004).bind fun t184 => (if (((((((((⟨#[112, 97, 114, 116, 115, 32]⟩ : ByteArray) ++ t180) ++ (⟨#[32, 99, 97, 112, 32]⟩ : ByteArray)) ++ t181) ++ (⟨#[32, 115, 117, 98, 115, 32]⟩ : ByteArray)) ++ t182) ++ (⟨#[32, 119, 97, 105, 116, 32]⟩ : ByteArray)) ++ t183) ++ (⟨#[32, 101, 118, 101, 114, 121, 32]⟩ : ByteArray)).size + t184.size ≤ 9223372036854775807 then (if ((((((((((⟨#[112, 97, 114, 116, 115, 32]⟩ : ByteArray) ++ t180) ++ (⟨#[32, 99, 97, 112, 32]⟩ : ByteArray)) ++ t181) ++ (⟨#[32, 115, 117, 98, 115, 32]⟩ : ByteArray)) ++ t182) ++ (⟨#[32, 119, 97, 105, 116, 32]⟩ : ByteArray)) ++ t183) ++ (⟨#[32, 101, 118, 101, 114, 121, 32]⟩ : ByteArray)) ++ t184).size + 4 ≤ 9223372036854775807 then (if (((((((((((⟨#[112, 97, 114, 116, 115, 32]⟩ : ByteArray) ++ t180) ++ (⟨#[32, 99, 97, 112, 32]⟩ : ByteArray)) ++ t181) ++ (⟨#[32, 115, 117, 98, 115, 32]⟩ : ByteArray)) ++ t182) ++ (⟨#[32, 119, 97, 105, 116, 32]⟩ : ByteArray)) ++ t183) ++ (⟨#[32, 101, 118, 101, 114, 121, 32]⟩ : ByteArray)) ++ t184) ++ (⟨#[32, 98, 121, 32]⟩ : ByteArray)).size + x3.size ≤ 9223372036854775807 then (some ((((((((((((⟨#[112, 97, 114, 116, 115, 32]⟩ : ByteArray) ++ t180) ++ (⟨#[32, 99, 97, 112, 32]⟩ : ByteArray)) ++ t181) ++ (⟨#[32, 115, 117, 98, 115, 32]⟩ : ByteArray)) ++ t182) ++ (⟨#[32, 119, 97, 105, 116, 32]⟩ : ByteArray)) ++ t183) ++ (⟨#[32, 101, 118, 101, 114, 121, 32]⟩ : ByteArray)) ++ t184) ++ (⟨#[32, 98, 121, 32]⟩ : ByteArray)) ++ x3)) else (none)) else (none)) else (none))) else (none)) else (none))) else (none)) else (none))) else (none)) else (none))) else (none)) else (none))
def impl_ConfText.f (k : Nat) (a0_0 : Int) (a0_1 : Int) (a0_2 : Int) (a0_3 : Int) (a0_4 : Int) (l0_5 : List ByteArray) : Option (ByteArray) := (impl_ConfOk.f k a0_0 a0_1 a0_2 a0_3 a0_4 l0_5).bind fun t178 => (if t178 = true then ((strings_Join.f l0_5 (⟨#[44]⟩ : ByteArray)).bind fun t179 => (if t179.toList = ([] : List UInt8) then (impl_ConfText.j0 k (⟨#[45]⟩ : ByteArray) a0_0 a0_1 a0_2 a0_3 a0_4 l0_5) else (impl_ConfText.j0 k t179 a0_0 a0_1 a0_2 a0_3 a0_4 l0_5))) else (some (⟨#[]⟩ : ByteArray)))
theorem impl_ConfText.mono_l : ∀ k, (∀ y0 y1 y2 y3 y4 y5 y6, LeO (impl_ConfText.j0 k y0 y1 y2 y3 y4 y5 y6) (impl_ConfText.j0 (k + 1) y0 y1 y2 y3 y4 y5 y6))
 | 0 => fun _ _ _ _ _ _ _ r h => by simp [impl_ConfText.j0] at h
 | k + 1 => by
  have ih0 := impl_ConfText.mono_l k
  ·
   intro y0 y1 y2 y3 y4 y5 y6
   unfold impl_ConfText.j0
   repeat' first
   | (with_reducible exact ih0 _ _ _ _ _ _ _)
   | (with_reducible exact impl_ConfOk.mono _ _ _ _ _ _ _)
   | (with_reducible exact LeO.refl _)
   | (with_reducible exact LeO.none _)
   | (with_reducible refine LeO.ite ?_ ?_)
   | (with_reducible refine LeO.bind ?_ (fun _ => ?_))
   | exact ih0 _ _ _ _ _ _ _
   | exact impl_ConfOk.mono _ _ _ _ _ _ _
   | exact LeO.none _
   | refine LeO.ite ?_ ?_
   | refine LeO.bind ?_ (fun _ => ?_)
theorem impl_ConfText.mono : ∀ a0 a1 a2 a3 a4 a5 k, LeO (impl_ConfText.f k a0 a1 a2 a3 a4 a5) (impl_ConfText.f (k + 1) a0 a1 a2 a3 a4 a5) := by
 intro a0 a1 a2 a3 a4 a5 k
 have ih0 := impl_ConfText.mono_l k
 unfold impl_ConfText.f
 repeat' first
   | (with_reducible exact ih0 _ _ _ _ _ _ _)
   | (with_reducible exact impl_ConfOk.mono _ _ _ _ _ _ _)
   | (with_reducible exact LeO.refl _)
   | (with_reducible exact LeO.none _)
   | (with_reducible refine LeO.ite ?_ ?_)
   | (with_reducible refine LeO.bind ?_ (fun _ => ?_))
   | exact ih0 _ _ _ _ _ _ _
   | exact impl_ConfOk.mono _ _ _ _ _ _ _
   | exact LeO.none _
   | refine LeO.ite ?_ ?_
   | refine LeO.bind ?_ (fun _ => ?_)
def impl_ConfText.T6 : Bool × List (List Nat × List Nat) := (true, [([], []), ([0], [0]), ([1], [1]), ([2], [2]), ([3], [3]), ([], []), ([5], [5]), ([6, 2], [6]), ([4, 7], [4, 7]), ([8], [8]), ([], []), ([10], [10]), ([11, 7], [11]), ([9, 12], [9, 12]), ([13], [13]), ([], []), ([15], [15]), ([16, 12], [16]), ([14, 17], [14, 17]), ([18], [18]), ([], []), ([20], [20]), ([21, 17], [21]), ([19, 22], [19, 22]), ([23], [23]), ([], []), ([24, 25], [24, 25]), ([26, 22, 0, 1, 2, 3, 4, 5, 6, 7, 8, 9, 10, 11, 12, 13, 14, 15, 16, 17, 18, 19, 20, 21, 22, 23, 24, 25, 26], [26])])
def impl_ConfText.B6 : List Nat := [0, 1, 3, 7, 15, 0, 32, 103, 255, 511, 0, 1024, 3303, 8191, 16383, 0, 32768, 105703, 262143, 524287, 0, 1048576, 3382503, 8388607, 16777215, 0, 67108863, 134217727]
theorem impl_ConfText.tab6 : rtab .any (opsOf Tryd.f7 6) = impl_ConfText.T6 := by kernel_rfl
theorem impl_ConfText.bits6 : waitsOk impl_ConfText.T6.2 impl_ConfText.B6 = true := by kernel_rfl
set_option maxHeartbeats 8000000 in
set_option maxRecDepth 100000 in
theorem impl_ConfText.calls (k : Nat) (a0_0 : Int) (a0_1 : Int) (a0_2 : Int) (a0_3 : Int) (a0_4 : Int) (A0_5 : Option Addr) (c0_5 : Nat) (l0_5 : List ByteArray) (r : ByteArray) (w : World) (hr0_5 : Kd.C Kd.string w A0_5 l0_5.length l0_5) (hc0_5 : l0_5.length ≤ c0_5) (h : impl_ConfText.f k a0_0 a0_1 a0_2 a0_3 a0_4 l0_5 = some r) :
  Calls Tryd.prog 7 #[.agg #[.int .i64 a0_0, .int .i64 a0_1, .int .i64 a0_2, .int .i64 a0_3, .int .i64 a0_4, .slice A0_5 l0_5.length c0_5]] w fun e w' => e = .returned (.string r) ∧ Below w.heap.size w w' := by
 have hu27 := Tryd.underlying27
 have HR0_5 := Aside0.mk hr0_5
 have HC0_5 := Aside0.mk hc0_5
 clear hr0_5 hc0_5
 have HB := Aside0.mk (Below.refl w.heap.size w)
 have H : ((impl_ConfOk.f k a0_0 a0_1 a0_2 a0_3 a0_4 l0_5).bind fun t178 => (if t178 = true then ((strings_Join.f l0_5 (⟨#[44]⟩ : ByteArray)).bind fun t179 => (if t179.toList = ([] : List UInt8) then (impl_ConfText.j0 k (⟨#[45]⟩ : ByteArray) a0_0 a0_1 a0_2 a0_3 a0_4 l0_5) else (impl_ConfText.j0 k t179 a0_0 a0_1 a0_2 a0_3 a0_4 l0_5))) else (some (⟨#[]⟩ : ByteArray)))) = some r := h
 clear h
 replace H := Option.bind_eq_some_iff.mp H
 obtain ⟨t178, A20, H⟩ := H
 replace H : (if t178 = true then ((strings_Join.f l0_5 (⟨#[44]⟩ : ByteArray)).bind fun t179 => (if t179.toList = ([] : List UInt8) then (impl_ConfText.j0 k (⟨#[45]⟩ : ByteArray) a0_0 a0_1 a0_2 a0_3 a0_4 l0_5) else (impl_ConfText.j0 k t179 a0_0 a0_1 a0_2 a0_3 a0_4 l0_5))) else (some (⟨#[]⟩ : ByteArray))) = some r := H
 have A2 := Aside0.mk A20
 clear A20
 by_cases c3 : t178 = true
 ·
  subst c3
  have H1 : ((strings_Join.f l0_5 (⟨#[44]⟩ : ByteArray)).bind fun t179 => (if t179.toList = ([] : List UInt8) then (impl_ConfText.j0 k (⟨#[45]⟩ : ByteArray) a0_0 a0_1 a0_2 a0_3 a0_4 l0_5) else (impl_ConfText.j0 k t179 a0_0 a0_1 a0_2 a0_3 a0_4 l0_5))) = some r := by rw [if_pos rfl] at H; exact H
  clear H
  have H := H1
  clear H1
  replace H := Option.bind_eq_some_iff.mp H
  obtain ⟨t179, A40, H⟩ := H
  replace H : (if t179.toList = ([] : List UInt8) then (impl_ConfText.j0 k (⟨#[45]⟩ : ByteArray) a0_0 a0_1 a0_2 a0_3 a0_4 l0_5) else (impl_ConfText.j0 k t179 a0_0 a0_1 a0_2 a0_3 a0_4 l0_5)) = some r := H
  have A4 := Aside0.mk A40
  clear A40
  have HC5 := Aside0.mk H
  clear H
  go_enter Tryd.func7, Tryd.ntmps7
  go_upto_if 11 with (first | ((with_reducible refine gate_dst (N := 1) rfl ?_); refine box_event ?hg (N := 1) ?hd (cs := #[.int .i64 a0_0, .int .i64 a0_1, .int .i64 a0_2, .int .i64 a0_3, .int .i64 a0_4, .slice A0_5 l0_5.length c0_5]) (t := 27) ?hr ?_; (case hd => rfl); (case hg => rfl); (case hr => first | (go_simp; done) | (go_simp; rfl)); intro gb177 hg w6 hbox hb; have n0_ := Aside0.mk (below_step (by repeat (first | (with_reducible first | exact HB.out | apply below_alloc | apply pw_below_drewN | apply below_drew1) | exact HB.out)) hb); have n1_ := Aside0.mk (hbox); have n2_ := Aside0.mk ((by rw [hg]; exact (below_size (by repeat (first | (with_reducible first | exact HB.out | apply below_alloc | apply pw_below_drewN | apply below_drew1) | exact HB.out))) : w.heap.size ≤ gb177)); have n3_ := Aside0.mk ((by rw [hg]; exact (below_size (by repeat (first | (with_reducible first | exact HB.out | apply below_alloc | apply pw_below_drewN | apply below_drew1) | exact HB.out))) : w.heap.size ≤ gb177)); clear HB; have HB := n0_; have BK177 := n1_; have GW177 := n2_; have GE177 := n3_; clear n0_ n1_ n2_ n3_; clear hb hbox hg; have hcz7_0 : w6.cell? ⟨gb177, 0, none⟩ = some (.int .i64 a0_0) := (blk_cell BK177.out 0).trans rfl; have hcz7_1 : w6.cell? ⟨gb177, 1, none⟩ = some (.int .i64 a0_1) := (blk_cell BK177.out 1).trans rfl; have hcz7_2 : w6.cell? ⟨gb177, 2, none⟩ = some (.int .i64 a0_2) := (blk_cell BK177.out 2).trans rfl; have hcz7_3 : w6.cell? ⟨gb177, 3, none⟩ = some (.int .i64 a0_3) := (blk_cell BK177.out 3).trans rfl; have hcz7_4 : w6.cell? ⟨gb177, 4, none⟩ = some (.int .i64 a0_4) := (blk_cell BK177.out 4).trans rfl; have hcz7_5 : w6.cell? ⟨gb177, 5, none⟩ = some (.slice A0_5 l0_5.length c0_5) := (blk_cell BK177.out 5).trans rfl; have hfz7_0 := blk_frozen BK177.out 0; have hfz7_1 := blk_frozen BK177.out 1; have hfz7_2 := blk_frozen BK177.out 2; have hfz7_3 := blk_frozen BK177.out 3; have hfz7_4 := blk_frozen BK177.out 4; have hfz7_5 := blk_frozen BK177.out 5) | ((with_reducible refine gate_callee (f := 13) rfl ?_); refine goesL_ (some 5) rfl rfl Tryd.func13 (by kernel_rfl) rfl #[.agg #[.int .i64 a0_0, .int .i64 a0_1, .int .i64 a0_2, .int .i64 a0_3, .int .i64 a0_4, .slice A0_5 l0_5.length c0_5]] rfl (by (try simp only [List.map_toArray, List.map_cons, List.map_nil]); first | done | rfl | (simp only [List.length_drop, List.length_take]; rfl)) ?_; (with_reducible refine (impl_ConfOk.calls k a0_0 a0_1 a0_2 a0_3 a0_4 _ _ l0_5 true _ ?side1 ?side2 A2.out).mono ?_); (case side1 => repeat (first | exact (Kd.C_below HR0_5.out HB.out) | (with_reducible refine Kd.C_alloc ?_ _) | (with_reducible refine Kd.C_drewN ?_ _) | (with_reducible refine Kd.C_drew ?_))); (case side2 => exact HC0_5.out); rintro e w8 ⟨rfl, hb⟩; refine ⟨_, rfl, ?_⟩; have n0_ := Aside0.mk (blk_below (g := gb177) (o := .cells #[.int .i64 a0_0, .int .i64 a0_1, .int .i64 a0_2, .int .i64 a0_3, .int .i64 a0_4, .slice A0_5 l0_5.length c0_5] 27 (0, 0)) (by (with_reducible repeat (first | refine blk_drewN ?_ _ | refine blk_drew ?_ | refine blk_alloc ?_ _)); exact BK177.out) hb); have n1_ := Aside0.mk (below_step (by repeat (first | (with_reducible first | exact HB.out | apply below_alloc | apply pw_below_drewN | apply below_drew1 | refine below_set ?_ GE177.out) | exact HB.out)) hb); clear BK177; clear HB; have BK177 := n0_; have HB := n1_; clear n0_ n1_; (try clear hb); (try clear hb2); (try clear hk); (try clear hi); have hcz9_0 : w8.cell? ⟨gb177, 0, none⟩ = some (.int .i64 a0_0) := (blk_cell BK177.out 0).trans rfl; have hcz9_1 : w8.cell? ⟨gb177, 1, none⟩ = some (.int .i64 a0_1) := (blk_cell BK177.out 1).trans rfl; have hcz9_2 : w8.cell? ⟨gb177, 2, none⟩ = some (.int .i64 a0_2) := (blk_cell BK177.out 2).trans rfl; have hcz9_3 : w8.cell? ⟨gb177, 3, none⟩ = some (.int .i64 a0_3) := (blk_cell BK177.out 3).trans rfl; have hcz9_4 : w8.cell? ⟨gb177, 4, none⟩ = some (.int .i64 a0_4) := (blk_cell BK177.out 4).trans rfl; have hcz9_5 : w8.cell? ⟨gb177, 5, none⟩ = some (.slice A0_5 l0_5.length c0_5) := (blk_cell BK177.out 5).trans rfl; have hfz9_0 := blk_frozen BK177.out 0; have hfz9_1 := blk_frozen BK177.out 1; have hfz9_2 := blk_frozen BK177.out 2; have hfz9_3 := blk_frozen BK177.out 3; have hfz9_4 := blk_frozen BK177.out 4; have hfz9_5 := blk_frozen BK177.out 5) | ((with_reducible refine gate_callee (f := 14) rfl ?_); refine goesL_ (some 9) rfl rfl Tryd.func14 (by kernel_rfl) rfl #[.slice A0_5 l0_5.length c0_5, .string (⟨#[44]⟩ : ByteArray)] rfl (by (try simp only [List.map_toArray, List.map_cons, List.map_nil]); first | done | rfl | (simp only [List.length_drop, List.length_take]; rfl)) ?_; (with_reducible refine (strings_Join.calls _ _ l0_5 (⟨#[44]⟩ : ByteArray) t179 _ ?side1 ?side2 A4.out).mono ?_); (case side1 => repeat (first | exact (Kd.C_below HR0_5.out HB.out) | (with_reducible refine Kd.C_alloc ?_ _) | (with_reducible refine Kd.C_drewN ?_ _) | (with_reducible refine Kd.C_drew ?_))); (case side2 => exact HC0_5.out); rintro e w10 ⟨rfl, hb⟩; refine ⟨_, rfl, ?_⟩; have n0_ := Aside0.mk (blk_below (g := gb177) (o := .cells #[.int .i64 a0_0, .int .i64 a0_1, .int .i64 a0_2, .int .i64 a0_3, .int .i64 a0_4, .slice A0_5 l0_5.length c0_5] 27 (0, 0)) (by (with_reducible repeat (first | refine blk_drewN ?_ _ | refine blk_drew ?_ | refine blk_alloc ?_ _)); exact BK177.out) hb); have n1_ := Aside0.mk (below_step (by repeat (first | (with_reducible first | exact HB.out | apply below_alloc | apply pw_below_drewN | apply below_drew1 | refine below_set ?_ GE177.out) | exact HB.out)) hb); clear BK177; clear HB; have BK177 := n0_; have HB := n1_; clear n0_ n1_; (try clear hb); (try clear hb2); (try clear hk); (try clear hi)))
  (try simp only [Act.put, List.setIfInBounds_toArray, List.set_cons_zero, List.set_cons_succ])
  go_cut [3] (fun v3 wc => ∃ (kq : Nat) (x3_4 : ByteArray), v3 = .string x3_4 ∧ Aside0 (impl_ConfText.j0 kq x3_4 a0_0 a0_1 a0_2 a0_3 a0_4 l0_5 = some r) ∧ Aside0 (kq ≤ k) ∧ Aside0 (wc.heap[gb177]? = some (.cells #[.int .i64 a0_0, .int .i64 a0_1, .int .i64 a0_2, .int .i64 a0_3, .int .i64 a0_4, (.slice A0_5 l0_5.length c0_5)] 27 (0, 0))) ∧ Aside0 (Below w.heap.size w wc))
  case first =>
   have H := HC5.out
   clear HC5
   by_cases c11 : t179.toList = ([] : List UInt8)
   ·
    rw [if_pos c11] at H
    have c11b0 : (t179.toList == ([] : List UInt8)) = true := beq_iff_eq.mpr c11
    have c11b1 : (t179.toList != ([] : List UInt8)) = false := bne_eq_false_iff_eq.mpr c11
    clear c11
    (first | rw [c11b0] | rw [show t179.toList.isEmpty = true from by rw [← c11b0]; cases t179.toList <;> rfl] | (simp only [i64_w, i32_w]; rw [c11b0]) | skip)
    have H' := Aside0.mk H
    clear H
    go_wp2
    go_meet
    case rel => exact ⟨_, ((⟨#[45]⟩ : ByteArray)), (by first | rfl | (simp; done) | (simp [*]; done)), H', ⟨by first | omega | exact Nat.le_refl _⟩, ⟨by (with_reducible repeat (first | refine blk_drewN ?_ _ | refine blk_drew ?_ | refine blk_alloc ?_ _)); exact BK177.out⟩, ⟨by repeat (first | (with_reducible first | exact HB.out | apply below_alloc | apply pw_below_drewN | apply below_drew1 | refine below_set ?_ GE177.out) | exact HB.out)⟩⟩
   ·
    rw [if_neg c11] at H
    have c11b0 : (t179.toList == ([] : List UInt8)) = false := beq_eq_false_iff_ne.mpr c11
    have c11b1 : (t179.toList != ([] : List UInt8)) = true := bne_iff_ne.mpr c11
    (first | rw [c11b0] | rw [show t179.toList.isEmpty = false from by rw [← c11b0]; cases t179.toList <;> rfl] | (simp only [i64_w, i32_w]; rw [c11b0]) | skip)
    have H' := Aside0.mk H
    clear H
    go_wp2
    go_meet
    case rel => exact ⟨_, (t179), (by first | rfl | (simp; done) | (simp [*]; done)), H', ⟨by first | omega | exact Nat.le_refl _⟩, ⟨by (with_reducible repeat (first | refine blk_drewN ?_ _ | refine blk_drew ?_ | refine blk_alloc ?_ _)); exact BK177.out⟩, ⟨by repeat (first | (with_reducible first | exact HB.out | apply below_alloc | apply pw_below_drewN | apply below_drew1 | refine below_set ?_ GE177.out) | exact HB.out)⟩⟩
  case rest =>
   clear HC5
   try clear c1
   try clear p2
   try clear c3
   try clear c7
   try clear c11
   try clear c11b0
   try clear c11b1
   try clear hcz7_0
   try clear hcz7_1
   try clear hcz7_2
   try clear hcz7_3
   try clear hcz7_4
   try clear hcz7_5
   try clear hcz9_0
   try clear hcz9_1
   try clear hcz9_2
   try clear hcz9_3
   try clear hcz9_4
   try clear hcz9_5
   try clear hfz7_0
   try clear hfz7_1
   try clear hfz7_2
   try clear hfz7_3
   try clear hfz7_4
   try clear hfz7_5
   try clear hfz9_0
   try clear hfz9_1
   try clear hfz9_2
   try clear hfz9_3
   try clear hfz9_4
   try clear hfz9_5
   obtain ⟨kq, x3_4, rfl, HA, HJ4, BK177, HB⟩ := hcut
   cases kq with
   | zero => exact absurd HA.out (by simp [impl_ConfText.j0])
   | succ kj4 =>
    have H := HA.out
    clear HA
    simp only [impl_ConfText.j0] at H
    replace H := Option.bind_eq_some_iff.mp H
    obtain ⟨t180, A120, H⟩ := H
    replace H : (if 6 + t180.size ≤ 9223372036854775807 then (if ((⟨#[112, 97, 114, 116, 115, 32]⟩ : ByteArray) ++ t180).size + 5 ≤ 9223372036854775807 then ((impl_NumText.f a0_1).bind fun t181 => (if (((⟨#[112, 97, 114, 116, 115, 32]⟩ : ByteArray) ++ t180) ++ (⟨#[32, 99, 97, 112, 32]⟩ : ByteArray)).size + t181.size ≤ 9223372036854775807 then (if ((((⟨#[112, 97, 114, 116, 115, 32]⟩ : ByteArray) ++ t180) ++ (⟨#[32, 99, 97, 112, 32]⟩ : ByteArray)) ++ t181).size + 6 ≤ 9223372036854775807 then ((impl_NumText.f a0_2).bind fun t182 => (if (((((⟨#[112, 97, 114, 116, 115, 32]⟩ : ByteArray) ++ t180) ++ (⟨#[32, 99, 97, 112, 32]⟩ : ByteArray)) ++ t181) ++ (⟨#[32, 115, 117, 98, 115, 32]⟩ : ByteArray)).size + t182.size ≤ 9223372036854775807 then (if ((((((⟨#[112, 97, 114, 116, 115, 32]⟩ : ByteArray) ++ t180) ++ (⟨#[32, 99, 97, 112, 32]⟩ : ByteArray)) ++ t181) ++ (⟨#[32, 115, 117, 98, 115, 32]⟩ : ByteArray)) ++ t182).size + 6 ≤ 9223372036854775807 then ((impl_NumText.f a0_3).bind fun t183 => (if (((((((⟨#[112, 97, 114, 116, 115, 32]⟩ : ByteArray) ++ t180) ++ (⟨#[32, 99, 97, 112, 32]⟩ : ByteArray)) ++ t181) ++ (⟨#[32, 115, 117, 98, 115, 32]⟩ : ByteArray)) ++ t182) ++ (⟨#[32, 119, 97, 105, 116, 32]⟩ : ByteArray)).size + t183.size ≤ 9223372036854775807 then (if ((((((((⟨#[112, 97, 114, 116, 115, 32]⟩ : ByteArray) ++ t180) ++ (⟨#[32, 99, 97, 112, 32]⟩ : ByteArray)) ++ t181) ++ (⟨#[32, 115, 117, 98, 115, 32]⟩ : ByteArray)) ++ t182) ++ (⟨#[32, 119, 97, 105, 116, 32]⟩ : ByteArray)) ++ t183).size + 7 ≤ 9223372036854775807 then ((impl_NumText.f a0_4).bind fun t184 => (if (((((((((⟨#[112, 97, 114, 116, 115, 32]⟩ : ByteArray) ++ t180) ++ (⟨#[32, 99, 97, 112, 32]⟩ : ByteArray)) ++ t181) ++ (⟨#[32, 115, 117, 98, 115, 32]⟩ : ByteArray)) ++ t182) ++ (⟨#[32, 119, 97, 105, 116, 32]⟩ : ByteArray)) ++ t183) ++ (⟨#[32, 101, 118, 101, 114, 121, 32]⟩ : ByteArray)).size + t184.size ≤ 9223372036854775807 then (if ((((((((((⟨#[112, 97, 114, 116, 115, 32]⟩ : ByteArray) ++ t180) ++ (⟨#[32, 99, 97, 112, 32]⟩ : ByteArray)) ++ t181) ++ (⟨#[32, 115, 117, 98, 115, 32]⟩ : ByteArray)) ++ t182) ++ (⟨#[32, 119, 97, 105, 116, 32]⟩ : ByteArray)) ++ t183) ++ (⟨#[32, 101, 118, 101, 114, 121, 32]⟩ : ByteArray)) ++ t184).size + 4 ≤ 9223372036854775807 then (if (((((((((((⟨#[112, 97, 114, 116, 115, 32]⟩ : ByteArray) ++ t180) ++ (⟨#[32, 99, 97, 112, 32]⟩ : ByteArray)) ++ t181) ++ (⟨#[32, 115, 117, 98, 115, 32]⟩ : ByteArray)) ++ t182) ++ (⟨#[32, 119, 97, 105, 116, 32]⟩ : ByteArray)) ++ t183) ++ (⟨#[32, 101, 118, 101, 114, 121, 32]⟩ : ByteArray)) ++ t184) ++ (⟨#[32, 98, 121, 32]⟩ : ByteArray)).size + x3_4.size ≤ 9223372036854775807 then (some ((((((((((((⟨#[112, 97, 114, 116, 115, 32]⟩ : ByteArray) ++ t180) ++ (⟨#[32, 99, 97, 112, 32]⟩ : ByteArray)) ++ t181) ++ (⟨#[32, 115, 117, 98, 115, 32]⟩ : ByteArray)) ++ t182) ++ (⟨#[32, 119, 97, 105, 116, 32]⟩ : ByteArray)) ++ t183) ++ (⟨#[32, 101, 118, 101, 114, 121, 32]⟩ : ByteArray)) ++ t184) ++ (⟨#[32, 98, 121, 32]⟩ : ByteArray)) ++ x3_4)) else (none)) else (none)) else (none))) else (none)) else (none))) else (none)) else (none))) else (none)) else (none))) else (none)) else (none)) = some r := H
    have A12 := Aside0.mk A120
    clear A120
    by_cases c13 : 6 + t180.size ≤ 9223372036854775807
    ·
     rw [if_pos c13] at H
     have c13b0 := eq_true c13
     have c13b1 : decide (6 + t180.size ≤ 9223372036854775807) = true := decide_eq_true c13
     try have c13b2 : (9223372036854775807 < 6 + t180.size) = False := eq_false (Nat.not_lt.2 c13)
     by_cases c14 : ((⟨#[112, 97, 114, 116, 115, 32]⟩ : ByteArray) ++ t180).size + 5 ≤ 9223372036854775807
     ·
      rw [if_pos c14] at H
      have c14b0 := eq_true c14
      have c14b1 : decide (((⟨#[112, 97, 114, 116, 115, 32]⟩ : ByteArray) ++ t180).size + 5 ≤ 9223372036854775807) = true := decide_eq_true c14
      try have c14b2 : (9223372036854775807 < ((⟨#[112, 97, 114, 116, 115, 32]⟩ : ByteArray) ++ t180).size + 5) = False := eq_false (Nat.not_lt.2 c14)
      have c14s := c14
      simp only [ByteArray.size_append, show (⟨#[112, 97, 114, 116, 115, 32]⟩ : ByteArray).size = 6 from rfl] at c14s
      have c14b3 := eq_false (Nat.not_lt.2 c14s)
      have c14b4 := decide_eq_true c14s
      have c14b5 := eq_true c14s
      clear c14s
      replace H := Option.bind_eq_some_iff.mp H
      obtain ⟨t181, A150, H⟩ := H
      replace H : (if (((⟨#[112, 97, 114, 116, 115, 32]⟩ : ByteArray) ++ t180) ++ (⟨#[32, 99, 97, 112, 32]⟩ : ByteArray)).size + t181.size ≤ 9223372036854775807 then (if ((((⟨#[112, 97, 114, 116, 115, 32]⟩ : ByteArray) ++ t180) ++ (⟨#[32, 99, 97, 112, 32]⟩ : ByteArray)) ++ t181).size + 6 ≤ 9223372036854775807 then ((impl_NumText.f a0_2).bind fun t182 => (if (((((⟨#[112, 97, 114, 116, 115, 32]⟩ : ByteArray) ++ t180) ++ (⟨#[32, 99, 97, 112, 32]⟩ : ByteArray)) ++ t181) ++ (⟨#[32, 115, 117, 98, 115, 32]⟩ : ByteArray)).size + t182.size ≤ 9223372036854775807 then (if ((((((⟨#[112, 97, 114, 116, 115, 32]⟩ : ByteArray) ++ t180) ++ (⟨#[32, 99, 97, 112, 32]⟩ : ByteArray)) ++ t181) ++ (⟨#[32, 115, 117, 98, 115, 32]⟩ : ByteArray)) ++ t182).size + 6 ≤ 9223372036854775807 then ((impl_NumText.f a0_3).bind fun t183 => (if (((((((⟨#[112, 97, 114, 116, 115, 32]⟩ : ByteArray) ++ t180) ++ (⟨#[32, 99, 97, 112, 32]⟩ : ByteArray)) ++ t181) ++ (⟨#[32, 115, 117, 98, 115, 32]⟩ : ByteArray)) ++ t182) ++ (⟨#[32, 119, 97, 105, 116, 32]⟩ : ByteArray)).size + t183.size ≤ 9223372036854775807 then (if ((((((((⟨#[112, 97, 114, 116, 115, 32]⟩ : ByteArray) ++ t180) ++ (⟨#[32, 99, 97, 112, 32]⟩ : ByteArray)) ++ t181) ++ (⟨#[32, 115, 117, 98, 115, 32]⟩ : ByteArray)) ++ t182) ++ (⟨#[32, 119, 97, 105, 116, 32]⟩ : ByteArray)) ++ t183).size + 7 ≤ 9223372036854775807 then ((impl_NumText.f a0_4).bind fun t184 => (if (((((((((⟨#[112, 97, 114, 116, 115, 32]⟩ : ByteArray) ++ t180) ++ (⟨#[32, 99, 97, 112, 32]⟩ : ByteArray)) ++ t181) ++ (⟨#[32, 115, 117, 98, 115, 32]⟩ : ByteArray)) ++ t182) ++ (⟨#[32, 119, 97, 105, 116, 32]⟩ : ByteArray)) ++ t183) ++ (⟨#[32, 101, 118, 101, 114, 121, 32]⟩ : ByteArray)).size + t184.size ≤ 9223372036854775807 then (if ((((((((((⟨#[112, 97, 114, 116, 115, 32]⟩ : ByteArray) ++ t180) ++ (⟨#[32, 99, 97, 112, 32]⟩ : ByteArray)) ++ t181) ++ (⟨#[32, 115, 117, 98, 115, 32]⟩ : ByteArray)) ++ t182) ++ (⟨#[32, 119, 97, 105, 116, 32]⟩ : ByteArray)) ++ t183) ++ (⟨#[32, 101, 118, 101, 114, 121, 32]⟩ : ByteArray)) ++ t184).size + 4 ≤ 9223372036854775807 then (if (((((((((((⟨#[112, 97, 114, 116, 115, 32]⟩ : ByteArray) ++ t180) ++ (⟨#[32, 99, 97, 112, 32]⟩ : ByteArray)) ++ t181) ++ (⟨#[32, 115, 117, 98, 115, 32]⟩ : ByteArray)) ++ t182) ++ (⟨#[32, 119, 97, 105, 116, 32]⟩ : ByteArray)) ++ t183) ++ (⟨#[32, 101, 118, 101, 114, 121, 32]⟩ : ByteArray)) ++ t184) ++ (⟨#[32, 98, 121, 32]⟩ : ByteArray)).size + x3_4.size ≤ 9223372036854775807 then (some ((((((((((((⟨#[112, 97, 114, 116, 115, 32]⟩ : ByteArray) ++ t180) ++ (⟨#[32, 99, 97, 112, 32]⟩ : ByteArray)) ++ t181) ++ (⟨#[32, 115, 117, 98, 115, 32]⟩ : ByteArray)) ++ t182) ++ (⟨#[32, 119, 97, 105, 116, 32]⟩ : ByteArray)) ++ t183) ++ (⟨#[32, 101, 118, 101, 114, 121, 32]⟩ : ByteArray)) ++ t184) ++ (⟨#[32, 98, 121, 32]⟩ : ByteArray)) ++ x3_4)) else (none)) else (none)) else (none))) else (none)) else (none))) else (none)) else (none))) else (none)) else (none)) = some r := H
      have A15 := Aside0.mk A150
      clear A150
      by_cases c16 : (((⟨#[112, 97, 114, 116, 115, 32]⟩ : ByteArray) ++ t180) ++ (⟨#[32, 99, 97, 112, 32]⟩ : ByteArray)).size + t181.size ≤ 9223372036854775807
      ·
       rw [if_pos c16] at H
       have c16b0 := eq_true c16
       have c16b1 : decide ((((⟨#[112, 97, 114, 116, 115, 32]⟩ : ByteArray) ++ t180) ++ (⟨#[32, 99, 97, 112, 32]⟩ : ByteArray)).size + t181.size ≤ 9223372036854775807) = true := decide_eq_true c16
       try have c16b2 : (9223372036854775807 < (((⟨#[112, 97, 114, 116, 115, 32]⟩ : ByteArray) ++ t180) ++ (⟨#[32, 99, 97, 112, 32]⟩ : ByteArray)).size + t181.size) = False := eq_false (Nat.not_lt.2 c16)
       have c16s := c16
       simp only [ByteArray.size_append, show (⟨#[112, 97, 114, 116, 115, 32]⟩ : ByteArray).size = 6 from rfl, show (⟨#[32, 99, 97, 112, 32]⟩ : ByteArray).size = 5 from rfl] at c16s
       have c16b3 := eq_false (Nat.not_lt.2 c16s)
       have c16b4 := decide_eq_true c16s
       have c16b5 := eq_true c16s
       clear c16s
       by_cases c17 : ((((⟨#[112, 97, 114, 116, 115, 32]⟩ : ByteArray) ++ t180) ++ (⟨#[32, 99, 97, 112, 32]⟩ : ByteArray)) ++ t181).size + 6 ≤ 9223372036854775807
       ·
        rw [if_pos c17] at H
        have c17b0 := eq_true c17
        have c17b1 : decide (((((⟨#[112, 97, 114, 116, 115, 32]⟩ : ByteArray) ++ t180) ++ (⟨#[32, 99, 97, 112, 32]⟩ : ByteArray)) ++ t181).size + 6 ≤ 9223372036854775807) = true := decide_eq_true c17
        try have c17b2 : (9223372036854775807 < ((((⟨#[112, 97, 114, 116, 115, 32]⟩ : ByteArray) ++ t180) ++ (⟨#[32, 99, 97, 112, 32]⟩ : ByteArray)) ++ t181).size + 6) = False := eq_false (Nat.not_lt.2 c17)
        have c17s := c17
        simp only [ByteArray.size_append, show (⟨#[112, 97, 114, 116, 115, 32]⟩ : ByteArray).size = 6 from rfl, show (⟨#[32, 99, 97, 112, 32]⟩ : ByteArray).size = 5 from rfl] at c17s
        have c17b3 := eq_false (Nat.not_lt.2 c17s)
        have c17b4 := decide_eq_true c17s
        have c17b5 := eq_true c17s
        clear c17s
        replace H := Option.bind_eq_some_iff.mp H
        obtain ⟨t182, A180, H⟩ := H
        replace H : (if (((((⟨#[112, 97, 114, 116, 115, 32]⟩ : ByteArray) ++ t180) ++ (⟨#[32, 99, 97, 112, 32]⟩ : ByteArray)) ++ t181) ++ (⟨#[32, 115, 117, 98, 115, 32]⟩ : ByteArray)).size + t182.size ≤ 9223372036854775807 then (if ((((((⟨#[112, 97, 114, 116, 115, 32]⟩ : ByteArray) ++ t180) ++ (⟨#[32, 99, 97, 112, 32]⟩ : ByteArray)) ++ t181) ++ (⟨#[32, 115, 117, 98, 115, 32]⟩ : ByteArray)) ++ t182).size + 6 ≤ 9223372036854775807 then ((impl_NumText.f a0_3).bind fun t183 => (if (((((((⟨#[112, 97, 114, 116, 115, 32]⟩ : ByteArray) ++ t180) ++ (⟨#[32, 99, 97, 112, 32]⟩ : ByteArray)) ++ t181) ++ (⟨#[32, 115, 117, 98, 115, 32]⟩ : ByteArray)) ++ t182) ++ (⟨#[32, 119, 97, 105, 116, 32]⟩ : ByteArray)).size + t183.size ≤ 9223372036854775807 then (if ((((((((⟨#[112, 97, 114, 116, 115, 32]⟩ : ByteArray) ++ t180) ++ (⟨#[32, 99, 97, 112, 32]⟩ : ByteArray)) ++ t181) ++ (⟨#[32, 115, 117, 98, 115, 32]⟩ : ByteArray)) ++ t182) ++ (⟨#[32, 119, 97, 105, 116, 32]⟩ : ByteArray)) ++ t183).size + 7 ≤ 9223372036854775807 then ((impl_NumText.f a0_4).bind fun t184 => (if (((((((((⟨#[112, 97, 114, 116, 115, 32]⟩ : ByteArray) ++ t180) ++ (⟨#[32, 99, 97, 112, 32]⟩ : ByteArray)) ++ t181) ++ (⟨#[32, 115, 117, 98, 115, 32]⟩ : ByteArray)) ++ t182) ++ (⟨#[32, 119, 97, 105, 116, 32]⟩ : ByteArray)) ++ t183) ++ (⟨#[32, 101, 118, 101, 114, 121, 32]⟩ : ByteArray)).size + t184.size ≤ 9223372036854775807 then (if ((((((((((⟨#[112, 97, 114, 116, 115, 32]⟩ : ByteArray) ++ t180) ++ (⟨#[32, 99, 97, 112, 32]⟩ : ByteArray)) ++ t181) ++ (⟨#[32, 115, 117, 98, 115, 32]⟩ : ByteArray)) ++ t182) ++ (⟨#[32, 119, 97, 105, 116, 32]⟩ : ByteArray)) ++ t183) ++ (⟨#[32, 101, 118, 101, 114, 121, 32]⟩ : ByteArray)) ++ t184).size + 4 ≤ 9223372036854775807 then (if (((((((((((⟨#[112, 97, 114, 116, 115, 32]⟩ : ByteArray) ++ t180) ++ (⟨#[32, 99, 97, 112, 32]⟩ : ByteArray)) ++ t181) ++ (⟨#[32, 115, 117, 98, 115, 32]⟩ : ByteArray)) ++ t182) ++ (⟨#[32, 119, 97, 105, 116, 32]⟩ : ByteArray)) ++ t183) ++ (⟨#[32, 101, 118, 101, 114, 121, 32]⟩ : ByteArray)) ++ t184) ++ (⟨#[32, 98, 121, 32]⟩ : ByteArray)).size + x3_4.size ≤ 9223372036854775807 then (some ((((((((((((⟨#[112, 97, 114, 116, 115, 32]⟩ : ByteArray) ++ t180) ++ (⟨#[32, 99, 97, 112, 32]⟩ : ByteArray)) ++ t181) ++ (⟨#[32, 115, 117, 98, 115, 32]⟩ : ByteArray)) ++ t182) ++ (⟨#[32, 119, 97, 105, 116, 32]⟩ : ByteArray)) ++ t183) ++ (⟨#[32, 101, 118, 101, 114, 121, 32]⟩ : ByteArray)) ++ t184) ++ (⟨#[32, 98, 121, 32]⟩ : ByteArray)) ++ x3_4)) else (none)) else (none)) else (none))) else (none)) else (none))) else (none)) else (none)) = some r := H
        have A18 := Aside0.mk A180
        clear A180
        by_cases c19 : (((((⟨#[112, 97, 114, 116, 115, 32]⟩ : ByteArray) ++ t180) ++ (⟨#[32, 99, 97, 112, 32]⟩ : ByteArray)) ++ t181) ++ (⟨#[32, 115, 117, 98, 115, 32]⟩ : ByteArray)).size + t182.size ≤ 9223372036854775807
        ·
         rw [if_pos c19] at H
         have c19b0 := eq_true c19
         have c19b1 : decide ((((((⟨#[112, 97, 114, 116, 115, 32]⟩ : ByteArray) ++ t180) ++ (⟨#[32, 99, 97, 112, 32]⟩ : ByteArray)) ++ t181) ++ (⟨#[32, 115, 117, 98, 115, 32]⟩ : ByteArray)).size + t182.size ≤ 9223372036854775807) = true := decide_eq_true c19
         try have c19b2 : (9223372036854775807 < (((((⟨#[112, 97, 114, 116, 115, 32]⟩ : ByteArray) ++ t180) ++ (⟨#[32, 99, 97, 112, 32]⟩ : ByteArray)) ++ t181) ++ (⟨#[32, 115, 117, 98, 115, 32]⟩ : ByteArray)).size + t182.size) = False := eq_false (Nat.not_lt.2 c19)
         have c19s := c19
         simp only [ByteArray.size_append, show (⟨#[112, 97, 114, 116, 115, 32]⟩ : ByteArray).size = 6 from rfl, show (⟨#[32, 99, 97, 112, 32]⟩ : ByteArray).size = 5 from rfl, show (⟨#[32, 115, 117, 98, 115, 32]⟩ : ByteArray).size = 6 from rfl] at c19s
         have c19b3 := eq_false (Nat.not_lt.2 c19s)
         have c19b4 := decide_eq_true c19s
         have c19b5 := eq_true c19s
         clear c19s
         by_cases c20 : ((((((⟨#[112, 97, 114, 116, 115, 32]⟩ : ByteArray) ++ t180) ++ (⟨#[32, 99, 97, 112, 32]⟩ : ByteArray)) ++ t181) ++ (⟨#[32, 115, 117, 98, 115, 32]⟩ : ByteArray)) ++ t182).size + 6 ≤ 9223372036854775807
         ·
          rw [if_pos c20] at H
          have c20b0 := eq_true c20
          have c20b1 : decide (((((((⟨#[112, 97, 114, 116, 115, 32]⟩ : ByteArray) ++ t180) ++ (⟨#[32, 99, 97, 112, 32]⟩ : ByteArray)) ++ t181) ++ (⟨#[32, 115, 117, 98, 115, 32]⟩ : ByteArray)) ++ t182).size + 6 ≤ 9223372036854775807) = true := decide_eq_true c20
          try have c20b2 : (9223372036854775807 < ((((((⟨#[112, 97, 114, 116, 115, 32]⟩ : ByteArray) ++ t180) ++ (⟨#[32, 99, 97, 112, 32]⟩ : ByteArray)) ++ t181) ++ (⟨#[32, 115, 117, 98, 115, 32]⟩ : ByteArray)) ++ t182).size + 6) = False := eq_false (Nat.not_lt.2 c20)
          have c20s := c20
          simp only [ByteArray.size_append, show (⟨#[112, 97, 114, 116, 115, 32]⟩ : ByteArray).size = 6 from rfl, show (⟨#[32, 99, 97, 112, 32]⟩ : ByteArray).size = 5 from rfl, show (⟨#[32, 115, 117, 98, 115, 32]⟩ : ByteArray).size = 6 from rfl] at c20s
          have c20b3 := eq_false (Nat.not_lt.2 c20s)
          have c20b4 := decide_eq_true c20s
          have c20b5 := eq_true c20s
          clear c20s
          replace H := Option.bind_eq_some_iff.mp H
          obtain ⟨t183, A210, H⟩ := H
          replace H : (if (((((((⟨#[112, 97, 114, 116, 115, 32]⟩ : ByteArray) ++ t180) ++ (⟨#[32, 99, 97, 112, 32]⟩ : ByteArray)) ++ t181) ++ (⟨#[32, 115, 117, 98, 115, 32]⟩ : ByteArray)) ++ t182) ++ (⟨#[32, 119, 97, 105, 116, 32]⟩ : ByteArray)).size + t183.size ≤ 9223372036854775807 then (if ((((((((⟨#[112, 97, 114, 116, 115, 32]⟩ : ByteArray) ++ t180) ++ (⟨#[32, 99, 97, 112, 32]⟩ : ByteArray)) ++ t181) ++ (⟨#[32, 115, 117, 98, 115, 32]⟩ : ByteArray)) ++ t182) ++ (⟨#[32, 119, 97, 105, 116, 32]⟩ : ByteArray)) ++ t183).size + 7 ≤ 9223372036854775807 then ((impl_NumText.f a0_4).bind fun t184 => (if (((((((((⟨#[112, 97, 114, 116, 115, 32]⟩ : ByteArray) ++ t180) ++ (⟨#[32, 99, 97, 112, 32]⟩ : ByteArray)) ++ t181) ++ (⟨#[32, 115, 117, 98, 115, 32]⟩ : ByteArray)) ++ t182) ++ (⟨#[32, 119, 97, 105, 116, 32]⟩ : ByteArray)) ++ t183) ++ (⟨#[32, 101, 118, 101, 114, 121, 32]⟩ : ByteArray)).size + t184.size ≤ 9223372036854775807 then (if ((((((((((⟨#[112, 97, 114, 116, 115, 32]⟩ : ByteArray) ++ t180) ++ (⟨#[32, 99, 97, 112, 32]⟩ : ByteArray)) ++ t181) ++ (⟨#[32, 115, 117, 98, 115, 32]⟩ : ByteArray)) ++ t182) ++ (⟨#[32, 119, 97, 105, 116, 32]⟩ : ByteArray)) ++ t183) ++ (⟨#[32, 101, 118, 101, 114, 121, 32]⟩ : ByteArray)) ++ t184).size + 4 ≤ 9223372036854775807 then (if (((((((((((⟨#[112, 97, 114, 116, 115, 32]⟩ : ByteArray) ++ t180) ++ (⟨#[32, 99, 97, 112, 32]⟩ : ByteArray)) ++ t181) ++ (⟨#[32, 115, 117, 98, 115, 32]⟩ : ByteArray)) ++ t182) ++ (⟨#[32, 119, 97, 105, 116, 32]⟩ : ByteArray)) ++ t183) ++ (⟨#[32, 101, 118, 101, 114, 121, 32]⟩ : ByteArray)) ++ t184) ++ (⟨#[32, 98, 121, 32]⟩ : ByteArray)).size + x3_4.size ≤ 9223372036854775807 then (some ((((((((((((⟨#[112, 97, 114, 116, 115, 32]⟩ : ByteArray) ++ t180) ++ (⟨#[32, 99, 97, 112, 32]⟩ : ByteArray)) ++ t181) ++ (⟨#[32, 115, 117, 98, 115, 32]⟩ : ByteArray)) ++ t182) ++ (⟨#[32, 119, 97, 105, 116, 32]⟩ : ByteArray)) ++ t183) ++ (⟨#[32, 101, 118, 101, 114, 121, 32]⟩ : ByteArray)) ++ t184) ++ (⟨#[32, 98, 121, 32]⟩ : ByteArray)) ++ x3_4)) else (none)) else (none)) else (none))) else (none)) else (none)) = some r := H
          have A21 := Aside0.mk A210
          clear A210
          by_cases c22 : (((((((⟨#[112, 97, 114, 116, 115, 32]⟩ : ByteArray) ++ t180) ++ (⟨#[32, 99, 97, 112, 32]⟩ : ByteArray)) ++ t181) ++ (⟨#[32, 115, 117, 98, 115, 32]⟩ : ByteArray)) ++ t182) ++ (⟨#[32, 119, 97, 105, 116, 32]⟩ : ByteArray)).size + t183.size ≤ 9223372036854775807
          ·
           rw [if_pos c22] at H
           have c22b0 := eq_true c22
           have c22b1 : decide ((((((((⟨#[112, 97, 114, 116, 115, 32]⟩ : ByteArray) ++ t180) ++ (⟨#[32, 99, 97, 112, 32]⟩ : ByteArray)) ++ t181) ++ (⟨#[32, 115, 117, 98, 115, 32]⟩ : ByteArray)) ++ t182) ++ (⟨#[32, 119, 97, 105, 116, 32]⟩ : ByteArray)).size + t183.size ≤ 9223372036854775807) = true := decide_eq_true c22
           try have c22b2 : (9223372036854775807 < (((((((⟨#[112, 97, 114, 116, 115, 32]⟩ : ByteArray) ++ t180) ++ (⟨#[32, 99, 97, 112, 32]⟩ : ByteArray)) ++ t181) ++ (⟨#[32, 115, 117, 98, 115, 32]⟩ : ByteArray)) ++ t182) ++ (⟨#[32, 119, 97, 105, 116, 32]⟩ : ByteArray)).size + t183.size) = False := eq_false (Nat.not_lt.2 c22)
           have c22s := c22
           simp only [ByteArray.size_append, show (⟨#[112, 97, 114, 116, 115, 32]⟩ : ByteArray).size = 6 from rfl, show (⟨#[32, 99, 97, 112, 32]⟩ : ByteArray).size = 5 from rfl, show (⟨#[32, 115, 117, 98, 115, 32]⟩ : ByteArray).size = 6 from rfl, show (⟨#[32, 119, 97, 105, 116, 32]⟩ : ByteArray).size = 6 from rfl] at c22s
           have c22b3 := eq_false (Nat.not_lt.2 c22s)
           have c22b4 := decide_eq_true c22s
           have c22b5 := eq_true c22s
           clear c22s
           by_cases c23 : ((((((((⟨#[112, 97, 114, 116, 115, 32]⟩ : ByteArray) ++ t180) ++ (⟨#[32, 99, 97, 112, 32]⟩ : ByteArray)) ++ t181) ++ (⟨#[32, 115, 117, 98, 115, 32]⟩ : ByteArray)) ++ t182) ++ (⟨#[32, 119, 97, 105, 116, 32]⟩ : ByteArray)) ++ t183).size + 7 ≤ 9223372036854775807
           ·
            rw [if_pos c23] at H
            have c23b0 := eq_true c23
            have c23b1 : decide (((((((((⟨#[112, 97, 114, 116, 115, 32]⟩ : ByteArray) ++ t180) ++ (⟨#[32, 99, 97, 112, 32]⟩ : ByteArray)) ++ t181) ++ (⟨#[32, 115, 117, 98, 115, 32]⟩ : ByteArray)) ++ t182) ++ (⟨#[32, 119, 97, 105, 116, 32]⟩ : ByteArray)) ++ t183).size + 7 ≤ 9223372036854775807) = true := decide_eq_true c23
            try have c23b2 : (9223372036854775807 < ((((((((⟨#[112, 97, 114, 116, 115, 32]⟩ : ByteArray) ++ t180) ++ (⟨#[32, 99, 97, 112, 32]⟩ : ByteArray)) ++ t181) ++ (⟨#[32, 115, 117, 98, 115, 32]⟩ : ByteArray)) ++ t182) ++ (⟨#[32, 119, 97, 105, 116, 32]⟩ : ByteArray)) ++ t183).size + 7) = False := eq_false (Nat.not_lt.2 c23)
            have c23s := c23
            simp only [ByteArray.size_append, show (⟨#[112, 97, 114, 116, 115, 32]⟩ : ByteArray).size = 6 from rfl, show (⟨#[32, 99, 97, 112, 32]⟩ : ByteArray).size = 5 from rfl, show (⟨#[32, 115, 117, 98, 115, 32]⟩ : ByteArray).size = 6 from rfl, show (⟨#[32, 119, 97, 105, 116, 32]⟩ : ByteArray).size = 6 from rfl] at c23s
            have c23b3 := eq_false (Nat.not_lt.2 c23s)
            have c23b4 := decide_eq_true c23s
            have c23b5 := eq_true c23s
            clear c23s
            replace H := Option.bind_eq_some_iff.mp H
            obtain ⟨t184, A240, H⟩ := H
            replace H : (if (((((((((⟨#[112, 97, 114, 116, 115, 32]⟩ : ByteArray) ++ t180) ++ (⟨#[32, 99, 97, 112, 32]⟩ : ByteArray)) ++ t181) ++ (⟨#[32, 115, 117, 98, 115, 32]⟩ : ByteArray)) ++ t182) ++ (⟨#[32, 119, 97, 105, 116, 32]⟩ : ByteArray)) ++ t183) ++ (⟨#[32, 101, 118, 101, 114, 121, 32]⟩ : ByteArray)).size + t184.size ≤ 9223372036854775807 then (if ((((((((((⟨#[112, 97, 114, 116, 115, 32]⟩ : ByteArray) ++ t180) ++ (⟨#[32, 99, 97, 112, 32]⟩ : ByteArray)) ++ t181) ++ (⟨#[32, 115, 117, 98, 115, 32]⟩ : ByteArray)) ++ t182) ++ (⟨#[32, 119, 97, 105, 116, 32]⟩ : ByteArray)) ++ t183) ++ (⟨#[32, 101, 118, 101, 114, 121, 32]⟩ : ByteArray)) ++ t184).size + 4 ≤ 9223372036854775807 then (if (((((((((((⟨#[112, 97, 114, 116, 115, 32]⟩ : ByteArray) ++ t180) ++ (⟨#[32, 99, 97, 112, 32]⟩ : ByteArray)) ++ t181) ++ (⟨#[32, 115, 117, 98, 115, 32]⟩ : ByteArray)) ++ t182) ++ (⟨#[32, 119, 97, 105, 116, 32]⟩ : ByteArray)) ++ t183) ++ (⟨#[32, 101, 118, 101, 114, 121, 32]⟩ : ByteArray)) ++ t184) ++ (⟨#[32, 98, 121, 32]⟩ : ByteArray)).size + x3_4.size ≤ 9223372036854775807 then (some ((((((((((((⟨#[112, 97, 114, 116, 115, 32]⟩ : ByteArray) ++ t180) ++ (⟨#[32, 99, 97, 112, 32]⟩ : ByteArray)) ++ t181) ++ (⟨#[32, 115, 117, 98, 115, 32]⟩ : ByteArray)) ++ t182) ++ (⟨#[32, 119, 97, 105, 116, 32]⟩ : ByteArray)) ++ t183) ++ (⟨#[32, 101, 118, 101, 114, 121, 32]⟩ : ByteArray)) ++ t184) ++ (⟨#[32, 98, 121, 32]⟩ : ByteArray)) ++ x3_4)) else (none)) else (none)) else (none)) = some r := H
            have A24 := Aside0.mk A240
            clear A240
            by_cases c25 : (((((((((⟨#[112, 97, 114, 116, 115, 32]⟩ : ByteArray) ++ t180) ++ (⟨#[32, 99, 97, 112, 32]⟩ : ByteArray)) ++ t181) ++ (⟨#[32, 115, 117, 98, 115, 32]⟩ : ByteArray)) ++ t182) ++ (⟨#[32, 119, 97, 105, 116, 32]⟩ : ByteArray)) ++ t183) ++ (⟨#[32, 101, 118, 101, 114, 121, 32]⟩ : ByteArray)).size + t184.size ≤ 9223372036854775807
            ·
             rw [if_pos c25] at H
             have c25b0 := eq_true c25
             have c25b1 : decide ((((((((((⟨#[112, 97, 114, 116, 115, 32]⟩ : ByteArray) ++ t180) ++ (⟨#[32, 99, 97, 112, 32]⟩ : ByteArray)) ++ t181) ++ (⟨#[32, 115, 117, 98, 115, 32]⟩ : ByteArray)) ++ t182) ++ (⟨#[32, 119, 97, 105, 116, 32]⟩ : ByteArray)) ++ t183) ++ (⟨#[32, 101, 118, 101, 114, 121, 32]⟩ : ByteArray)).size + t184.size ≤ 9223372036854775807) = true := decide_eq_true c25
             try have c25b2 : (9223372036854775807 < (((((((((⟨#[112, 97, 114, 116, 115, 32]⟩ : ByteArray) ++ t180) ++ (⟨#[32, 99, 97, 112, 32]⟩ : ByteArray)) ++ t181) ++ (⟨#[32, 115, 117, 98, 115, 32]⟩ : ByteArray)) ++ t182) ++ (⟨#[32, 119, 97, 105, 116, 32]⟩ : ByteArray)) ++ t183) ++ (⟨#[32, 101, 118, 101, 114, 121, 32]⟩ : ByteArray)).size + t184.size) = False := eq_false (Nat.not_lt.2 c25)
             have c25s := c25
             simp only [ByteArray.size_append, show (⟨#[112, 97, 114, 116, 115, 32]⟩ : ByteArray).size = 6 from rfl, show (⟨#[32, 99, 97, 112, 32]⟩ : ByteArray).size = 5 from rfl, show (⟨#[32, 115, 117, 98, 115, 32]⟩ : ByteArray).size = 6 from rfl, show (⟨#[32, 119, 97, 105, 116, 32]⟩ : ByteArray).size = 6 from rfl, show (⟨#[32, 101, 118, 101, 114, 121, 32]⟩ : ByteArray).size = 7 from rfl] at c25s
             have c25b3 := eq_false (Nat.not_lt.2 c25s)
             have c25b4 := decide_eq_true c25s
             have c25b5 := eq_true c25s
             clear c25s
             by_cases c26 : ((((((((((⟨#[112, 97, 114, 116, 115, 32]⟩ : ByteArray) ++ t180) ++ (⟨#[32, 99, 97, 112, 32]⟩ : ByteArray)) ++ t181) ++ (⟨#[32, 115, 117, 98, 115, 32]⟩ : ByteArray)) ++ t182) ++ (⟨#[32, 119, 97, 105, 116, 32]⟩ : ByteArray)) ++ t183) ++ (⟨#[32, 101, 118, 101, 114, 121, 32]⟩ : ByteArray)) ++ t184).size + 4 ≤ 9223372036854775807
             ·
              rw [if_pos c26] at H
              have c26b0 := eq_true c26
              have c26b1 : decide (((((((((((⟨#[112, 97, 114, 116, 115, 32]⟩ : ByteArray) ++ t180) ++ (⟨#[32, 99, 97, 112, 32]⟩ : ByteArray)) ++ t181) ++ (⟨#[32, 115, 117, 98, 115, 32]⟩ : ByteArray)) ++ t182) ++ (⟨#[32, 119, 97, 105, 116, 32]⟩ : ByteArray)) ++ t183) ++ (⟨#[32, 101, 118, 101, 114, 121, 32]⟩ : ByteArray)) ++ t184).size + 4 ≤ 9223372036854775807) = true := decide_eq_true c26
              try have c26b2 : (9223372036854775807 < ((((((((((⟨#[112, 97, 114, 116, 115, 32]⟩ : ByteArray) ++ t180) ++ (⟨#[32, 99, 97, 112, 32]⟩ : ByteArray)) ++ t181) ++ (⟨#[32, 115, 117, 98, 115, 32]⟩ : ByteArray)) ++ t182) ++ (⟨#[32, 119, 97, 105, 116, 32]⟩ : ByteArray)) ++ t183) ++ (⟨#[32, 101, 118, 101, 114, 121, 32]⟩ : ByteArray)) ++ t184).size + 4) = False := eq_false (Nat.not_lt.2 c26)
              have c26s := c26
              simp only [ByteArray.size_append, show (⟨#[112, 97, 114, 116, 115, 32]⟩ : ByteArray).size = 6 from rfl, show (⟨#[32, 99, 97, 112, 32]⟩ : ByteArray).size = 5 from rfl, show (⟨#[32, 115, 117, 98, 115, 32]⟩ : ByteArray).size = 6 from rfl, show (⟨#[32, 119, 97, 105, 116, 32]⟩ : ByteArray).size = 6 from rfl, show (⟨#[32, 101, 118, 101, 114, 121, 32]⟩ : ByteArray).size = 7 from rfl] at c26s
              have c26b3 := eq_false (Nat.not_lt.2 c26s)
              have c26b4 := decide_eq_true c26s
              have c26b5 := eq_true c26s
              clear c26s
              by_cases c27 : (((((((((((⟨#[112, 97, 114, 116, 115, 32]⟩ : ByteArray) ++ t180) ++ (⟨#[32, 99, 97, 112, 32]⟩ : ByteArray)) ++ t181) ++ (⟨#[32, 115, 117, 98, 115, 32]⟩ : ByteArray)) ++ t182) ++ (⟨#[32, 119, 97, 105, 116, 32]⟩ : ByteArray)) ++ t183) ++ (⟨#[32, 101, 118, 101, 114, 121, 32]⟩ : ByteArray)) ++ t184) ++ (⟨#[32, 98, 121, 32]⟩ : ByteArray)).size + x3_4.size ≤ 9223372036854775807
              ·
               rw [if_pos c27] at H
               have c27b0 := eq_true c27
               have c27b1 : decide ((((((((((((⟨#[112, 97, 114, 116, 115, 32]⟩ : ByteArray) ++ t180) ++ (⟨#[32, 99, 97, 112, 32]⟩ : ByteArray)) ++ t181) ++ (⟨#[32, 115, 117, 98, 115, 32]⟩ : ByteArray)) ++ t182) ++ (⟨#[32, 119, 97, 105, 116, 32]⟩ : ByteArray)) ++ t183) ++ (⟨#[32, 101, 118, 101, 114, 121, 32]⟩ : ByteArray)) ++ t184) ++ (⟨#[32, 98, 121, 32]⟩ : ByteArray)).size + x3_4.size ≤ 9223372036854775807) = true := decide_eq_true c27
               try have c27b2 : (9223372036854775807 < (((((((((((⟨#[112, 97, 114, 116, 115, 32]⟩ : ByteArray) ++ t180) ++ (⟨#[32, 99, 97, 112, 32]⟩ : ByteArray)) ++ t181) ++ (⟨#[32, 115, 117, 98, 115, 32]⟩ : ByteArray)) ++ t182) ++ (⟨#[32, 119, 97, 105, 116, 32]⟩ : ByteArray)) ++ t183) ++ (⟨#[32, 101, 118, 101, 114, 121, 32]⟩ : ByteArray)) ++ t184) ++ (⟨#[32, 98, 121, 32]⟩ : ByteArray)).size + x3_4.size) = False := eq_false (Nat.not_lt.2 c27)
               have c27s := c27
               simp only [ByteArray.size_append, show (⟨#[112, 97, 114, 116, 115, 32]⟩ : ByteArray).size = 6 from rfl, show (⟨#[32, 99, 97, 112, 32]⟩ : ByteArray).size = 5 from rfl, show (⟨#[32, 115, 117, 98, 115, 32]⟩ : ByteArray).size = 6 from rfl, show (⟨#[32, 119, 97, 105, 116, 32]⟩ : ByteArray).size = 6 from rfl, show (⟨#[32, 101, 118, 101, 114, 121, 32]⟩ : ByteArray).size = 7 from rfl, show (⟨#[32, 98, 121, 32]⟩ : ByteArray).size = 4 from rfl] at c27s
               have c27b3 := eq_false (Nat.not_lt.2 c27s)
               have c27b4 := decide_eq_true c27s
               have c27b5 := eq_true c27s
               clear c27s
               obtain rfl := Option.some.inj H
               try go_wp2
               have n0_ := Aside0.mk (blk_drew BK177.out)
               have n1_ := Aside0.mk (below_drew1 HB.out)
               clear BK177
               clear HB
               have BK177 := n0_
               have HB := n1_
               clear n0_ n1_
               refine start_ (n := 28) (S := fun w' => w'.cell? ⟨gb177, 0, none⟩ = some (.int .i64 a0_0) ∧ w'.cell? ⟨gb177, 1, none⟩ = some (.int .i64 a0_1) ∧ w'.cell? ⟨gb177, 2, none⟩ = some (.int .i64 a0_2) ∧ w'.cell? ⟨gb177, 3, none⟩ = some (.int .i64 a0_3) ∧ w'.cell? ⟨gb177, 4, none⟩ = some (.int .i64 a0_4) ∧ w'.cell? ⟨gb177, 5, none⟩ = some (.slice A0_5 l0_5.length c0_5)) (ds := []) #[false, false, false, false, false, false, false, false, false, false, false, false, false, false, false, false, false, false, false, false, false, false, false, false, false, false, false, false] (by kernel_rfl) rfl rfl ⟨(blk_cell BK177.out 0).trans rfl, (blk_cell BK177.out 1).trans rfl, (blk_cell BK177.out 2).trans rfl, (blk_cell BK177.out 3).trans rfl, (blk_cell BK177.out 4).trans rfl, (blk_cell BK177.out 5).trans rfl⟩ (fun hHeld => ?_); refine with_tabW impl_ConfText.tab6 impl_ConfText.bits6 (fun HT_ HW_ => ?_)
               generalize wc.drew = w28 at BK177 HB hHeld ⊢
               refine pure_ (i := 0) (N := some 12) (v := ?_) (a' := ?_) #[true, false, false, false, false, false, false, false, false, false, false, false, false, false, false, false, false, false, false, false, false, false, false, false, false, false, false, false] rfl rfl (any_of HT_.out (by kernel_rfl)) (fun _ _ _ h => h) (Or.inl ⟨by rfl, ?_⟩) ?_ ?_
               rotate_left
               ·
                intro w'
                go_simp
                with_reducible rfl
               rotate_left
               ·
                simp only [Act.put, List.setIfInBounds_toArray, List.set_cons_zero, List.set_cons_succ, i64_w, i32_w]
                rfl
               refine pure_ (i := 5) (N := some 17) (v := ?_) (a' := ?_) #[true, false, false, false, false, true, false, false, false, false, false, false, false, false, false, false, false, false, false, false, false, false, false, false, false, false, false, false] rfl rfl (any_of HT_.out (by kernel_rfl)) (fun _ _ _ h => h) (Or.inl ⟨by rfl, ?_⟩) ?_ ?_
               rotate_left
               ·
                intro w'
                go_simp
                with_reducible rfl
               rotate_left
               ·
                simp only [Act.put, List.setIfInBounds_toArray, List.set_cons_zero, List.set_cons_succ, i64_w, i32_w]
                rfl
               refine pure_ (i := 10) (N := some 22) (v := ?_) (a' := ?_) #[true, false, false, false, false, true, false, false, false, false, true, false, false, false, false, false, false, false, false, false, false, false, false, false, false, false, false, false] rfl rfl (any_of HT_.out (by kernel_rfl)) (fun _ _ _ h => h) (Or.inl ⟨by rfl, ?_⟩) ?_ ?_
               rotate_left
               ·
                intro w'
                go_simp
                with_reducible rfl
               rotate_left
               ·
                simp only [Act.put, List.setIfInBounds_toArray, List.set_cons_zero, List.set_cons_succ, i64_w, i32_w]
                rfl
               refine pure_ (i := 15) (N := some 27) (v := ?_) (a' := ?_) #[true, false, false, false, false, true, false, false, false, false, true, false, false, false, false, true, false, false, false, false, false, false, false, false, false, false, false, false] rfl rfl (any_of HT_.out (by kernel_rfl)) (fun _ _ _ h => h) (Or.inl ⟨by rfl, ?_⟩) ?_ ?_
               rotate_left
               ·
                intro w'
                go_simp
                with_reducible rfl
               rotate_left
               ·
                simp only [Act.put, List.setIfInBounds_toArray, List.set_cons_zero, List.set_cons_succ, i64_w, i32_w]
                rfl
               refine pure_ (i := 20) (N := some 32) (v := ?_) (a' := ?_) #[true, false, false, false, false, true, false, false, false, false, true, false, false, false, false, true, false, false, false, false, true, false, false, false, false, false, false, false] rfl rfl (any_of HT_.out (by kernel_rfl)) (fun _ _ _ h => h) (Or.inl ⟨by rfl, ?_⟩) ?_ ?_
               rotate_left
               ·
                intro w'
                go_simp
                with_reducible rfl
               rotate_left
               ·
                simp only [Act.put, List.setIfInBounds_toArray, List.set_cons_zero, List.set_cons_succ, i64_w, i32_w]
                rfl
               refine pure_ (i := 25) (N := some 37) (v := ?_) (a' := ?_) #[true, false, false, false, false, true, false, false, false, false, true, false, false, false, false, true, false, false, false, false, true, false, false, false, false, true, false, false] rfl rfl (any_of HT_.out (by kernel_rfl)) (fun _ _ _ h => h) (Or.inl ⟨by rfl, ?_⟩) ?_ ?_
               rotate_left
               ·
                intro w'
                go_simp
                with_reducible rfl
               rotate_left
               ·
                simp only [Act.put, List.setIfInBounds_toArray, List.set_cons_zero, List.set_cons_succ, i64_w, i32_w]
                rfl
               refine take_ (i := 1) (N := some 13) (v := ?_) (a' := ?_) #[true, true, false, false, false, true, false, false, false, false, true, false, false, false, false, true, false, false, false, false, true, false, false, false, false, true, false, false] rfl rfl (take_ofW HT_.out HW_.out (by kernel_rfl)) (fun _ _ _ h => h) (Or.inl ⟨by rfl, ?_⟩) hHeld ?_ ?_
               rotate_left
               ·
                rintro w' ⟨s0, s1, s2, s3, s4, s5⟩
                go_simp
                with_reducible rfl
               rotate_left
               ·
                simp only [Act.put, List.setIfInBounds_toArray, List.set_cons_zero, List.set_cons_succ, i64_w, i32_w]
                rfl
               refine take_ (i := 6) (N := some 18) (v := ?_) (a' := ?_) #[true, true, false, false, false, true, true, false, false, false, true, false, false, false, false, true, false, false, false, false, true, false, false, false, false, true, false, false] rfl rfl (take_ofW HT_.out HW_.out (by kernel_rfl)) (fun _ _ _ h => h) (Or.inl ⟨by rfl, ?_⟩) hHeld ?_ ?_
               rotate_left
               ·
                rintro w' ⟨s0, s1, s2, s3, s4, s5⟩
                go_simp
                with_reducible rfl
               rotate_left
               ·
                simp only [Act.put, List.setIfInBounds_toArray, List.set_cons_zero, List.set_cons_succ, i64_w, i32_w]
                rfl
               refine take_ (i := 11) (N := some 23) (v := ?_) (a' := ?_) #[true, true, false, false, false, true, true, false, false, false, true, true, false, false, false, true, false, false, false, false, true, false, false, false, false, true, false, false] rfl rfl (take_ofW HT_.out HW_.out (by kernel_rfl)) (fun _ _ _ h => h) (Or.inl ⟨by rfl, ?_⟩) hHeld ?_ ?_
               rotate_left
               ·
                rintro w' ⟨s0, s1, s2, s3, s4, s5⟩
                go_simp
                with_reducible rfl
               rotate_left
               ·
                simp only [Act.put, List.setIfInBounds_toArray, List.set_cons_zero, List.set_cons_succ, i64_w, i32_w]
                rfl
               refine take_ (i := 16) (N := some 28) (v := ?_) (a' := ?_) #[true, true, false, false, false, true, true, false, false, false, true, true, false, false, false, true, true, false, false, false, true, false, false, false, false, true, false, false] rfl rfl (take_ofW HT_.out HW_.out (by kernel_rfl)) (fun _ _ _ h => h) (Or.inl ⟨by rfl, ?_⟩) hHeld ?_ ?_
               rotate_left
               ·
                rintro w' ⟨s0, s1, s2, s3, s4, s5⟩
                go_simp
                with_reducible rfl
               rotate_left
               ·
                simp only [Act.put, List.setIfInBounds_toArray, List.set_cons_zero, List.set_cons_succ, i64_w, i32_w]
                rfl
               refine take_ (i := 21) (N := some 33) (v := ?_) (a' := ?_) #[true, true, false, false, false, true, true, false, false, false, true, true, false, false, false, true, true, false, false, false, true, true, false, false, false, true, false, false] rfl rfl (take_ofW HT_.out HW_.out (by kernel_rfl)) (fun _ _ _ h => h) (Or.inl ⟨by rfl, ?_⟩) hHeld ?_ ?_
               rotate_left
               ·
                rintro w' ⟨s0, s1, s2, s3, s4, s5⟩
                go_simp
                with_reducible rfl
               rotate_left
               ·
                simp only [Act.put, List.setIfInBounds_toArray, List.set_cons_zero, List.set_cons_succ, i64_w, i32_w]
                rfl
               refine one_ (i := 2) (N := some 14) #[true, true, true, false, false, true, true, false, false, false, true, true, false, false, false, true, true, false, false, false, true, true, false, false, false, true, false, false] rfl rfl (one_of HT_.out (by kernel_rfl)) (by decide) (fun K hK => ?_)
               refine goes_ Tryd.func15 (by kernel_rfl) rfl #[.int .i64 a0_0] (by rfl) rfl rfl (by (try simp only [List.map_toArray, List.map_cons, List.map_nil]); first | done | rfl | (simp only [List.length_drop, List.length_take]; rfl)) ?_
               with_reducible refine (impl_NumText.calls a0_0 t180 _ A12.out).mono ?_
               rintro e w29 ⟨rfl, hb⟩
               refine ⟨_, rfl, ?_⟩
               have n0_ := Aside0.mk (blk_below (g := gb177) (o := .cells #[.int .i64 a0_0, .int .i64 a0_1, .int .i64 a0_2, .int .i64 a0_3, .int .i64 a0_4, .slice A0_5 l0_5.length c0_5] 27 (0, 0)) (by (with_reducible repeat (first | refine blk_drewN ?_ _ | refine blk_drew ?_ | refine blk_alloc ?_ _)); exact BK177.out) hb)
               have n1_ := Aside0.mk (below_step (by repeat (first | (with_reducible first | exact HB.out | apply below_alloc | apply pw_below_drewN | apply below_drew1 | refine below_set ?_ GE177.out) | exact HB.out)) hb)
               clear BK177
               clear HB
               have BK177 := n0_
               have HB := n1_
               clear n0_ n1_
               (try clear hb)
               (try clear hb2)
               (try clear hk)
               (try clear hi)
               refine hK.out _ _ ⟨(blk_cell BK177.out 0).trans rfl, (blk_cell BK177.out 1).trans rfl, (blk_cell BK177.out 2).trans rfl, (blk_cell BK177.out 3).trans rfl, (blk_cell BK177.out 4).trans rfl, (blk_cell BK177.out 5).trans rfl⟩ (fun hHeld => ?_)
               clear hK K
               refine norm_ (a' := ?_) ?_ ?_
               rotate_left
               ·
                show Act.put _ (some 14) _ = _
                simp only [Act.put, List.setIfInBounds_toArray, List.set_cons_zero, List.set_cons_succ, i64_w, i32_w]
                rfl
               refine pure_ (i := 3) (N := some 15) (v := ?_) (a' := ?_) #[true, true, true, true, false, true, true, false, false, false, true, true, false, false, false, true, true, false, false, false, true, true, false, false, false, true, false, false] rfl rfl (any_of HT_.out (by kernel_rfl)) (fun _ _ _ h => h) (Or.inl ⟨by rfl, ?_⟩) ?_ ?_
               rotate_left
               ·
                intro w'
                go_simp
                with_reducible rfl
               rotate_left
               ·
                simp only [Act.put, List.setIfInBounds_toArray, List.set_cons_zero, List.set_cons_succ, i64_w, i32_w]
                rfl
               refine pure_ (i := 4) (N := some 16) (v := ?_) (a' := ?_) #[true, true, true, true, true, true, true, false, false, false, true, true, false, false, false, true, true, false, false, false, true, true, false, false, false, true, false, false] rfl rfl (any_of HT_.out (by kernel_rfl)) (fun _ _ _ h => h) (Or.inl ⟨by rfl, ?_⟩) ?_ ?_
               rotate_left
               ·
                intro w'
                go_simp
                with_reducible rfl
               rotate_left
               ·
                simp only [Act.put, List.setIfInBounds_toArray, List.set_cons_zero, List.set_cons_succ, i64_w, i32_w]
                rfl
               refine one_ (i := 7) (N := some 19) #[true, true, true, true, true, true, true, true, false, false, true, true, false, false, false, true, true, false, false, false, true, true, false, false, false, true, false, false] rfl rfl (one_of HT_.out (by kernel_rfl)) (by decide) (fun K hK => ?_)
               refine goes_ Tryd.func15 (by kernel_rfl) rfl #[.int .i64 a0_1] (by rfl) rfl rfl (by (try simp only [List.map_toArray, List.map_cons, List.map_nil]); first | done | rfl | (simp only [List.length_drop, List.length_take]; rfl)) ?_
               with_reducible refine (impl_NumText.calls a0_1 t181 _ A15.out).mono ?_
               rintro e w30 ⟨rfl, hb⟩
               refine ⟨_, rfl, ?_⟩
               have n0_ := Aside0.mk (blk_below (g := gb177) (o := .cells #[.int .i64 a0_0, .int .i64 a0_1, .int .i64 a0_2, .int .i64 a0_3, .int .i64 a0_4, .slice A0_5 l0_5.length c0_5] 27 (0, 0)) (by (with_reducible repeat (first | refine blk_drewN ?_ _ | refine blk_drew ?_ | refine blk_alloc ?_ _)); exact BK177.out) hb)
               have n1_ := Aside0.mk (below_step (by repeat (first | (with_reducible first | exact HB.out | apply below_alloc | apply pw_below_drewN | apply below_drew1 | refine below_set ?_ GE177.out) | exact HB.out)) hb)
               clear BK177
               clear HB
               have BK177 := n0_
               have HB := n1_
               clear n0_ n1_
               (try clear hb)
               (try clear hb2)
               (try clear hk)
               (try clear hi)
               refine hK.out _ _ ⟨(blk_cell BK177.out 0).trans rfl, (blk_cell BK177.out 1).trans rfl, (blk_cell BK177.out 2).trans rfl, (blk_cell BK177.out 3).trans rfl, (blk_cell BK177.out 4).trans rfl, (blk_cell BK177.out 5).trans rfl⟩ (fun hHeld => ?_)
               clear hK K
               refine norm_ (a' := ?_) ?_ ?_
               rotate_left
               ·
                show Act.put _ (some 19) _ = _
                simp only [Act.put, List.setIfInBounds_toArray, List.set_cons_zero, List.set_cons_succ, i64_w, i32_w]
                rfl
               refine pure_ (i := 8) (N := some 20) (v := ?_) (a' := ?_) #[true, true, true, true, true, true, true, true, true, false, true, true, false, false, false, true, true, false, false, false, true, true, false, false, false, true, false, false] rfl rfl (any_of HT_.out (by kernel_rfl)) (fun _ _ _ h => h) (Or.inl ⟨by rfl, ?_⟩) ?_ ?_
               rotate_left
               ·
                intro w'
                go_simp
                with_reducible rfl
               rotate_left
               ·
                simp only [Act.put, List.setIfInBounds_toArray, List.set_cons_zero, List.set_cons_succ, i64_w, i32_w]
                rfl
               refine pure_ (i := 9) (N := some 21) (v := ?_) (a' := ?_) #[true, true, true, true, true, true, true, true, true, true, true, true, false, false, false, true, true, false, false, false, true, true, false, false, false, true, false, false] rfl rfl (any_of HT_.out (by kernel_rfl)) (fun _ _ _ h => h) (Or.inl ⟨by rfl, ?_⟩) ?_ ?_
               rotate_left
               ·
                intro w'
                go_simp
                with_reducible rfl
               rotate_left
               ·
                simp only [Act.put, List.setIfInBounds_toArray, List.set_cons_zero, List.set_cons_succ, i64_w, i32_w]
                rfl
               refine one_ (i := 12) (N := some 24) #[true, true, true, true, true, true, true, true, true, true, true, true, true, false, false, true, true, false, false, false, true, true, false, false, false, true, false, false] rfl rfl (one_of HT_.out (by kernel_rfl)) (by decide) (fun K hK => ?_)
               refine goes_ Tryd.func15 (by kernel_rfl) rfl #[.int .i64 a0_2] (by rfl) rfl rfl (by (try simp only [List.map_toArray, List.map_cons, List.map_nil]); first | done | rfl | (simp only [List.length_drop, List.length_take]; rfl)) ?_
               with_reducible refine (impl_NumText.calls a0_2 t182 _ A18.out).mono ?_
               rintro e w31 ⟨rfl, hb⟩
               refine ⟨_, rfl, ?_⟩
               have n0_ := Aside0.mk (blk_below (g := gb177) (o := .cells #[.int .i64 a0_0, .int .i64 a0_1, .int .i64 a0_2, .int .i64 a0_3, .int .i64 a0_4, .slice A0_5 l0_5.length c0_5] 27 (0, 0)) (by (with_reducible repeat (first | refine blk_drewN ?_ _ | refine blk_drew ?_ | refine blk_alloc ?_ _)); exact BK177.out) hb)
               have n1_ := Aside0.mk (below_step (by repeat (first | (with_reducible first | exact HB.out | apply below_alloc | apply pw_below_drewN | apply below_drew1 | refine below_set ?_ GE177.out) | exact HB.out)) hb)
               clear BK177
               clear HB
               have BK177 := n0_
               have HB := n1_
               clear n0_ n1_
               (try clear hb)
               (try clear hb2)
               (try clear hk)
               (try clear hi)
               refine hK.out _ _ ⟨(blk_cell BK177.out 0).trans rfl, (blk_cell BK177.out 1).trans rfl, (blk_cell BK177.out 2).trans rfl, (blk_cell BK177.out 3).trans rfl, (blk_cell BK177.out 4).trans rfl, (blk_cell BK177.out 5).trans rfl⟩ (fun hHeld => ?_)
               clear hK K
               refine norm_ (a' := ?_) ?_ ?_
               rotate_left
               ·
                show Act.put _ (some 24) _ = _
                simp only [Act.put, List.setIfInBounds_toArray, List.set_cons_zero, List.set_cons_succ, i64_w, i32_w]
                rfl
               refine pure_ (i := 13) (N := some 25) (v := ?_) (a' := ?_) #[true, true, true, true, true, true, true, true, true, true, true, true, true, true, false, true, true, false, false, false, true, true, false, false, false, true, false, false] rfl rfl (any_of HT_.out (by kernel_rfl)) (fun _ _ _ h => h) (Or.inl ⟨by rfl, ?_⟩) ?_ ?_
               rotate_left
               ·
                intro w'
                go_simp
                with_reducible rfl
               rotate_left
               ·
                simp only [Act.put, List.setIfInBounds_toArray, List.set_cons_zero, List.set_cons_succ, i64_w, i32_w]
                rfl
               refine pure_ (i := 14) (N := some 26) (v := ?_) (a' := ?_) #[true, true, true, true, true, true, true, true, true, true, true, true, true, true, true, true, true, false, false, false, true, true, false, false, false, true, false, false] rfl rfl (any_of HT_.out (by kernel_rfl)) (fun _ _ _ h => h) (Or.inl ⟨by rfl, ?_⟩) ?_ ?_
               rotate_left
               ·
                intro w'
                go_simp
                with_reducible rfl
               rotate_left
               ·
                simp only [Act.put, List.setIfInBounds_toArray, List.set_cons_zero, List.set_cons_succ, i64_w, i32_w]
                rfl
               refine one_ (i := 17) (N := some 29) #[true, true, true, true, true, true, true, true, true, true, true, true, true, true, true, true, true, true, false, false, true, true, false, false, false, true, false, false] rfl rfl (one_of HT_.out (by kernel_rfl)) (by decide) (fun K hK => ?_)
               refine goes_ Tryd.func15 (by kernel_rfl) rfl #[.int .i64 a0_3] (by rfl) rfl rfl (by (try simp only [List.map_toArray, List.map_cons, List.map_nil]); first | done | rfl | (simp only [List.length_drop, List.length_take]; rfl)) ?_
               with_reducible refine (impl_NumText.calls a0_3 t183 _ A21.out).mono ?_
               rintro e w32 ⟨rfl, hb⟩
               refine ⟨_, rfl, ?_⟩
               have n0_ := Aside0.mk (blk_below (g := gb177) (o := .cells #[.int .i64 a0_0, .int .i64 a0_1, .int .i64 a0_2, .int .i64 a0_3, .int .i64 a0_4, .slice A0_5 l0_5.length c0_5] 27 (0, 0)) (by (with_reducible repeat (first | refine blk_drewN ?_ _ | refine blk_drew ?_ | refine blk_alloc ?_ _)); exact BK177.out) hb)
               have n1_ := Aside0.mk (below_step (by repeat (first | (with_reducible first | exact HB.out | apply below_alloc | apply pw_below_drewN | apply below_drew1 | refine below_set ?_ GE177.out) | exact HB.out)) hb)
               clear BK177
               clear HB
               have BK177 := n0_
               have HB := n1_
               clear n0_ n1_
               (try clear hb)
               (try clear hb2)
               (try clear hk)
               (try clear hi)
               refine hK.out _ _ ⟨(blk_cell BK177.out 0).trans rfl, (blk_cell BK177.out 1).trans rfl, (blk_cell BK177.out 2).trans rfl, (blk_cell BK177.out 3).trans rfl, (blk_cell BK177.out 4).trans rfl, (blk_cell BK177.out 5).trans rfl⟩ (fun hHeld => ?_)
               clear hK K
               refine norm_ (a' := ?_) ?_ ?_
               rotate_left
               ·
                show Act.put _ (some 29) _ = _
                simp only [Act.put, List.setIfInBounds_toArray, List.set_cons_zero, List.set_cons_succ, i64_w, i32_w]
                rfl
               refine pure_ (i := 18) (N := some 30) (v := ?_) (a' := ?_) #[true, true, true, true, true, true, true, true, true, true, true, true, true, true, true, true, true, true, true, false, true, true, false, false, false, true, false, false] rfl rfl (any_of HT_.out (by kernel_rfl)) (fun _ _ _ h => h) (Or.inl ⟨by rfl, ?_⟩) ?_ ?_
               rotate_left
               ·
                intro w'
                go_simp
                with_reducible rfl
               rotate_left
               ·
                simp only [Act.put, List.setIfInBounds_toArray, List.set_cons_zero, List.set_cons_succ, i64_w, i32_w]
                rfl
               refine pure_ (i := 19) (N := some 31) (v := ?_) (a' := ?_) #[true, true, true, true, true, true, true, true, true, true, true, true, true, true, true, true, true, true, true, true, true, true, false, false, false, true, false, false] rfl rfl (any_of HT_.out (by kernel_rfl)) (fun _ _ _ h => h) (Or.inl ⟨by rfl, ?_⟩) ?_ ?_
               rotate_left
               ·
                intro w'
                go_simp
                with_reducible rfl
               rotate_left
               ·
                simp only [Act.put, List.setIfInBounds_toArray, List.set_cons_zero, List.set_cons_succ, i64_w, i32_w]
                rfl
               refine one_ (i := 22) (N := some 34) #[true, true, true, true, true, true, true, true, true, true, true, true, true, true, true, true, true, true, true, true, true, true, true, false, false, true, false, false] rfl rfl (one_of HT_.out (by kernel_rfl)) (by decide) (fun K hK => ?_)
               refine goes_ Tryd.func15 (by kernel_rfl) rfl #[.int .i64 a0_4] (by rfl) rfl rfl (by (try simp only [List.map_toArray, List.map_cons, List.map_nil]); first | done | rfl | (simp only [List.length_drop, List.length_take]; rfl)) ?_
               with_reducible refine (impl_NumText.calls a0_4 t184 _ A24.out).mono ?_
               rintro e w33 ⟨rfl, hb⟩
               refine ⟨_, rfl, ?_⟩
               have n0_ := Aside0.mk (blk_below (g := gb177) (o := .cells #[.int .i64 a0_0, .int .i64 a0_1, .int .i64 a0_2, .int .i64 a0_3, .int .i64 a0_4, .slice A0_5 l0_5.length c0_5] 27 (0, 0)) (by (with_reducible repeat (first | refine blk_drewN ?_ _ | refine blk_drew ?_ | refine blk_alloc ?_ _)); exact BK177.out) hb)
               have n1_ := Aside0.mk (below_step (by repeat (first | (with_reducible first | exact HB.out | apply below_alloc | apply pw_below_drewN | apply below_drew1 | refine below_set ?_ GE177.out) | exact HB.out)) hb)
               clear BK177
               clear HB
               have BK177 := n0_
               have HB := n1_
               clear n0_ n1_
               (try clear hb)
               (try clear hb2)
               (try clear hk)
               (try clear hi)
               refine hK.out _ _ ⟨(blk_cell BK177.out 0).trans rfl, (blk_cell BK177.out 1).trans rfl, (blk_cell BK177.out 2).trans rfl, (blk_cell BK177.out 3).trans rfl, (blk_cell BK177.out 4).trans rfl, (blk_cell BK177.out 5).trans rfl⟩ (fun hHeld => ?_)
               clear hK K
               refine norm_ (a' := ?_) ?_ ?_
               rotate_left
               ·
                show Act.put _ (some 34) _ = _
                simp only [Act.put, List.setIfInBounds_toArray, List.set_cons_zero, List.set_cons_succ, i64_w, i32_w]
                rfl
               refine pure_ (i := 23) (N := some 35) (v := ?_) (a' := ?_) #[true, true, true, true, true, true, true, true, true, true, true, true, true, true, true, true, true, true, true, true, true, true, true, true, false, true, false, false] rfl rfl (any_of HT_.out (by kernel_rfl)) (fun _ _ _ h => h) (Or.inl ⟨by rfl, ?_⟩) ?_ ?_
               rotate_left
               ·
                intro w'
                go_simp
                with_reducible rfl
               rotate_left
               ·
                simp only [Act.put, List.setIfInBounds_toArray, List.set_cons_zero, List.set_cons_succ, i64_w, i32_w]
                rfl
               refine pure_ (i := 24) (N := some 36) (v := ?_) (a' := ?_) #[true, true, true, true, true, true, true, true, true, true, true, true, true, true, true, true, true, true, true, true, true, true, true, true, true, true, false, false] rfl rfl (any_of HT_.out (by kernel_rfl)) (fun _ _ _ h => h) (Or.inl ⟨by rfl, ?_⟩) ?_ ?_
               rotate_left
               ·
                intro w'
                go_simp
                with_reducible rfl
               rotate_left
               ·
                simp only [Act.put, List.setIfInBounds_toArray, List.set_cons_zero, List.set_cons_succ, i64_w, i32_w]
                rfl
               refine pure_ (i := 26) (N := some 38) (v := ?_) (a' := ?_) #[true, true, true, true, true, true, true, true, true, true, true, true, true, true, true, true, true, true, true, true, true, true, true, true, true, true, true, false] rfl rfl (any_of HT_.out (by kernel_rfl)) (fun _ _ _ h => h) (Or.inl ⟨by rfl, ?_⟩) ?_ ?_
               rotate_left
               ·
                intro w'
                go_simp
                with_reducible rfl
               rotate_left
               ·
                simp only [Act.put, List.setIfInBounds_toArray, List.set_cons_zero, List.set_cons_succ, i64_w, i32_w]
                rfl
               refine pure_ (i := 27) (N := some 2) (v := ?_) (a' := ?_) #[true, true, true, true, true, true, true, true, true, true, true, true, true, true, true, true, true, true, true, true, true, true, true, true, true, true, true, true] rfl rfl (any_of HT_.out (by kernel_rfl)) (fun _ _ _ h => h) (Or.inl ⟨by rfl, ?_⟩) ?_ ?_
               rotate_left
               ·
                intro w'
                go_simp
                with_reducible rfl
               rotate_left
               ·
                simp only [Act.put, List.setIfInBounds_toArray, List.set_cons_zero, List.set_cons_succ, i64_w, i32_w]
                rfl
               refine done_ (done_of HT_.out (by kernel_rfl)) ?_
               try go_wp2
               go_ret
               exact ⟨by first | rfl | (simp [errW_none, errW_some] <;> rfl) | (simp [*, errW_none, errW_some] <;> rfl), by repeat (first | (with_reducible first | exact HB.out | apply below_alloc | apply pw_below_drewN | apply below_drew1 | refine below_set ?_ GE177.out) | exact HB.out)⟩
              ·
               rw [if_neg c27] at H
               exact absurd H (by simp)
             ·
              rw [if_neg c26] at H
              exact absurd H (by simp)
            ·
             rw [if_neg c25] at H
             exact absurd H (by simp)
           ·
            rw [if_neg c23] at H
            exact absurd H (by simp)
          ·
           rw [if_neg c22] at H
           exact absurd H (by simp)
         ·
          rw [if_neg c20] at H
          exact absurd H (by simp)
        ·
         rw [if_neg c19] at H
         exact absurd H (by simp)
       ·
        rw [if_neg c17] at H
        exact absurd H (by simp)
      ·
       rw [if_neg c16] at H
       exact absurd H (by simp)
     ·
      rw [if_neg c14] at H
      exact absurd H (by simp)
    ·
     rw [if_neg c13] at H
     exact absurd H (by simp)
 ·
  replace c3 := Bool.eq_false_iff.mpr c3
  subst c3
  have H1 : (some (⟨#[]⟩ : ByteArray)) = some r := by rw [if_neg (show ¬ (false = true) by decide)] at H; exact H
  clear H
  have H := H1
  clear H1
  obtain rfl := Option.some.inj H
  go_enter Tryd.func7, Tryd.ntmps7
  go_wp2_with (first | ((with_reducible refine gate_dst (N := 1) rfl ?_); refine box_event ?hg (N := 1) ?hd (cs := #[.int .i64 a0_0, .int .i64 a0_1, .int .i64 a0_2, .int .i64 a0_3, .int .i64 a0_4, .slice A0_5 l0_5.length c0_5]) (t := 27) ?hr ?_; (case hd => rfl); (case hg => rfl); (case hr => first | (go_simp; done) | (go_simp; rfl)); intro gb177 hg w34 hbox hb; have n0_ := Aside0.mk (below_step (by repeat (first | (with_reducible first | exact HB.out | apply below_alloc | apply pw_below_drewN | apply below_drew1) | exact HB.out)) hb); have n1_ := Aside0.mk (hbox); have n2_ := Aside0.mk ((by rw [hg]; exact (below_size (by repeat (first | (with_reducible first | exact HB.out | apply below_alloc | apply pw_below_drewN | apply below_drew1) | exact HB.out))) : w.heap.size ≤ gb177)); have n3_ := Aside0.mk ((by rw [hg]; exact (below_size (by repeat (first | (with_reducible first | exact HB.out | apply below_alloc | apply pw_below_drewN | apply below_drew1) | exact HB.out))) : w.heap.size ≤ gb177)); clear HB; have HB := n0_; have BK177 := n1_; have GW177 := n2_; have GE177 := n3_; clear n0_ n1_ n2_ n3_; clear hb hbox hg; have hcz35_0 : w34.cell? ⟨gb177, 0, none⟩ = some (.int .i64 a0_0) := (blk_cell BK177.out 0).trans rfl; have hcz35_1 : w34.cell? ⟨gb177, 1, none⟩ = some (.int .i64 a0_1) := (blk_cell BK177.out 1).trans rfl; have hcz35_2 : w34.cell? ⟨gb177, 2, none⟩ = some (.int .i64 a0_2) := (blk_cell BK177.out 2).trans rfl; have hcz35_3 : w34.cell? ⟨gb177, 3, none⟩ = some (.int .i64 a0_3) := (blk_cell BK177.out 3).trans rfl; have hcz35_4 : w34.cell? ⟨gb177, 4, none⟩ = some (.int .i64 a0_4) := (blk_cell BK177.out 4).trans rfl; have hcz35_5 : w34.cell? ⟨gb177, 5, none⟩ = some (.slice A0_5 l0_5.length c0_5) := (blk_cell BK177.out 5).trans rfl; have hfz35_0 := blk_frozen BK177.out 0; have hfz35_1 := blk_frozen BK177.out 1; have hfz35_2 := blk_frozen BK177.out 2; have hfz35_3 := blk_frozen BK177.out 3; have hfz35_4 := blk_frozen BK177.out 4; have hfz35_5 := blk_frozen BK177.out 5) | ((with_reducible refine gate_callee (f := 13) rfl ?_); refine goesL_ (some 5) rfl rfl Tryd.func13 (by kernel_rfl) rfl #[.agg #[.int .i64 a0_0, .int .i64 a0_1, .int .i64 a0_2, .int .i64 a0_3, .int .i64 a0_4, .slice A0_5 l0_5.length c0_5]] rfl (by (try simp only [List.map_toArray, List.map_cons, List.map_nil]); first | done | rfl | (simp only [List.length_drop, List.length_take]; rfl)) ?_; (with_reducible refine (impl_ConfOk.calls k a0_0 a0_1 a0_2 a0_3 a0_4 _ _ l0_5 false _ ?side1 ?side2 A2.out).mono ?_); (case side1 => repeat (first | exact (Kd.C_below HR0_5.out HB.out) | (with_reducible refine Kd.C_alloc ?_ _) | (with_reducible refine Kd.C_drewN ?_ _) | (with_reducible refine Kd.C_drew ?_))); (case side2 => exact HC0_5.out); rintro e w36 ⟨rfl, hb⟩; refine ⟨_, rfl, ?_⟩; have n0_ := Aside0.mk (blk_below (g := gb177) (o := .cells #[.int .i64 a0_0, .int .i64 a0_1, .int .i64 a0_2, .int .i64 a0_3, .int .i64 a0_4, .slice A0_5 l0_5.length c0_5] 27 (0, 0)) (by (with_reducible repeat (first | refine blk_drewN ?_ _ | refine blk_drew ?_ | refine blk_alloc ?_ _)); exact BK177.out) hb); have n1_ := Aside0.mk (below_step (by repeat (first | (with_reducible first | exact HB.out | apply below_alloc | apply pw_below_drewN | apply below_drew1 | refine below_set ?_ GE177.out) | exact HB.out)) hb); clear BK177; clear HB; have BK177 := n0_; have HB := n1_; clear n0_ n1_; (try clear hb); (try clear hb2); (try clear hk); (try clear hi)))
  go_ret
  exact ⟨by first | rfl | (simp [errW_none, errW_some] <;> rfl) | (simp [*, errW_none, errW_some] <;> rfl), by repeat (first | (with_reducible first | exact HB.out | apply below_alloc | apply pw_below_drewN | apply below_drew1 | refine below_set ?_ GE177.out) | exact HB.out)⟩

end Go.Proofs.YticgekgojgkbgaaDoor.Print
