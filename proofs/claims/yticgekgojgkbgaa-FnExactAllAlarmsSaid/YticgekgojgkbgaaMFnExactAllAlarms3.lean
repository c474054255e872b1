import Derived.Test.YticgekgojgkbgaaMFnExactAllAlarms1
import Derived.Test.YticgekgojgkbgaaMFnExactAllAlarms2
import Derived.Sort.LotA
section
namespace Go.Proofs.Yticgekgojgkbgaa.Print
open Go.RowKit Go.Proofs.YticgekgojgkbgaaV.PrintWords Go.Proofs.YticgekgojgkbgaaV.PrintLast Go.Proofs.YticgekgojgkbgaaV.PrintMore
attribute [local go_sem] max2_int min2_int max_two min_two max_three min_three max_four min_four   -- for this text's walks alone
set_option linter.unusedVariables false
set_option linter.unusedSimpArgs false

/-! ### spec_l8Sort: function 92 -/
mutual
def spec_l8Sort.l0 : Nat → List (S43) → List (S43) → Int → Option ((List (S43)))
 | 0, _, _, _ => none
 | k + 1, x0, x3, x4 => if x4 < (x0.length : Int) then (if 0 ≤ x4 then ((spec_l4Copy.f ((rd_T43 x0 x4).f0) ((rd_T43 x0 x4).f1) ((rd_T43 x0 x4).f2) ((rd_T43 x0 x4).f3)).bind fun bt251 => (spec_l8Sort.l1 k x0 x3 x4 (x3.length : Int) bt251.1 bt251.2.1 bt251.2.2.1 bt251.2.2.2)) else (none)) else (some x3)
def spec_l8Sort.l1 : Nat → List (S43) → List (S43) → Int → Int → List (S88) → Int → Int → ByteArray → Option ((List (S43)))
 | 0, _, _, _, _, _, _, _, _ => none
 | k + 1, x0, x3, x4, x6, x258000, x258001, x258002, x258003 => if x6 > 0 then (if 0 ≤ (wrap64 (x6 - 1)) then (if (wrap64 (x6 - 1)) < (x3.length : Int) then ((spec_SetLess.f k x258000 ((rd_T43 x3 (wrap64 (x6 - 1))).f0)).bind fun t259 => (spec_l8Sort.j2 k x0 x3 x4 x6 t259 x258000 x258001 x258002 x258003)) else (none)) else (none)) else (spec_l8Sort.j2 k x0 x3 x4 x6 false x258000 x258001 x258002 x258003)
def spec_l8Sort.j2 : Nat → List (S43) → List (S43) → Int → Int → Bool → List (S88) → Int → Int → ByteArray → Option ((List (S43)))
 | 0, _, _, _, _, _, _, _, _, _ => none
 | k + 1, x0, x3, x4, x6, x33, x258000, x258001, x258002, x258003 => if x33 = true then (spec_l8Sort.l1 k x0 x3 x4 (wrap64 (x6 - 1)) x258000 x258001 x258002 x258003) else ((some (([] : List (S43)) : List (S43))).bind fun y260 => (if 0 ≤ x6 then (if x6 ≤ (x3.length : Int) then ((some (x3.drop (x6 : Int).toNat : List (S43))).bind fun y266 => ((some (x3.take (x6 : Int).toNat : List (S43))).bind fun y263 => (if y260.length + y263.length < 2513169434916 then ((some (y260 ++ y263 : List (S43))).bind fun y270 => (if y270.length < 2513169434916 then ((some (y270 ++ [(⟨x258000, x258001, x258002, x258003⟩ : S43)] : List (S43))).bind fun y274 => (if y274.length + y266.length < 2513169434916 then (spec_l8Sort.l0 k x0 (y274 ++ y266) (wrap64 (x4 + 1))) else (none))) else (none))) else (none)))) else (none)) else (none)))
end
def spec_l8Sort.f (k : Nat) (l0 : List (S43)) : Option ((List (S43))) := spec_l8Sort.l0 k l0 (([] : List (S43))) 0
theorem spec_l8Sort.mono_l : ∀ k, (∀ y0 y1 y2, LeO (spec_l8Sort.l0 k y0 y1 y2) (spec_l8Sort.l0 (k + 1) y0 y1 y2)) ∧ (∀ y0 y1 y2 y3 y4 y5 y6 y7, LeO (spec_l8Sort.l1 k y0 y1 y2 y3 y4 y5 y6 y7) (spec_l8Sort.l1 (k + 1) y0 y1 y2 y3 y4 y5 y6 y7)) ∧ (∀ y0 y1 y2 y3 y4 y5 y6 y7 y8, LeO (spec_l8Sort.j2 k y0 y1 y2 y3 y4 y5 y6 y7 y8) (spec_l8Sort.j2 (k + 1) y0 y1 y2 y3 y4 y5 y6 y7 y8))
 | 0 => ⟨fun _ _ _ r h => by simp [spec_l8Sort.l0] at h, fun _ _ _ _ _ _ _ _ r h => by simp [spec_l8Sort.l1] at h, fun _ _ _ _ _ _ _ _ _ r h => by simp [spec_l8Sort.j2] at h⟩
 | k + 1 => by
  obtain ⟨ih0, ih1, ih2⟩ := spec_l8Sort.mono_l k
  refine ⟨?_, ?_, ?_⟩
  ·
   intro y0 y1 y2
   unfold spec_l8Sort.l0
   repeat' first
   | (with_reducible exact ih0 _ _ _)
   | (with_reducible exact ih1 _ _ _ _ _ _ _ _)
   | (with_reducible exact ih2 _ _ _ _ _ _ _ _ _)
   | (with_reducible exact spec_SetLess.mono _ _ _)
   | (with_reducible exact LeO.refl _)
   | (with_reducible exact LeO.none _)
   | (with_reducible refine LeO.ite ?_ ?_)
   | (with_reducible refine LeO.bind ?_ (fun _ => ?_))
   | exact ih0 _ _ _
   | exact ih1 _ _ _ _ _ _ _ _
   | exact ih2 _ _ _ _ _ _ _ _ _
   | exact spec_SetLess.mono _ _ _
   | exact LeO.none _
   | refine LeO.ite ?_ ?_
   | refine LeO.bind ?_ (fun _ => ?_)
  ·
   intro y0 y1 y2 y3 y4 y5 y6 y7
   unfold spec_l8Sort.l1
   repeat' first
   | (with_reducible exact ih0 _ _ _)
   | (with_reducible exact ih1 _ _ _ _ _ _ _ _)
   | (with_reducible exact ih2 _ _ _ _ _ _ _ _ _)
   | (with_reducible exact spec_SetLess.mono _ _ _)
   | (with_reducible exact LeO.refl _)
   | (with_reducible exact LeO.none _)
   | (with_reducible refine LeO.ite ?_ ?_)
   | (with_reducible refine LeO.bind ?_ (fun _ => ?_))
   | exact ih0 _ _ _
   | exact ih1 _ _ _ _ _ _ _ _
   | exact ih2 _ _ _ _ _ _ _ _ _
   | exact spec_SetLess.mono _ _ _
   | exact LeO.none _
   | refine LeO.ite ?_ ?_
   | refine LeO.bind ?_ (fun _ => ?_)
  ·
   intro y0 y1 y2 y3 y4 y5 y6 y7 y8
   unfold spec_l8Sort.j2
   repeat' first
   | (with_reducible exact ih0 _ _ _)
   | (with_reducible exact ih1 _ _ _ _ _ _ _ _)
   | (with_reducible exact ih2 _ _ _ _ _ _ _ _ _)
   | (with_reducible exact spec_SetLess.mono _ _ _)
   | (with_reducible exact LeO.refl _)
   | (with_reducible exact LeO.none _)
   | (with_reducible refine LeO.ite ?_ ?_)
   | (with_reducible refine LeO.bind ?_ (fun _ => ?_))
   | exact ih0 _ _ _
   | exact ih1 _ _ _ _ _ _ _ _
   | exact ih2 _ _ _ _ _ _ _ _ _
   | exact spec_SetLess.mono _ _ _
   | exact LeO.none _
   | refine LeO.ite ?_ ?_
   | refine LeO.bind ?_ (fun _ => ?_)
theorem spec_l8Sort.mono : ∀ a0 k, LeO (spec_l8Sort.f k a0) (spec_l8Sort.f (k + 1) a0) := by
 intro a0 k
 obtain ⟨ih0, ih1, ih2⟩ := spec_l8Sort.mono_l k
 unfold spec_l8Sort.f
 repeat' first
   | (with_reducible exact ih0 _ _ _)
   | (with_reducible exact ih1 _ _ _ _ _ _ _ _)
   | (with_reducible exact ih2 _ _ _ _ _ _ _ _ _)
   | (with_reducible exact spec_SetLess.mono _ _ _)
   | (with_reducible exact LeO.refl _)
   | (with_reducible exact LeO.none _)
   | (with_reducible refine LeO.ite ?_ ?_)
   | (with_reducible refine LeO.bind ?_ (fun _ => ?_))
   | exact ih0 _ _ _
   | exact ih1 _ _ _ _ _ _ _ _
   | exact ih2 _ _ _ _ _ _ _ _ _
   | exact spec_SetLess.mono _ _ _
   | exact LeO.none _
   | refine LeO.ite ?_ ?_
   | refine LeO.bind ?_ (fun _ => ?_)
def spec_l8Sort.T7 : Bool × List (List Nat × List Nat) := (true, [([], []), ([0], [0]), ([1], [1]), ([2], [2]), ([3, 2], [2, 3]), ([2], [2]), ([2], [2]), ([6, 2], [2, 6]), ([5, 7, 2], [2, 5, 7]), ([8, 2], [2, 8]), ([9, 2], [2, 9]), ([4, 10, 2, 2], [2, 4, 10]), ([2, 11], [2, 11])])
def spec_l8Sort.B7 : List Nat := [0, 1, 3, 7, 15, 7, 7, 71, 231, 487, 999, 2047, 4095]
theorem spec_l8Sort.tab7 : rtab .any (opsOf Try.f92 7) = spec_l8Sort.T7 := by kernel_rfl
theorem spec_l8Sort.bits7 : waitsOk spec_l8Sort.T7.2 spec_l8Sort.B7 = true := by kernel_rfl
def spec_l8Sort.T9 : Bool × List (List Nat × List Nat) := (true, [([], []), ([], []), ([], []), ([1, 2], [1, 2]), ([0, 3], [0, 3]), ([], []), ([5], [5]), ([4, 6, 4], [4, 6]), ([], []), ([], []), ([8, 9], [8, 9]), ([7, 10, 7], [7, 10]), ([11, 11, 0, 1, 2, 3, 4, 5, 6, 7, 8, 9, 10, 11], [1, 8, 11])])
def spec_l8Sort.B9 : List Nat := [0, 0, 0, 6, 15, 0, 32, 127, 0, 0, 768, 2047, 4095]
theorem spec_l8Sort.tab9 : rtab .any (opsOf Try.f92 9) = spec_l8Sort.T9 := by kernel_rfl
theorem spec_l8Sort.bits9 : waitsOk spec_l8Sort.T9.2 spec_l8Sort.B9 = true := by kernel_rfl
set_option maxHeartbeats 8000000 in
set_option maxRecDepth 100000 in
theorem spec_l8Sort.calls (k : Nat) (A0 : Option Addr) (c0 : Nat) (l0 : List (S43)) (r : List (S43)) (w : World) (hr0 : Kd.C k43 w A0 l0.length l0) (hc0 : l0.length ≤ c0) (h : spec_l8Sort.f k l0 = some r) :
  Calls Try.prog 92 #[.slice A0 l0.length c0] w fun e w' => ∃ v0_ : Value, e = .returned (v0_) ∧ Kd.S k43 43 w' w.heap.size (fun _ => True) v0_ r ∧ Below w.heap.size w w' := by
 have hu43 := Try.underlying43
 have HR0 := Aside0.mk hr0
 have HC0 := Aside0.mk hc0
 clear hr0 hc0
 have HB := Aside0.mk (Below.refl w.heap.size w)
 have H : (spec_l8Sort.l0 k l0 (([] : List (S43))) 0) = some r := h
 clear h
 obtain ⟨y247, hy247⟩ : ∃ y_ : List (S43), y_ = (([] : List (S43))) := ⟨_, rfl⟩
 replace H : (spec_l8Sort.l0 k l0 y247 0) = some r := by first | (rw [hy247]; with_reducible exact H) | (have H2_ := (Option.bind_some _ _).symm.trans H; rw [hy247]; with_reducible exact H2_) | (have H2_ := (Option.bind_some _ _).symm.trans H; with_reducible exact H2_) | with_reducible exact H | (rw [hy247]; exact H) | exact H
 have Ny247 := Aside0.mk hy247
 clear hy247
 have H' := Aside0.mk H
 clear H
 go_enter Try.func92, Try.ntmps92
 go_wp2_with (first | ((with_reducible refine gate_dst (N := 7) rfl ?_); refine Kd.S_lit k43 _ 43 ?hg (N := 7) ?hd (xs := ([] : List (S43))) (inner := []) (ok := fun _ => True) (okp := fun _ => True) ?hr ?hp (fun _ hk => hk) trivial (Below.refl _ _) (Nat.le_refl _) (by simp) ?_; (case hd => rfl); (case hg => rfl); (case hr => first | (go_simp; done) | (go_simp; rfl)); (case hp => exact (Reps.none _ _)); intro v248 w2 ho3 hb hg_ hnew_; clear hg_ hnew_; (first | rw [← Ny247.out] at ho3 | (simp only [Int.reduceToNat] at ho3; rw [← Ny247.out] at ho3)); have n0_ := Aside0.mk (Kd.S_lower ho3 (below_size (by repeat (first | (with_reducible first | exact HB.out | apply below_alloc | apply pw_below_drewN | apply below_drew1) | exact HB.out)))); have n1_ := Aside0.mk (below_step (by repeat (first | (with_reducible first | exact HB.out | apply below_alloc | apply pw_below_drewN | apply below_drew1) | exact HB.out)) hb); clear HB; have HO249 := n0_; have HB := n1_; clear n0_ n1_; clear hb ho3))
 go_loopg [3, 4] k (fun kq v3 v4 w' => ∃ (x3_1 : List (S43)) (x4_1 : Int), v4 = .int .i64 x4_1 ∧ Aside0 (spec_l8Sort.l0 kq l0 x3_1 x4_1 = some r) ∧ Aside0 (kq ≤ k) ∧ Aside0 (Kd.S k43 43 w' w.heap.size (fun _ => True) v3 x3_1) ∧ Aside0 (Below w.heap.size w w'))
 case atStart => exact ⟨(y247), (0), (by first | rfl | (simp; done) | (simp [*]; done)), H', ⟨Nat.le_refl _⟩, ⟨by (with_reducible repeat (first | apply Kd.S_alloc | apply Kd.S_drewN | apply Kd.S_drew)); exact HO249.out⟩, ⟨by repeat (first | (with_reducible first | exact HB.out | apply below_alloc | apply pw_below_drewN | apply below_drew1) | exact HB.out)⟩⟩
 case round =>
  clear H'
  try clear p2
  obtain ⟨x3_1, x4_1, rfl, HA, HK1, HO_3, HB⟩ := hrel
  cases gk with
  | zero => exact absurd HA.out (by simp [spec_l8Sort.l0])
  | succ k1 =>
   have H := HA.out
   clear HA
   simp only [spec_l8Sort.l0] at H
   by_cases c4 : x4_1 < (l0.length : Int)
   ·
    rw [if_pos c4] at H
    have c4b0 : decide (x4_1 < (l0.length : Int)) = true := decide_eq_true c4
    clear c4
    by_cases c5 : 0 ≤ x4_1
    ·
     rw [if_pos c5] at H
     have c5b0 : decide (0 ≤ x4_1) = true := decide_eq_true c5
     clear c5
     replace H := Option.bind_eq_some_iff.mp H
     obtain ⟨⟨t251, t254, t255, t256⟩, A60, H⟩ := H
     replace H : (spec_l8Sort.l1 k1 l0 x3_1 x4_1 (x3_1.length : Int) t251 t254 t255 t256) = some r := H
     have A6 := Aside0.mk A60
     clear A60
     have H' := Aside0.mk H
     clear H
     have p250 : 0 ≤ (x4_1 : Int) := of_decide_eq_true (by first | (with_reducible assumption) | assumption)
     have q250 : x4_1 < (l0.length : Int) := of_decide_eq_true (by first | (with_reducible assumption) | assumption)
     obtain ⟨ad250, A250_0, c250_0, e250, hx250_0, hx250_1, hx250_2, hx250_3, hl250_0, hi250_0⟩ := at_T43 HR0.out x4_1 p250 q250
     cases e250
     replace hx250_0 := (HB.out.cell (World.block_lt_of_cell? w _ hx250_0)).trans hx250_0
     replace hx250_1 := (HB.out.cell (World.block_lt_of_cell? w _ hx250_1)).trans hx250_1
     replace hx250_2 := (HB.out.cell (World.block_lt_of_cell? w _ hx250_2)).trans hx250_2
     replace hx250_3 := (HB.out.cell (World.block_lt_of_cell? w _ hx250_3)).trans hx250_3
     have HR250_0 := Aside0.mk hi250_0
     have HC250_0 := Aside0.mk hl250_0
     clear hi250_0 hl250_0
     replace p250 := eq_true p250
     replace q250 := eq_true q250
     go_wp2_with (first | ((with_reducible refine gate_callee (f := 77) rfl ?_); refine goesL_ (some 18) rfl rfl Try.func77 (by kernel_rfl) rfl #[.agg #[.slice A250_0 ((rd_T43 l0 x4_1).f0).length c250_0, .int .i64 ((rd_T43 l0 x4_1).f1), .int .i64 ((rd_T43 l0 x4_1).f2), .string ((rd_T43 l0 x4_1).f3)]] rfl (by (try simp only [List.map_toArray, List.map_cons, List.map_nil]); first | done | rfl | (simp only [List.length_drop, List.length_take]; rfl)) ?_; (with_reducible refine (spec_l4Copy.calls _ _ ((rd_T43 l0 x4_1).f0) ((rd_T43 l0 x4_1).f1) ((rd_T43 l0 x4_1).f2) ((rd_T43 l0 x4_1).f3) t251 t254 t255 t256 _ ?side1 ?side2 A6.out).mono ?_); (case side1 => repeat (first | exact (Kd.C_below HR250_0.out HB.out) | (with_reducible refine Kd.C_alloc ?_ _) | (with_reducible refine Kd.C_drewN ?_ _) | (with_reducible refine Kd.C_drew ?_))); (case side2 => exact HC250_0.out); rintro e w7 ⟨v252, rfl, ho0, hb⟩; refine ⟨_, rfl, ?_⟩; obtain ⟨gbz252, hz252⟩ := Kd.R_name ho0; have n0_ := Aside0.mk (Kd.S_below (Kd.S_ltz hz252 (by (with_reducible repeat (first | apply Kd.S_alloc | apply Kd.S_drewN | apply Kd.S_drew)); exact HO_3.out)) hb); have n1_ := Aside0.mk (Kd.R_lower (Kd.R_gez hz252 ho0) (below_size (by repeat (first | (with_reducible first | exact HB.out | apply below_alloc | apply pw_below_drewN | apply below_drew1) | exact HB.out)))); have n2_ := Aside0.mk (below_step (by repeat (first | (with_reducible first | exact HB.out | apply below_alloc | apply pw_below_drewN | apply below_drew1) | exact HB.out)) hb); clear HO_3; clear HB; have HO_3 := n0_; have HO253 := n1_; have HB := n2_; clear n0_ n1_ n2_; (try clear hb); (try clear hb2); (try clear hk); (try clear hi); (try clear ho0)) | ((with_reducible refine gate_dst (N := 5) rfl ?_); refine box_event ?hg (N := 5) ?hd (cs := #[.slice none 0 0, .int .i64 0, .int .i64 0, .string (⟨#[]⟩ : ByteArray)]) (t := 43) ?hr ?_; (case hd => rfl); (case hg => rfl); (case hr => first | (go_simp; done) | (go_simp; rfl)); intro gb257 hg w8 hbox hb; have n0_ := Aside0.mk (Kd.S_below (Kd.S_ltz hg (Kd.S_elderB (by (with_reducible repeat (first | apply Kd.S_alloc | apply Kd.S_drewN | apply Kd.S_drew)); exact HO_3.out) gb257 (Nat.le_of_eq hg.symm))) hb); have n1_ := Aside0.mk (Kd.R_below (Kd.R_ltz hg (by (with_reducible repeat (first | apply Kd.R_alloc | apply Kd.R_drewN | apply Kd.R_drew)); exact HO253.out)) hb); have n2_ := Aside0.mk (below_step (by repeat (first | (with_reducible first | exact HB.out | apply below_alloc | apply pw_below_drewN | apply below_drew1) | exact HB.out)) hb); have n3_ := Aside0.mk (hbox); have n4_ := Aside0.mk ((by rw [hg]; exact (below_size (by repeat (first | (with_reducible first | exact HB.out | apply below_alloc | apply pw_below_drewN | apply below_drew1) | exact HB.out))) : w.heap.size ≤ gb257)); have n5_ := Aside0.mk ((by rw [hg]; exact (below_size (by repeat (first | (with_reducible first | exact HB.out | apply below_alloc | apply pw_below_drewN | apply below_drew1) | exact HB.out))) : w.heap.size ≤ gb257)); clear HO_3; clear HO253; clear HB; have HO_3 := n0_; have HO253 := n1_; have HB := n2_; have BK257 := n3_; have GW257 := n4_; have GE257 := n5_; clear n0_ n1_ n2_ n3_ n4_ n5_; clear hb hbox hg; obtain ⟨Ao9, co9, eo9⟩ := Kd.R_slice HO253.out; subst eo9; have hcz10_0 : w8.cell? ⟨gb257, 0, none⟩ = some (.slice none 0 0) := (blk_cell BK257.out 0).trans rfl; have hcz10_1 : w8.cell? ⟨gb257, 1, none⟩ = some (.int .i64 0) := (blk_cell BK257.out 1).trans rfl; have hcz10_2 : w8.cell? ⟨gb257, 2, none⟩ = some (.int .i64 0) := (blk_cell BK257.out 2).trans rfl; have hcz10_3 : w8.cell? ⟨gb257, 3, none⟩ = some (.string (⟨#[]⟩ : ByteArray)) := (blk_cell BK257.out 3).trans rfl; have hfz10_0 := blk_frozen BK257.out 0; have hfz10_1 := blk_frozen BK257.out 1; have hfz10_2 := blk_frozen BK257.out 2; have hfz10_3 := blk_frozen BK257.out 3; obtain ⟨Ao11, co11, eo11⟩ := Kd.S_slice HO_3.out; subst eo11))
     go_loopg [6] k1 (fun kq v6 w' => ∃ (x6_2 : Int), v6 = .int .i64 x6_2 ∧ Aside0 (spec_l8Sort.l1 kq l0 x3_1 x4_1 x6_2 t251 t254 t255 t256 = some r) ∧ Aside0 (kq ≤ k1) ∧ Aside0 (Kd.S k43 43 w' w.heap.size (fun k_ => some k_ ≠ ((.slice Ao9 t251.length co9) : Value).ownBlock ∧ k_ ≠ gb257 ∧ k_ < gbz252 ∧ k_ < gb257) (.slice Ao11 x3_1.length co11) x3_1) ∧ Aside0 (Kd.R k88 88 w' w.heap.size (fun k_ => gbz252 ≤ k_ ∧ k_ < gb257) (.slice Ao9 t251.length co9) t251) ∧ Aside0 (w'.heap[gb257]? = some (.cells #[(.slice Ao9 t251.length co9), .int .i64 t254, .int .i64 t255, .string t256] 43 (0, 0))) ∧ Aside0 (Below w.heap.size w w'))
     case atStart => exact ⟨((x3_1.length : Int)), (by first | rfl | (simp; done) | (simp [*]; done)), H', ⟨Nat.le_refl _⟩, ⟨by (with_reducible repeat (first | apply Kd.S_alloc | apply Kd.S_drewN | apply Kd.S_drew)); exact Kd.S_mono (Kd.S_far (p := ⟨gb257, 3, none⟩) (Kd.S_far (p := ⟨gb257, 2, none⟩) (Kd.S_far (p := ⟨gb257, 1, none⟩) (Kd.S_far (p := ⟨gb257, 0, none⟩) (Kd.S_mono (Kd.S_times HO_3.out HO253.out.1 (fun k_ hk hz_ => Nat.lt_irrefl _ (Nat.lt_of_lt_of_le hk.1.1.2 hz_.1.2))) (fun k_ hk => (⟨hk, hk.1.1.2⟩ : _ ∧ k_ ≠ gb257))) (fun _ hk => hk.2) (.slice Ao9 t251.length co9)) (fun _ hk => hk.2) (.int .i64 t254)) (fun _ hk => hk.2) (.int .i64 t255)) (fun _ hk => hk.2) (.string t256)) (fun _ hk => ⟨hk.1.2, ⟨hk.1.1.1.2, ⟨hk.1.1.1.1.2, hk.1.1.2⟩⟩⟩)⟩, ⟨by (with_reducible repeat (first | apply Kd.R_alloc | apply Kd.R_drewN | apply Kd.R_drew)); exact Kd.R_mono (Kd.R_far (p := ⟨gb257, 3, none⟩) (Kd.R_far (p := ⟨gb257, 2, none⟩) (Kd.R_far (p := ⟨gb257, 1, none⟩) (Kd.R_far (p := ⟨gb257, 0, none⟩) (Kd.R_types HO253.out BK257.out (by decide)) (fun _ hk => hk.2) (.slice Ao9 t251.length co9)) (fun _ hk => hk.2) (.int .i64 t254)) (fun _ hk => hk.2) (.int .i64 t255)) (fun _ hk => hk.2) (.string t256)) (fun _ hk => ⟨hk.1.1.2, hk.1.2⟩)⟩, ⟨by (with_reducible repeat (first | refine blk_drewN ?_ _ | refine blk_drew ?_ | refine blk_alloc ?_ _)); refine blk_put (cs := #[.slice Ao9 t251.length co9, .int .i64 t254, .int .i64 t255, .string (⟨#[]⟩ : ByteArray)]) ?_ 3 _ rfl; (with_reducible repeat (first | refine blk_drewN ?_ _ | refine blk_drew ?_ | refine blk_alloc ?_ _)); refine blk_put (cs := #[.slice Ao9 t251.length co9, .int .i64 t254, .int .i64 0, .string (⟨#[]⟩ : ByteArray)]) ?_ 2 _ rfl; (with_reducible repeat (first | refine blk_drewN ?_ _ | refine blk_drew ?_ | refine blk_alloc ?_ _)); refine blk_put (cs := #[.slice Ao9 t251.length co9, .int .i64 0, .int .i64 0, .string (⟨#[]⟩ : ByteArray)]) ?_ 1 _ rfl; (with_reducible repeat (first | refine blk_drewN ?_ _ | refine blk_drew ?_ | refine blk_alloc ?_ _)); refine blk_put (cs := #[.slice none 0 0, .int .i64 0, .int .i64 0, .string (⟨#[]⟩ : ByteArray)]) ?_ 0 _ rfl; (with_reducible repeat (first | refine blk_drewN ?_ _ | refine blk_drew ?_ | refine blk_alloc ?_ _)); exact BK257.out⟩, ⟨by repeat (first | (with_reducible first | exact HB.out | apply below_alloc | apply pw_below_drewN | apply below_drew1 | refine below_set ?_ GE257.out) | exact HB.out)⟩⟩
     case round =>
      clear H'
      try clear c2
      try clear p2
      try clear q2
      try clear hx2
      try clear c4
      try clear c4b0
      try clear c5
      try clear c5b0
      try clear c7
      try clear c9
      try clear hcz10_0
      try clear hcz10_1
      try clear hcz10_2
      try clear hcz10_3
      try clear hfz10_0
      try clear hfz10_1
      try clear hfz10_2
      try clear hfz10_3
      try clear hx250_0
      try clear hx250_1
      try clear hx250_2
      try clear hx250_3
      try clear p2
      try clear p250
      try clear q250
      obtain ⟨x6_2, rfl, HA, HK2, HO_3, HO_258000, BK257, HB⟩ := hrel
      cases gk with
      | zero => exact absurd HA.out (by simp [spec_l8Sort.l1])
      | succ k2 =>
       have H := HA.out
       clear HA
       simp only [spec_l8Sort.l1] at H
       have HC12 := Aside0.mk H
       clear H
       go_upto_region 7 with (fail)
       go_cut [33] (fun v33 wc => ∃ (kq : Nat) (x33_11 : Bool), v33 = .bool x33_11 ∧ Aside0 (spec_l8Sort.j2 kq l0 x3_1 x4_1 x6_2 x33_11 t251 t254 t255 t256 = some r) ∧ Aside0 (kq ≤ k2) ∧ Aside0 (Kd.S k43 43 wc w.heap.size (fun k_ => some k_ ≠ ((.slice Ao9 t251.length co9) : Value).ownBlock ∧ k_ ≠ gb257 ∧ k_ < gbz252 ∧ k_ < gb257) (.slice Ao11 x3_1.length co11) x3_1) ∧ Aside0 (Kd.R k88 88 wc w.heap.size (fun k_ => gbz252 ≤ k_ ∧ k_ < gb257) (.slice Ao9 t251.length co9) t251) ∧ Aside0 (wc.heap[gb257]? = some (.cells #[(.slice Ao9 t251.length co9), .int .i64 t254, .int .i64 t255, .string t256] 43 (0, 0))) ∧ Aside0 (Below w.heap.size w wc))
       case first =>
        have H := HC12.out
        clear HC12
        by_cases c13 : x6_2 > 0
        ·
         rw [if_pos c13] at H
         have c13b0 : decide (0 < x6_2) = true := decide_eq_true c13
         clear c13
         (first | rw [c13b0] | (simp only [i64_w, i32_w]; rw [c13b0]) | skip)
         obtain ⟨ji14, hji14⟩ : ∃ j_ : Int, (wrap64 (x6_2 - 1)) = j_ := ⟨_, rfl⟩
         replace H : (if 0 ≤ (ji14) then (if (ji14) < (x3_1.length : Int) then ((spec_SetLess.f k2 t251 ((rd_T43 x3_1 (ji14)).f0)).bind fun t259 => (spec_l8Sort.j2 k2 l0 x3_1 x4_1 x6_2 t259 t251 t254 t255 t256)) else (none)) else (none)) = some r := by first | (rw [hji14] at H; exact H) | (simp only [hji14] at H ⊢; exact H)
         have hji14w : (IntKind.i64.wrap (x6_2 - 1)) = ji14 := (i64_w _).trans hji14
         by_cases c15 : 0 ≤ (ji14)
         ·
          rw [if_pos c15] at H
          have c15b0 : decide (0 ≤ (ji14)) = true := decide_eq_true c15
          clear c15
          by_cases c16 : (ji14) < (x3_1.length : Int)
          ·
           rw [if_pos c16] at H
           have c16b0 : decide ((ji14) < (x3_1.length : Int)) = true := decide_eq_true c16
           clear c16
           replace H := Option.bind_eq_some_iff.mp H
           obtain ⟨t259, A170, H⟩ := H
           replace H : (spec_l8Sort.j2 k2 l0 x3_1 x4_1 x6_2 t259 t251 t254 t255 t256) = some r := H
           have A17 := Aside0.mk A170
           clear A170
           have H' := Aside0.mk H
           clear H
           try go_wp2
           have n0_ := Aside0.mk (Kd.S_drew HO_3.out)
           have n1_ := Aside0.mk (Kd.R_drew HO_258000.out)
           have n2_ := Aside0.mk (blk_drew BK257.out)
           have n3_ := Aside0.mk (below_drew1 HB.out)
           clear HO_3
           clear HO_258000
           clear BK257
           clear HB
           have HO_3 := n0_
           have HO_258000 := n1_
           have BK257 := n2_
           have HB := n3_
           clear n0_ n1_ n2_ n3_
           have p258 : 0 ≤ ((ji14) : Int) := of_decide_eq_true (by first | (with_reducible assumption) | assumption)
           have q258 : (ji14) < (x3_1.length : Int) := of_decide_eq_true (by first | (with_reducible assumption) | assumption)
           obtain ⟨ad258, A258_0, c258_0, e258, hx258_0, hx258_1, hx258_2, hx258_3, hl258_0, hi258_0⟩ := at_T43 (Kd.S_reads' HO_3.out).2.2 (ji14) p258 q258
           cases e258
           obtain ⟨ce258, hce258, hMe258, hcc258⟩ := Kd.S_get HO_3.out z43 (ji14) p258 (by first | exact q258 | exact of_decide_eq_true (by first | (with_reducible assumption) | assumption) | (have e_ := (Kd.S_reads' HO_3.out).1; omega))
           obtain ⟨ve258_0, rfl, ge258_0⟩ := k43_openM hMe258
           have hv258_0 := hcc258 0 _ rfl
           rw [Nat.add_zero] at hv258_0
           replace hv258_0 := Option.some.inj (hv258_0.symm.trans hx258_0)
           rw [hv258_0] at ge258_0
           have HL258_0 := Aside0.mk (show Kd.R k88 88 _ _ _ _ ((rd_T43 x3_1 (ji14)).f0) from ge258_0)
           clear hv258_0 ge258_0
           clear hcc258 hce258
           have HR258_0 := Aside0.mk hi258_0
           have HC258_0 := Aside0.mk hl258_0
           clear hi258_0 hl258_0
           replace p258 := eq_true p258
           replace q258 := eq_true q258
           refine start_ (n := 13) (S := fun w' => w'.cell? ⟨gb257, 0, none⟩ = some (.slice Ao9 t251.length co9) ∧ w'.cell? ⟨gb257, 1, none⟩ = some (.int .i64 t254) ∧ w'.cell? ⟨gb257, 2, none⟩ = some (.int .i64 t255) ∧ w'.cell? ⟨gb257, 3, none⟩ = some (.string t256) ∧ w'.cell? (ad258.add (((ji14)).toNat * 4)) = some (.slice A258_0 ((rd_T43 x3_1 (ji14)).f0).length c258_0) ∧ w'.cell? ⟨(ad258.add (((ji14)).toNat * 4)).block, (ad258.add (((ji14)).toNat * 4)).off + 1, none⟩ = some (.int .i64 ((rd_T43 x3_1 (ji14)).f1)) ∧ w'.cell? ⟨(ad258.add (((ji14)).toNat * 4)).block, (ad258.add (((ji14)).toNat * 4)).off + 2, none⟩ = some (.int .i64 ((rd_T43 x3_1 (ji14)).f2)) ∧ w'.cell? ⟨(ad258.add (((ji14)).toNat * 4)).block, (ad258.add (((ji14)).toNat * 4)).off + 3, none⟩ = some (.string ((rd_T43 x3_1 (ji14)).f3))) (ds := []) #[false, false, false, false, false, false, false, false, false, false, false, false, false] (by kernel_rfl) rfl rfl ⟨(blk_cell BK257.out 0).trans rfl, (blk_cell BK257.out 1).trans rfl, (blk_cell BK257.out 2).trans rfl, (blk_cell BK257.out 3).trans rfl, hx258_0, hx258_1, hx258_2, hx258_3⟩ (fun hHeld => ?_); refine with_tabW spec_l8Sort.tab7 spec_l8Sort.bits7 (fun HT_ HW_ => ?_)
           generalize wr.drew = w18 at HO_3 HO_258000 BK257 HB HL258_0 HR258_0 hx258_0 hx258_1 hx258_2 hx258_3 hHeld ⊢
           refine pure_ (i := 0) (N := some 21) (v := ?_) (a' := ?_) #[true, false, false, false, false, false, false, false, false, false, false, false, false] rfl rfl (any_of HT_.out (by kernel_rfl)) (fun _ _ _ h => h) (Or.inl ⟨by rfl, ?_⟩) ?_ ?_
           rotate_left
           ·
            intro w'
            go_simp
            with_reducible rfl
           rotate_left
           ·
            simp only [Act.put, List.setIfInBounds_toArray, List.set_cons_zero, List.set_cons_succ, i64_w, i32_w]
            rfl
           refine pure_ (i := 1) (N := some 22) (v := ?_) (a' := ?_) #[true, true, false, false, false, false, false, false, false, false, false, false, false] rfl rfl (any_of HT_.out (by kernel_rfl)) (fun _ _ _ h => h) (Or.inl ⟨by rfl, ?_⟩) ?_ ?_
           rotate_left
           ·
            intro w'
            go_simp
            with_reducible rfl
           rotate_left
           ·
            simp only [Act.put, List.setIfInBounds_toArray, List.set_cons_zero, List.set_cons_succ, i64_w, i32_w]
            rfl
           refine pure_ (i := 2) (N := some 23) (v := ?_) (a' := ?_) #[true, true, true, false, false, false, false, false, false, false, false, false, false] rfl rfl (any_of HT_.out (by kernel_rfl)) (fun _ _ _ h => h) (Or.inl ⟨by rfl, ?_⟩) ?_ ?_
           rotate_left
           ·
            intro w'
            go_simp
            with_reducible rfl
           rotate_left
           ·
            simp only [Act.put, List.setIfInBounds_toArray, List.set_cons_zero, List.set_cons_succ, i64_w, i32_w]
            rfl
           refine pure_ (i := 3) (N := some 24) (v := ?_) (a' := ?_) #[true, true, true, true, false, false, false, false, false, false, false, false, false] rfl rfl (any_of HT_.out (by kernel_rfl)) (fun _ _ _ h => h) (Or.inl ⟨by rfl, ?_⟩) ?_ ?_
           rotate_left
           ·
            intro w'
            go_simp
            with_reducible rfl
           rotate_left
           ·
            simp only [Act.put, List.setIfInBounds_toArray, List.set_cons_zero, List.set_cons_succ, i64_w, i32_w]
            rfl
           refine pure_ (i := 5) (N := some 26) (v := ?_) (a' := ?_) #[true, true, true, true, false, true, false, false, false, false, false, false, false] rfl rfl (any_of HT_.out (by kernel_rfl)) (fun _ _ _ h => h) (Or.inl ⟨by rfl, ?_⟩) ?_ ?_
           rotate_left
           ·
            intro w'
            go_simp
            with_reducible rfl
           rotate_left
           ·
            simp only [Act.put, List.setIfInBounds_toArray, List.set_cons_zero, List.set_cons_succ, i64_w, i32_w]
            rfl
           refine pure_ (i := 6) (N := some 27) (v := ?_) (a' := ?_) #[true, true, true, true, false, true, true, false, false, false, false, false, false] rfl rfl (any_of HT_.out (by kernel_rfl)) (fun _ _ _ h => h) (Or.inl ⟨by rfl, ?_⟩) ?_ ?_
           rotate_left
           ·
            intro w'
            go_simp
            with_reducible rfl
           rotate_left
           ·
            simp only [Act.put, List.setIfInBounds_toArray, List.set_cons_zero, List.set_cons_succ, i64_w, i32_w]
            rfl
           refine pure_ (i := 7) (N := some 28) (v := ?_) (a' := ?_) #[true, true, true, true, false, true, true, true, false, false, false, false, false] rfl rfl (any_of HT_.out (by kernel_rfl)) (fun _ _ _ h => h) (Or.inl ⟨by rfl, ?_⟩) ?_ ?_
           rotate_left
           ·
            intro w'
            go_simp
            with_reducible rfl
           rotate_left
           ·
            simp only [Act.put, List.setIfInBounds_toArray, List.set_cons_zero, List.set_cons_succ, i64_w, i32_w]
            rfl
           refine pure_ (i := 8) (N := some 29) (v := ?_) (a' := ?_) #[true, true, true, true, false, true, true, true, true, false, false, false, false] rfl rfl (any_of HT_.out (by kernel_rfl)) (fun _ _ _ h => h) (Or.inl ⟨by rfl, ?_⟩) ?_ ?_
           rotate_left
           ·
            intro w'
            go_simp
            with_reducible rfl
           rotate_left
           ·
            simp only [Act.put, List.setIfInBounds_toArray, List.set_cons_zero, List.set_cons_succ, i64_w, i32_w]
            rfl
           refine pure_ (i := 9) (N := some 30) (v := ?_) (a' := ?_) #[true, true, true, true, false, true, true, true, true, true, false, false, false] rfl rfl (any_of HT_.out (by kernel_rfl)) (fun _ _ _ h => h) (Or.inl ⟨by rfl, ?_⟩) ?_ ?_
           rotate_left
           ·
            intro w'
            go_simp
            with_reducible rfl
           rotate_left
           ·
            simp only [Act.put, List.setIfInBounds_toArray, List.set_cons_zero, List.set_cons_succ, i64_w, i32_w]
            rfl
           refine take_ (i := 4) (N := some 25) (v := ?_) (a' := ?_) #[true, true, true, true, true, true, true, true, true, true, false, false, false] rfl rfl (take_ofW HT_.out HW_.out (by kernel_rfl)) (fun _ _ _ h => h) (Or.inl ⟨by rfl, ?_⟩) hHeld ?_ ?_
           rotate_left
           ·
            rintro w' ⟨s0, s1, s2, s3, s4, s5, s6, s7⟩
            go_simp
            with_reducible rfl
           rotate_left
           ·
            simp only [Act.put, List.setIfInBounds_toArray, List.set_cons_zero, List.set_cons_succ, i64_w, i32_w]
            rfl
           refine take_ (i := 10) (N := some 31) (v := ?_) (a' := ?_) #[true, true, true, true, true, true, true, true, true, true, true, false, false] rfl rfl (take_ofW HT_.out HW_.out (by kernel_rfl)) (fun _ _ _ h => h) (Or.inl ⟨by rfl, ?_⟩) hHeld ?_ ?_
           rotate_left
           ·
            rintro w' ⟨s0, s1, s2, s3, s4, s5, s6, s7⟩
            go_simp
            with_reducible rfl
           rotate_left
           ·
            simp only [Act.put, List.setIfInBounds_toArray, List.set_cons_zero, List.set_cons_succ, i64_w, i32_w]
            rfl
           refine one_ (i := 11) (N := some 32) #[true, true, true, true, true, true, true, true, true, true, true, true, false] rfl rfl (one_of HT_.out (by kernel_rfl)) (by decide) (fun K hK => ?_)
           refine goes_ Try.func113 (by kernel_rfl) rfl #[.slice Ao9 t251.length co9, .slice A258_0 ((rd_T43 x3_1 (ji14)).f0).length c258_0] (by rfl) rfl rfl (by (try simp only [List.map_toArray, List.map_cons, List.map_nil]); first | done | (simp only [hji14]; rfl) | rfl | (simp only [List.length_drop, List.length_take]; rfl)) ?_
           with_reducible refine (spec_SetLess.calls k2 _ _ t251 _ _ ((rd_T43 x3_1 (ji14)).f0) t259 _ ?side1 ?side2 ?side3 ?side4 A17.out).mono ?_
           (case side1 => repeat (first | exact (Kd.R_reads' HO_258000.out).2.2 | (with_reducible refine Kd.C_alloc ?_ _) | (with_reducible refine Kd.C_drewN ?_ _) | (with_reducible refine Kd.C_drew ?_)))
           (case side2 => exact (Kd.R_reads' HO_258000.out).2.1)
           (case side3 => repeat (first | exact (by repeat (first | (with_reducible exact HR258_0.out) | (with_reducible refine Kd.C_alloc ?_ _) | (with_reducible refine Kd.C_drewN ?_ _) | (with_reducible refine Kd.C_drew ?_) | exact HR258_0.out)) | (with_reducible refine Kd.C_alloc ?_ _) | (with_reducible refine Kd.C_drewN ?_ _) | (with_reducible refine Kd.C_drew ?_)))
           (case side4 => exact HC258_0.out)
           rintro e w' ⟨rfl, ⟨nd, rfl⟩⟩
           refine ⟨_, rfl, ?_⟩
           refine hK.out _ _ ⟨(blk_cell BK257.out 0).trans rfl, (blk_cell BK257.out 1).trans rfl, (blk_cell BK257.out 2).trans rfl, (blk_cell BK257.out 3).trans rfl, hHeld.2.2.2.2.1, hHeld.2.2.2.2.2.1, hHeld.2.2.2.2.2.2.1, hHeld.2.2.2.2.2.2.2⟩ (fun hHeld => ?_)
           clear hK K
           refine norm_ (a' := ?_) ?_ ?_
           rotate_left
           ·
            show Act.put _ (some 32) _ = _
            simp only [Act.put, List.setIfInBounds_toArray, List.set_cons_zero, List.set_cons_succ, i64_w, i32_w]
            rfl
           refine pure_ (i := 12) (N := some 33) (v := ?_) (a' := ?_) #[true, true, true, true, true, true, true, true, true, true, true, true, true] rfl rfl (any_of HT_.out (by kernel_rfl)) (fun _ _ _ h => h) (Or.inl ⟨by rfl, ?_⟩) ?_ ?_
           rotate_left
           ·
            intro w'
            go_simp
            with_reducible rfl
           rotate_left
           ·
            simp only [Act.put, List.setIfInBounds_toArray, List.set_cons_zero, List.set_cons_succ, i64_w, i32_w]
            rfl
           refine done_ (done_of HT_.out (by kernel_rfl)) ?_
           try go_wp2
           go_meet
           case rel => exact ⟨_, (t259), (by first | rfl | (simp; done) | (simp [*]; done)), H', ⟨by have := HK1.out; have := HK2.out; first | omega | exact Nat.le_refl _⟩, ⟨by (with_reducible repeat (first | apply Kd.S_alloc | apply Kd.S_drewN | apply Kd.S_drew)); exact HO_3.out⟩, ⟨by (with_reducible repeat (first | apply Kd.R_alloc | apply Kd.R_drewN | apply Kd.R_drew)); exact HO_258000.out⟩, ⟨by (with_reducible repeat (first | refine blk_drewN ?_ _ | refine blk_drew ?_ | refine blk_alloc ?_ _)); exact BK257.out⟩, ⟨by repeat (first | (with_reducible first | exact HB.out | apply below_alloc | apply pw_below_drewN | apply below_drew1 | refine below_set ?_ GE257.out) | exact HB.out)⟩⟩
          ·
           rw [if_neg c16] at H
           exact absurd H (by simp)
         ·
          rw [if_neg c15] at H
          exact absurd H (by simp)
        ·
         rw [if_neg c13] at H
         have c13b0 : decide (0 < x6_2) = false := decide_eq_false c13
         clear c13
         (first | rw [c13b0] | (simp only [i64_w, i32_w]; rw [c13b0]) | skip)
         have H' := Aside0.mk H
         clear H
         try go_wp2
         have n0_ := Aside0.mk (Kd.S_drew HO_3.out)
         have n1_ := Aside0.mk (Kd.R_drew HO_258000.out)
         have n2_ := Aside0.mk (blk_drew BK257.out)
         have n3_ := Aside0.mk (below_drew1 HB.out)
         clear HO_3
         clear HO_258000
         clear BK257
         clear HB
         have HO_3 := n0_
         have HO_258000 := n1_
         have BK257 := n2_
         have HB := n3_
         clear n0_ n1_ n2_ n3_
         refine start_ (n := 13) (S := fun w' => True) (ds := []) #[false, false, false, false, false, false, false, false, false, false, false, false, false] (by kernel_rfl) rfl rfl trivial (fun hHeld => ?_); refine with_tabW spec_l8Sort.tab7 spec_l8Sort.bits7 (fun HT_ HW_ => ?_)
         generalize wr.drew = w19 at HO_3 HO_258000 BK257 HB hHeld ⊢
         refine pure_ (i := 0) (N := some 21) (v := ?_) (a' := ?_) #[true, false, false, false, false, false, false, false, false, false, false, false, false] rfl rfl (any_of HT_.out (by kernel_rfl)) (fun _ _ _ h => h) (Or.inl ⟨by rfl, ?_⟩) ?_ ?_
         rotate_left
         ·
          intro w'
          go_simp
          with_reducible rfl
         rotate_left
         ·
          simp only [Act.put, List.setIfInBounds_toArray, List.set_cons_zero, List.set_cons_succ, i64_w, i32_w]
          rfl
         refine pure_ (i := 1) (N := some 22) (v := ?_) (a' := ?_) #[true, true, false, false, false, false, false, false, false, false, false, false, false] rfl rfl (any_of HT_.out (by kernel_rfl)) (fun _ _ _ h => h) (Or.inl ⟨by rfl, ?_⟩) ?_ ?_
         rotate_left
         ·
          intro w'
          go_simp
          with_reducible rfl
         rotate_left
         ·
          simp only [Act.put, List.setIfInBounds_toArray, List.set_cons_zero, List.set_cons_succ, i64_w, i32_w]
          rfl
         refine pure_ (i := 2) (N := some 23) (v := ?_) (a' := ?_) #[true, true, true, false, false, false, false, false, false, false, false, false, false] rfl rfl (any_of HT_.out (by kernel_rfl)) (fun _ _ _ h => h) (Or.inl ⟨by rfl, ?_⟩) ?_ ?_
         rotate_left
         ·
          intro w'
          go_simp
          with_reducible rfl
         rotate_left
         ·
          simp only [Act.put, List.setIfInBounds_toArray, List.set_cons_zero, List.set_cons_succ, i64_w, i32_w]
          rfl
         refine pure_ (i := 3) (N := some 24) (v := undef) (a' := ?_) #[true, true, true, true, false, false, false, false, false, false, false, false, false] rfl rfl (any_of HT_.out (by kernel_rfl)) (fun _ _ _ h => h) (Or.inr ⟨by rfl, rfl⟩) ?_ ?_
         rotate_left
         ·
          simp only [Act.put, List.setIfInBounds_toArray, List.set_cons_zero, List.set_cons_succ, i64_w, i32_w]
          rfl
         refine pure_ (i := 4) (N := some 25) (v := undef) (a' := ?_) #[true, true, true, true, true, false, false, false, false, false, false, false, false] rfl rfl (any_of HT_.out (by kernel_rfl)) (fun _ _ _ h => h) (Or.inr ⟨by rfl, rfl⟩) ?_ ?_
         rotate_left
         ·
          simp only [Act.put, List.setIfInBounds_toArray, List.set_cons_zero, List.set_cons_succ, i64_w, i32_w]
          rfl
         refine pure_ (i := 5) (N := some 26) (v := undef) (a' := ?_) #[true, true, true, true, true, true, false, false, false, false, false, false, false] rfl rfl (any_of HT_.out (by kernel_rfl)) (fun _ _ _ h => h) (Or.inr ⟨by rfl, rfl⟩) ?_ ?_
         rotate_left
         ·
          simp only [Act.put, List.setIfInBounds_toArray, List.set_cons_zero, List.set_cons_succ, i64_w, i32_w]
          rfl
         refine pure_ (i := 6) (N := some 27) (v := undef) (a' := ?_) #[true, true, true, true, true, true, true, false, false, false, false, false, false] rfl rfl (any_of HT_.out (by kernel_rfl)) (fun _ _ _ h => h) (Or.inr ⟨by rfl, rfl⟩) ?_ ?_
         rotate_left
         ·
          simp only [Act.put, List.setIfInBounds_toArray, List.set_cons_zero, List.set_cons_succ, i64_w, i32_w]
          rfl
         refine pure_ (i := 7) (N := some 28) (v := undef) (a' := ?_) #[true, true, true, true, true, true, true, true, false, false, false, false, false] rfl rfl (any_of HT_.out (by kernel_rfl)) (fun _ _ _ h => h) (Or.inr ⟨by rfl, rfl⟩) ?_ ?_
         rotate_left
         ·
          simp only [Act.put, List.setIfInBounds_toArray, List.set_cons_zero, List.set_cons_succ, i64_w, i32_w]
          rfl
         refine pure_ (i := 8) (N := some 29) (v := undef) (a' := ?_) #[true, true, true, true, true, true, true, true, true, false, false, false, false] rfl rfl (any_of HT_.out (by kernel_rfl)) (fun _ _ _ h => h) (Or.inr ⟨by rfl, rfl⟩) ?_ ?_
         rotate_left
         ·
          simp only [Act.put, List.setIfInBounds_toArray, List.set_cons_zero, List.set_cons_succ, i64_w, i32_w]
          rfl
         refine pure_ (i := 9) (N := some 30) (v := undef) (a' := ?_) #[true, true, true, true, true, true, true, true, true, true, false, false, false] rfl rfl (any_of HT_.out (by kernel_rfl)) (fun _ _ _ h => h) (Or.inr ⟨by rfl, rfl⟩) ?_ ?_
         rotate_left
         ·
          simp only [Act.put, List.setIfInBounds_toArray, List.set_cons_zero, List.set_cons_succ, i64_w, i32_w]
          rfl
         refine pure_ (i := 10) (N := some 31) (v := undef) (a' := ?_) #[true, true, true, true, true, true, true, true, true, true, true, false, false] rfl rfl (any_of HT_.out (by kernel_rfl)) (fun _ _ _ h => h) (Or.inr ⟨by rfl, rfl⟩) ?_ ?_
         rotate_left
         ·
          simp only [Act.put, List.setIfInBounds_toArray, List.set_cons_zero, List.set_cons_succ, i64_w, i32_w]
          rfl
         refine pure_ (i := 11) (N := some 32) (v := undef) (a' := ?_) #[true, true, true, true, true, true, true, true, true, true, true, true, false] rfl rfl (any_of HT_.out (by kernel_rfl)) (fun _ _ _ h => h) (Or.inr ⟨by rfl, rfl⟩) ?_ ?_
         rotate_left
         ·
          simp only [Act.put, List.setIfInBounds_toArray, List.set_cons_zero, List.set_cons_succ, i64_w, i32_w]
          rfl
         refine pure_ (i := 12) (N := some 33) (v := ?_) (a' := ?_) #[true, true, true, true, true, true, true, true, true, true, true, true, true] rfl rfl (any_of HT_.out (by kernel_rfl)) (fun _ _ _ h => h) (Or.inl ⟨by rfl, ?_⟩) ?_ ?_
         rotate_left
         ·
          intro w'
          go_simp
          with_reducible rfl
         rotate_left
         ·
          simp only [Act.put, List.setIfInBounds_toArray, List.set_cons_zero, List.set_cons_succ, i64_w, i32_w]
          rfl
         refine done_ (done_of HT_.out (by kernel_rfl)) ?_
         try go_wp2
         go_meet
         case rel => exact ⟨_, (false), (by first | rfl | (simp; done) | (simp [*]; done)), H', ⟨by have := HK1.out; have := HK2.out; first | omega | exact Nat.le_refl _⟩, ⟨by (with_reducible repeat (first | apply Kd.S_alloc | apply Kd.S_drewN | apply Kd.S_drew)); exact HO_3.out⟩, ⟨by (with_reducible repeat (first | apply Kd.R_alloc | apply Kd.R_drewN | apply Kd.R_drew)); exact HO_258000.out⟩, ⟨by (with_reducible repeat (first | refine blk_drewN ?_ _ | refine blk_drew ?_ | refine blk_alloc ?_ _)); exact BK257.out⟩, ⟨by repeat (first | (with_reducible first | exact HB.out | apply below_alloc | apply pw_below_drewN | apply below_drew1 | refine below_set ?_ GE257.out) | exact HB.out)⟩⟩
       case rest =>
        clear HC12
        try clear c1
        try clear c2
        try clear p2
        try clear q2
        try clear hx2
        try clear c4
        try clear c4b0
        try clear c5
        try clear c5b0
        try clear p6
        try clear c7
        try clear c9
        try clear c11
        try clear c13
        try clear c13b0
        try clear c15
        try clear c15b0
        try clear c16
        try clear c16b0
        try clear hcz10_0
        try clear hcz10_1
        try clear hcz10_2
        try clear hcz10_3
        try clear hfz10_0
        try clear hfz10_1
        try clear hfz10_2
        try clear hfz10_3
        try clear hx250_0
        try clear hx250_1
        try clear hx250_2
        try clear hx250_3
        try clear hx258_0
        try clear hx258_1
        try clear hx258_2
        try clear hx258_3
        try clear p2
        try clear p250
        try clear p258
        try clear q2
        try clear q250
        try clear q258
        obtain ⟨kq, x33_11, rfl, HA, HJ11, HO_3, HO_258000, BK257, HB⟩ := hcut
        cases kq with
        | zero => exact absurd HA.out (by simp [spec_l8Sort.j2])
        | succ kj11 =>
         have H := HA.out
         clear HA
         simp only [spec_l8Sort.j2] at H
         by_cases c20 : x33_11 = true
         ·
          subst c20
          have H1 : (spec_l8Sort.l1 kj11 l0 x3_1 x4_1 (wrap64 (x6_2 - 1)) t251 t254 t255 t256) = some r := by rw [if_pos rfl] at H; exact H
          clear H
          have H := H1
          clear H1
          have H' := Aside0.mk H
          clear H
          go_wp2
          go_roundg kj11
          case measure => have := HK1.out; have := HK2.out; have := HJ11.out; omega
          case rel => exact ⟨(wrap64 (x6_2 - 1)), (by first | rfl | (simp; done) | (simp [*]; done)), H', ⟨by have := HK1.out; have := HK2.out; have := HJ11.out; omega⟩, ⟨by (with_reducible repeat (first | apply Kd.S_alloc | apply Kd.S_drewN | apply Kd.S_drew)); exact HO_3.out⟩, ⟨by (with_reducible repeat (first | apply Kd.R_alloc | apply Kd.R_drewN | apply Kd.R_drew)); exact HO_258000.out⟩, ⟨by (with_reducible repeat (first | refine blk_drewN ?_ _ | refine blk_drew ?_ | refine blk_alloc ?_ _)); exact BK257.out⟩, ⟨by repeat (first | (with_reducible first | exact HB.out | apply below_alloc | apply pw_below_drewN | apply below_drew1 | refine below_set ?_ GE257.out) | exact HB.out)⟩⟩
         ·
          replace c20 := Bool.eq_false_iff.mpr c20
          subst c20
          have H1 : ((some (([] : List (S43)) : List (S43))).bind fun y260 => (if 0 ≤ x6_2 then (if x6_2 ≤ (x3_1.length : Int) then ((some (x3_1.drop (x6_2 : Int).toNat : List (S43))).bind fun y266 => ((some (x3_1.take (x6_2 : Int).toNat : List (S43))).bind fun y263 => (if y260.length + y263.length < 2513169434916 then ((some (y260 ++ y263 : List (S43))).bind fun y270 => (if y270.length < 2513169434916 then ((some (y270 ++ [(⟨t251, t254, t255, t256⟩ : S43)] : List (S43))).bind fun y274 => (if y274.length + y266.length < 2513169434916 then (spec_l8Sort.l0 kj11 l0 (y274 ++ y266) (wrap64 (x4_1 + 1))) else (none))) else (none))) else (none)))) else (none)) else (none))) = some r := by rw [if_neg (show ¬ (false = true) by decide)] at H; exact H
          clear H
          have H := H1
          clear H1
          obtain ⟨y260, hy260⟩ : ∃ y_ : List (S43), y_ = (([] : List (S43))) := ⟨_, rfl⟩
          replace H : (if 0 ≤ x6_2 then (if x6_2 ≤ (x3_1.length : Int) then ((some (x3_1.drop (x6_2 : Int).toNat : List (S43))).bind fun y266 => ((some (x3_1.take (x6_2 : Int).toNat : List (S43))).bind fun y263 => (if y260.length + y263.length < 2513169434916 then ((some (y260 ++ y263 : List (S43))).bind fun y270 => (if y270.length < 2513169434916 then ((some (y270 ++ [(⟨t251, t254, t255, t256⟩ : S43)] : List (S43))).bind fun y274 => (if y274.length + y266.length < 2513169434916 then (spec_l8Sort.l0 kj11 l0 (y274 ++ y266) (wrap64 (x4_1 + 1))) else (none))) else (none))) else (none)))) else (none)) else (none)) = some r := by first | (rw [hy260]; with_reducible exact H) | (have H2_ := (Option.bind_some _ _).symm.trans H; rw [hy260]; with_reducible exact H2_) | (have H2_ := (Option.bind_some _ _).symm.trans H; with_reducible exact H2_) | with_reducible exact H | (rw [hy260]; exact H) | exact H
          have Ny260 := Aside0.mk hy260
          clear hy260
          by_cases c21 : 0 ≤ x6_2
          ·
           rw [if_pos c21] at H
           have c21b0 := eq_true c21
           have c21b1 : decide (0 ≤ x6_2) = true := decide_eq_true c21
           clear c21
           by_cases c22 : x6_2 ≤ (x3_1.length : Int)
           ·
            rw [if_pos c22] at H
            have c22b0 := eq_true c22
            have c22b1 : decide (x6_2 ≤ (x3_1.length : Int)) = true := decide_eq_true c22
            clear c22
            obtain ⟨y266, hy266⟩ : ∃ y_ : List (S43), y_ = (x3_1.drop (x6_2 : Int).toNat) := ⟨_, rfl⟩
            replace H : ((some (x3_1.take (x6_2 : Int).toNat : List (S43))).bind fun y263 => (if y260.length + y263.length < 2513169434916 then ((some (y260 ++ y263 : List (S43))).bind fun y270 => (if y270.length < 2513169434916 then ((some (y270 ++ [(⟨t251, t254, t255, t256⟩ : S43)] : List (S43))).bind fun y274 => (if y274.length + y266.length < 2513169434916 then (spec_l8Sort.l0 kj11 l0 (y274 ++ y266) (wrap64 (x4_1 + 1))) else (none))) else (none))) else (none))) = some r := by first | (rw [hy266]; with_reducible exact H) | (have H2_ := (Option.bind_some _ _).symm.trans H; rw [hy266]; with_reducible exact H2_) | (have H2_ := (Option.bind_some _ _).symm.trans H; with_reducible exact H2_) | with_reducible exact H | (rw [hy266]; exact H) | exact H
            have Ny266 := Aside0.mk hy266
            clear hy266
            obtain ⟨y263, hy263⟩ : ∃ y_ : List (S43), y_ = (x3_1.take (x6_2 : Int).toNat) := ⟨_, rfl⟩
            replace H : (if y260.length + y263.length < 2513169434916 then ((some (y260 ++ y263 : List (S43))).bind fun y270 => (if y270.length < 2513169434916 then ((some (y270 ++ [(⟨t251, t254, t255, t256⟩ : S43)] : List (S43))).bind fun y274 => (if y274.length + y266.length < 2513169434916 then (spec_l8Sort.l0 kj11 l0 (y274 ++ y266) (wrap64 (x4_1 + 1))) else (none))) else (none))) else (none)) = some r := by first | (rw [hy263]; with_reducible exact H) | (have H2_ := (Option.bind_some _ _).symm.trans H; rw [hy263]; with_reducible exact H2_) | (have H2_ := (Option.bind_some _ _).symm.trans H; with_reducible exact H2_) | with_reducible exact H | (rw [hy263]; exact H) | exact H
            have Ny263 := Aside0.mk hy263
            clear hy263
            by_cases c23 : y260.length + y263.length < 2513169434916
            ·
             rw [if_pos c23] at H
             have LMc23 := Aside0.mk c23
             clear c23
             obtain ⟨y270, hy270⟩ : ∃ y_ : List (S43), y_ = (y260 ++ y263) := ⟨_, rfl⟩
             replace H : (if y270.length < 2513169434916 then ((some (y270 ++ [(⟨t251, t254, t255, t256⟩ : S43)] : List (S43))).bind fun y274 => (if y274.length + y266.length < 2513169434916 then (spec_l8Sort.l0 kj11 l0 (y274 ++ y266) (wrap64 (x4_1 + 1))) else (none))) else (none)) = some r := by first | (rw [hy270]; with_reducible exact H) | (have H2_ := (Option.bind_some _ _).symm.trans H; rw [hy270]; with_reducible exact H2_) | (have H2_ := (Option.bind_some _ _).symm.trans H; with_reducible exact H2_) | with_reducible exact H | (rw [hy270]; exact H) | exact H
             have Ny270 := Aside0.mk hy270
             clear hy270
             by_cases c24 : y270.length < 2513169434916
             ·
              rw [if_pos c24] at H
              have LMc24 := Aside0.mk c24
              clear c24
              obtain ⟨y274, hy274⟩ : ∃ y_ : List (S43), y_ = (y270 ++ [(⟨t251, t254, t255, t256⟩ : S43)]) := ⟨_, rfl⟩
              replace H : (if y274.length + y266.length < 2513169434916 then (spec_l8Sort.l0 kj11 l0 (y274 ++ y266) (wrap64 (x4_1 + 1))) else (none)) = some r := by first | (rw [hy274]; with_reducible exact H) | (have H2_ := (Option.bind_some _ _).symm.trans H; rw [hy274]; with_reducible exact H2_) | (have H2_ := (Option.bind_some _ _).symm.trans H; with_reducible exact H2_) | with_reducible exact H | (rw [hy274]; exact H) | exact H
              have Ny274 := Aside0.mk hy274
              clear hy274
              by_cases c25 : y274.length + y266.length < 2513169434916
              ·
               rw [if_pos c25] at H
               have LMc25 := Aside0.mk c25
               clear c25
               obtain ⟨y277, hy277⟩ : ∃ y_ : List (S43), y_ = (y274 ++ y266) := ⟨_, rfl⟩
               replace H : (spec_l8Sort.l0 kj11 l0 y277 (wrap64 (x4_1 + 1))) = some r := by first | (rw [hy277]; with_reducible exact H) | (have H2_ := (Option.bind_some _ _).symm.trans H; rw [hy277]; with_reducible exact H2_) | (have H2_ := (Option.bind_some _ _).symm.trans H; with_reducible exact H2_) | with_reducible exact H | (rw [hy277]; exact H) | exact H
               have Ny277 := Aside0.mk hy277
               clear hy277
               have H' := Aside0.mk H
               clear H
               try go_wp2
               have qp26 : (x6_2 : Int) ≤ ((x3_1.length : Int) : Int) := of_decide_eq_true (by first | (with_reducible assumption) | assumption)
               have q0p26 : (0 : Int) ≤ (x6_2 : Int) := of_decide_eq_true (by first | (with_reducible assumption) | assumption)
               have hlxp26 := (Kd.S_reads' HO_3.out).1
               obtain ⟨i0p26, hi0p26, _, hszp26, _⟩ := info_parts info43
               have hcutp26 := cut_to (P := Try.prog) 44 43 .i64 Try.underlying44 hi0p26 Ao11 x3_1.length co11 x6_2 (of_decide_eq_true (by first | (with_reducible assumption) | assumption)) qp26 (Kd.S_reads' HO_3.out).2.1
               have hcutbp26 := cut_from (P := Try.prog) 44 43 .i64 Try.underlying44 hi0p26 4 hszp26 Ao11 x3_1.length co11 x6_2 q0p26 qp26
               have KLp26 := Aside0.mk (show (x6_2 : Int).toNat ≤ x3_1.length from by omega)
               obtain ⟨GXp26, hsrp26, hspp26, hglp26⟩ := Kd.S_split HO_3.out ((x6_2 : Int).toNat) KLp26.out
               have HGp26 := Aside0.mk (show ∀ k_, GXp26 k_ → k_ < gb257 from fun k_ hk => (hglp26 k_ hk).2.2.2)
               have hyp26 : y263.length = (x6_2 : Int).toNat := (by rw [Ny263.out, List.length_take]; omega)
               rw [← Ny263.out] at hspp26
               rw [← hyp26] at hspp26 hcutp26
               obtain ⟨Ap26b, hAbp26⟩ : ∃ A1, A1 = (if co11 = (x6_2 : Int).toNat then Ao11 else (Ao11 : Option Addr).map (·.add ((x6_2 : Int).toNat * 4))) := ⟨_, rfl⟩
               obtain ⟨cp26b, hcbp26⟩ : ∃ c1, c1 = co11 - (x6_2 : Int).toNat := ⟨_, rfl⟩
               have hybp26 : y266.length = x3_1.length - (x6_2 : Int).toNat := (by rw [Ny266.out, List.length_drop])
               rw [← hybp26, ← hAbp26, ← hcbp26] at hcutbp26
               have KAp26 := Aside0.mk hAbp26
               clear hcbp26 hAbp26 hybp26 hlxp26
               obtain ⟨GXp26P, hPPp26, hlPp26⟩ := Kd.S_fp hspp26
               have HGp26P := Aside0.mk (show ∀ k_, GXp26P k_ → k_ < gb257 from fun k_ hk => (hlPp26 k_ hk).1.1.2.2.2)
               obtain ⟨GXp26u0, hPXp26u0, hPlp26u0⟩ := Kd.R_fpt rfl (HO_258000.out)
               have HGp26u0 := Aside0.mk (show ∀ k_, GXp26u0 k_ → k_ < gb257 from fun k_ hk_ => (hPlp26u0 k_ hk_).1.1.2)
               have nup26u0 := Aside0.mk (Kd.R_mono hPXp26u0 (fun k_ hk_ => (⟨⟨(hPlp26u0 k_ hk_).1.1, hk_⟩, fun g_ => Nat.lt_irrefl _ (Nat.lt_of_lt_of_le (hglp26 k_ g_).2.2.1 (hPlp26u0 k_ hk_).1.1.1)⟩ : (_ ∧ GXp26u0 k_) ∧ ¬ GXp26 k_)))
               have HO265 := Aside0.mk (Kd.S_mono (Kd.S_mono hPPp26 (fun k_ hk_ => (⟨(hlPp26 k_ hk_).1, hk_⟩ : _ ∧ GXp26P k_))) (fun k_ hk => (⟨hk, fun g_ => Nat.lt_irrefl _ (Nat.lt_of_lt_of_le hk.1.1.2.2.1 (hPlp26u0 k_ g_).1.1.1)⟩ : _ ∧ ¬ GXp26u0 k_)))
               clear HO_3
               have HO_3 := Aside0.mk hsrp26
               clear HO_258000
               have HO_258000 := nup26u0
               clear nup26u0 hPXp26u0 hPlp26u0
               clear hsrp26 hspp26 hglp26 hPPp26 hlPp26 hyp26
               clear hi0p26 hszp26
               replace qp26 := eq_true qp26
               have n0_ := Aside0.mk (Kd.S_drew HO_3.out)
               have n1_ := Aside0.mk (Kd.R_drew HO_258000.out)
               have n2_ := Aside0.mk (Kd.S_drew HO265.out)
               have n3_ := Aside0.mk (blk_drew BK257.out)
               have n4_ := Aside0.mk (below_drew1 HB.out)
               clear HO_3
               clear HO_258000
               clear HO265
               clear BK257
               clear HB
               have HO_3 := n0_
               have HO_258000 := n1_
               have HO265 := n2_
               have BK257 := n3_
               have HB := n4_
               clear n0_ n1_ n2_ n3_ n4_
               refine start_ (n := 13) (S := fun w' => w'.cell? ⟨gb257, 0, none⟩ = some (.slice Ao9 t251.length co9) ∧ w'.cell? ⟨gb257, 1, none⟩ = some (.int .i64 t254) ∧ w'.cell? ⟨gb257, 2, none⟩ = some (.int .i64 t255) ∧ w'.cell? ⟨gb257, 3, none⟩ = some (.string t256)) (ds := []) #[false, false, false, false, false, false, false, false, false, false, false, false, false] (by kernel_rfl) rfl rfl ⟨(blk_cell BK257.out 0).trans rfl, (blk_cell BK257.out 1).trans rfl, (blk_cell BK257.out 2).trans rfl, (blk_cell BK257.out 3).trans rfl⟩ (fun hHeld => ?_); refine with_tabW spec_l8Sort.tab9 spec_l8Sort.bits9 (fun HT_ HW_ => ?_)
               generalize wc.drew = w27 at HO_3 HO_258000 HO265 BK257 HB hHeld ⊢
               refine pure_ (i := 1) (N := some 37) (v := ?_) (a' := ?_) #[false, true, false, false, false, false, false, false, false, false, false, false, false] rfl rfl (any_of HT_.out (by kernel_rfl)) (fun _ _ _ h => h) (Or.inl ⟨by rfl, ?_⟩) ?_ ?_
               rotate_left
               ·
                intro w'
                go_simp
                with_reducible rfl
               rotate_left
               ·
                simp only [Act.put, List.setIfInBounds_toArray, List.set_cons_zero, List.set_cons_succ, i64_w, i32_w]
                rfl
               refine pure_ (i := 2) (N := some 38) (v := ?_) (a' := ?_) #[false, true, true, false, false, false, false, false, false, false, false, false, false] rfl rfl (any_of HT_.out (by kernel_rfl)) (fun _ _ _ h => h) (Or.inl ⟨by rfl, ?_⟩) ?_ ?_
               rotate_left
               ·
                intro w'
                go_simp
                with_reducible rfl
               rotate_left
               ·
                simp only [Act.put, List.setIfInBounds_toArray, List.set_cons_zero, List.set_cons_succ, i64_w, i32_w]
                rfl
               refine pure_ (i := 3) (N := some 39) (v := ?_) (a' := ?_) #[false, true, true, true, false, false, false, false, false, false, false, false, false] rfl rfl (any_of HT_.out (by kernel_rfl)) (fun _ _ _ h => h) (Or.inl ⟨by rfl, ?_⟩) ?_ ?_
               rotate_left
               ·
                intro w'
                go_simp
                with_reducible rfl
               rotate_left
               ·
                simp only [Act.put, List.setIfInBounds_toArray, List.set_cons_zero, List.set_cons_succ, i64_w, i32_w]
                rfl
               refine pure_ (i := 8) (N := some 44) (v := ?_) (a' := ?_) #[false, true, true, true, false, false, false, false, true, false, false, false, false] rfl rfl (any_of HT_.out (by kernel_rfl)) (fun _ _ _ h => h) (Or.inl ⟨by rfl, ?_⟩) ?_ ?_
               rotate_left
               ·
                intro w'
                go_simp
                with_reducible rfl
               rotate_left
               ·
                simp only [Act.put, List.setIfInBounds_toArray, List.set_cons_zero, List.set_cons_succ, i64_w, i32_w]
                rfl
               refine pure_ (i := 9) (N := some 45) (v := ?_) (a' := ?_) #[false, true, true, true, false, false, false, false, true, true, false, false, false] rfl rfl (any_of HT_.out (by kernel_rfl)) (fun _ _ _ h => h) (Or.inl ⟨by rfl, ?_⟩) ?_ ?_
               rotate_left
               ·
                intro w'
                go_simp
                with_reducible rfl
               rotate_left
               ·
                simp only [Act.put, List.setIfInBounds_toArray, List.set_cons_zero, List.set_cons_succ, i64_w, i32_w]
                rfl
               refine pure_ (i := 10) (N := some 46) (v := ?_) (a' := ?_) #[false, true, true, true, false, false, false, false, true, true, true, false, false] rfl rfl (any_of HT_.out (by kernel_rfl)) (fun _ _ _ h => h) (Or.inl ⟨by rfl, ?_⟩) ?_ ?_
               rotate_left
               ·
                intro w'
                go_simp
                with_reducible rfl
               rotate_left
               ·
                simp only [Act.put, List.setIfInBounds_toArray, List.set_cons_zero, List.set_cons_succ, i64_w, i32_w]
                rfl
               refine take_ (i := 5) (N := some 41) (v := ?_) (a' := ?_) #[false, true, true, true, false, true, false, false, true, true, true, false, false] rfl rfl (take_ofW HT_.out HW_.out (by kernel_rfl)) (fun _ _ _ h => h) (Or.inl ⟨by rfl, ?_⟩) hHeld ?_ ?_
               rotate_left
               ·
                rintro w' ⟨s0, s1, s2, s3⟩
                go_simp
                with_reducible rfl
               rotate_left
               ·
                simp only [Act.put, List.setIfInBounds_toArray, List.set_cons_zero, List.set_cons_succ, i64_w, i32_w]
                rfl
               refine join_ (σ := Value × Value × Nat) 3 #[true, true, true, true, true, true, true, false, true, true, true, false, false] (fun s_ => [(36, s_.1), (40, s_.2.1), (42, .slice (some ⟨s_.2.2, 0, none⟩) 1 1)]) (fun s_ w' => (w'.cell? ⟨gb257, 0, none⟩ = some (.slice Ao9 t251.length co9) ∧ w'.cell? ⟨gb257, 1, none⟩ = some (.int .i64 t254) ∧ w'.cell? ⟨gb257, 2, none⟩ = some (.int .i64 t255) ∧ w'.cell? ⟨gb257, 3, none⟩ = some (.string t256)) ∧ (Kd.S k43 43 w' w.heap.size (fun k_ => some k_ ≠ (.slice Ao9 t251.length co9 : Value).ownBlock ∧ some k_ ≠ (.slice Ao11 x3_1.length co11 : Value).ownBlock ∧ k_ ≠ gb257 ∧ k_ ≠ s_.2.2 ∧ ¬ GXp26 k_ ∧ ¬ GXp26u0 k_) s_.2.1 y270) ∧ (Kd.R k88 88 w' w.heap.size (fun k_ => gbz252 ≤ k_ ∧ GXp26u0 k_ ∧ k_ < gb257 ∧ ¬ GXp26 k_) (.slice Ao9 t251.length co9) t251) ∧ (Kd.S (Kd.opt k43) 43 w' w.heap.size (fun k_ => some k_ ≠ (s_.2.1 : Value).ownBlock ∧ some k_ ≠ (.slice Ao9 t251.length co9 : Value).ownBlock ∧ k_ ≠ gb257 ∧ k_ ≠ s_.2.2 ∧ GXp26 k_ ∧ k_ < gb257 ∧ k_ < gbz252) (.slice Ao11 x3_1.length co11) (Kd.gap ((x6_2 : Int).toNat) x3_1)) ∧ (w'.heap[gb257]? = some (.cells #[.slice Ao9 t251.length co9, .int .i64 t254, .int .i64 t255, .string t256] 43 (0, 0))) ∧ (w'.heap[s_.2.2]? = some (.cells #[.slice Ao9 t251.length co9, .int .i64 t254, .int .i64 t255, .string t256] 43 (0, 0))) ∧ (w.heap.size ≤ s_.2.2) ∧ (w.heap.size ≤ s_.2.2) ∧ (gb257 ≠ s_.2.2) ∧ (s_.2.2 ≠ gb257) ∧ (Below w.heap.size w w')) ?_ ?_
               rotate_left
               ·
                intro hCont
                refine two_ (i := 0) (j := 6) (Ni := some 36) (Nj := some 42) #[true, true, true, true, false, true, false, false, true, true, true, false, false] #[false, true, true, true, false, true, true, false, true, true, true, false, false] rfl rfl rfl rfl (two_of HT_.out (by kernel_rfl)) (by decide) (by decide) (fun K hK => ?_) (fun K hK => ?_)
                ·
                 skip
                 refine Kd.S_lit_step k43 _ 43 ?hg (N := 36) ?hd (xs := ([] : List (S43))) (inner := []) (ok := fun _ => True) (okp := fun _ => True) ?hr ?hp (fun _ hk => hk) trivial (Below.refl _ _) (Nat.le_refl _) (by simp) ?_; (case hd => rfl); (case hg => rfl); (case hr => first | (go_simp; done) | (go_simp; rfl)); (case hp => exact (Reps.none _ _))
                 intro v261 w28 ho29 hb hg_ hnew_
                 clear hg_ hnew_
                 (first | rw [← Ny260.out] at ho29 | (simp only [Int.reduceToNat] at ho29; rw [← Ny260.out] at ho29))
                 have n0_ := Aside0.mk (Kd.S_elder' (by (with_reducible repeat (first | apply Kd.S_alloc | apply Kd.S_drewN | apply Kd.S_drew)); exact HO_3.out) (Kd.S_base ho29) hb)
                 have n1_ := Aside0.mk (Kd.R_below (by (with_reducible repeat (first | apply Kd.R_alloc | apply Kd.R_drewN | apply Kd.R_drew)); exact HO_258000.out) hb)
                 have n2_ := Aside0.mk (Kd.S_elder' (by (with_reducible repeat (first | apply Kd.S_alloc | apply Kd.S_drewN | apply Kd.S_drew)); exact HO265.out) (Kd.S_base ho29) hb)
                 have n3_ := Aside0.mk (Kd.S_lower (Kd.S_newB (Kd.S_new' (Kd.S_new' (Kd.S_new' (Kd.S_ngz HGp26P.out (blk_lt (by (with_reducible repeat (first | refine blk_drewN ?_ _ | refine blk_drew ?_ | refine blk_alloc ?_ _)); exact BK257.out)) (Kd.S_ngz HGp26u0.out (blk_lt (by (with_reducible repeat (first | refine blk_drewN ?_ _ | refine blk_drew ?_ | refine blk_alloc ?_ _)); exact BK257.out)) (Kd.S_ngz HGp26.out (blk_lt (by (with_reducible repeat (first | refine blk_drewN ?_ _ | refine blk_drew ?_ | refine blk_alloc ?_ _)); exact BK257.out)) ho29))) (Kd.S_lt (by (with_reducible repeat (first | apply Kd.S_alloc | apply Kd.S_drewN | apply Kd.S_drew)); exact HO_3.out))) (Kd.R_lt (by (with_reducible repeat (first | apply Kd.R_alloc | apply Kd.R_drewN | apply Kd.R_drew)); exact HO_258000.out))) (Kd.S_lt (by (with_reducible repeat (first | apply Kd.S_alloc | apply Kd.S_drewN | apply Kd.S_drew)); exact HO265.out))) (g := gb257) (o := .cells #[.slice Ao9 t251.length co9, .int .i64 t254, .int .i64 t255, .string t256] 43 (0, 0)) (by (with_reducible repeat (first | refine blk_drewN ?_ _ | refine blk_drew ?_ | refine blk_alloc ?_ _)); exact BK257.out)) (below_size (by repeat (first | (with_reducible first | exact HB.out | apply below_alloc | apply pw_below_drewN | apply below_drew1 | refine below_set ?_ GE257.out) | exact HB.out))))
                 have n4_ := Aside0.mk (blk_below (g := gb257) (o := .cells #[.slice Ao9 t251.length co9, .int .i64 t254, .int .i64 t255, .string t256] 43 (0, 0)) (by (with_reducible repeat (first | refine blk_drewN ?_ _ | refine blk_drew ?_ | refine blk_alloc ?_ _)); exact BK257.out) hb)
                 have n5_ := Aside0.mk (below_step (by repeat (first | (with_reducible first | exact HB.out | apply below_alloc | apply pw_below_drewN | apply below_drew1 | refine below_set ?_ GE257.out) | exact HB.out)) hb)
                 clear HO_3
                 clear HO_258000
                 clear HO265
                 clear BK257
                 clear HB
                 have HO_3 := n0_
                 have HO_258000 := n1_
                 have HO265 := n2_
                 have HO262 := n3_
                 have BK257 := n4_
                 have HB := n5_
                 clear n0_ n1_ n2_ n3_ n4_ n5_
                 clear hb ho29
                 refine hK.out _ _ ⟨(blk_cell BK257.out 0).trans rfl, (blk_cell BK257.out 1).trans rfl, (blk_cell BK257.out 2).trans rfl, (blk_cell BK257.out 3).trans rfl⟩ (fun hHeld => ?_)
                 clear hK K
                 refine norm_ (a' := ?_) ?_ ?_
                 rotate_left
                 ·
                  show Act.put _ (some 36) _ = _
                  simp only [Act.put, List.setIfInBounds_toArray, List.set_cons_zero, List.set_cons_succ, i64_w, i32_w]
                  rfl
                 refine two_ (i := 4) (j := 6) (Ni := some 40) (Nj := some 42) #[true, true, true, true, true, true, false, false, true, true, true, false, false] #[true, true, true, true, false, true, true, false, true, true, true, false, false] rfl rfl rfl rfl (two_of HT_.out (by kernel_rfl)) (by decide) (by decide) (fun K hK => ?_) (fun K hK => ?_)
                 ·
                  skip
                  refine Kd.S_append_part_step k43 (w0 := w) w.heap.size (by rfl) (.tmp 36) (.tmp 39) 44 43 (.agg #[(.slice none 0 0), (.int .i64 0), (.int .i64 0), (.string ⟨#[]⟩)]) 56 rfl Try.underlying44 info43 rfl (by decide) (by omega) v261 y260 y263 _ _ _ (fun k_ => some k_ ≠ (.slice Ao11 x3_1.length co11 : Value).ownBlock ∧ some k_ ≠ (.slice Ao9 t251.length co9 : Value).ownBlock ∧ k_ ≠ gb257 ∧ ¬ GXp26 k_ ∧ ¬ GXp26u0 k_) (fun k_ => some k_ ≠ (.slice Ao9 t251.length co9 : Value).ownBlock ∧ some k_ ≠ (v261 : Value).ownBlock ∧ k_ ≠ gb257 ∧ k_ < gbz252 ∧ k_ < gb257 ∧ (¬ GXp26 k_ ∨ some k_ = (.slice Ao11 y263.length co11 : Value).ownBlock) ∧ GXp26P k_ ∧ ¬ GXp26u0 k_) rfl rfl ?aR (fun k_ hx_ ho_ => by have hz_ : ((((fun k_ => some k_ ≠ (.slice Ao9 t251.length co9 : Value).ownBlock ∧ some k_ ≠ (v261 : Value).ownBlock ∧ k_ ≠ gb257 ∧ k_ < gbz252 ∧ k_ < gb257 ∧ (¬ GXp26 k_ ∨ some k_ = (.slice Ao11 y263.length co11 : Value).ownBlock) ∧ GXp26P k_ ∧ ¬ GXp26u0 k_)) k_ ∧ ¬ GXp26 k_) ∧ some k_ ≠ (.slice Ao11 x3_1.length co11 : Value).ownBlock) := ⟨⟨hx_, fun g_ => (hx_.2.2.2.2.2.1).elim (fun h_ => h_ g_) (fun h_ => ho_ h_)⟩, fun e_ => ho_ (e_.trans Kd.own_len)⟩; exact ⟨⟨hz_.2, ⟨hz_.1.1.1, ⟨hz_.1.1.2.2.1, ⟨hz_.1.2, hz_.1.1.2.2.2.2.2.2.2⟩⟩⟩⟩, hz_.1.1.2.1⟩) ?aF ?aO ?aB ?aS ?aL ?_
                  (case aR => exact (Kd.S_mono (HO265.out) (fun k_ hk => ⟨hk.1.1.1.1.1, ⟨hk.2, ⟨hk.1.1.1.1.2.1, ⟨hk.1.1.1.1.2.2.1, ⟨hk.1.1.1.1.2.2.2, ⟨hk.1.1.1.2, ⟨hk.1.1.2, hk.1.2⟩⟩⟩⟩⟩⟩⟩)))
                  (case aB => exact (by repeat (first | (with_reducible first | exact HB.out | apply below_alloc | apply pw_below_drewN | apply below_drew1 | refine below_set ?_ GE257.out) | exact HB.out)))
                  (case aF => exact (fun k_ hk => ⟨Kd.fresh' (Kd.S_lt (by (with_reducible repeat (first | apply Kd.S_alloc | apply Kd.S_drewN | apply Kd.S_drew)); exact HO_3.out)) k_ hk, Kd.fresh' (Kd.R_lt (by (with_reducible repeat (first | apply Kd.R_alloc | apply Kd.R_drewN | apply Kd.R_drew)); exact HO_258000.out)) k_ hk, Kd.freshB (g := gb257) (o := .cells #[.slice Ao9 t251.length co9, .int .i64 t254, .int .i64 t255, .string t256] 43 (0, 0)) (by (with_reducible repeat (first | refine blk_drewN ?_ _ | refine blk_drew ?_ | refine blk_alloc ?_ _)); exact BK257.out) k_ hk, (fun g_ => Nat.lt_irrefl _ (Nat.lt_of_lt_of_le (Nat.lt_trans (HGp26.out k_ g_) (blk_lt (by (with_reducible repeat (first | refine blk_drewN ?_ _ | refine blk_drew ?_ | refine blk_alloc ?_ _)); exact BK257.out))) hk)), (fun g_ => Nat.lt_irrefl _ (Nat.lt_of_lt_of_le (Nat.lt_trans (HGp26u0.out k_ g_) (blk_lt (by (with_reducible repeat (first | refine blk_drewN ?_ _ | refine blk_drew ?_ | refine blk_alloc ?_ _)); exact BK257.out))) hk))⟩))
                  (case aO => exact (by (with_reducible repeat (first | apply Kd.S_alloc | apply Kd.S_drewN | apply Kd.S_drew)); exact Kd.S_mono HO262.out (fun k_ hk => ⟨⟨hk.1.1.1.2, ⟨hk.1.1.2, ⟨hk.2, ⟨hk.1.1.1.1.1.1.2, hk.1.1.1.1.1.2⟩⟩⟩⟩, fun e_ => (fun ez_ => hk.1.1.1.1.2 ((fun (k9_ : Nat) (h9_ : ((fun k_ => some k_ ≠ (.slice Ao9 t251.length co9 : Value).ownBlock ∧ some k_ ≠ (v261 : Value).ownBlock ∧ k_ ≠ gb257 ∧ k_ < gbz252 ∧ k_ < gb257 ∧ (¬ GXp26 k_ ∨ some k_ = (.slice Ao11 y263.length co11 : Value).ownBlock) ∧ GXp26P k_ ∧ ¬ GXp26u0 k_)) k9_ ∧ some k9_ ≠ (.slice Ao11 y263.length co11 : Value).ownBlock) => (⟨h9_.1, trivial⟩ : _ ∧ True)) _ ez_).1.2.2.2.2.2.2.1) e_⟩)))
                  (case aS => exact (below_size (by repeat (first | (with_reducible first | exact HB.out | apply below_alloc | apply pw_below_drewN | apply below_drew1 | refine below_set ?_ GE257.out) | exact HB.out))))
                  (case aL => have := LMc23.out; omega)
                  intro v271 w30 ho hb hg hat
                  rw [← Ny270.out] at ho
                  have n0_ := Aside0.mk (Kd.S_after (ok := (fun k_ => some k_ ≠ (.slice Ao9 t251.length co9 : Value).ownBlock ∧ k_ ≠ gb257 ∧ k_ < gbz252 ∧ k_ < gb257 ∧ GXp26 k_)) (by (with_reducible repeat (first | apply Kd.S_alloc | apply Kd.S_drewN | apply Kd.S_drew)); exact Kd.S_mono HO_3.out (fun _ hk => ⟨⟨hk.1.1.1, ⟨hk.1.1.2.1, ⟨hk.1.1.2.2.1, ⟨hk.1.1.2.2.2, hk.1.2⟩⟩⟩⟩, hk.2⟩)) hg hat)
                  have n1_ := Aside0.mk (Kd.R_over' (by (with_reducible repeat (first | apply Kd.R_alloc | apply Kd.R_drewN | apply Kd.R_drew)); exact HO_258000.out) (Kd.S_typed (by (with_reducible repeat (first | apply Kd.S_alloc | apply Kd.S_drewN | apply Kd.S_drew)); exact HO262.out)) (by decide) hg)
                  have n2_ := Aside0.mk (blk_grown (g := gb257) (o := .cells #[.slice Ao9 t251.length co9, .int .i64 t254, .int .i64 t255, .string t256] 43 (0, 0)) (by (with_reducible repeat (first | refine blk_drewN ?_ _ | refine blk_drew ?_ | refine blk_alloc ?_ _)); exact BK257.out) hg (Kd.S_away HO262.out (fun _ hk => hk.2)))
                  have n3_ := Aside0.mk (hb)
                  have n4_ := Aside0.mk (ho)
                  clear HO_3
                  clear HO_258000
                  clear BK257
                  clear HB
                  clear HO262
                  clear HO265
                  have HO_3 := n0_
                  have HO_258000 := n1_
                  have BK257 := n2_
                  have HB := n3_
                  have HO272 := n4_
                  clear n0_ n1_ n2_ n3_ n4_
                  clear ho hb hg hat
                  refine hK.out _ _ ⟨(blk_cell BK257.out 0).trans rfl, (blk_cell BK257.out 1).trans rfl, (blk_cell BK257.out 2).trans rfl, (blk_cell BK257.out 3).trans rfl⟩ (fun hHeld => ?_)
                  clear hK K
                  refine norm_ (a' := ?_) ?_ ?_
                  rotate_left
                  ·
                   show Act.put _ (some 40) _ = _
                   simp only [Act.put, List.setIfInBounds_toArray, List.set_cons_zero, List.set_cons_succ, i64_w, i32_w]
                   rfl
                  refine one_ (i := 6) (N := some 42) #[true, true, true, true, true, true, true, false, true, true, true, false, false] rfl rfl (one_of HT_.out (by kernel_rfl)) (by decide) (fun K hK => ?_)
                  refine box_stepL ?hg (N := 42) ?hd (cs := #[.slice Ao9 t251.length co9, .int .i64 t254, .int .i64 t255, .string t256]) (t := 43) ?hr ?_; (case hd => rfl); (case hg => rfl); (case hr => first | (go_simp; done) | (go_simp; rfl))
                  intro gb273 hg w31 hbox hb
                  have n0_ := Aside0.mk (Kd.S_below (Kd.S_elderB (by (with_reducible repeat (first | apply Kd.S_alloc | apply Kd.S_drewN | apply Kd.S_drew)); exact HO_3.out) gb273 (Nat.le_of_eq hg.symm)) hb)
                  have n1_ := Aside0.mk (Kd.R_below (by (with_reducible repeat (first | apply Kd.R_alloc | apply Kd.R_drewN | apply Kd.R_drew)); exact HO_258000.out) hb)
                  have n2_ := Aside0.mk (Kd.S_below (Kd.S_elderB (by (with_reducible repeat (first | apply Kd.S_alloc | apply Kd.S_drewN | apply Kd.S_drew)); exact HO272.out) gb273 (Nat.le_of_eq hg.symm)) hb)
                  have n3_ := Aside0.mk (blk_below (g := gb257) (o := .cells #[.slice Ao9 t251.length co9, .int .i64 t254, .int .i64 t255, .string t256] 43 (0, 0)) (by (with_reducible repeat (first | refine blk_drewN ?_ _ | refine blk_drew ?_ | refine blk_alloc ?_ _)); exact BK257.out) hb)
                  have n4_ := Aside0.mk (below_step (by repeat (first | (with_reducible first | exact HB.out | apply below_alloc | apply pw_below_drewN | apply below_drew1 | refine below_set ?_ GE257.out) | exact HB.out)) hb)
                  have n5_ := Aside0.mk (hbox)
                  have n6_ := Aside0.mk ((by rw [hg]; exact (below_size (by repeat (first | (with_reducible first | exact HB.out | apply below_alloc | apply pw_below_drewN | apply below_drew1 | refine below_set ?_ GE257.out) | exact HB.out))) : w.heap.size ≤ gb273))
                  have n7_ := Aside0.mk ((by rw [hg]; exact (below_size (by repeat (first | (with_reducible first | exact HB.out | apply below_alloc | apply pw_below_drewN | apply below_drew1 | refine below_set ?_ GE257.out) | exact HB.out))) : w.heap.size ≤ gb273))
                  have n8_ := Aside0.mk ((by rw [hg]; exact Nat.ne_of_lt (blk_lt (g := gb257) (o := .cells #[.slice Ao9 t251.length co9, .int .i64 t254, .int .i64 t255, .string t256] 43 (0, 0)) (by (with_reducible repeat (first | refine blk_drewN ?_ _ | refine blk_drew ?_ | refine blk_alloc ?_ _)); exact BK257.out)) : gb257 ≠ gb273))
                  have n9_ := Aside0.mk ((by rw [hg]; exact Nat.ne_of_gt (blk_lt (g := gb257) (o := .cells #[.slice Ao9 t251.length co9, .int .i64 t254, .int .i64 t255, .string t256] 43 (0, 0)) (by (with_reducible repeat (first | refine blk_drewN ?_ _ | refine blk_drew ?_ | refine blk_alloc ?_ _)); exact BK257.out)) : gb273 ≠ gb257))
                  clear HO_3
                  clear HO_258000
                  clear HO272
                  clear BK257
                  clear HB
                  have HO_3 := n0_
                  have HO_258000 := n1_
                  have HO272 := n2_
                  have BK257 := n3_
                  have HB := n4_
                  have BK273 := n5_
                  have GW273 := n6_
                  have GE273 := n7_
                  have NB257_273 := n8_
                  have NB273_257 := n9_
                  clear n0_ n1_ n2_ n3_ n4_ n5_ n6_ n7_ n8_ n9_
                  clear hb hbox hg
                  refine hK.out _ _ ⟨(blk_cell BK257.out 0).trans rfl, (blk_cell BK257.out 1).trans rfl, (blk_cell BK257.out 2).trans rfl, (blk_cell BK257.out 3).trans rfl⟩ (fun hHeld => ?_)
                  clear hK K
                  refine norm_ (a' := ?_) ?_ ?_
                  rotate_left
                  ·
                   show Act.put _ (some 42) _ = _
                   simp only [Act.put, List.setIfInBounds_toArray, List.set_cons_zero, List.set_cons_succ, i64_w, i32_w]
                   rfl
                  exact norm_ (by simp only [putAll, Act.put, List.setIfInBounds_toArray, List.set_cons_zero, List.set_cons_succ]) (hCont (v261, v271, gb273) _ ⟨hHeld, (by (with_reducible repeat (first | apply Kd.S_alloc | apply Kd.S_drewN | apply Kd.S_drew)); exact Kd.S_mono HO272.out (fun _ hk => ⟨hk.1.2.1, ⟨hk.1.1, ⟨hk.1.2.2.1, ⟨hk.2, ⟨hk.1.2.2.2.1, hk.1.2.2.2.2⟩⟩⟩⟩⟩)), (by (with_reducible repeat (first | apply Kd.R_alloc | apply Kd.R_drewN | apply Kd.R_drew)); exact Kd.R_mono HO_258000.out (fun _ hk => ⟨hk.1.1.1, ⟨hk.1.2, ⟨hk.1.1.2, hk.2⟩⟩⟩)), (by (with_reducible repeat (first | apply Kd.S_alloc | apply Kd.S_drewN | apply Kd.S_drew)); exact Kd.S_mono HO_3.out (fun _ hk => ⟨hk.1.2, ⟨hk.1.1.1, ⟨hk.1.1.2.1, ⟨hk.2, ⟨hk.1.1.2.2.2.2, ⟨hk.1.1.2.2.2.1, hk.1.1.2.2.1⟩⟩⟩⟩⟩⟩)), (by (with_reducible repeat (first | refine blk_drewN ?_ _ | refine blk_drew ?_ | refine blk_alloc ?_ _)); exact BK257.out), (by (with_reducible repeat (first | refine blk_drewN ?_ _ | refine blk_drew ?_ | refine blk_alloc ?_ _)); exact BK273.out), GW273.out, GE273.out, NB257_273.out, NB273_257.out, (by repeat (first | (with_reducible first | exact HB.out | apply below_alloc | apply pw_below_drewN | apply below_drew1 | refine below_set ?_ GE257.out | refine below_set ?_ GE273.out) | exact HB.out))⟩)
                 ·
                  skip
                  refine box_stepL ?hg (N := 42) ?hd (cs := #[.slice Ao9 t251.length co9, .int .i64 t254, .int .i64 t255, .string t256]) (t := 43) ?hr ?_; (case hd => rfl); (case hg => rfl); (case hr => first | (go_simp; done) | (go_simp; rfl))
                  intro gb273 hg w30 hbox hb
                  have n0_ := Aside0.mk (Kd.S_below (Kd.S_elderB (by (with_reducible repeat (first | apply Kd.S_alloc | apply Kd.S_drewN | apply Kd.S_drew)); exact HO_3.out) gb273 (Nat.le_of_eq hg.symm)) hb)
                  have n1_ := Aside0.mk (Kd.R_below (by (with_reducible repeat (first | apply Kd.R_alloc | apply Kd.R_drewN | apply Kd.R_drew)); exact HO_258000.out) hb)
                  have n2_ := Aside0.mk (Kd.S_below (Kd.S_elderB (by (with_reducible repeat (first | apply Kd.S_alloc | apply Kd.S_drewN | apply Kd.S_drew)); exact HO265.out) gb273 (Nat.le_of_eq hg.symm)) hb)
                  have n3_ := Aside0.mk (Kd.S_below (Kd.S_elderB (by (with_reducible repeat (first | apply Kd.S_alloc | apply Kd.S_drewN | apply Kd.S_drew)); exact HO262.out) gb273 (Nat.le_of_eq hg.symm)) hb)
                  have n4_ := Aside0.mk (blk_below (g := gb257) (o := .cells #[.slice Ao9 t251.length co9, .int .i64 t254, .int .i64 t255, .string t256] 43 (0, 0)) (by (with_reducible repeat (first | refine blk_drewN ?_ _ | refine blk_drew ?_ | refine blk_alloc ?_ _)); exact BK257.out) hb)
                  have n5_ := Aside0.mk (below_step (by repeat (first | (with_reducible first | exact HB.out | apply below_alloc | apply pw_below_drewN | apply below_drew1 | refine below_set ?_ GE257.out) | exact HB.out)) hb)
                  have n6_ := Aside0.mk (hbox)
                  have n7_ := Aside0.mk ((by rw [hg]; exact (below_size (by repeat (first | (with_reducible first | exact HB.out | apply below_alloc | apply pw_below_drewN | apply below_drew1 | refine below_set ?_ GE257.out) | exact HB.out))) : w.heap.size ≤ gb273))
                  have n8_ := Aside0.mk ((by rw [hg]; exact (below_size (by repeat (first | (with_reducible first | exact HB.out | apply below_alloc | apply pw_below_drewN | apply below_drew1 | refine below_set ?_ GE257.out) | exact HB.out))) : w.heap.size ≤ gb273))
                  have n9_ := Aside0.mk ((by rw [hg]; exact Nat.ne_of_lt (blk_lt (g := gb257) (o := .cells #[.slice Ao9 t251.length co9, .int .i64 t254, .int .i64 t255, .string t256] 43 (0, 0)) (by (with_reducible repeat (first | refine blk_drewN ?_ _ | refine blk_drew ?_ | refine blk_alloc ?_ _)); exact BK257.out)) : gb257 ≠ gb273))
                  have n10_ := Aside0.mk ((by rw [hg]; exact Nat.ne_of_gt (blk_lt (g := gb257) (o := .cells #[.slice Ao9 t251.length co9, .int .i64 t254, .int .i64 t255, .string t256] 43 (0, 0)) (by (with_reducible repeat (first | refine blk_drewN ?_ _ | refine blk_drew ?_ | refine blk_alloc ?_ _)); exact BK257.out)) : gb273 ≠ gb257))
                  clear HO_3
                  clear HO_258000
                  clear HO265
                  clear HO262
                  clear BK257
                  clear HB
                  have HO_3 := n0_
                  have HO_258000 := n1_
                  have HO265 := n2_
                  have HO262 := n3_
                  have BK257 := n4_
                  have HB := n5_
                  have BK273 := n6_
                  have GW273 := n7_
                  have GE273 := n8_
                  have NB257_273 := n9_
                  have NB273_257 := n10_
                  clear n0_ n1_ n2_ n3_ n4_ n5_ n6_ n7_ n8_ n9_ n10_
                  clear hb hbox hg
                  refine hK.out _ _ ⟨(blk_cell BK257.out 0).trans rfl, (blk_cell BK257.out 1).trans rfl, (blk_cell BK257.out 2).trans rfl, (blk_cell BK257.out 3).trans rfl⟩ (fun hHeld => ?_)
                  clear hK K
                  refine norm_ (a' := ?_) ?_ ?_
                  rotate_left
                  ·
                   show Act.put _ (some 42) _ = _
                   simp only [Act.put, List.setIfInBounds_toArray, List.set_cons_zero, List.set_cons_succ, i64_w, i32_w]
                   rfl
                  refine one_ (i := 4) (N := some 40) #[true, true, true, true, true, true, true, false, true, true, true, false, false] rfl rfl (one_of HT_.out (by kernel_rfl)) (by decide) (fun K hK => ?_)
                  refine Kd.S_append_part_step k43 (w0 := w) w.heap.size (by rfl) (.tmp 36) (.tmp 39) 44 43 (.agg #[(.slice none 0 0), (.int .i64 0), (.int .i64 0), (.string ⟨#[]⟩)]) 56 rfl Try.underlying44 info43 rfl (by decide) (by omega) v261 y260 y263 _ _ _ (fun k_ => some k_ ≠ (.slice Ao11 x3_1.length co11 : Value).ownBlock ∧ some k_ ≠ (.slice Ao9 t251.length co9 : Value).ownBlock ∧ k_ ≠ gb257 ∧ k_ ≠ gb273 ∧ ¬ GXp26 k_ ∧ ¬ GXp26u0 k_) (fun k_ => some k_ ≠ (.slice Ao9 t251.length co9 : Value).ownBlock ∧ some k_ ≠ (v261 : Value).ownBlock ∧ k_ ≠ gb257 ∧ k_ < gbz252 ∧ k_ < gb257 ∧ (¬ GXp26 k_ ∨ some k_ = (.slice Ao11 y263.length co11 : Value).ownBlock) ∧ GXp26P k_ ∧ ¬ GXp26u0 k_ ∧ k_ ≠ gb273) rfl rfl ?aR (fun k_ hx_ ho_ => by have hz_ : ((((fun k_ => some k_ ≠ (.slice Ao9 t251.length co9 : Value).ownBlock ∧ some k_ ≠ (v261 : Value).ownBlock ∧ k_ ≠ gb257 ∧ k_ < gbz252 ∧ k_ < gb257 ∧ (¬ GXp26 k_ ∨ some k_ = (.slice Ao11 y263.length co11 : Value).ownBlock) ∧ GXp26P k_ ∧ ¬ GXp26u0 k_ ∧ k_ ≠ gb273)) k_ ∧ ¬ GXp26 k_) ∧ some k_ ≠ (.slice Ao11 x3_1.length co11 : Value).ownBlock) := ⟨⟨hx_, fun g_ => (hx_.2.2.2.2.2.1).elim (fun h_ => h_ g_) (fun h_ => ho_ h_)⟩, fun e_ => ho_ (e_.trans Kd.own_len)⟩; exact ⟨⟨hz_.2, ⟨hz_.1.1.1, ⟨hz_.1.1.2.2.1, ⟨hz_.1.1.2.2.2.2.2.2.2.2, ⟨hz_.1.2, hz_.1.1.2.2.2.2.2.2.2.1⟩⟩⟩⟩⟩, hz_.1.1.2.1⟩) ?aF ?aO ?aB ?aS ?aL ?_
                  (case aR => exact (Kd.S_mono (HO265.out) (fun k_ hk => ⟨hk.1.1.1.1.1.1, ⟨hk.1.2, ⟨hk.1.1.1.1.1.2.1, ⟨hk.1.1.1.1.1.2.2.1, ⟨hk.1.1.1.1.1.2.2.2, ⟨hk.1.1.1.1.2, ⟨hk.1.1.1.2, ⟨hk.1.1.2, hk.2⟩⟩⟩⟩⟩⟩⟩⟩)))
                  (case aB => exact (by repeat (first | (with_reducible first | exact HB.out | apply below_alloc | apply pw_below_drewN | apply below_drew1 | refine below_set ?_ GE257.out | refine below_set ?_ GE273.out) | exact HB.out)))
                  (case aF => exact (fun k_ hk => ⟨Kd.fresh' (Kd.S_lt (by (with_reducible repeat (first | apply Kd.S_alloc | apply Kd.S_drewN | apply Kd.S_drew)); exact HO_3.out)) k_ hk, Kd.fresh' (Kd.R_lt (by (with_reducible repeat (first | apply Kd.R_alloc | apply Kd.R_drewN | apply Kd.R_drew)); exact HO_258000.out)) k_ hk, Kd.freshB (g := gb257) (o := .cells #[.slice Ao9 t251.length co9, .int .i64 t254, .int .i64 t255, .string t256] 43 (0, 0)) (by (with_reducible repeat (first | refine blk_drewN ?_ _ | refine blk_drew ?_ | refine blk_alloc ?_ _)); exact BK257.out) k_ hk, Kd.freshB (g := gb273) (o := .cells #[.slice Ao9 t251.length co9, .int .i64 t254, .int .i64 t255, .string t256] 43 (0, 0)) (by (with_reducible repeat (first | refine blk_drewN ?_ _ | refine blk_drew ?_ | refine blk_alloc ?_ _)); exact BK273.out) k_ hk, (fun g_ => Nat.lt_irrefl _ (Nat.lt_of_lt_of_le (Nat.lt_trans (HGp26.out k_ g_) (blk_lt (by (with_reducible repeat (first | refine blk_drewN ?_ _ | refine blk_drew ?_ | refine blk_alloc ?_ _)); exact BK257.out))) hk)), (fun g_ => Nat.lt_irrefl _ (Nat.lt_of_lt_of_le (Nat.lt_trans (HGp26u0.out k_ g_) (blk_lt (by (with_reducible repeat (first | refine blk_drewN ?_ _ | refine blk_drew ?_ | refine blk_alloc ?_ _)); exact BK257.out))) hk))⟩))
                  (case aO => exact (by (with_reducible repeat (first | apply Kd.S_alloc | apply Kd.S_drewN | apply Kd.S_drew)); exact Kd.S_mono HO262.out (fun k_ hk => ⟨⟨hk.1.1.1.1.2, ⟨hk.1.1.1.2, ⟨hk.1.2, ⟨hk.2, ⟨hk.1.1.1.1.1.1.1.2, hk.1.1.1.1.1.1.2⟩⟩⟩⟩⟩, fun e_ => (fun ez_ => hk.1.1.1.1.1.2 ((fun (k9_ : Nat) (h9_ : ((fun k_ => some k_ ≠ (.slice Ao9 t251.length co9 : Value).ownBlock ∧ some k_ ≠ (v261 : Value).ownBlock ∧ k_ ≠ gb257 ∧ k_ < gbz252 ∧ k_ < gb257 ∧ (¬ GXp26 k_ ∨ some k_ = (.slice Ao11 y263.length co11 : Value).ownBlock) ∧ GXp26P k_ ∧ ¬ GXp26u0 k_ ∧ k_ ≠ gb273)) k9_ ∧ some k9_ ≠ (.slice Ao11 y263.length co11 : Value).ownBlock) => (⟨h9_.1, trivial⟩ : _ ∧ True)) _ ez_).1.2.2.2.2.2.2.1) e_⟩)))
                  (case aS => exact (below_size (by repeat (first | (with_reducible first | exact HB.out | apply below_alloc | apply pw_below_drewN | apply below_drew1 | refine below_set ?_ GE257.out | refine below_set ?_ GE273.out) | exact HB.out))))
                  (case aL => have := LMc23.out; omega)
                  intro v271 w31 ho hb hg hat
                  rw [← Ny270.out] at ho
                  have n0_ := Aside0.mk (Kd.S_after (ok := (fun k_ => some k_ ≠ (.slice Ao9 t251.length co9 : Value).ownBlock ∧ k_ ≠ gb257 ∧ k_ < gbz252 ∧ k_ < gb257 ∧ GXp26 k_ ∧ k_ ≠ gb273)) (by (with_reducible repeat (first | apply Kd.S_alloc | apply Kd.S_drewN | apply Kd.S_drew)); exact Kd.S_mono HO_3.out (fun _ hk => ⟨⟨hk.1.1.1.1, ⟨hk.1.1.1.2.1, ⟨hk.1.1.1.2.2.1, ⟨hk.1.1.1.2.2.2, ⟨hk.1.1.2, hk.2⟩⟩⟩⟩⟩, hk.1.2⟩)) hg hat)
                  have n1_ := Aside0.mk (Kd.R_over' (by (with_reducible repeat (first | apply Kd.R_alloc | apply Kd.R_drewN | apply Kd.R_drew)); exact HO_258000.out) (Kd.S_typed (by (with_reducible repeat (first | apply Kd.S_alloc | apply Kd.S_drewN | apply Kd.S_drew)); exact HO262.out)) (by decide) hg)
                  have n2_ := Aside0.mk (blk_grown (g := gb257) (o := .cells #[.slice Ao9 t251.length co9, .int .i64 t254, .int .i64 t255, .string t256] 43 (0, 0)) (by (with_reducible repeat (first | refine blk_drewN ?_ _ | refine blk_drew ?_ | refine blk_alloc ?_ _)); exact BK257.out) hg (Kd.S_away HO262.out (fun _ hk => hk.1.2)))
                  have n3_ := Aside0.mk (blk_grown (g := gb273) (o := .cells #[.slice Ao9 t251.length co9, .int .i64 t254, .int .i64 t255, .string t256] 43 (0, 0)) (by (with_reducible repeat (first | refine blk_drewN ?_ _ | refine blk_drew ?_ | refine blk_alloc ?_ _)); exact BK273.out) hg (Kd.S_away HO262.out (fun _ hk => hk.2)))
                  have n4_ := Aside0.mk (hb)
                  have n5_ := Aside0.mk (ho)
                  clear HO_3
                  clear HO_258000
                  clear BK257
                  clear BK273
                  clear HB
                  clear HO262
                  clear HO265
                  have HO_3 := n0_
                  have HO_258000 := n1_
                  have BK257 := n2_
                  have BK273 := n3_
                  have HB := n4_
                  have HO272 := n5_
                  clear n0_ n1_ n2_ n3_ n4_ n5_
                  clear ho hb hg hat
                  refine hK.out _ _ ⟨(blk_cell BK257.out 0).trans rfl, (blk_cell BK257.out 1).trans rfl, (blk_cell BK257.out 2).trans rfl, (blk_cell BK257.out 3).trans rfl⟩ (fun hHeld => ?_)
                  clear hK K
                  refine norm_ (a' := ?_) ?_ ?_
                  rotate_left
                  ·
                   show Act.put _ (some 40) _ = _
                   simp only [Act.put, List.setIfInBounds_toArray, List.set_cons_zero, List.set_cons_succ, i64_w, i32_w]
                   rfl
                  exact norm_ (by simp only [putAll, Act.put, List.setIfInBounds_toArray, List.set_cons_zero, List.set_cons_succ]) (hCont (v261, v271, gb273) _ ⟨hHeld, (by (with_reducible repeat (first | apply Kd.S_alloc | apply Kd.S_drewN | apply Kd.S_drew)); exact Kd.S_mono HO272.out (fun _ hk => ⟨hk.2.1, ⟨hk.1, ⟨hk.2.2.1, ⟨hk.2.2.2.1, ⟨hk.2.2.2.2.1, hk.2.2.2.2.2⟩⟩⟩⟩⟩)), (by (with_reducible repeat (first | apply Kd.R_alloc | apply Kd.R_drewN | apply Kd.R_drew)); exact Kd.R_mono HO_258000.out (fun _ hk => ⟨hk.1.1.1, ⟨hk.1.2, ⟨hk.1.1.2, hk.2⟩⟩⟩)), (by (with_reducible repeat (first | apply Kd.S_alloc | apply Kd.S_drewN | apply Kd.S_drew)); exact Kd.S_mono HO_3.out (fun _ hk => ⟨hk.2, ⟨hk.1.1, ⟨hk.1.2.1, ⟨hk.1.2.2.2.2.2, ⟨hk.1.2.2.2.2.1, ⟨hk.1.2.2.2.1, hk.1.2.2.1⟩⟩⟩⟩⟩⟩)), (by (with_reducible repeat (first | refine blk_drewN ?_ _ | refine blk_drew ?_ | refine blk_alloc ?_ _)); exact BK257.out), (by (with_reducible repeat (first | refine blk_drewN ?_ _ | refine blk_drew ?_ | refine blk_alloc ?_ _)); exact BK273.out), GW273.out, GE273.out, NB257_273.out, NB273_257.out, (by repeat (first | (with_reducible first | exact HB.out | apply below_alloc | apply pw_below_drewN | apply below_drew1 | refine below_set ?_ GE257.out | refine below_set ?_ GE273.out) | exact HB.out))⟩)
                ·
                 skip
                 refine box_stepL ?hg (N := 42) ?hd (cs := #[.slice Ao9 t251.length co9, .int .i64 t254, .int .i64 t255, .string t256]) (t := 43) ?hr ?_; (case hd => rfl); (case hg => rfl); (case hr => first | (go_simp; done) | (go_simp; rfl))
                 intro gb273 hg w28 hbox hb
                 have n0_ := Aside0.mk (Kd.S_below (Kd.S_elderB (by (with_reducible repeat (first | apply Kd.S_alloc | apply Kd.S_drewN | apply Kd.S_drew)); exact HO_3.out) gb273 (Nat.le_of_eq hg.symm)) hb)
                 have n1_ := Aside0.mk (Kd.R_below (by (with_reducible repeat (first | apply Kd.R_alloc | apply Kd.R_drewN | apply Kd.R_drew)); exact HO_258000.out) hb)
                 have n2_ := Aside0.mk (Kd.S_below (Kd.S_elderB (by (with_reducible repeat (first | apply Kd.S_alloc | apply Kd.S_drewN | apply Kd.S_drew)); exact HO265.out) gb273 (Nat.le_of_eq hg.symm)) hb)
                 have n3_ := Aside0.mk (blk_below (g := gb257) (o := .cells #[.slice Ao9 t251.length co9, .int .i64 t254, .int .i64 t255, .string t256] 43 (0, 0)) (by (with_reducible repeat (first | refine blk_drewN ?_ _ | refine blk_drew ?_ | refine blk_alloc ?_ _)); exact BK257.out) hb)
                 have n4_ := Aside0.mk (below_step (by repeat (first | (with_reducible first | exact HB.out | apply below_alloc | apply pw_below_drewN | apply below_drew1 | refine below_set ?_ GE257.out) | exact HB.out)) hb)
                 have n5_ := Aside0.mk (hbox)
                 have n6_ := Aside0.mk ((by rw [hg]; exact (below_size (by repeat (first | (with_reducible first | exact HB.out | apply below_alloc | apply pw_below_drewN | apply below_drew1 | refine below_set ?_ GE257.out) | exact HB.out))) : w.heap.size ≤ gb273))
                 have n7_ := Aside0.mk ((by rw [hg]; exact (below_size (by repeat (first | (with_reducible first | exact HB.out | apply below_alloc | apply pw_below_drewN | apply below_drew1 | refine below_set ?_ GE257.out) | exact HB.out))) : w.heap.size ≤ gb273))
                 have n8_ := Aside0.mk ((by rw [hg]; exact Nat.ne_of_lt (blk_lt (g := gb257) (o := .cells #[.slice Ao9 t251.length co9, .int .i64 t254, .int .i64 t255, .string t256] 43 (0, 0)) (by (with_reducible repeat (first | refine blk_drewN ?_ _ | refine blk_drew ?_ | refine blk_alloc ?_ _)); exact BK257.out)) : gb257 ≠ gb273))
                 have n9_ := Aside0.mk ((by rw [hg]; exact Nat.ne_of_gt (blk_lt (g := gb257) (o := .cells #[.slice Ao9 t251.length co9, .int .i64 t254, .int .i64 t255, .string t256] 43 (0, 0)) (by (with_reducible repeat (first | refine blk_drewN ?_ _ | refine blk_drew ?_ | refine blk_alloc ?_ _)); exact BK257.out)) : gb273 ≠ gb257))
                 clear HO_3
                 clear HO_258000
                 clear HO265
                 clear BK257
                 clear HB
                 have HO_3 := n0_
                 have HO_258000 := n1_
                 have HO265 := n2_
                 have BK257 := n3_
                 have HB := n4_
                 have BK273 := n5_
                 have GW273 := n6_
                 have GE273 := n7_
                 have NB257_273 := n8_
                 have NB273_257 := n9_
                 clear n0_ n1_ n2_ n3_ n4_ n5_ n6_ n7_ n8_ n9_
                 clear hb hbox hg
                 refine hK.out _ _ ⟨(blk_cell BK257.out 0).trans rfl, (blk_cell BK257.out 1).trans rfl, (blk_cell BK257.out 2).trans rfl, (blk_cell BK257.out 3).trans rfl⟩ (fun hHeld => ?_)
                 clear hK K
                 refine norm_ (a' := ?_) ?_ ?_
                 rotate_left
                 ·
                  show Act.put _ (some 42) _ = _
                  simp only [Act.put, List.setIfInBounds_toArray, List.set_cons_zero, List.set_cons_succ, i64_w, i32_w]
                  rfl
                 refine one_ (i := 0) (N := some 36) #[true, true, true, true, false, true, true, false, true, true, true, false, false] rfl rfl (one_of HT_.out (by kernel_rfl)) (by decide) (fun K hK => ?_)
                 refine Kd.S_lit_step k43 _ 43 ?hg (N := 36) ?hd (xs := ([] : List (S43))) (inner := []) (ok := fun _ => True) (okp := fun _ => True) ?hr ?hp (fun _ hk => hk) trivial (Below.refl _ _) (Nat.le_refl _) (by simp) ?_; (case hd => rfl); (case hg => rfl); (case hr => first | (go_simp; done) | (go_simp; rfl)); (case hp => exact (Reps.none _ _))
                 intro v261 w29 ho30 hb hg_ hnew_
                 clear hg_ hnew_
                 (first | rw [← Ny260.out] at ho30 | (simp only [Int.reduceToNat] at ho30; rw [← Ny260.out] at ho30))
                 have n0_ := Aside0.mk (Kd.S_elder' (by (with_reducible repeat (first | apply Kd.S_alloc | apply Kd.S_drewN | apply Kd.S_drew)); exact HO_3.out) (Kd.S_base ho30) hb)
                 have n1_ := Aside0.mk (Kd.R_below (by (with_reducible repeat (first | apply Kd.R_alloc | apply Kd.R_drewN | apply Kd.R_drew)); exact HO_258000.out) hb)
                 have n2_ := Aside0.mk (Kd.S_elder' (by (with_reducible repeat (first | apply Kd.S_alloc | apply Kd.S_drewN | apply Kd.S_drew)); exact HO265.out) (Kd.S_base ho30) hb)
                 have n3_ := Aside0.mk (Kd.S_lower (Kd.S_newB (Kd.S_newB (Kd.S_new' (Kd.S_new' (Kd.S_new' (Kd.S_ngz HGp26P.out (blk_lt (by (with_reducible repeat (first | refine blk_drewN ?_ _ | refine blk_drew ?_ | refine blk_alloc ?_ _)); exact BK257.out)) (Kd.S_ngz HGp26u0.out (blk_lt (by (with_reducible repeat (first | refine blk_drewN ?_ _ | refine blk_drew ?_ | refine blk_alloc ?_ _)); exact BK257.out)) (Kd.S_ngz HGp26.out (blk_lt (by (with_reducible repeat (first | refine blk_drewN ?_ _ | refine blk_drew ?_ | refine blk_alloc ?_ _)); exact BK257.out)) ho30))) (Kd.S_lt (by (with_reducible repeat (first | apply Kd.S_alloc | apply Kd.S_drewN | apply Kd.S_drew)); exact HO_3.out))) (Kd.R_lt (by (with_reducible repeat (first | apply Kd.R_alloc | apply Kd.R_drewN | apply Kd.R_drew)); exact HO_258000.out))) (Kd.S_lt (by (with_reducible repeat (first | apply Kd.S_alloc | apply Kd.S_drewN | apply Kd.S_drew)); exact HO265.out))) (g := gb257) (o := .cells #[.slice Ao9 t251.length co9, .int .i64 t254, .int .i64 t255, .string t256] 43 (0, 0)) (by (with_reducible repeat (first | refine blk_drewN ?_ _ | refine blk_drew ?_ | refine blk_alloc ?_ _)); exact BK257.out)) (g := gb273) (o := .cells #[.slice Ao9 t251.length co9, .int .i64 t254, .int .i64 t255, .string t256] 43 (0, 0)) (by (with_reducible repeat (first | refine blk_drewN ?_ _ | refine blk_drew ?_ | refine blk_alloc ?_ _)); exact BK273.out)) (below_size (by repeat (first | (with_reducible first | exact HB.out | apply below_alloc | apply pw_below_drewN | apply below_drew1 | refine below_set ?_ GE257.out | refine below_set ?_ GE273.out) | exact HB.out))))
                 have n4_ := Aside0.mk (blk_below (g := gb257) (o := .cells #[.slice Ao9 t251.length co9, .int .i64 t254, .int .i64 t255, .string t256] 43 (0, 0)) (by (with_reducible repeat (first | refine blk_drewN ?_ _ | refine blk_drew ?_ | refine blk_alloc ?_ _)); exact BK257.out) hb)
                 have n5_ := Aside0.mk (blk_below (g := gb273) (o := .cells #[.slice Ao9 t251.length co9, .int .i64 t254, .int .i64 t255, .string t256] 43 (0, 0)) (by (with_reducible repeat (first | refine blk_drewN ?_ _ | refine blk_drew ?_ | refine blk_alloc ?_ _)); exact BK273.out) hb)
                 have n6_ := Aside0.mk (below_step (by repeat (first | (with_reducible first | exact HB.out | apply below_alloc | apply pw_below_drewN | apply below_drew1 | refine below_set ?_ GE257.out | refine below_set ?_ GE273.out) | exact HB.out)) hb)
                 clear HO_3
                 clear HO_258000
                 clear HO265
                 clear BK257
                 clear BK273
                 clear HB
                 have HO_3 := n0_
                 have HO_258000 := n1_
                 have HO265 := n2_
                 have HO262 := n3_
                 have BK257 := n4_
                 have BK273 := n5_
                 have HB := n6_
                 clear n0_ n1_ n2_ n3_ n4_ n5_ n6_
                 clear hb ho30
                 refine hK.out _ _ ⟨(blk_cell BK257.out 0).trans rfl, (blk_cell BK257.out 1).trans rfl, (blk_cell BK257.out 2).trans rfl, (blk_cell BK257.out 3).trans rfl⟩ (fun hHeld => ?_)
                 clear hK K
                 refine norm_ (a' := ?_) ?_ ?_
                 rotate_left
                 ·
                  show Act.put _ (some 36) _ = _
                  simp only [Act.put, List.setIfInBounds_toArray, List.set_cons_zero, List.set_cons_succ, i64_w, i32_w]
                  rfl
                 refine one_ (i := 4) (N := some 40) #[true, true, true, true, true, true, true, false, true, true, true, false, false] rfl rfl (one_of HT_.out (by kernel_rfl)) (by decide) (fun K hK => ?_)
                 refine Kd.S_append_part_step k43 (w0 := w) w.heap.size (by rfl) (.tmp 36) (.tmp 39) 44 43 (.agg #[(.slice none 0 0), (.int .i64 0), (.int .i64 0), (.string ⟨#[]⟩)]) 56 rfl Try.underlying44 info43 rfl (by decide) (by omega) v261 y260 y263 _ _ _ (fun k_ => some k_ ≠ (.slice Ao11 x3_1.length co11 : Value).ownBlock ∧ some k_ ≠ (.slice Ao9 t251.length co9 : Value).ownBlock ∧ k_ ≠ gb257 ∧ k_ ≠ gb273 ∧ ¬ GXp26 k_ ∧ ¬ GXp26u0 k_) (fun k_ => some k_ ≠ (.slice Ao9 t251.length co9 : Value).ownBlock ∧ some k_ ≠ (v261 : Value).ownBlock ∧ k_ ≠ gb257 ∧ k_ < gbz252 ∧ k_ < gb257 ∧ (¬ GXp26 k_ ∨ some k_ = (.slice Ao11 y263.length co11 : Value).ownBlock) ∧ GXp26P k_ ∧ ¬ GXp26u0 k_ ∧ k_ ≠ gb273) rfl rfl ?aR (fun k_ hx_ ho_ => by have hz_ : ((((fun k_ => some k_ ≠ (.slice Ao9 t251.length co9 : Value).ownBlock ∧ some k_ ≠ (v261 : Value).ownBlock ∧ k_ ≠ gb257 ∧ k_ < gbz252 ∧ k_ < gb257 ∧ (¬ GXp26 k_ ∨ some k_ = (.slice Ao11 y263.length co11 : Value).ownBlock) ∧ GXp26P k_ ∧ ¬ GXp26u0 k_ ∧ k_ ≠ gb273)) k_ ∧ ¬ GXp26 k_) ∧ some k_ ≠ (.slice Ao11 x3_1.length co11 : Value).ownBlock) := ⟨⟨hx_, fun g_ => (hx_.2.2.2.2.2.1).elim (fun h_ => h_ g_) (fun h_ => ho_ h_)⟩, fun e_ => ho_ (e_.trans Kd.own_len)⟩; exact ⟨⟨hz_.2, ⟨hz_.1.1.1, ⟨hz_.1.1.2.2.1, ⟨hz_.1.1.2.2.2.2.2.2.2.2, ⟨hz_.1.2, hz_.1.1.2.2.2.2.2.2.2.1⟩⟩⟩⟩⟩, hz_.1.1.2.1⟩) ?aF ?aO ?aB ?aS ?aL ?_
                 (case aR => exact (Kd.S_mono (HO265.out) (fun k_ hk => ⟨hk.1.1.1.1.1.1, ⟨hk.2, ⟨hk.1.1.1.1.1.2.1, ⟨hk.1.1.1.1.1.2.2.1, ⟨hk.1.1.1.1.1.2.2.2, ⟨hk.1.1.1.1.2, ⟨hk.1.1.1.2, ⟨hk.1.1.2, hk.1.2⟩⟩⟩⟩⟩⟩⟩⟩)))
                 (case aB => exact (by repeat (first | (with_reducible first | exact HB.out | apply below_alloc | apply pw_below_drewN | apply below_drew1 | refine below_set ?_ GE257.out | refine below_set ?_ GE273.out) | exact HB.out)))
                 (case aF => exact (fun k_ hk => ⟨Kd.fresh' (Kd.S_lt (by (with_reducible repeat (first | apply Kd.S_alloc | apply Kd.S_drewN | apply Kd.S_drew)); exact HO_3.out)) k_ hk, Kd.fresh' (Kd.R_lt (by (with_reducible repeat (first | apply Kd.R_alloc | apply Kd.R_drewN | apply Kd.R_drew)); exact HO_258000.out)) k_ hk, Kd.freshB (g := gb257) (o := .cells #[.slice Ao9 t251.length co9, .int .i64 t254, .int .i64 t255, .string t256] 43 (0, 0)) (by (with_reducible repeat (first | refine blk_drewN ?_ _ | refine blk_drew ?_ | refine blk_alloc ?_ _)); exact BK257.out) k_ hk, Kd.freshB (g := gb273) (o := .cells #[.slice Ao9 t251.length co9, .int .i64 t254, .int .i64 t255, .string t256] 43 (0, 0)) (by (with_reducible repeat (first | refine blk_drewN ?_ _ | refine blk_drew ?_ | refine blk_alloc ?_ _)); exact BK273.out) k_ hk, (fun g_ => Nat.lt_irrefl _ (Nat.lt_of_lt_of_le (Nat.lt_trans (HGp26.out k_ g_) (blk_lt (by (with_reducible repeat (first | refine blk_drewN ?_ _ | refine blk_drew ?_ | refine blk_alloc ?_ _)); exact BK257.out))) hk)), (fun g_ => Nat.lt_irrefl _ (Nat.lt_of_lt_of_le (Nat.lt_trans (HGp26u0.out k_ g_) (blk_lt (by (with_reducible repeat (first | refine blk_drewN ?_ _ | refine blk_drew ?_ | refine blk_alloc ?_ _)); exact BK257.out))) hk))⟩))
                 (case aO => exact (by (with_reducible repeat (first | apply Kd.S_alloc | apply Kd.S_drewN | apply Kd.S_drew)); exact Kd.S_mono HO262.out (fun k_ hk => ⟨⟨hk.1.1.1.1.2, ⟨hk.1.1.1.2, ⟨hk.1.2, ⟨hk.2, ⟨hk.1.1.1.1.1.1.1.2, hk.1.1.1.1.1.1.2⟩⟩⟩⟩⟩, fun e_ => (fun ez_ => hk.1.1.1.1.1.2 ((fun (k9_ : Nat) (h9_ : ((fun k_ => some k_ ≠ (.slice Ao9 t251.length co9 : Value).ownBlock ∧ some k_ ≠ (v261 : Value).ownBlock ∧ k_ ≠ gb257 ∧ k_ < gbz252 ∧ k_ < gb257 ∧ (¬ GXp26 k_ ∨ some k_ = (.slice Ao11 y263.length co11 : Value).ownBlock) ∧ GXp26P k_ ∧ ¬ GXp26u0 k_ ∧ k_ ≠ gb273)) k9_ ∧ some k9_ ≠ (.slice Ao11 y263.length co11 : Value).ownBlock) => (⟨h9_.1, trivial⟩ : _ ∧ True)) _ ez_).1.2.2.2.2.2.2.1) e_⟩)))
                 (case aS => exact (below_size (by repeat (first | (with_reducible first | exact HB.out | apply below_alloc | apply pw_below_drewN | apply below_drew1 | refine below_set ?_ GE257.out | refine below_set ?_ GE273.out) | exact HB.out))))
                 (case aL => have := LMc23.out; omega)
                 intro v271 w31 ho hb hg hat
                 rw [← Ny270.out] at ho
                 have n0_ := Aside0.mk (Kd.S_after (ok := (fun k_ => some k_ ≠ (.slice Ao9 t251.length co9 : Value).ownBlock ∧ k_ ≠ gb257 ∧ k_ < gbz252 ∧ k_ < gb257 ∧ GXp26 k_ ∧ k_ ≠ gb273)) (by (with_reducible repeat (first | apply Kd.S_alloc | apply Kd.S_drewN | apply Kd.S_drew)); exact Kd.S_mono HO_3.out (fun _ hk => ⟨⟨hk.1.1.1.1, ⟨hk.1.1.1.2.1, ⟨hk.1.1.1.2.2.1, ⟨hk.1.1.1.2.2.2, ⟨hk.1.1.2, hk.1.2⟩⟩⟩⟩⟩, hk.2⟩)) hg hat)
                 have n1_ := Aside0.mk (Kd.R_over' (by (with_reducible repeat (first | apply Kd.R_alloc | apply Kd.R_drewN | apply Kd.R_drew)); exact HO_258000.out) (Kd.S_typed (by (with_reducible repeat (first | apply Kd.S_alloc | apply Kd.S_drewN | apply Kd.S_drew)); exact HO262.out)) (by decide) hg)
                 have n2_ := Aside0.mk (blk_grown (g := gb257) (o := .cells #[.slice Ao9 t251.length co9, .int .i64 t254, .int .i64 t255, .string t256] 43 (0, 0)) (by (with_reducible repeat (first | refine blk_drewN ?_ _ | refine blk_drew ?_ | refine blk_alloc ?_ _)); exact BK257.out) hg (Kd.S_away HO262.out (fun _ hk => hk.1.2)))
                 have n3_ := Aside0.mk (blk_grown (g := gb273) (o := .cells #[.slice Ao9 t251.length co9, .int .i64 t254, .int .i64 t255, .string t256] 43 (0, 0)) (by (with_reducible repeat (first | refine blk_drewN ?_ _ | refine blk_drew ?_ | refine blk_alloc ?_ _)); exact BK273.out) hg (Kd.S_away HO262.out (fun _ hk => hk.2)))
                 have n4_ := Aside0.mk (hb)
                 have n5_ := Aside0.mk (ho)
                 clear HO_3
                 clear HO_258000
                 clear BK257
                 clear BK273
                 clear HB
                 clear HO262
                 clear HO265
                 have HO_3 := n0_
                 have HO_258000 := n1_
                 have BK257 := n2_
                 have BK273 := n3_
                 have HB := n4_
                 have HO272 := n5_
                 clear n0_ n1_ n2_ n3_ n4_ n5_
                 clear ho hb hg hat
                 refine hK.out _ _ ⟨(blk_cell BK257.out 0).trans rfl, (blk_cell BK257.out 1).trans rfl, (blk_cell BK257.out 2).trans rfl, (blk_cell BK257.out 3).trans rfl⟩ (fun hHeld => ?_)
                 clear hK K
                 refine norm_ (a' := ?_) ?_ ?_
                 rotate_left
                 ·
                  show Act.put _ (some 40) _ = _
                  simp only [Act.put, List.setIfInBounds_toArray, List.set_cons_zero, List.set_cons_succ, i64_w, i32_w]
                  rfl
                 exact norm_ (by simp only [putAll, Act.put, List.setIfInBounds_toArray, List.set_cons_zero, List.set_cons_succ]) (hCont (v261, v271, gb273) _ ⟨hHeld, (by (with_reducible repeat (first | apply Kd.S_alloc | apply Kd.S_drewN | apply Kd.S_drew)); exact Kd.S_mono HO272.out (fun _ hk => ⟨hk.2.1, ⟨hk.1, ⟨hk.2.2.1, ⟨hk.2.2.2.1, ⟨hk.2.2.2.2.1, hk.2.2.2.2.2⟩⟩⟩⟩⟩)), (by (with_reducible repeat (first | apply Kd.R_alloc | apply Kd.R_drewN | apply Kd.R_drew)); exact Kd.R_mono HO_258000.out (fun _ hk => ⟨hk.1.1.1, ⟨hk.1.2, ⟨hk.1.1.2, hk.2⟩⟩⟩)), (by (with_reducible repeat (first | apply Kd.S_alloc | apply Kd.S_drewN | apply Kd.S_drew)); exact Kd.S_mono HO_3.out (fun _ hk => ⟨hk.2, ⟨hk.1.1, ⟨hk.1.2.1, ⟨hk.1.2.2.2.2.2, ⟨hk.1.2.2.2.2.1, ⟨hk.1.2.2.2.1, hk.1.2.2.1⟩⟩⟩⟩⟩⟩)), (by (with_reducible repeat (first | refine blk_drewN ?_ _ | refine blk_drew ?_ | refine blk_alloc ?_ _)); exact BK257.out), (by (with_reducible repeat (first | refine blk_drewN ?_ _ | refine blk_drew ?_ | refine blk_alloc ?_ _)); exact BK273.out), GW273.out, GE273.out, NB257_273.out, NB273_257.out, (by repeat (first | (with_reducible first | exact HB.out | apply below_alloc | apply pw_below_drewN | apply below_drew1 | refine below_set ?_ GE257.out | refine below_set ?_ GE273.out) | exact HB.out))⟩)
               rintro ⟨v261, v271, gb273⟩ w32 ⟨hS_, h0_, h1_, h2_, h3_, h4_, h5_, h6_, h7_, h8_, h9_⟩
               have n0_ : Aside0 (Kd.S k43 43 w32 w.heap.size (fun k_ => some k_ ≠ (.slice Ao9 t251.length co9 : Value).ownBlock ∧ some k_ ≠ (.slice Ao11 x3_1.length co11 : Value).ownBlock ∧ k_ ≠ gb257 ∧ k_ ≠ gb273 ∧ ¬ GXp26 k_ ∧ ¬ GXp26u0 k_) v271 y270) := ⟨h0_⟩
               have n1_ : Aside0 (Kd.R k88 88 w32 w.heap.size (fun k_ => gbz252 ≤ k_ ∧ GXp26u0 k_ ∧ k_ < gb257 ∧ ¬ GXp26 k_) (.slice Ao9 t251.length co9) t251) := ⟨h1_⟩
               have n2_ : Aside0 (Kd.S (Kd.opt k43) 43 w32 w.heap.size (fun k_ => some k_ ≠ (v271 : Value).ownBlock ∧ some k_ ≠ (.slice Ao9 t251.length co9 : Value).ownBlock ∧ k_ ≠ gb257 ∧ k_ ≠ gb273 ∧ GXp26 k_ ∧ k_ < gb257 ∧ k_ < gbz252) (.slice Ao11 x3_1.length co11) (Kd.gap ((x6_2 : Int).toNat) x3_1)) := ⟨h2_⟩
               have n3_ : Aside0 (w32.heap[gb257]? = some (.cells #[.slice Ao9 t251.length co9, .int .i64 t254, .int .i64 t255, .string t256] 43 (0, 0))) := ⟨h3_⟩
               have n4_ : Aside0 (w32.heap[gb273]? = some (.cells #[.slice Ao9 t251.length co9, .int .i64 t254, .int .i64 t255, .string t256] 43 (0, 0))) := ⟨h4_⟩
               have n5_ : Aside0 (w.heap.size ≤ gb273) := ⟨h5_⟩
               have n6_ : Aside0 (w.heap.size ≤ gb273) := ⟨h6_⟩
               have n7_ : Aside0 (gb257 ≠ gb273) := ⟨h7_⟩
               have n8_ : Aside0 (gb273 ≠ gb257) := ⟨h8_⟩
               have n9_ : Aside0 (Below w.heap.size w w32) := ⟨h9_⟩
               clear HO_3
               clear HO_258000
               clear HO265
               clear BK257
               clear HB
               clear h0_ h1_ h2_ h3_ h4_ h5_ h6_ h7_ h8_ h9_
               have HO272 := n0_
               have HO_258000 := n1_
               have HO_3 := n2_
               have BK257 := n3_
               have BK273 := n4_
               have GW273 := n5_
               have GE273 := n6_
               have NB257_273 := n7_
               have NB273_257 := n8_
               have HB := n9_
               clear n0_ n1_ n2_ n3_ n4_ n5_ n6_ n7_ n8_ n9_
               have hHeld : w32.cell? ⟨gb257, 0, none⟩ = some (.slice Ao9 t251.length co9) ∧ w32.cell? ⟨gb257, 1, none⟩ = some (.int .i64 t254) ∧ w32.cell? ⟨gb257, 2, none⟩ = some (.int .i64 t255) ∧ w32.cell? ⟨gb257, 3, none⟩ = some (.string t256) := hS_
               refine norm_ (a' := ?_) ?_ ?_
               rotate_left
               ·
                simp only [putAll, Act.put, List.setIfInBounds_toArray, List.set_cons_zero, List.set_cons_succ]
                rfl
               refine one_ (i := 7) (N := some 43) #[true, true, true, true, true, true, true, true, true, true, true, false, false] rfl rfl (one_of HT_.out (by kernel_rfl)) (by decide) (fun K hK => ?_)
               refine Kd.S_append_box_step k43 (w0 := w) w.heap.size (by rfl) (.tmp 40) (.tmp 42) 44 43 (.agg #[(.slice none 0 0), (.int .i64 0), (.int .i64 0), (.string ⟨#[]⟩)]) 56 rfl Try.underlying44 info43 rfl (by decide) (by omega) v271 y270 (⟨t251, t254, t255, t256⟩ : S43) [.slice Ao9 t251.length co9, .int .i64 t254, .int .i64 t255, .string t256] (fun k_ => some k_ ≠ (.slice Ao11 x3_1.length co11 : Value).ownBlock ∧ k_ ≠ gb257 ∧ k_ ≠ gb273 ∧ ¬ GXp26 k_) (fun k_ => some k_ = (.slice Ao9 t251.length co9 : Value).ownBlock) gb273 (by (with_reducible repeat (first | refine blk_drewN ?_ _ | refine blk_drew ?_ | refine blk_alloc ?_ _)); exact BK273.out) rfl rfl ?aP (fun k_ hk_ => ((Kd.R_mono (ok' := fun k_ => ((fun k_ => some k_ ≠ (.slice Ao11 x3_1.length co11 : Value).ownBlock ∧ k_ ≠ gb257 ∧ k_ ≠ gb273 ∧ ¬ GXp26 k_)) k_ ∧ some k_ ≠ (v271 : Value).ownBlock) (Kd.R_types (Kd.R_types (Kd.R_apart' (Kd.R_apart' (HO_258000.out) (Kd.S_typed HO_3.out) (by decide)) (Kd.S_typed HO272.out) (by decide)) BK257.out (by decide)) BK273.out (by decide)) (fun k_ hk => ⟨⟨hk.1.1.1.2, ⟨hk.1.2, ⟨hk.2, hk.1.1.1.1.2.2.2⟩⟩⟩, hk.1.1.2⟩))).1 k_ hk_.symm) ?aF ?aO ?aB ?aS ?aL ?_
               (case aP => exact k43_mkM _ _ _ (⟨t251, t254, t255, t256⟩ : S43) (Kd.R_mono (Kd.R_tight rfl (Kd.R_mono (ok' := fun k_ => ((fun k_ => some k_ ≠ (.slice Ao11 x3_1.length co11 : Value).ownBlock ∧ k_ ≠ gb257 ∧ k_ ≠ gb273 ∧ ¬ GXp26 k_)) k_ ∧ some k_ ≠ (v271 : Value).ownBlock) (Kd.R_types (Kd.R_types (Kd.R_apart' (Kd.R_apart' (HO_258000.out) (Kd.S_typed HO_3.out) (by decide)) (Kd.S_typed HO272.out) (by decide)) BK257.out (by decide)) BK273.out (by decide)) (fun k_ hk => ⟨⟨hk.1.1.1.2, ⟨hk.1.2, ⟨hk.2, hk.1.1.1.1.2.2.2⟩⟩⟩, hk.1.1.2⟩))) (fun _ h_ => h_)))
               (case aB => exact (by repeat (first | (with_reducible first | exact HB.out | apply below_alloc | apply pw_below_drewN | apply below_drew1 | refine below_set ?_ GE257.out | refine below_set ?_ GE273.out) | exact HB.out)))
               (case aF => exact (fun k_ hk => ⟨Kd.fresh' (Kd.S_lt (by (with_reducible repeat (first | apply Kd.S_alloc | apply Kd.S_drewN | apply Kd.S_drew)); exact HO_3.out)) k_ hk, Kd.freshB (g := gb257) (o := .cells #[.slice Ao9 t251.length co9, .int .i64 t254, .int .i64 t255, .string t256] 43 (0, 0)) (by (with_reducible repeat (first | refine blk_drewN ?_ _ | refine blk_drew ?_ | refine blk_alloc ?_ _)); exact BK257.out) k_ hk, Kd.freshB (g := gb273) (o := .cells #[.slice Ao9 t251.length co9, .int .i64 t254, .int .i64 t255, .string t256] 43 (0, 0)) (by (with_reducible repeat (first | refine blk_drewN ?_ _ | refine blk_drew ?_ | refine blk_alloc ?_ _)); exact BK273.out) k_ hk, (fun g_ => Nat.lt_irrefl _ (Nat.lt_of_lt_of_le (Nat.lt_trans (HGp26.out k_ g_) (blk_lt (by (with_reducible repeat (first | refine blk_drewN ?_ _ | refine blk_drew ?_ | refine blk_alloc ?_ _)); exact BK257.out))) hk))⟩))
               (case aO => exact (by (with_reducible repeat (first | apply Kd.S_alloc | apply Kd.S_drewN | apply Kd.S_drew)); exact Kd.S_mono HO272.out (fun k_ hk => ⟨⟨hk.2.1, ⟨hk.2.2.1, ⟨hk.2.2.2.1, hk.2.2.2.2.1⟩⟩⟩, fun e_ => (fun ez_ => hk.2.2.2.2.2 (HO_258000.out.1 _ ez_.symm).2.1) e_⟩)))
               (case aS => exact (below_size (by repeat (first | (with_reducible first | exact HB.out | apply below_alloc | apply pw_below_drewN | apply below_drew1 | refine below_set ?_ GE257.out | refine below_set ?_ GE273.out) | exact HB.out))))
               (case aL => have := LMc24.out; omega)
               intro v275 w33 ho hb hg hat
               rw [← Ny274.out] at ho
               have n0_ := Aside0.mk (Kd.S_after (ok := (fun k_ => some k_ ≠ (.slice Ao9 t251.length co9 : Value).ownBlock ∧ k_ ≠ gb257 ∧ k_ ≠ gb273 ∧ GXp26 k_ ∧ k_ < gb257 ∧ k_ < gbz252)) (by (with_reducible repeat (first | apply Kd.S_alloc | apply Kd.S_drewN | apply Kd.S_drew)); exact Kd.S_mono HO_3.out (fun _ hk => ⟨⟨hk.2.1, ⟨hk.2.2.1, ⟨hk.2.2.2.1, ⟨hk.2.2.2.2.1, ⟨hk.2.2.2.2.2.1, hk.2.2.2.2.2.2⟩⟩⟩⟩⟩, hk.1⟩)) hg hat)
               have n1_ := Aside0.mk (blk_grown (g := gb257) (o := .cells #[.slice Ao9 t251.length co9, .int .i64 t254, .int .i64 t255, .string t256] 43 (0, 0)) (by (with_reducible repeat (first | refine blk_drewN ?_ _ | refine blk_drew ?_ | refine blk_alloc ?_ _)); exact BK257.out) hg (Kd.S_away HO272.out (fun _ hk => hk.2.2.1)))
               have n2_ := Aside0.mk (blk_grown (g := gb273) (o := .cells #[.slice Ao9 t251.length co9, .int .i64 t254, .int .i64 t255, .string t256] 43 (0, 0)) (by (with_reducible repeat (first | refine blk_drewN ?_ _ | refine blk_drew ?_ | refine blk_alloc ?_ _)); exact BK273.out) hg (Kd.S_away HO272.out (fun _ hk => hk.2.2.2.1)))
               have n3_ := Aside0.mk (hb)
               have n4_ := Aside0.mk (ho)
               clear HO_3
               clear BK257
               clear BK273
               clear HB
               clear HO272
               clear HO_258000
               have HO_3 := n0_
               have BK257 := n1_
               have BK273 := n2_
               have HB := n3_
               have HO276 := n4_
               clear n0_ n1_ n2_ n3_ n4_
               clear ho hb hg hat
               refine hK.out _ _ ⟨(blk_cell BK257.out 0).trans rfl, (blk_cell BK257.out 1).trans rfl, (blk_cell BK257.out 2).trans rfl, (blk_cell BK257.out 3).trans rfl⟩ (fun hHeld => ?_)
               clear hK K
               refine norm_ (a' := ?_) ?_ ?_
               rotate_left
               ·
                show Act.put _ (some 43) _ = _
                simp only [Act.put, List.setIfInBounds_toArray, List.set_cons_zero, List.set_cons_succ, i64_w, i32_w]
                rfl
               refine one_ (i := 11) (N := some 47) #[true, true, true, true, true, true, true, true, true, true, true, true, false] rfl rfl (one_of HT_.out (by kernel_rfl)) (by decide) (fun K hK => ?_)
               refine Kd.S_append_rest_step k43 (w0 := w) w.heap.size (by rfl) (.tmp 43) (.tmp 46) 44 43 (.agg #[(.slice none 0 0), (.int .i64 0), (.int .i64 0), (.string ⟨#[]⟩)]) 56 rfl Try.underlying44 info43 rfl (by decide) (by omega) v275 y274 x3_1 Ao11 x3_1.length co11 ((x6_2 : Int).toNat) cp26b (fun k_ => k_ ≠ gb257 ∧ k_ ≠ gb273) (fun k_ => some k_ ≠ (v275 : Value).ownBlock ∧ k_ ≠ gb257 ∧ k_ ≠ gb273 ∧ GXp26 k_ ∧ k_ < gb257 ∧ k_ < gbz252) rfl KLp26.out (by rw [show (if co11 = (x6_2 : Int).toNat then Ao11 else (Ao11 : Option Addr).map (·.add ((x6_2 : Int).toNat * (k43).sz))) = Ap26b from KAp26.out.symm, ← Ny266.out]; rfl) ?aR (fun k_ hk ho_ => ⟨⟨hk.2.1, hk.2.2.1⟩, hk.1⟩) ?aF ?aO ?aB ?aS ?aL ?_
               (case aR => exact (Kd.S_mono (HO_3.out) (fun k_ hk => ⟨hk.2, ⟨hk.1.2.1, ⟨hk.1.2.2.1, ⟨hk.1.2.2.2.1, ⟨hk.1.2.2.2.2.1, hk.1.2.2.2.2.2⟩⟩⟩⟩⟩)))
               (case aB => exact (by repeat (first | (with_reducible first | exact HB.out | apply below_alloc | apply pw_below_drewN | apply below_drew1 | refine below_set ?_ GE257.out | refine below_set ?_ GE273.out) | exact HB.out)))
               (case aF => exact (fun k_ hk => ⟨Kd.freshB (g := gb257) (o := .cells #[.slice Ao9 t251.length co9, .int .i64 t254, .int .i64 t255, .string t256] 43 (0, 0)) (by (with_reducible repeat (first | refine blk_drewN ?_ _ | refine blk_drew ?_ | refine blk_alloc ?_ _)); exact BK257.out) k_ hk, Kd.freshB (g := gb273) (o := .cells #[.slice Ao9 t251.length co9, .int .i64 t254, .int .i64 t255, .string t256] 43 (0, 0)) (by (with_reducible repeat (first | refine blk_drewN ?_ _ | refine blk_drew ?_ | refine blk_alloc ?_ _)); exact BK273.out) k_ hk⟩))
               (case aO => exact (by (with_reducible repeat (first | apply Kd.S_alloc | apply Kd.S_drewN | apply Kd.S_drew)); exact Kd.S_mono HO276.out (fun k_ hk => ⟨⟨hk.2.1, hk.2.2.1⟩, fun e_ => hk.2.2.2 e_.1.2.2.2.1⟩)))
               (case aS => exact (below_size (by repeat (first | (with_reducible first | exact HB.out | apply below_alloc | apply pw_below_drewN | apply below_drew1 | refine below_set ?_ GE257.out | refine below_set ?_ GE273.out) | exact HB.out))))
               (case aL => have := LMc25.out; rw [Ny266.out] at this; omega)
               intro v278 w34 ho hb hg hat
               rw [← Ny266.out] at ho
               rw [← Ny277.out] at ho
               have n0_ := Aside0.mk (blk_grown (g := gb257) (o := .cells #[.slice Ao9 t251.length co9, .int .i64 t254, .int .i64 t255, .string t256] 43 (0, 0)) (by (with_reducible repeat (first | refine blk_drewN ?_ _ | refine blk_drew ?_ | refine blk_alloc ?_ _)); exact BK257.out) hg (Kd.S_away HO276.out (fun _ hk => hk.2.1)))
               have n1_ := Aside0.mk (blk_grown (g := gb273) (o := .cells #[.slice Ao9 t251.length co9, .int .i64 t254, .int .i64 t255, .string t256] 43 (0, 0)) (by (with_reducible repeat (first | refine blk_drewN ?_ _ | refine blk_drew ?_ | refine blk_alloc ?_ _)); exact BK273.out) hg (Kd.S_away HO276.out (fun _ hk => hk.2.2.1)))
               have n2_ := Aside0.mk (hb)
               have n3_ := Aside0.mk (ho)
               clear BK257
               clear BK273
               clear HB
               clear HO276
               clear HO_3
               have BK257 := n0_
               have BK273 := n1_
               have HB := n2_
               have HO279 := n3_
               clear n0_ n1_ n2_ n3_
               clear ho hb hg hat
               refine hK.out _ _ ⟨(blk_cell BK257.out 0).trans rfl, (blk_cell BK257.out 1).trans rfl, (blk_cell BK257.out 2).trans rfl, (blk_cell BK257.out 3).trans rfl⟩ (fun hHeld => ?_)
               clear hK K
               refine norm_ (a' := ?_) ?_ ?_
               rotate_left
               ·
                show Act.put _ (some 47) _ = _
                simp only [Act.put, List.setIfInBounds_toArray, List.set_cons_zero, List.set_cons_succ, i64_w, i32_w]
                rfl
               refine pure_ (i := 12) (N := some 3) (v := ?_) (a' := ?_) #[true, true, true, true, true, true, true, true, true, true, true, true, true] rfl rfl (any_of HT_.out (by kernel_rfl)) (fun _ _ _ h => h) (Or.inl ⟨by rfl, ?_⟩) ?_ ?_
               rotate_left
               ·
                intro w'
                go_simp
                with_reducible rfl
               rotate_left
               ·
                simp only [Act.put, List.setIfInBounds_toArray, List.set_cons_zero, List.set_cons_succ, i64_w, i32_w]
                rfl
               refine done_ (done_of HT_.out (by kernel_rfl)) ?_
               try go_wp2
               go_roundg kj11
               case measure => have := HK1.out; have := HK2.out; have := HJ11.out; omega
               case rel => exact ⟨(y277), (wrap64 (x4_1 + 1)), (by first | rfl | (simp; done) | (simp [*]; done)), H', ⟨by have := HK1.out; have := HK2.out; have := HJ11.out; omega⟩, ⟨by (with_reducible repeat (first | apply Kd.S_alloc | apply Kd.S_drewN | apply Kd.S_drew)); exact Kd.S_mono HO279.out (fun _ hk => trivial)⟩, ⟨by repeat (first | (with_reducible first | exact HB.out | apply below_alloc | apply pw_below_drewN | apply below_drew1 | refine below_set ?_ GE257.out | refine below_set ?_ GE273.out) | exact HB.out)⟩⟩
              ·
               rw [if_neg c25] at H
               exact absurd H (by simp)
             ·
              rw [if_neg c24] at H
              exact absurd H (by simp)
            ·
             rw [if_neg c23] at H
             exact absurd H (by simp)
           ·
            rw [if_neg c22] at H
            exact absurd H (by simp)
          ·
           rw [if_neg c21] at H
           exact absurd H (by simp)
    ·
     rw [if_neg c5] at H
     exact absurd H (by simp)
   ·
    rw [if_neg c4] at H
    have c4b0 : decide (x4_1 < (l0.length : Int)) = false := decide_eq_false c4
    clear c4
    obtain rfl := Option.some.inj H
    go_wp2
    go_ret
    exact ⟨_, by first | rfl | (simp [errW_none, errW_some] <;> rfl) | (simp [*, errW_none, errW_some] <;> rfl), by (with_reducible repeat (first | apply Kd.S_alloc | apply Kd.S_drewN | apply Kd.S_drew)); exact HO_3.out, by repeat (first | (with_reducible first | exact HB.out | apply below_alloc | apply pw_below_drewN | apply below_drew1) | exact HB.out)⟩

end Go.Proofs.Yticgekgojgkbgaa.Print
end
section
namespace Go.Proofs.Yticgekgojgkbgaa.Print
open Go.RowKit Go.Proofs.YticgekgojgkbgaaV.PrintWords Go.Proofs.YticgekgojgkbgaaV.PrintLast Go.Proofs.YticgekgojgkbgaaV.PrintMore
attribute [local go_sem] max2_int min2_int max_two min_two max_three min_three max_four min_four   -- for this text's walks alone
set_option linter.unusedVariables false
set_option linter.unusedSimpArgs false

/-! ### spec_AllAlarms: function 50 -/
def spec_AllAlarms.l0 : Nat → List (S57) → List (S43) → Int → Option ((List (S43)))
 | 0, _, _, _ => none
 | k + 1, x0, x3, x4 => if x4 < (x0.length : Int) then (if 0 ≤ x4 then ((spec_AlarmsIn.f k ((rd_T57 x0 x4).f0) ((rd_T57 x0 x4).f1) ((rd_T57 x0 x4).f2)).bind fun t284 => (if x3.length + t284.length < 2513169434916 then (spec_AllAlarms.l0 k x0 (x3 ++ t284) (wrap64 (x4 + 1))) else (none))) else (none)) else ((spec_l8Sort.f k x3).bind fun t290 => (some t290))
def spec_AllAlarms.f (k : Nat) (l0 : List (S57)) : Option ((List (S43))) := spec_AllAlarms.l0 k l0 (([] : List (S43))) 0
theorem spec_AllAlarms.mono_l : ∀ k, (∀ y0 y1 y2, LeO (spec_AllAlarms.l0 k y0 y1 y2) (spec_AllAlarms.l0 (k + 1) y0 y1 y2))
 | 0 => fun _ _ _ r h => by simp [spec_AllAlarms.l0] at h
 | k + 1 => by
  have ih0 := spec_AllAlarms.mono_l k
  ·
   intro y0 y1 y2
   unfold spec_AllAlarms.l0
   repeat' first
   | (with_reducible exact ih0 _ _ _)
   | (with_reducible exact spec_AlarmsIn.mono _ _ _ _)
   | (with_reducible exact spec_l8Sort.mono _ _)
   | (with_reducible exact LeO.refl _)
   | (with_reducible exact LeO.none _)
   | (with_reducible refine LeO.ite ?_ ?_)
   | (with_reducible refine LeO.bind ?_ (fun _ => ?_))
   | exact ih0 _ _ _
   | exact spec_AlarmsIn.mono _ _ _ _
   | exact spec_l8Sort.mono _ _
   | exact LeO.none _
   | refine LeO.ite ?_ ?_
   | refine LeO.bind ?_ (fun _ => ?_)
theorem spec_AllAlarms.mono : ∀ a0 k, LeO (spec_AllAlarms.f k a0) (spec_AllAlarms.f (k + 1) a0) := by
 intro a0 k
 have ih0 := spec_AllAlarms.mono_l k
 unfold spec_AllAlarms.f
 repeat' first
   | (with_reducible exact ih0 _ _ _)
   | (with_reducible exact spec_AlarmsIn.mono _ _ _ _)
   | (with_reducible exact spec_l8Sort.mono _ _)
   | (with_reducible exact LeO.refl _)
   | (with_reducible exact LeO.none _)
   | (with_reducible refine LeO.ite ?_ ?_)
   | (with_reducible refine LeO.bind ?_ (fun _ => ?_))
   | exact ih0 _ _ _
   | exact spec_AlarmsIn.mono _ _ _ _
   | exact spec_l8Sort.mono _ _
   | exact LeO.none _
   | refine LeO.ite ?_ ?_
   | refine LeO.bind ?_ (fun _ => ?_)
set_option maxHeartbeats 8000000 in
set_option maxRecDepth 100000 in
theorem spec_AllAlarms.calls (k : Nat) (A0 : Option Addr) (c0 : Nat) (l0 : List (S57)) (r : List (S43)) (w : World) (hr0 : Kd.C k57 w A0 l0.length l0) (hc0 : l0.length ≤ c0) (h : spec_AllAlarms.f k l0 = some r) :
  Calls Try.prog 50 #[.slice A0 l0.length c0] w fun e w' => ∃ v0_ : Value, e = .returned (v0_) ∧ Kd.S k43 43 w' w.heap.size (fun _ => True) v0_ r ∧ Below w.heap.size w w' := by
 have hu57 := Try.underlying57
 have HR0 := Aside0.mk hr0
 have HC0 := Aside0.mk hc0
 clear hr0 hc0
 have HB := Aside0.mk (Below.refl w.heap.size w)
 have H : (spec_AllAlarms.l0 k l0 (([] : List (S43))) 0) = some r := h
 clear h
 obtain ⟨y280, hy280⟩ : ∃ y_ : List (S43), y_ = (([] : List (S43))) := ⟨_, rfl⟩
 replace H : (spec_AllAlarms.l0 k l0 y280 0) = some r := by first | (rw [hy280]; with_reducible exact H) | (have H2_ := (Option.bind_some _ _).symm.trans H; rw [hy280]; with_reducible exact H2_) | (have H2_ := (Option.bind_some _ _).symm.trans H; with_reducible exact H2_) | with_reducible exact H | (rw [hy280]; exact H) | exact H
 have Ny280 := Aside0.mk hy280
 clear hy280
 have H' := Aside0.mk H
 clear H
 go_enter Try.func50, Try.ntmps50
 go_wp2_with (first | ((with_reducible refine gate_dst (N := 5) rfl ?_); refine Kd.S_lit k43 _ 43 ?hg (N := 5) ?hd (xs := ([] : List (S43))) (inner := []) (ok := fun _ => True) (okp := fun _ => True) ?hr ?hp (fun _ hk => hk) trivial (Below.refl _ _) (Nat.le_refl _) (by simp) ?_; (case hd => rfl); (case hg => rfl); (case hr => first | (go_simp; done) | (go_simp; rfl)); (case hp => exact (Reps.none _ _)); intro v281 w2 ho3 hb hg_ hnew_; clear hg_ hnew_; (first | rw [← Ny280.out] at ho3 | (simp only [Int.reduceToNat] at ho3; rw [← Ny280.out] at ho3)); have n0_ := Aside0.mk (Kd.S_lower ho3 (below_size (by repeat (first | (with_reducible first | exact HB.out | apply below_alloc | apply pw_below_drewN | apply below_drew1) | exact HB.out)))); have n1_ := Aside0.mk (below_step (by repeat (first | (with_reducible first | exact HB.out | apply below_alloc | apply pw_below_drewN | apply below_drew1) | exact HB.out)) hb); clear HB; have HO282 := n0_; have HB := n1_; clear n0_ n1_; clear hb ho3))
 go_loopg [3, 4] k (fun kq v3 v4 w' => ∃ (x3_1 : List (S43)) (x4_1 : Int), v4 = .int .i64 x4_1 ∧ Aside0 (spec_AllAlarms.l0 kq l0 x3_1 x4_1 = some r) ∧ Aside0 (kq ≤ k) ∧ Aside0 (Kd.S k43 43 w' w.heap.size (fun _ => True) v3 x3_1) ∧ Aside0 (Below w.heap.size w w'))
 case atStart => exact ⟨(y280), (0), (by first | rfl | (simp; done) | (simp [*]; done)), H', ⟨Nat.le_refl _⟩, ⟨by (with_reducible repeat (first | apply Kd.S_alloc | apply Kd.S_drewN | apply Kd.S_drew)); exact HO282.out⟩, ⟨by repeat (first | (with_reducible first | exact HB.out | apply below_alloc | apply pw_below_drewN | apply below_drew1) | exact HB.out)⟩⟩
 case round =>
  clear H'
  try clear p2
  obtain ⟨x3_1, x4_1, rfl, HA, HK1, HO_3, HB⟩ := hrel
  cases gk with
  | zero => exact absurd HA.out (by simp [spec_AllAlarms.l0])
  | succ k1 =>
   have H := HA.out
   clear HA
   simp only [spec_AllAlarms.l0] at H
   by_cases c4 : x4_1 < (l0.length : Int)
   ·
    rw [if_pos c4] at H
    have c4b0 : decide (x4_1 < (l0.length : Int)) = true := decide_eq_true c4
    clear c4
    by_cases c5 : 0 ≤ x4_1
    ·
     rw [if_pos c5] at H
     have c5b0 : decide (0 ≤ x4_1) = true := decide_eq_true c5
     clear c5
     replace H := Option.bind_eq_some_iff.mp H
     obtain ⟨t284, A60, H⟩ := H
     replace H : (if x3_1.length + t284.length < 2513169434916 then (spec_AllAlarms.l0 k1 l0 (x3_1 ++ t284) (wrap64 (x4_1 + 1))) else (none)) = some r := H
     have A6 := Aside0.mk A60
     clear A60
     by_cases c7 : x3_1.length + t284.length < 2513169434916
     ·
      rw [if_pos c7] at H
      have LMc7 := Aside0.mk c7
      clear c7
      obtain ⟨y287, hy287⟩ : ∃ y_ : List (S43), y_ = (x3_1 ++ t284) := ⟨_, rfl⟩
      replace H : (spec_AllAlarms.l0 k1 l0 y287 (wrap64 (x4_1 + 1))) = some r := by first | (rw [hy287]; with_reducible exact H) | (have H2_ := (Option.bind_some _ _).symm.trans H; rw [hy287]; with_reducible exact H2_) | (have H2_ := (Option.bind_some _ _).symm.trans H; with_reducible exact H2_) | with_reducible exact H | (rw [hy287]; exact H) | exact H
      have Ny287 := Aside0.mk hy287
      clear hy287
      have H' := Aside0.mk H
      clear H
      have p283 : 0 ≤ (x4_1 : Int) := of_decide_eq_true (by first | (with_reducible assumption) | assumption)
      have q283 : x4_1 < (l0.length : Int) := of_decide_eq_true (by first | (with_reducible assumption) | assumption)
      obtain ⟨ad283, A283_2, c283_2, e283, hx283_0, hx283_1, hx283_2, hl283_2, hi283_2⟩ := at_T57 HR0.out x4_1 p283 q283
      cases e283
      replace hx283_0 := (HB.out.cell (World.block_lt_of_cell? w _ hx283_0)).trans hx283_0
      replace hx283_1 := (HB.out.cell (World.block_lt_of_cell? w _ hx283_1)).trans hx283_1
      replace hx283_2 := (HB.out.cell (World.block_lt_of_cell? w _ hx283_2)).trans hx283_2
      have HR283_2 := Aside0.mk hi283_2
      have HC283_2 := Aside0.mk hl283_2
      clear hi283_2 hl283_2
      replace p283 := eq_true p283
      replace q283 := eq_true q283
      go_wp2_with (first | ((with_reducible refine gate_callee (f := 91) rfl ?_); refine goesL_ (some 17) rfl rfl Try.func91 (by kernel_rfl) rfl #[.agg #[.int .i64 ((rd_T57 l0 x4_1).f0), .int .i64 ((rd_T57 l0 x4_1).f1), .slice A283_2 ((rd_T57 l0 x4_1).f2).length c283_2]] rfl (by (try simp only [List.map_toArray, List.map_cons, List.map_nil]); first | done | rfl | (simp only [List.length_drop, List.length_take]; rfl)) ?_; (with_reducible refine (spec_AlarmsIn.calls k1 ((rd_T57 l0 x4_1).f0) ((rd_T57 l0 x4_1).f1) _ _ ((rd_T57 l0 x4_1).f2) t284 _ ?side1 ?side2 A6.out).mono ?_); (case side1 => repeat (first | exact (Kd.C_below HR283_2.out HB.out) | (with_reducible refine Kd.C_alloc ?_ _) | (with_reducible refine Kd.C_drewN ?_ _) | (with_reducible refine Kd.C_drew ?_))); (case side2 => exact HC283_2.out); rintro e w8 ⟨v285, rfl, ho0, hb⟩; refine ⟨_, rfl, ?_⟩; obtain ⟨gbz285, hz285⟩ := Kd.S_name ho0; have n0_ := Aside0.mk (Kd.S_below (Kd.S_ltz hz285 (by (with_reducible repeat (first | apply Kd.S_alloc | apply Kd.S_drewN | apply Kd.S_drew)); exact HO_3.out)) hb); have n1_ := Aside0.mk (Kd.S_lower (Kd.S_gez hz285 ho0) (below_size (by repeat (first | (with_reducible first | exact HB.out | apply below_alloc | apply pw_below_drewN | apply below_drew1) | exact HB.out)))); have n2_ := Aside0.mk (below_step (by repeat (first | (with_reducible first | exact HB.out | apply below_alloc | apply pw_below_drewN | apply below_drew1) | exact HB.out)) hb); clear HO_3; clear HB; have HO_3 := n0_; have HO286 := n1_; have HB := n2_; clear n0_ n1_ n2_; (try clear hb); (try clear hb2); (try clear hk); (try clear hi); (try clear ho0); obtain ⟨Ao10, co10, eo10⟩ := Kd.S_slice HO286.out; subst eo10; obtain ⟨PXP11, hPXP11, hPlP11⟩ := Kd.S_fp ((Kd.S_mono HO286.out (fun k_ hk => (⟨hk, fun ez_ => Nat.lt_irrefl _ (Nat.lt_of_lt_of_le ((Kd.S_R HO_3.out).1 _ ez_.symm).2 hk.2)⟩ : _ ∧ some k_ ≠ (u3 : Value).ownBlock))))) | ((with_reducible refine gate_builtin (b := .append) (xs := #[.tmp 12, .tmp 17]) rfl ?_); at_builtin; refine Kd.S_append_rows k43 (w0 := w) w.heap.size rfl (.tmp 12) (.tmp 17) 44 43 (.agg #[(.slice none 0 0), (.int .i64 0), (.int .i64 0), (.string ⟨#[]⟩)]) 56 rfl Try.underlying44 info43 rfl (by decide) (by omega) u3 x3_1 t284 _ _ _ (fun _ => True) PXP11 rfl rfl ?aR (fun k_ hk_ => ⟨trivial, (hPlP11 k_ hk_).1.2⟩) ?aF ?aO ?aB ?aS ?aL ?_; (case aR => exact hPXP11); (case aB => exact (by repeat (first | (with_reducible first | exact HB.out | apply below_alloc | apply pw_below_drewN | apply below_drew1) | exact HB.out))); (case aF => exact (fun _ _ => trivial)); (case aO => exact (by (with_reducible repeat (first | apply Kd.S_alloc | apply Kd.S_drewN | apply Kd.S_drew)); exact Kd.S_mono HO_3.out (fun k_ hk => ⟨trivial, fun e_ => (fun ez_ => Nat.lt_irrefl _ (Nat.lt_of_lt_of_le hk.2 (hPlP11 _ ez_).1.1.2)) e_⟩))); (case aS => exact (below_size (by repeat (first | (with_reducible first | exact HB.out | apply below_alloc | apply pw_below_drewN | apply below_drew1) | exact HB.out)))); (case aL => have := LMc7.out; omega); intro v288 w9 ho hb hg hat; rw [← Ny287.out] at ho; have n0_ := Aside0.mk (hb); have n1_ := Aside0.mk (ho); clear HB; clear HO_3; clear HO286; have HB := n0_; have HO289 := n1_; clear n0_ n1_; clear ho hb hg hat))
      go_roundg k1
      case measure => have := HK1.out; omega
      case rel => exact ⟨(y287), (wrap64 (x4_1 + 1)), (by first | rfl | (simp; done) | (simp [*]; done)), H', ⟨by have := HK1.out; omega⟩, ⟨by (with_reducible repeat (first | apply Kd.S_alloc | apply Kd.S_drewN | apply Kd.S_drew)); exact HO289.out⟩, ⟨by repeat (first | (with_reducible first | exact HB.out | apply below_alloc | apply pw_below_drewN | apply below_drew1) | exact HB.out)⟩⟩
     ·
      rw [if_neg c7] at H
      exact absurd H (by simp)
    ·
     rw [if_neg c5] at H
     exact absurd H (by simp)
   ·
    rw [if_neg c4] at H
    have c4b0 : decide (x4_1 < (l0.length : Int)) = false := decide_eq_false c4
    clear c4
    replace H := Option.bind_eq_some_iff.mp H
    obtain ⟨t290, A120, H⟩ := H
    replace H : (some t290) = some r := H
    have A12 := Aside0.mk A120
    clear A120
    obtain rfl := Option.some.inj H
    obtain ⟨Ao13, co13, eo13⟩ := Kd.S_slice HO_3.out
    subst eo13
    go_wp2_with (first | ((with_reducible refine gate_callee (f := 92) rfl ?_); refine goesL_ (some 20) rfl rfl Try.func92 (by kernel_rfl) rfl #[.slice Ao13 x3_1.length co13] rfl (by (try simp only [List.map_toArray, List.map_cons, List.map_nil]); first | done | rfl | (simp only [List.length_drop, List.length_take]; rfl)) ?_; (with_reducible refine (spec_l8Sort.calls k1 _ _ x3_1 t290 _ ?side1 ?side2 A12.out).mono ?_); (case side1 => repeat (first | exact (Kd.S_reads' HO_3.out).2.2 | (with_reducible refine Kd.C_alloc ?_ _) | (with_reducible refine Kd.C_drewN ?_ _) | (with_reducible refine Kd.C_drew ?_))); (case side2 => exact (Kd.S_reads' HO_3.out).2.1); rintro e w14 ⟨v291, rfl, ho0, hb⟩; refine ⟨_, rfl, ?_⟩; obtain ⟨gbz291, hz291⟩ := Kd.S_name ho0; have n0_ := Aside0.mk (Kd.S_below (Kd.S_ltz hz291 (by (with_reducible repeat (first | apply Kd.S_alloc | apply Kd.S_drewN | apply Kd.S_drew)); exact HO_3.out)) hb); have n1_ := Aside0.mk (Kd.S_lower (Kd.S_gez hz291 ho0) (below_size (by repeat (first | (with_reducible first | exact HB.out | apply below_alloc | apply pw_below_drewN | apply below_drew1) | exact HB.out)))); have n2_ := Aside0.mk (below_step (by repeat (first | (with_reducible first | exact HB.out | apply below_alloc | apply pw_below_drewN | apply below_drew1) | exact HB.out)) hb); clear HO_3; clear HB; have HO_3 := n0_; have HO292 := n1_; have HB := n2_; clear n0_ n1_ n2_; (try clear hb); (try clear hb2); (try clear hk); (try clear hi); (try clear ho0)))
    go_ret
    exact ⟨_, by first | rfl | (simp [errW_none, errW_some] <;> rfl) | (simp [*, errW_none, errW_some] <;> rfl), by (with_reducible repeat (first | apply Kd.S_alloc | apply Kd.S_drewN | apply Kd.S_drew)); exact Kd.S_mono HO292.out (fun _ hk => trivial), by repeat (first | (with_reducible first | exact HB.out | apply below_alloc | apply pw_below_drewN | apply below_drew1) | exact HB.out)⟩

end Go.Proofs.Yticgekgojgkbgaa.Print
end
section
namespace Go.Proofs.Yticgekgojgkbgaa.Print
open Go.RowKit Go.Proofs.YticgekgojgkbgaaV.PrintWords Go.Proofs.YticgekgojgkbgaaV.PrintLast Go.Proofs.YticgekgojgkbgaaV.PrintMore
attribute [local go_sem] max2_int min2_int max_two min_two max_three min_three max_four min_four   -- for this text's walks alone
set_option linter.unusedVariables false
set_option linter.unusedSimpArgs false

/-! ### impl_copySet: function 107 -/
def impl_copySet.f (l0 : List (S88)) : Option ((List (S88))) := if ([] : List (S88)).length + l0.length < 4398046511104 then (some (([] : List (S88)) ++ l0)) else (none)
set_option maxHeartbeats 8000000 in
set_option maxRecDepth 100000 in
theorem impl_copySet.calls (A0 : Option Addr) (c0 : Nat) (l0 : List (S88)) (r : List (S88)) (w : World) (hr0 : Kd.C k88 w A0 l0.length l0) (hc0 : l0.length ≤ c0) (h : impl_copySet.f l0 = some r) :
  Calls Try.prog 107 #[.slice A0 l0.length c0] w fun e w' => ∃ v0_ : Value, e = .returned (v0_) ∧ Kd.R k88 88 w' w.heap.size (fun _ => True) v0_ r ∧ Below w.heap.size w w' := by
 have HR0 := Aside0.mk hr0
 have HC0 := Aside0.mk hc0
 clear hr0 hc0
 have HB := Aside0.mk (Below.refl w.heap.size w)
 have H : (if ([] : List (S88)).length + l0.length < 4398046511104 then (some (([] : List (S88)) ++ l0)) else (none)) = some r := h
 clear h
 by_cases c2 : ([] : List (S88)).length + l0.length < 4398046511104
 ·
  rw [if_pos c2] at H
  have LMc2 := Aside0.mk c2
  clear c2
  obtain ⟨y293, hy293⟩ : ∃ y_ : List (S88), y_ = (([] : List (S88)) ++ l0) := ⟨_, rfl⟩
  replace H : (some y293) = some r := by first | (rw [hy293]; with_reducible exact H) | (have H2_ := (Option.bind_some _ _).symm.trans H; rw [hy293]; with_reducible exact H2_) | (have H2_ := (Option.bind_some _ _).symm.trans H; with_reducible exact H2_) | with_reducible exact H | (rw [hy293]; exact H) | exact H
  have Ny293 := Aside0.mk hy293
  clear hy293
  obtain rfl := Option.some.inj H
  go_enter Try.func107, Try.ntmps107
  go_wp2_with (first | ((with_reducible refine gate_builtin (b := .append) (xs := #[.const (.slice none 0 0), .tmp 3]) rfl ?_); at_builtin; refine Kd.R_append_rows k88 (w0 := w) w.heap.size rfl (.const (.slice none 0 0)) (.tmp 3) 29 88 (.agg #[(.string ⟨#[]⟩), (.string ⟨#[]⟩)]) 32 rfl Try.underlying29 info88 rfl (by decide) (by omega) (.slice none 0 0) ([] : List (S88)) l0 _ _ _ (fun _ => True) (fun _ => False) rfl rfl ?aO ?aR (fun _ _ h => h) (fun _ h => h.elim) ?aF ?aB ?aS ?aL ?_; (case aR => repeat (first | exact HR0.out | (with_reducible refine Kd.C_alloc ?_ _) | (with_reducible refine Kd.C_drewN ?_ _) | (with_reducible refine Kd.C_drew ?_))); (case aB => exact (by repeat (first | (with_reducible first | exact HB.out | apply below_alloc | apply pw_below_drewN | apply below_drew1) | exact HB.out))); (case aF => exact (fun _ _ => trivial)); (case aO => exact ((Kd.R_nil _ _ _ _ (fun _ => True)))); (case aS => exact (below_size (by repeat (first | (with_reducible first | exact HB.out | apply below_alloc | apply pw_below_drewN | apply below_drew1) | exact HB.out)))); (case aL => have := LMc2.out; omega); intro v294 w3 ho hb hg hat; rw [← Ny293.out] at ho; have n0_ := Aside0.mk (hb); have n1_ := Aside0.mk (ho); clear HB; have HB := n0_; have HO295 := n1_; clear n0_ n1_; clear ho hb hg hat))
  go_ret
  exact ⟨_, by first | rfl | (simp [errW_none, errW_some] <;> rfl) | (simp [*, errW_none, errW_some] <;> rfl), by (with_reducible repeat (first | apply Kd.R_alloc | apply Kd.R_drewN | apply Kd.R_drew)); exact HO295.out, by repeat (first | (with_reducible first | exact HB.out | apply below_alloc | apply pw_below_drewN | apply below_drew1) | exact HB.out)⟩
 ·
  rw [if_neg c2] at H
  exact absurd H (by simp)

end Go.Proofs.Yticgekgojgkbgaa.Print
end
section
namespace Go.Proofs.Yticgekgojgkbgaa.Print
open Go.RowKit Go.Proofs.YticgekgojgkbgaaV.PrintWords Go.Proofs.YticgekgojgkbgaaV.PrintLast Go.Proofs.YticgekgojgkbgaaV.PrintMore
attribute [local go_sem] max2_int min2_int max_two min_two max_three min_three max_four min_four   -- for this text's walks alone
set_option linter.unusedVariables false
set_option linter.unusedSimpArgs false

/-! ### impl_copyAlarm: function 80 -/
def impl_copyAlarm.f (l0_0 : List (S88)) (a0_1 : Int) (a0_2 : Int) (a0_3 : ByteArray) : Option ((List (S88)) × Int × Int × ByteArray) := (impl_copySet.f l0_0).bind fun t298 => (some (t298, a0_1, a0_2, a0_3))
set_option maxHeartbeats 8000000 in
set_option maxRecDepth 100000 in
theorem impl_copyAlarm.calls (A0_0 : Option Addr) (c0_0 : Nat) (l0_0 : List (S88)) (a0_1 : Int) (a0_2 : Int) (a0_3 : ByteArray) (r1 : List (S88)) (r2 : Int) (r3 : Int) (r4 : ByteArray) (w : World) (hr0_0 : Kd.C k88 w A0_0 l0_0.length l0_0) (hc0_0 : l0_0.length ≤ c0_0) (h : impl_copyAlarm.f l0_0 a0_1 a0_2 a0_3 = some (r1, r2, r3, r4)) :
  Calls Try.prog 80 #[.agg #[.slice A0_0 l0_0.length c0_0, .int .i64 a0_1, .int .i64 a0_2, .string a0_3]] w fun e w' => ∃ v0_ : Value, e = .returned (.agg #[v0_, .int .i64 r2, .int .i64 r3, .string r4]) ∧ Kd.R k88 88 w' w.heap.size (fun _ => True) v0_ r1 ∧ Below w.heap.size w w' := by
 have hu43 := Try.underlying43
 have HR0_0 := Aside0.mk hr0_0
 have HC0_0 := Aside0.mk hc0_0
 clear hr0_0 hc0_0
 have HB := Aside0.mk (Below.refl w.heap.size w)
 have H : ((impl_copySet.f l0_0).bind fun t298 => (some (t298, a0_1, a0_2, a0_3))) = some (r1, r2, r3, r4) := h
 clear h
 replace H := Option.bind_eq_some_iff.mp H
 obtain ⟨t298, A20, H⟩ := H
 replace H : (some (t298, a0_1, a0_2, a0_3)) = some (r1, r2, r3, r4) := H
 have A2 := Aside0.mk A20
 clear A20
 simp only [Option.some.injEq, Prod.mk.injEq] at H
 obtain ⟨rfl, rfl, rfl, rfl⟩ := H
 go_enter Try.func80, Try.ntmps80
 go_wp2_with (first | ((with_reducible refine gate_dst (N := 1) rfl ?_); refine box_event ?hg (N := 1) ?hd (cs := #[.slice A0_0 l0_0.length c0_0, .int .i64 a0_1, .int .i64 a0_2, .string a0_3]) (t := 43) ?hr ?_; (case hd => rfl); (case hg => rfl); (case hr => first | (go_simp; done) | (go_simp; rfl)); intro gb296 hg w3 hbox hb; have n0_ := Aside0.mk (below_step (by repeat (first | (with_reducible first | exact HB.out | apply below_alloc | apply pw_below_drewN | apply below_drew1) | exact HB.out)) hb); have n1_ := Aside0.mk (hbox); have n2_ := Aside0.mk ((by rw [hg]; exact (below_size (by repeat (first | (with_reducible first | exact HB.out | apply below_alloc | apply pw_below_drewN | apply below_drew1) | exact HB.out))) : w.heap.size ≤ gb296)); have n3_ := Aside0.mk ((by rw [hg]; exact (below_size (by repeat (first | (with_reducible first | exact HB.out | apply below_alloc | apply pw_below_drewN | apply below_drew1) | exact HB.out))) : w.heap.size ≤ gb296)); clear HB; have HB := n0_; have BK296 := n1_; have GW296 := n2_; have GE296 := n3_; clear n0_ n1_ n2_ n3_; clear hb hbox hg) | ((with_reducible refine gate_dst (N := 2) rfl ?_); refine box_event ?hg (N := 2) ?hd (cs := #[.slice none 0 0, .int .i64 0, .int .i64 0, .string (⟨#[]⟩ : ByteArray)]) (t := 43) ?hr ?_; (case hd => rfl); (case hg => rfl); (case hr => first | (go_simp; done) | (go_simp; rfl)); intro gb297 hg w4 hbox hb; have n0_ := Aside0.mk (blk_below (g := gb296) (o := .cells #[.slice A0_0 l0_0.length c0_0, .int .i64 a0_1, .int .i64 a0_2, .string a0_3] 43 (0, 0)) (by (with_reducible repeat (first | refine blk_drewN ?_ _ | refine blk_drew ?_ | refine blk_alloc ?_ _)); exact BK296.out) hb); have n1_ := Aside0.mk (below_step (by repeat (first | (with_reducible first | exact HB.out | apply below_alloc | apply pw_below_drewN | apply below_drew1 | refine below_set ?_ GE296.out) | exact HB.out)) hb); have n2_ := Aside0.mk (hbox); have n3_ := Aside0.mk ((by rw [hg]; exact (below_size (by repeat (first | (with_reducible first | exact HB.out | apply below_alloc | apply pw_below_drewN | apply below_drew1 | refine below_set ?_ GE296.out) | exact HB.out))) : w.heap.size ≤ gb297)); have n4_ := Aside0.mk ((by rw [hg]; exact (below_size (by repeat (first | (with_reducible first | exact HB.out | apply below_alloc | apply pw_below_drewN | apply below_drew1 | refine below_set ?_ GE296.out) | exact HB.out))) : w.heap.size ≤ gb297)); have n5_ := Aside0.mk ((by rw [hg]; exact Nat.ne_of_lt (blk_lt (g := gb296) (o := .cells #[.slice A0_0 l0_0.length c0_0, .int .i64 a0_1, .int .i64 a0_2, .string a0_3] 43 (0, 0)) (by (with_reducible repeat (first | refine blk_drewN ?_ _ | refine blk_drew ?_ | refine blk_alloc ?_ _)); exact BK296.out)) : gb296 ≠ gb297)); have n6_ := Aside0.mk ((by rw [hg]; exact Nat.ne_of_gt (blk_lt (g := gb296) (o := .cells #[.slice A0_0 l0_0.length c0_0, .int .i64 a0_1, .int .i64 a0_2, .string a0_3] 43 (0, 0)) (by (with_reducible repeat (first | refine blk_drewN ?_ _ | refine blk_drew ?_ | refine blk_alloc ?_ _)); exact BK296.out)) : gb297 ≠ gb296)); clear BK296; clear HB; have BK296 := n0_; have HB := n1_; have BK297 := n2_; have GW297 := n3_; have GE297 := n4_; have NB296_297 := n5_; have NB297_296 := n6_; clear n0_ n1_ n2_ n3_ n4_ n5_ n6_; clear hb hbox hg; have hnb5 := NB296_297.out; have hnc5 := NB297_296.out; have hcz6_0 : w4.cell? ⟨gb296, 0, none⟩ = some (.slice A0_0 l0_0.length c0_0) := (blk_cell BK296.out 0).trans rfl; have hcz6_1 : w4.cell? ⟨gb296, 1, none⟩ = some (.int .i64 a0_1) := (blk_cell BK296.out 1).trans rfl; have hcz6_2 : w4.cell? ⟨gb296, 2, none⟩ = some (.int .i64 a0_2) := (blk_cell BK296.out 2).trans rfl; have hcz6_3 : w4.cell? ⟨gb296, 3, none⟩ = some (.string a0_3) := (blk_cell BK296.out 3).trans rfl; have hfz6_0 := blk_frozen BK296.out 0; have hfz6_1 := blk_frozen BK296.out 1; have hfz6_2 := blk_frozen BK296.out 2; have hfz6_3 := blk_frozen BK296.out 3) | ((with_reducible refine gate_callee (f := 107) rfl ?_); refine goesL_ (some 5) rfl rfl Try.func107 (by kernel_rfl) rfl #[.slice A0_0 l0_0.length c0_0] rfl (by (try simp only [List.map_toArray, List.map_cons, List.map_nil]); first | done | rfl | (simp only [List.length_drop, List.length_take]; rfl)) ?_; (with_reducible refine (impl_copySet.calls _ _ l0_0 t298 _ ?side1 ?side2 A2.out).mono ?_); (case side1 => repeat (first | exact (Kd.C_below HR0_0.out HB.out) | (with_reducible refine Kd.C_alloc ?_ _) | (with_reducible refine Kd.C_drewN ?_ _) | (with_reducible refine Kd.C_drew ?_))); (case side2 => exact HC0_0.out); rintro e w7 ⟨v299, rfl, ho0, hb⟩; refine ⟨_, rfl, ?_⟩; have n0_ := Aside0.mk (Kd.R_lower ho0 (below_size (by repeat (first | (with_reducible first | exact HB.out | apply below_alloc | apply pw_below_drewN | apply below_drew1 | refine below_set ?_ GE296.out | refine below_set ?_ GE297.out) | exact HB.out)))); have n1_ := Aside0.mk (blk_below (g := gb296) (o := .cells #[.slice A0_0 l0_0.length c0_0, .int .i64 a0_1, .int .i64 a0_2, .string a0_3] 43 (0, 0)) (by (with_reducible repeat (first | refine blk_drewN ?_ _ | refine blk_drew ?_ | refine blk_alloc ?_ _)); exact BK296.out) hb); have n2_ := Aside0.mk (blk_below (g := gb297) (o := .cells #[.slice none 0 0, .int .i64 0, .int .i64 0, .string (⟨#[]⟩ : ByteArray)] 43 (0, 0)) (by (with_reducible repeat (first | refine blk_drewN ?_ _ | refine blk_drew ?_ | refine blk_alloc ?_ _)); exact BK297.out) hb); have n3_ := Aside0.mk (below_step (by repeat (first | (with_reducible first | exact HB.out | apply below_alloc | apply pw_below_drewN | apply below_drew1 | refine below_set ?_ GE296.out | refine below_set ?_ GE297.out) | exact HB.out)) hb); clear BK296; clear BK297; clear HB; have HO300 := n0_; have BK296 := n1_; have BK297 := n2_; have HB := n3_; clear n0_ n1_ n2_ n3_; (try clear hb); (try clear hb2); (try clear hk); (try clear hi); (try clear ho0); obtain ⟨Ao8, co8, eo8⟩ := Kd.R_slice HO300.out; subst eo8; have hcz9_0 : w7.cell? ⟨gb296, 0, none⟩ = some (.slice A0_0 l0_0.length c0_0) := (blk_cell BK296.out 0).trans rfl; have hcz9_1 : w7.cell? ⟨gb296, 1, none⟩ = some (.int .i64 a0_1) := (blk_cell BK296.out 1).trans rfl; have hcz9_2 : w7.cell? ⟨gb296, 2, none⟩ = some (.int .i64 a0_2) := (blk_cell BK296.out 2).trans rfl; have hcz9_3 : w7.cell? ⟨gb296, 3, none⟩ = some (.string a0_3) := (blk_cell BK296.out 3).trans rfl; have hfz9_0 := blk_frozen BK296.out 0; have hfz9_1 := blk_frozen BK296.out 1; have hfz9_2 := blk_frozen BK296.out 2; have hfz9_3 := blk_frozen BK296.out 3; have hcz10_0 : w7.cell? ⟨gb297, 0, none⟩ = some (.slice none 0 0) := (blk_cell BK297.out 0).trans rfl; have hcz10_1 : w7.cell? ⟨gb297, 1, none⟩ = some (.int .i64 0) := (blk_cell BK297.out 1).trans rfl; have hcz10_2 : w7.cell? ⟨gb297, 2, none⟩ = some (.int .i64 0) := (blk_cell BK297.out 2).trans rfl; have hcz10_3 : w7.cell? ⟨gb297, 3, none⟩ = some (.string (⟨#[]⟩ : ByteArray)) := (blk_cell BK297.out 3).trans rfl; have hfz10_0 := blk_frozen BK297.out 0; have hfz10_1 := blk_frozen BK297.out 1; have hfz10_2 := blk_frozen BK297.out 2; have hfz10_3 := blk_frozen BK297.out 3))
 refine bodyPost_ret (results_cell_row rfl _ _ gb297 43 #[.slice Ao8 t298.length co8, .int .i64 a0_1, .int .i64 a0_2, .string a0_3] (0, 0) _ rfl (by (with_reducible repeat (first | refine blk_drewN ?_ _ | refine blk_drew ?_ | refine blk_alloc ?_ _)); refine blk_put (cs := #[.slice Ao8 t298.length co8, .int .i64 a0_1, .int .i64 a0_2, .string (⟨#[]⟩ : ByteArray)]) ?_ 3 _ rfl; (with_reducible repeat (first | refine blk_drewN ?_ _ | refine blk_drew ?_ | refine blk_alloc ?_ _)); refine blk_put (cs := #[.slice Ao8 t298.length co8, .int .i64 a0_1, .int .i64 0, .string (⟨#[]⟩ : ByteArray)]) ?_ 2 _ rfl; (with_reducible repeat (first | refine blk_drewN ?_ _ | refine blk_drew ?_ | refine blk_alloc ?_ _)); refine blk_put (cs := #[.slice Ao8 t298.length co8, .int .i64 0, .int .i64 0, .string (⟨#[]⟩ : ByteArray)]) ?_ 1 _ rfl; (with_reducible repeat (first | refine blk_drewN ?_ _ | refine blk_drew ?_ | refine blk_alloc ?_ _)); refine blk_put (cs := #[.slice none 0 0, .int .i64 0, .int .i64 0, .string (⟨#[]⟩ : ByteArray)]) ?_ 0 _ rfl; (with_reducible repeat (first | refine blk_drewN ?_ _ | refine blk_drew ?_ | refine blk_alloc ?_ _)); refine blk_far ?_ NB297_296.out _; (with_reducible repeat (first | refine blk_drewN ?_ _ | refine blk_drew ?_ | refine blk_alloc ?_ _)); exact BK297.out) Try.underlying43 rfl (by kernel_rfl)) rfl ?_
 exact ⟨_, by first | rfl | (simp [errW_none, errW_some] <;> rfl) | (simp [*, errW_none, errW_some] <;> rfl), by (with_reducible repeat (first | apply Kd.R_alloc | apply Kd.R_drewN | apply Kd.R_drew)); exact Kd.R_mono (Kd.R_far (p := ⟨gb297, 3, none⟩) (Kd.R_far (p := ⟨gb297, 2, none⟩) (Kd.R_far (p := ⟨gb297, 1, none⟩) (Kd.R_far (p := ⟨gb297, 0, none⟩) (Kd.R_far (p := ⟨gb296, 0, none⟩) (Kd.R_types (Kd.R_types HO300.out BK296.out (by decide)) BK297.out (by decide)) (fun _ hk => hk.1.2) (.slice Ao8 t298.length co8)) (fun _ hk => hk.2) (.slice Ao8 t298.length co8)) (fun _ hk => hk.2) (.int .i64 a0_1)) (fun _ hk => hk.2) (.int .i64 a0_2)) (fun _ hk => hk.2) (.string a0_3)) (fun _ hk => trivial), by repeat (first | (with_reducible first | exact HB.out | apply below_alloc | apply pw_below_drewN | apply below_drew1 | refine below_set ?_ GE296.out | refine below_set ?_ GE297.out) | exact HB.out)⟩

end Go.Proofs.Yticgekgojgkbgaa.Print
end
section
namespace Go.Proofs.Yticgekgojgkbgaa.Print
open Go.RowKit Go.Proofs.YticgekgojgkbgaaV.PrintWords Go.Proofs.YticgekgojgkbgaaV.PrintLast Go.Proofs.YticgekgojgkbgaaV.PrintMore
attribute [local go_sem] max2_int min2_int max_two min_two max_three min_three max_four min_four   -- for this text's walks alone
set_option linter.unusedVariables false
set_option linter.unusedSimpArgs false

/-! ### impl_copyAlarms: function 114 -/
def impl_copyAlarms.l0 : Nat → List (S43) → List (S43) → Int → Int → Option ((List (S43)))
 | 0, _, _, _, _ => none
 | k + 1, x3, x6, x7, x8 => if x8 < x7 then (if 0 ≤ x8 then (if x8 < (x6.length : Int) then ((impl_copyAlarm.f ((rd_T43 x6 x8).f0) ((rd_T43 x6 x8).f1) ((rd_T43 x6 x8).f2) ((rd_T43 x6 x8).f3)).bind fun bt303 => (if x3.length < 2513169434916 then (impl_copyAlarms.l0 k (x3 ++ [(⟨bt303.1, bt303.2.1, bt303.2.2.1, bt303.2.2.2⟩ : S43)]) x6 x7 (wrap64 (x8 + 1))) else (none))) else (none)) else (none)) else (some x3)
def impl_copyAlarms.f (k : Nat) (l0 : List (S43)) : Option ((List (S43))) := impl_copyAlarms.l0 k ([] : List (S43)) l0 (l0.length : Int) 0
theorem impl_copyAlarms.mono_l : ∀ k, (∀ y0 y1 y2 y3, LeO (impl_copyAlarms.l0 k y0 y1 y2 y3) (impl_copyAlarms.l0 (k + 1) y0 y1 y2 y3))
 | 0 => fun _ _ _ _ r h => by simp [impl_copyAlarms.l0] at h
 | k + 1 => by
  have ih0 := impl_copyAlarms.mono_l k
  ·
   intro y0 y1 y2 y3
   unfold impl_copyAlarms.l0
   repeat' first
   | (with_reducible exact ih0 _ _ _ _)
   | (with_reducible exact LeO.refl _)
   | (with_reducible exact LeO.none _)
   | (with_reducible refine LeO.ite ?_ ?_)
   | (with_reducible refine LeO.bind ?_ (fun _ => ?_))
   | exact ih0 _ _ _ _
   | exact LeO.none _
   | refine LeO.ite ?_ ?_
   | refine LeO.bind ?_ (fun _ => ?_)
theorem impl_copyAlarms.mono : ∀ a0 k, LeO (impl_copyAlarms.f k a0) (impl_copyAlarms.f (k + 1) a0) := by
 intro a0 k
 have ih0 := impl_copyAlarms.mono_l k
 unfold impl_copyAlarms.f
 repeat' first
   | (with_reducible exact ih0 _ _ _ _)
   | (with_reducible exact LeO.refl _)
   | (with_reducible exact LeO.none _)
   | (with_reducible refine LeO.ite ?_ ?_)
   | (with_reducible refine LeO.bind ?_ (fun _ => ?_))
   | exact ih0 _ _ _ _
   | exact LeO.none _
   | refine LeO.ite ?_ ?_
   | refine LeO.bind ?_ (fun _ => ?_)
set_option maxHeartbeats 8000000 in
set_option maxRecDepth 100000 in
theorem impl_copyAlarms.calls (k : Nat) (A0 : Option Addr) (c0 : Nat) (l0 : List (S43)) (r : List (S43)) (w : World) (hr0 : Kd.C k43 w A0 l0.length l0) (hc0 : l0.length ≤ c0) (h : impl_copyAlarms.f k l0 = some r) :
  Calls Try.prog 114 #[.slice A0 l0.length c0] w fun e w' => ∃ v0_ : Value, e = .returned (v0_) ∧ Kd.S k43 43 w' w.heap.size (fun _ => True) v0_ r ∧ Below w.heap.size w w' := by
 have hu43 := Try.underlying43
 have HR0 := Aside0.mk hr0
 have HC0 := Aside0.mk hc0
 clear hr0 hc0
 have HB := Aside0.mk (Below.refl w.heap.size w)
 have H : (impl_copyAlarms.l0 k ([] : List (S43)) l0 (l0.length : Int) 0) = some r := h
 clear h
 have H' := Aside0.mk H
 clear H
 go_enter Try.func114, Try.ntmps114
 go_wp2
 go_loopg [3, 8] k (fun kq v3 v8 w' => ∃ (x3_1 : List (S43)) (x8_1 : Int), v8 = .int .i64 x8_1 ∧ Aside0 (impl_copyAlarms.l0 kq x3_1 l0 (l0.length : Int) x8_1 = some r) ∧ Aside0 (kq ≤ k) ∧ Aside0 (Kd.S k43 43 w' w.heap.size (fun _ => True) v3 x3_1) ∧ Aside0 (Below w.heap.size w w'))
 case atStart => exact ⟨(([] : List (S43))), (0), (by first | rfl | (simp; done) | (simp [*]; done)), H', ⟨Nat.le_refl _⟩, ⟨by first | exact Kd.S_nil _ _ _ _ _ | exact Kd.N_nil _ _ _ _ _ | exact Kd.V_nil _ _ _ _ _ | exact Kd.Q_nil _ _ _ _ _ | exact Kd.R_nil _ _ _ _ _⟩, ⟨by repeat (first | (with_reducible first | exact HB.out | apply below_alloc | apply pw_below_drewN | apply below_drew1) | exact HB.out)⟩⟩
 case round =>
  clear H'
  try clear c1
  obtain ⟨x3_1, x8_1, rfl, HA, HK1, HO_3, HB⟩ := hrel
  cases gk with
  | zero => exact absurd HA.out (by simp [impl_copyAlarms.l0])
  | succ k1 =>
   have H := HA.out
   clear HA
   simp only [impl_copyAlarms.l0] at H
   by_cases c2 : x8_1 < (l0.length : Int)
   ·
    rw [if_pos c2] at H
    have c2b0 : decide (x8_1 < (l0.length : Int)) = true := decide_eq_true c2
    clear c2
    by_cases c3 : 0 ≤ x8_1
    ·
     rw [if_pos c3] at H
     have c3b0 : decide (0 ≤ x8_1) = true := decide_eq_true c3
     clear c3
     by_cases c4 : x8_1 < (l0.length : Int)
     ·
      rw [if_pos c4] at H
      have c4b0 : decide (x8_1 < (l0.length : Int)) = true := decide_eq_true c4
      clear c4
      replace H := Option.bind_eq_some_iff.mp H
      obtain ⟨⟨t303, t306, t307, t308⟩, A50, H⟩ := H
      replace H : (if x3_1.length < 2513169434916 then (impl_copyAlarms.l0 k1 (x3_1 ++ [(⟨t303, t306, t307, t308⟩ : S43)]) l0 (l0.length : Int) (wrap64 (x8_1 + 1))) else (none)) = some r := H
      have A5 := Aside0.mk A50
      clear A50
      by_cases c6 : x3_1.length < 2513169434916
      ·
       rw [if_pos c6] at H
       have LMc6 := Aside0.mk c6
       clear c6
       obtain ⟨y309, hy309⟩ : ∃ y_ : List (S43), y_ = (x3_1 ++ [(⟨t303, t306, t307, t308⟩ : S43)]) := ⟨_, rfl⟩
       replace H : (impl_copyAlarms.l0 k1 y309 l0 (l0.length : Int) (wrap64 (x8_1 + 1))) = some r := by first | (rw [hy309]; with_reducible exact H) | (have H2_ := (Option.bind_some _ _).symm.trans H; rw [hy309]; with_reducible exact H2_) | (have H2_ := (Option.bind_some _ _).symm.trans H; with_reducible exact H2_) | with_reducible exact H | (rw [hy309]; exact H) | exact H
       have Ny309 := Aside0.mk hy309
       clear hy309
       have H' := Aside0.mk H
       clear H
       have p301 : 0 ≤ (x8_1 : Int) := of_decide_eq_true (by first | (with_reducible assumption) | assumption)
       have q301 : x8_1 < (l0.length : Int) := of_decide_eq_true (by first | (with_reducible assumption) | assumption)
       obtain ⟨ad301, A301_0, c301_0, e301, hx301_0, hx301_1, hx301_2, hx301_3, hl301_0, hi301_0⟩ := at_T43 HR0.out x8_1 p301 q301
       cases e301
       replace hx301_0 := (HB.out.cell (World.block_lt_of_cell? w _ hx301_0)).trans hx301_0
       replace hx301_1 := (HB.out.cell (World.block_lt_of_cell? w _ hx301_1)).trans hx301_1
       replace hx301_2 := (HB.out.cell (World.block_lt_of_cell? w _ hx301_2)).trans hx301_2
       replace hx301_3 := (HB.out.cell (World.block_lt_of_cell? w _ hx301_3)).trans hx301_3
       have HR301_0 := Aside0.mk hi301_0
       have HC301_0 := Aside0.mk hl301_0
       clear hi301_0 hl301_0
       replace p301 := eq_true p301
       replace q301 := eq_true q301
       go_wp2_with (first | ((with_reducible refine gate_dst (N := 5) rfl ?_); refine box_event ?hg (N := 5) ?hd (cs := #[.slice none 0 0, .int .i64 0, .int .i64 0, .string (⟨#[]⟩ : ByteArray)]) (t := 43) ?hr ?_; (case hd => rfl); (case hg => rfl); (case hr => first | (go_simp; done) | (go_simp; rfl)); intro gb302 hg w7 hbox hb; have n0_ := Aside0.mk (Kd.S_below (Kd.S_elderB (by (with_reducible repeat (first | apply Kd.S_alloc | apply Kd.S_drewN | apply Kd.S_drew)); exact HO_3.out) gb302 (Nat.le_of_eq hg.symm)) hb); have n1_ := Aside0.mk (below_step (by repeat (first | (with_reducible first | exact HB.out | apply below_alloc | apply pw_below_drewN | apply below_drew1) | exact HB.out)) hb); have n2_ := Aside0.mk (hbox); have n3_ := Aside0.mk ((by rw [hg]; exact (below_size (by repeat (first | (with_reducible first | exact HB.out | apply below_alloc | apply pw_below_drewN | apply below_drew1) | exact HB.out))) : w.heap.size ≤ gb302)); have n4_ := Aside0.mk ((by rw [hg]; exact (below_size (by repeat (first | (with_reducible first | exact HB.out | apply below_alloc | apply pw_below_drewN | apply below_drew1) | exact HB.out))) : w.heap.size ≤ gb302)); clear HO_3; clear HB; have HO_3 := n0_; have HB := n1_; have BK302 := n2_; have GW302 := n3_; have GE302 := n4_; clear n0_ n1_ n2_ n3_ n4_; clear hb hbox hg; have hcz8_0 : w7.cell? ⟨gb302, 0, none⟩ = some (.slice none 0 0) := (blk_cell BK302.out 0).trans rfl; have hcz8_1 : w7.cell? ⟨gb302, 1, none⟩ = some (.int .i64 0) := (blk_cell BK302.out 1).trans rfl; have hcz8_2 : w7.cell? ⟨gb302, 2, none⟩ = some (.int .i64 0) := (blk_cell BK302.out 2).trans rfl; have hcz8_3 : w7.cell? ⟨gb302, 3, none⟩ = some (.string (⟨#[]⟩ : ByteArray)) := (blk_cell BK302.out 3).trans rfl; have hfz8_0 := blk_frozen BK302.out 0; have hfz8_1 := blk_frozen BK302.out 1; have hfz8_2 := blk_frozen BK302.out 2; have hfz8_3 := blk_frozen BK302.out 3) | ((with_reducible refine gate_callee (f := 80) rfl ?_); refine goesL_ (some 14) rfl rfl Try.func80 (by kernel_rfl) rfl #[.agg #[.slice A301_0 ((rd_T43 l0 x8_1).f0).length c301_0, .int .i64 ((rd_T43 l0 x8_1).f1), .int .i64 ((rd_T43 l0 x8_1).f2), .string ((rd_T43 l0 x8_1).f3)]] rfl (by (try simp only [List.map_toArray, List.map_cons, List.map_nil]); first | done | rfl | (simp only [List.length_drop, List.length_take]; rfl)) ?_; (with_reducible refine (impl_copyAlarm.calls _ _ ((rd_T43 l0 x8_1).f0) ((rd_T43 l0 x8_1).f1) ((rd_T43 l0 x8_1).f2) ((rd_T43 l0 x8_1).f3) t303 t306 t307 t308 _ ?side1 ?side2 A5.out).mono ?_); (case side1 => exact Kd.C_below HR301_0.out (by repeat (first | (with_reducible first | exact HB.out | apply below_alloc | apply pw_below_drewN | apply below_drew1 | refine below_set ?_ GE302.out) | exact HB.out))); (case side2 => exact HC301_0.out); rintro e w9 ⟨v304, rfl, ho0, hb⟩; refine ⟨_, rfl, ?_⟩; have n0_ := Aside0.mk (Kd.S_elder' (by (with_reducible repeat (first | apply Kd.S_alloc | apply Kd.S_drewN | apply Kd.S_drew)); exact (Kd.S_mono (Kd.S_far (p := ⟨gb302, 3, none⟩) (Kd.S_far (p := ⟨gb302, 2, none⟩) (Kd.S_far (p := ⟨gb302, 1, none⟩) (Kd.S_far (p := ⟨gb302, 0, none⟩) (Kd.S_mono HO_3.out (fun k_ hk => (⟨hk, hk.2⟩ : _ ∧ k_ ≠ gb302))) (fun _ hk => hk.2) (.slice A301_0 ((rd_T43 l0 x8_1).f0).length c301_0)) (fun _ hk => hk.2) (.int .i64 ((rd_T43 l0 x8_1).f1))) (fun _ hk => hk.2) (.int .i64 ((rd_T43 l0 x8_1).f2))) (fun _ hk => hk.2) (.string ((rd_T43 l0 x8_1).f3))) (fun _ h_ => h_.1))) (Kd.R_base ho0) hb); have n1_ := Aside0.mk (Kd.R_lower ho0 (below_size (by repeat (first | (with_reducible first | exact HB.out | apply below_alloc | apply pw_below_drewN | apply below_drew1 | refine below_set ?_ GE302.out) | exact HB.out)))); have n2_ := Aside0.mk (blk_below (g := gb302) (o := .cells #[.slice A301_0 ((rd_T43 l0 x8_1).f0).length c301_0, .int .i64 ((rd_T43 l0 x8_1).f1), .int .i64 ((rd_T43 l0 x8_1).f2), .string ((rd_T43 l0 x8_1).f3)] 43 (0, 0)) (by (with_reducible repeat (first | refine blk_drewN ?_ _ | refine blk_drew ?_ | refine blk_alloc ?_ _)); refine blk_put (cs := #[.slice A301_0 ((rd_T43 l0 x8_1).f0).length c301_0, .int .i64 ((rd_T43 l0 x8_1).f1), .int .i64 ((rd_T43 l0 x8_1).f2), .string (⟨#[]⟩ : ByteArray)]) ?_ 3 _ rfl; (with_reducible repeat (first | refine blk_drewN ?_ _ | refine blk_drew ?_ | refine blk_alloc ?_ _)); refine blk_put (cs := #[.slice A301_0 ((rd_T43 l0 x8_1).f0).length c301_0, .int .i64 ((rd_T43 l0 x8_1).f1), .int .i64 0, .string (⟨#[]⟩ : ByteArray)]) ?_ 2 _ rfl; (with_reducible repeat (first | refine blk_drewN ?_ _ | refine blk_drew ?_ | refine blk_alloc ?_ _)); refine blk_put (cs := #[.slice A301_0 ((rd_T43 l0 x8_1).f0).length c301_0, .int .i64 0, .int .i64 0, .string (⟨#[]⟩ : ByteArray)]) ?_ 1 _ rfl; (with_reducible repeat (first | refine blk_drewN ?_ _ | refine blk_drew ?_ | refine blk_alloc ?_ _)); refine blk_put (cs := #[.slice none 0 0, .int .i64 0, .int .i64 0, .string (⟨#[]⟩ : ByteArray)]) ?_ 0 _ rfl; (with_reducible repeat (first | refine blk_drewN ?_ _ | refine blk_drew ?_ | refine blk_alloc ?_ _)); exact BK302.out) hb); have n3_ := Aside0.mk (below_step (by repeat (first | (with_reducible first | exact HB.out | apply below_alloc | apply pw_below_drewN | apply below_drew1 | refine below_set ?_ GE302.out) | exact HB.out)) hb); clear HO_3; clear BK302; clear HB; have HO_3 := n0_; have HO305 := n1_; have BK302 := n2_; have HB := n3_; clear n0_ n1_ n2_ n3_; (try clear hb); (try clear hb2); (try clear hk); (try clear hi); (try clear ho0); obtain ⟨Ao11, co11, eo11⟩ := Kd.R_slice HO305.out; subst eo11) | ((with_reducible refine gate_builtin (b := .append) (xs := #[.tmp 12, .tmp 15]) rfl ?_); at_builtin; refine Kd.S_append k43 (w0 := w) w.heap.size rfl (.tmp 12) (.tmp 15) 44 43 (.agg #[(.slice none 0 0), (.int .i64 0), (.int .i64 0), (.string ⟨#[]⟩)]) 56 rfl Try.underlying44 info43 rfl (by decide) (by omega) u3 x3_1 (⟨t303, t306, t307, t308⟩ : S43) [.slice Ao11 t303.length co11, .int .i64 t306, .int .i64 t307, .string t308] (fun k_ => k_ ≠ gb302) (fun k_ => some k_ = (.slice Ao11 t303.length co11 : Value).ownBlock) rfl rfl ?aP (fun k_ hk_ => ((Kd.R_mono (ok' := fun k_ => ((fun k_ => k_ ≠ gb302)) k_ ∧ some k_ ≠ (u3 : Value).ownBlock) (Kd.R_types (Kd.R_apart' (HO305.out) (Kd.S_typed HO_3.out) (by decide)) BK302.out (by decide)) (fun k_ hk => ⟨hk.2, hk.1.2⟩))).1 k_ hk_.symm) ?aF ?aO ?aB ?aS ?aL ?_; (case aP => exact k43_mkM _ _ _ (⟨t303, t306, t307, t308⟩ : S43) (Kd.R_mono (Kd.R_tight rfl (Kd.R_mono (ok' := fun k_ => ((fun k_ => k_ ≠ gb302)) k_ ∧ some k_ ≠ (u3 : Value).ownBlock) (Kd.R_types (Kd.R_apart' (HO305.out) (Kd.S_typed HO_3.out) (by decide)) BK302.out (by decide)) (fun k_ hk => ⟨hk.2, hk.1.2⟩))) (fun _ h_ => h_))); (case aB => exact (by repeat (first | (with_reducible first | exact HB.out | apply below_alloc | apply pw_below_drewN | apply below_drew1 | refine below_set ?_ GE302.out) | exact HB.out))); (case aF => exact (fun k_ hk => Kd.freshB (g := gb302) (o := .cells #[.slice A301_0 ((rd_T43 l0 x8_1).f0).length c301_0, .int .i64 ((rd_T43 l0 x8_1).f1), .int .i64 ((rd_T43 l0 x8_1).f2), .string ((rd_T43 l0 x8_1).f3)] 43 (0, 0)) (by (with_reducible repeat (first | refine blk_drewN ?_ _ | refine blk_drew ?_ | refine blk_alloc ?_ _)); exact BK302.out) k_ hk)); (case aO => exact (by (with_reducible repeat (first | apply Kd.S_alloc | apply Kd.S_drewN | apply Kd.S_drew)); exact Kd.S_mono HO_3.out (fun k_ hk => ⟨hk.1.2, fun e_ => hk.2 e_⟩))); (case aS => exact (below_size (by repeat (first | (with_reducible first | exact HB.out | apply below_alloc | apply pw_below_drewN | apply below_drew1 | refine below_set ?_ GE302.out) | exact HB.out)))); (case aL => have := LMc6.out; omega); intro v310 w10 ho hb hg hat; rw [← Ny309.out] at ho; have n0_ := Aside0.mk (blk_grown (g := gb302) (o := .cells #[.slice A301_0 ((rd_T43 l0 x8_1).f0).length c301_0, .int .i64 ((rd_T43 l0 x8_1).f1), .int .i64 ((rd_T43 l0 x8_1).f2), .string ((rd_T43 l0 x8_1).f3)] 43 (0, 0)) (by (with_reducible repeat (first | refine blk_drewN ?_ _ | refine blk_drew ?_ | refine blk_alloc ?_ _)); exact BK302.out) hg (Kd.S_away HO_3.out (fun _ hk => hk.1.2))); have n1_ := Aside0.mk (hb); have n2_ := Aside0.mk (ho); clear BK302; clear HB; clear HO_3; clear HO305; have BK302 := n0_; have HB := n1_; have HO311 := n2_; clear n0_ n1_ n2_; clear ho hb hg hat))
       go_roundg k1
       case measure => have := HK1.out; omega
       case rel => exact ⟨(y309), (wrap64 (x8_1 + 1)), (by first | rfl | (simp; done) | (simp [*]; done)), H', ⟨by have := HK1.out; omega⟩, ⟨by (with_reducible repeat (first | apply Kd.S_alloc | apply Kd.S_drewN | apply Kd.S_drew)); exact Kd.S_mono HO311.out (fun _ hk => trivial)⟩, ⟨by repeat (first | (with_reducible first | exact HB.out | apply below_alloc | apply pw_below_drewN | apply below_drew1 | refine below_set ?_ GE302.out) | exact HB.out)⟩⟩
      ·
       rw [if_neg c6] at H
       exact absurd H (by simp)
     ·
      rw [if_neg c4] at H
      exact absurd H (by simp)
    ·
     rw [if_neg c3] at H
     exact absurd H (by simp)
   ·
    rw [if_neg c2] at H
    have c2b0 : decide (x8_1 < (l0.length : Int)) = false := decide_eq_false c2
    clear c2
    obtain rfl := Option.some.inj H
    go_wp2
    go_ret
    exact ⟨_, by first | rfl | (simp [errW_none, errW_some] <;> rfl) | (simp [*, errW_none, errW_some] <;> rfl), by (with_reducible repeat (first | apply Kd.S_alloc | apply Kd.S_drewN | apply Kd.S_drew)); exact HO_3.out, by repeat (first | (with_reducible first | exact HB.out | apply below_alloc | apply pw_below_drewN | apply below_drew1) | exact HB.out)⟩

end Go.Proofs.Yticgekgojgkbgaa.Print
end
section
namespace Go.Proofs.Yticgekgojgkbgaa.Print
open Go.RowKit Go.Proofs.YticgekgojgkbgaaV.PrintWords Go.Proofs.YticgekgojgkbgaaV.PrintLast Go.Proofs.YticgekgojgkbgaaV.PrintMore
attribute [local go_sem] max2_int min2_int max_two min_two max_three min_three max_four min_four   -- for this text's walks alone
set_option linter.unusedVariables false
set_option linter.unusedSimpArgs false

/-! ### impl_AlarmsIn: function 93 -/
def impl_AlarmsIn.l0 : Nat → List (S43) → List (S100) → Int → Int → Option ((List (S43)))
 | 0, _, _, _, _ => none
 | k + 1, x3, x7, x8, x9 => if x9 < x8 then (if 0 ≤ x9 then (if x9 < (x7.length : Int) then ((impl_copyAlarms.f k ((rd_T100 x7 x9).f1)).bind fun t315 => (if x3.length + t315.length < 2513169434916 then (impl_AlarmsIn.l0 k (x3 ++ t315) x7 x8 (wrap64 (x9 + 1))) else (none))) else (none)) else (none)) else (some x3)
def impl_AlarmsIn.f (k : Nat) (a0_0 : Int) (a0_1 : Int) (l0_2 : List (S100)) : Option ((List (S43))) := impl_AlarmsIn.l0 k ([] : List (S43)) l0_2 (l0_2.length : Int) 0
theorem impl_AlarmsIn.mono_l : ∀ k, (∀ y0 y1 y2 y3, LeO (impl_AlarmsIn.l0 k y0 y1 y2 y3) (impl_AlarmsIn.l0 (k + 1) y0 y1 y2 y3))
 | 0 => fun _ _ _ _ r h => by simp [impl_AlarmsIn.l0] at h
 | k + 1 => by
  have ih0 := impl_AlarmsIn.mono_l k
  ·
   intro y0 y1 y2 y3
   unfold impl_AlarmsIn.l0
   repeat' first
   | (with_reducible exact ih0 _ _ _ _)
   | (with_reducible exact impl_copyAlarms.mono _ _)
   | (with_reducible exact LeO.refl _)
   | (with_reducible exact LeO.none _)
   | (with_reducible refine LeO.ite ?_ ?_)
   | (with_reducible refine LeO.bind ?_ (fun _ => ?_))
   | exact ih0 _ _ _ _
   | exact impl_copyAlarms.mono _ _
   | exact LeO.none _
   | refine LeO.ite ?_ ?_
   | refine LeO.bind ?_ (fun _ => ?_)
theorem impl_AlarmsIn.mono : ∀ a0 a1 a2 k, LeO (impl_AlarmsIn.f k a0 a1 a2) (impl_AlarmsIn.f (k + 1) a0 a1 a2) := by
 intro a0 a1 a2 k
 have ih0 := impl_AlarmsIn.mono_l k
 unfold impl_AlarmsIn.f
 repeat' first
   | (with_reducible exact ih0 _ _ _ _)
   | (with_reducible exact impl_copyAlarms.mono _ _)
   | (with_reducible exact LeO.refl _)
   | (with_reducible exact LeO.none _)
   | (with_reducible refine LeO.ite ?_ ?_)
   | (with_reducible refine LeO.bind ?_ (fun _ => ?_))
   | exact ih0 _ _ _ _
   | exact impl_copyAlarms.mono _ _
   | exact LeO.none _
   | refine LeO.ite ?_ ?_
   | refine LeO.bind ?_ (fun _ => ?_)
set_option maxHeartbeats 8000000 in
set_option maxRecDepth 100000 in
theorem impl_AlarmsIn.calls (k : Nat) (a0_0 : Int) (a0_1 : Int) (A0_2 : Option Addr) (c0_2 : Nat) (l0_2 : List (S100)) (r : List (S43)) (w : World) (hr0_2 : Kd.C k100 w A0_2 l0_2.length l0_2) (hc0_2 : l0_2.length ≤ c0_2) (h : impl_AlarmsIn.f k a0_0 a0_1 l0_2 = some r) :
  Calls Try.prog 93 #[.agg #[.int .i64 a0_0, .int .i64 a0_1, .slice A0_2 l0_2.length c0_2]] w fun e w' => ∃ v0_ : Value, e = .returned (v0_) ∧ Kd.S k43 43 w' w.heap.size (fun _ => True) v0_ r ∧ Below w.heap.size w w' := by
 have hu57 := Try.underlying57
 have hu100 := Try.underlying100
 have HR0_2 := Aside0.mk hr0_2
 have HC0_2 := Aside0.mk hc0_2
 clear hr0_2 hc0_2
 have HB := Aside0.mk (Below.refl w.heap.size w)
 have H : (impl_AlarmsIn.l0 k ([] : List (S43)) l0_2 (l0_2.length : Int) 0) = some r := h
 clear h
 have H' := Aside0.mk H
 clear H
 go_enter Try.func93, Try.ntmps93
 go_wp2_with (first | ((with_reducible refine gate_dst (N := 1) rfl ?_); refine box_event ?hg (N := 1) ?hd (cs := #[.int .i64 a0_0, .int .i64 a0_1, .slice A0_2 l0_2.length c0_2]) (t := 57) ?hr ?_; (case hd => rfl); (case hg => rfl); (case hr => first | (go_simp; done) | (go_simp; rfl)); intro gb312 hg w2 hbox hb; have n0_ := Aside0.mk (below_step (by repeat (first | (with_reducible first | exact HB.out | apply below_alloc | apply pw_below_drewN | apply below_drew1) | exact HB.out)) hb); have n1_ := Aside0.mk (hbox); have n2_ := Aside0.mk ((by rw [hg]; exact (below_size (by repeat (first | (with_reducible first | exact HB.out | apply below_alloc | apply pw_below_drewN | apply below_drew1) | exact HB.out))) : w.heap.size ≤ gb312)); have n3_ := Aside0.mk ((by rw [hg]; exact (below_size (by repeat (first | (with_reducible first | exact HB.out | apply below_alloc | apply pw_below_drewN | apply below_drew1) | exact HB.out))) : w.heap.size ≤ gb312)); clear HB; have HB := n0_; have BK312 := n1_; have GW312 := n2_; have GE312 := n3_; clear n0_ n1_ n2_ n3_; clear hb hbox hg; have hcz3_0 : w2.cell? ⟨gb312, 0, none⟩ = some (.int .i64 a0_0) := (blk_cell BK312.out 0).trans rfl; have hcz3_1 : w2.cell? ⟨gb312, 1, none⟩ = some (.int .i64 a0_1) := (blk_cell BK312.out 1).trans rfl; have hcz3_2 : w2.cell? ⟨gb312, 2, none⟩ = some (.slice A0_2 l0_2.length c0_2) := (blk_cell BK312.out 2).trans rfl; have hfz3_0 := blk_frozen BK312.out 0; have hfz3_1 := blk_frozen BK312.out 1; have hfz3_2 := blk_frozen BK312.out 2))
 go_loopg [3, 9] k (fun kq v3 v9 w' => ∃ (x3_1 : List (S43)) (x9_1 : Int), v9 = .int .i64 x9_1 ∧ Aside0 (impl_AlarmsIn.l0 kq x3_1 l0_2 (l0_2.length : Int) x9_1 = some r) ∧ Aside0 (kq ≤ k) ∧ Aside0 (Kd.S k43 43 w' w.heap.size (fun _ => True) v3 x3_1) ∧ Aside0 (w'.heap[gb312]? = some (.cells #[.int .i64 a0_0, .int .i64 a0_1, (.slice A0_2 l0_2.length c0_2)] 57 (0, 0))) ∧ Aside0 (Below w.heap.size w w'))
 case atStart => exact ⟨(([] : List (S43))), (0), (by first | rfl | (simp; done) | (simp [*]; done)), H', ⟨Nat.le_refl _⟩, ⟨by first | exact Kd.S_nil _ _ _ _ _ | exact Kd.N_nil _ _ _ _ _ | exact Kd.V_nil _ _ _ _ _ | exact Kd.Q_nil _ _ _ _ _ | exact Kd.R_nil _ _ _ _ _⟩, ⟨by (with_reducible repeat (first | refine blk_drewN ?_ _ | refine blk_drew ?_ | refine blk_alloc ?_ _)); exact BK312.out⟩, ⟨by repeat (first | (with_reducible first | exact HB.out | apply below_alloc | apply pw_below_drewN | apply below_drew1 | refine below_set ?_ GE312.out) | exact HB.out)⟩⟩
 case round =>
  clear H'
  try clear p2
  try clear hcz3_0
  try clear hcz3_1
  try clear hcz3_2
  try clear hfz3_0
  try clear hfz3_1
  try clear hfz3_2
  obtain ⟨x3_1, x9_1, rfl, HA, HK1, HO_3, BK312, HB⟩ := hrel
  cases gk with
  | zero => exact absurd HA.out (by simp [impl_AlarmsIn.l0])
  | succ k1 =>
   have H := HA.out
   clear HA
   simp only [impl_AlarmsIn.l0] at H
   by_cases c4 : x9_1 < (l0_2.length : Int)
   ·
    rw [if_pos c4] at H
    have c4b0 : decide (x9_1 < (l0_2.length : Int)) = true := decide_eq_true c4
    clear c4
    by_cases c5 : 0 ≤ x9_1
    ·
     rw [if_pos c5] at H
     have c5b0 : decide (0 ≤ x9_1) = true := decide_eq_true c5
     clear c5
     by_cases c6 : x9_1 < (l0_2.length : Int)
     ·
      rw [if_pos c6] at H
      have c6b0 : decide (x9_1 < (l0_2.length : Int)) = true := decide_eq_true c6
      clear c6
      replace H := Option.bind_eq_some_iff.mp H
      obtain ⟨t315, A70, H⟩ := H
      replace H : (if x3_1.length + t315.length < 2513169434916 then (impl_AlarmsIn.l0 k1 (x3_1 ++ t315) l0_2 (l0_2.length : Int) (wrap64 (x9_1 + 1))) else (none)) = some r := H
      have A7 := Aside0.mk A70
      clear A70
      by_cases c8 : x3_1.length + t315.length < 2513169434916
      ·
       rw [if_pos c8] at H
       have LMc8 := Aside0.mk c8
       clear c8
       obtain ⟨y318, hy318⟩ : ∃ y_ : List (S43), y_ = (x3_1 ++ t315) := ⟨_, rfl⟩
       replace H : (impl_AlarmsIn.l0 k1 y318 l0_2 (l0_2.length : Int) (wrap64 (x9_1 + 1))) = some r := by first | (rw [hy318]; with_reducible exact H) | (have H2_ := (Option.bind_some _ _).symm.trans H; rw [hy318]; with_reducible exact H2_) | (have H2_ := (Option.bind_some _ _).symm.trans H; with_reducible exact H2_) | with_reducible exact H | (rw [hy318]; exact H) | exact H
       have Ny318 := Aside0.mk hy318
       clear hy318
       have H' := Aside0.mk H
       clear H
       have p313 : 0 ≤ (x9_1 : Int) := of_decide_eq_true (by first | (with_reducible assumption) | assumption)
       have q313 : x9_1 < (l0_2.length : Int) := of_decide_eq_true (by first | (with_reducible assumption) | assumption)
       obtain ⟨ad313, A313_1, c313_1, e313, hx313_0, hx313_1, hl313_1, hi313_1⟩ := at_T100 HR0_2.out x9_1 p313 q313
       cases e313
       replace hx313_0 := (HB.out.cell (World.block_lt_of_cell? w _ hx313_0)).trans hx313_0
       replace hx313_1 := (HB.out.cell (World.block_lt_of_cell? w _ hx313_1)).trans hx313_1
       have HR313_1 := Aside0.mk hi313_1
       have HC313_1 := Aside0.mk hl313_1
       clear hi313_1 hl313_1
       replace p313 := eq_true p313
       replace q313 := eq_true q313
       go_wp2_with (first | ((with_reducible refine gate_dst (N := 5) rfl ?_); refine box_event ?hg (N := 5) ?hd (cs := #[.int .i64 0, .slice none 0 0]) (t := 100) ?hr ?_; (case hd => rfl); (case hg => rfl); (case hr => first | (go_simp; done) | (go_simp; rfl)); intro gb314 hg w9 hbox hb; have n0_ := Aside0.mk (Kd.S_below (by (with_reducible repeat (first | apply Kd.S_alloc | apply Kd.S_drewN | apply Kd.S_drew)); exact HO_3.out) hb); have n1_ := Aside0.mk (blk_below (g := gb312) (o := .cells #[.int .i64 a0_0, .int .i64 a0_1, .slice (some ad313) l0_2.length c0_2] 57 (0, 0)) (by (with_reducible repeat (first | refine blk_drewN ?_ _ | refine blk_drew ?_ | refine blk_alloc ?_ _)); exact BK312.out) hb); have n2_ := Aside0.mk (below_step (by repeat (first | (with_reducible first | exact HB.out | apply below_alloc | apply pw_below_drewN | apply below_drew1 | refine below_set ?_ GE312.out) | exact HB.out)) hb); have n3_ := Aside0.mk (hbox); have n4_ := Aside0.mk ((by rw [hg]; exact (below_size (by repeat (first | (with_reducible first | exact HB.out | apply below_alloc | apply pw_below_drewN | apply below_drew1 | refine below_set ?_ GE312.out) | exact HB.out))) : w.heap.size ≤ gb314)); have n5_ := Aside0.mk ((by rw [hg]; exact (below_size (by repeat (first | (with_reducible first | exact HB.out | apply below_alloc | apply pw_below_drewN | apply below_drew1 | refine below_set ?_ GE312.out) | exact HB.out))) : w.heap.size ≤ gb314)); have n6_ := Aside0.mk ((by rw [hg]; exact Nat.ne_of_lt (blk_lt (g := gb312) (o := .cells #[.int .i64 a0_0, .int .i64 a0_1, .slice (some ad313) l0_2.length c0_2] 57 (0, 0)) (by (with_reducible repeat (first | refine blk_drewN ?_ _ | refine blk_drew ?_ | refine blk_alloc ?_ _)); exact BK312.out)) : gb312 ≠ gb314)); have n7_ := Aside0.mk ((by rw [hg]; exact Nat.ne_of_gt (blk_lt (g := gb312) (o := .cells #[.int .i64 a0_0, .int .i64 a0_1, .slice (some ad313) l0_2.length c0_2] 57 (0, 0)) (by (with_reducible repeat (first | refine blk_drewN ?_ _ | refine blk_drew ?_ | refine blk_alloc ?_ _)); exact BK312.out)) : gb314 ≠ gb312)); clear HO_3; clear BK312; clear HB; have HO_3 := n0_; have BK312 := n1_; have HB := n2_; have BK314 := n3_; have GW314 := n4_; have GE314 := n5_; have NB312_314 := n6_; have NB314_312 := n7_; clear n0_ n1_ n2_ n3_ n4_ n5_ n6_ n7_; clear hb hbox hg; have hnb10 := NB314_312.out; have hnc10 := NB312_314.out; have hcz11_0 : w9.cell? ⟨gb314, 0, none⟩ = some (.int .i64 0) := (blk_cell BK314.out 0).trans rfl; have hcz11_1 : w9.cell? ⟨gb314, 1, none⟩ = some (.slice none 0 0) := (blk_cell BK314.out 1).trans rfl; have hfz11_0 := blk_frozen BK314.out 0; have hfz11_1 := blk_frozen BK314.out 1) | ((with_reducible refine gate_callee (f := 114) rfl ?_); refine goesL_ (some 16) rfl rfl Try.func114 (by kernel_rfl) rfl #[.slice A313_1 ((rd_T100 l0_2 x9_1).f1).length c313_1] rfl (by (try simp only [List.map_toArray, List.map_cons, List.map_nil]); first | done | rfl | (simp only [List.length_drop, List.length_take]; rfl)) ?_; (with_reducible refine (impl_copyAlarms.calls k1 _ _ ((rd_T100 l0_2 x9_1).f1) t315 _ ?side1 ?side2 A7.out).mono ?_); (case side1 => exact Kd.C_below HR313_1.out (by repeat (first | (with_reducible first | exact HB.out | apply below_alloc | apply pw_below_drewN | apply below_drew1 | refine below_set ?_ GE312.out | refine below_set ?_ GE314.out) | exact HB.out))); (case side2 => exact HC313_1.out); rintro e w12 ⟨v316, rfl, ho0, hb⟩; refine ⟨_, rfl, ?_⟩; obtain ⟨gbz316, hz316⟩ := Kd.S_name ho0; have n0_ := Aside0.mk (Kd.S_below (Kd.S_ltz hz316 (by (with_reducible repeat (first | apply Kd.S_alloc | apply Kd.S_drewN | apply Kd.S_drew)); exact (Kd.S_mono (Kd.S_far (p := ⟨gb314, 1, none⟩) (Kd.S_far (p := ⟨gb314, 0, none⟩) (Kd.S_types HO_3.out BK314.out (by decide)) (fun _ hk => hk.2) (.int .i64 ((rd_T100 l0_2 x9_1).f0))) (fun _ hk => hk.2) (.slice A313_1 ((rd_T100 l0_2 x9_1).f1).length c313_1)) (fun _ h_ => h_.1)))) hb); have n1_ := Aside0.mk (Kd.S_lower (Kd.S_gez hz316 ho0) (below_size (by repeat (first | (with_reducible first | exact HB.out | apply below_alloc | apply pw_below_drewN | apply below_drew1 | refine below_set ?_ GE312.out | refine below_set ?_ GE314.out) | exact HB.out)))); have n2_ := Aside0.mk (blk_below (g := gb312) (o := .cells #[.int .i64 a0_0, .int .i64 a0_1, .slice (some ad313) l0_2.length c0_2] 57 (0, 0)) (by (with_reducible repeat (first | refine blk_drewN ?_ _ | refine blk_drew ?_ | refine blk_alloc ?_ _)); refine blk_far ?_ NB312_314.out _; (with_reducible repeat (first | refine blk_drewN ?_ _ | refine blk_drew ?_ | refine blk_alloc ?_ _)); refine blk_far ?_ NB312_314.out _; (with_reducible repeat (first | refine blk_drewN ?_ _ | refine blk_drew ?_ | refine blk_alloc ?_ _)); exact BK312.out) hb); have n3_ := Aside0.mk (blk_below (g := gb314) (o := .cells #[.int .i64 ((rd_T100 l0_2 x9_1).f0), .slice A313_1 ((rd_T100 l0_2 x9_1).f1).length c313_1] 100 (0, 0)) (by (with_reducible repeat (first | refine blk_drewN ?_ _ | refine blk_drew ?_ | refine blk_alloc ?_ _)); refine blk_put (cs := #[.int .i64 ((rd_T100 l0_2 x9_1).f0), .slice none 0 0]) ?_ 1 _ rfl; (with_reducible repeat (first | refine blk_drewN ?_ _ | refine blk_drew ?_ | refine blk_alloc ?_ _)); refine blk_put (cs := #[.int .i64 0, .slice none 0 0]) ?_ 0 _ rfl; (with_reducible repeat (first | refine blk_drewN ?_ _ | refine blk_drew ?_ | refine blk_alloc ?_ _)); exact BK314.out) hb); have n4_ := Aside0.mk (below_step (by repeat (first | (with_reducible first | exact HB.out | apply below_alloc | apply pw_below_drewN | apply below_drew1 | refine below_set ?_ GE312.out | refine below_set ?_ GE314.out) | exact HB.out)) hb); clear HO_3; clear BK312; clear BK314; clear HB; have HO_3 := n0_; have HO317 := n1_; have BK312 := n2_; have BK314 := n3_; have HB := n4_; clear n0_ n1_ n2_ n3_ n4_; (try clear hb); (try clear hb2); (try clear hk); (try clear hi); (try clear ho0); obtain ⟨Ao14, co14, eo14⟩ := Kd.S_slice HO317.out; subst eo14; obtain ⟨PXP15, hPXP15, hPlP15⟩ := Kd.S_fp ((Kd.S_mono HO317.out (fun k_ hk => (⟨hk, fun ez_ => Nat.lt_irrefl _ (Nat.lt_of_lt_of_le ((Kd.S_R HO_3.out).1 _ ez_.symm).2 hk.2)⟩ : _ ∧ some k_ ≠ (u3 : Value).ownBlock))))) | ((with_reducible refine gate_builtin (b := .append) (xs := #[.tmp 13, .tmp 16]) rfl ?_); at_builtin; refine Kd.S_append_rows k43 (w0 := w) w.heap.size rfl (.tmp 13) (.tmp 16) 44 43 (.agg #[(.slice none 0 0), (.int .i64 0), (.int .i64 0), (.string ⟨#[]⟩)]) 56 rfl Try.underlying44 info43 rfl (by decide) (by omega) u3 x3_1 t315 _ _ _ (fun _ => True) PXP15 rfl rfl ?aR (fun k_ hk_ => ⟨trivial, (hPlP15 k_ hk_).1.2⟩) ?aF ?aO ?aB ?aS ?aL ?_; (case aR => exact hPXP15); (case aB => exact (by repeat (first | (with_reducible first | exact HB.out | apply below_alloc | apply pw_below_drewN | apply below_drew1 | refine below_set ?_ GE312.out | refine below_set ?_ GE314.out) | exact HB.out))); (case aF => exact (fun _ _ => trivial)); (case aO => exact (by (with_reducible repeat (first | apply Kd.S_alloc | apply Kd.S_drewN | apply Kd.S_drew)); exact Kd.S_mono HO_3.out (fun k_ hk => ⟨trivial, fun e_ => (fun ez_ => Nat.lt_irrefl _ (Nat.lt_of_lt_of_le hk.2 (hPlP15 _ ez_).1.1.2)) e_⟩))); (case aS => exact (below_size (by repeat (first | (with_reducible first | exact HB.out | apply below_alloc | apply pw_below_drewN | apply below_drew1 | refine below_set ?_ GE312.out | refine below_set ?_ GE314.out) | exact HB.out)))); (case aL => have := LMc8.out; omega); intro v319 w13 ho hb hg hat; rw [← Ny318.out] at ho; have n0_ := Aside0.mk (blk_grown (g := gb312) (o := .cells #[.int .i64 a0_0, .int .i64 a0_1, .slice (some ad313) l0_2.length c0_2] 57 (0, 0)) (by (with_reducible repeat (first | refine blk_drewN ?_ _ | refine blk_drew ?_ | refine blk_alloc ?_ _)); exact BK312.out) hg (Kd.S_ne HO_3.out BK312.out (by decide))); have n1_ := Aside0.mk (blk_grown (g := gb314) (o := .cells #[.int .i64 ((rd_T100 l0_2 x9_1).f0), .slice A313_1 ((rd_T100 l0_2 x9_1).f1).length c313_1] 100 (0, 0)) (by (with_reducible repeat (first | refine blk_drewN ?_ _ | refine blk_drew ?_ | refine blk_alloc ?_ _)); exact BK314.out) hg (Kd.S_ne HO_3.out BK314.out (by decide))); have n2_ := Aside0.mk (hb); have n3_ := Aside0.mk (ho); clear BK312; clear BK314; clear HB; clear HO_3; clear HO317; have BK312 := n0_; have BK314 := n1_; have HB := n2_; have HO320 := n3_; clear n0_ n1_ n2_ n3_; clear ho hb hg hat))
       go_roundg k1
       case measure => have := HK1.out; omega
       case rel => exact ⟨(y318), (wrap64 (x9_1 + 1)), (by first | rfl | (simp; done) | (simp [*]; done)), H', ⟨by have := HK1.out; omega⟩, ⟨by (with_reducible repeat (first | apply Kd.S_alloc | apply Kd.S_drewN | apply Kd.S_drew)); exact HO320.out⟩, ⟨by (with_reducible repeat (first | refine blk_drewN ?_ _ | refine blk_drew ?_ | refine blk_alloc ?_ _)); exact BK312.out⟩, ⟨by repeat (first | (with_reducible first | exact HB.out | apply below_alloc | apply pw_below_drewN | apply below_drew1 | refine below_set ?_ GE312.out | refine below_set ?_ GE314.out) | exact HB.out)⟩⟩
      ·
       rw [if_neg c8] at H
       exact absurd H (by simp)
     ·
      rw [if_neg c6] at H
      exact absurd H (by simp)
    ·
     rw [if_neg c5] at H
     exact absurd H (by simp)
   ·
    rw [if_neg c4] at H
    have c4b0 : decide (x9_1 < (l0_2.length : Int)) = false := decide_eq_false c4
    clear c4
    obtain rfl := Option.some.inj H
    go_wp2
    go_ret
    exact ⟨_, by first | rfl | (simp [errW_none, errW_some] <;> rfl) | (simp [*, errW_none, errW_some] <;> rfl), by (with_reducible repeat (first | apply Kd.S_alloc | apply Kd.S_drewN | apply Kd.S_drew)); exact HO_3.out, by repeat (first | (with_reducible first | exact HB.out | apply below_alloc | apply pw_below_drewN | apply below_drew1 | refine below_set ?_ GE312.out) | exact HB.out)⟩

end Go.Proofs.Yticgekgojgkbgaa.Print
end
section
namespace Go.Proofs.Yticgekgojgkbgaa.Stable
open Go.Sort
variable {α : Type} [Inhabited α]

theorem ext_get2 {a b : Array α} (hs : a.size = b.size) (h : ∀ t, t < a.size → a[t]! = b[t]!) : a = b :=
  Array.ext hs fun t h1 h2 => by have := h t h1; rwa [getElem!_pos a t h1, getElem!_pos b t h2] at this

def ri (a m b t : Nat) : Nat := if a ≤ t ∧ t < a + (b - m) then t - a + m else if a + (b - m) ≤ t ∧ t < b then t - (b - m) else t
def rot (d : Array α) (a m b : Nat) : Array α := (Array.range d.size).map fun t => d[ri a m b t]!
@[simp] theorem size_rot (d : Array α) (a m b : Nat) : (rot d a m b).size = d.size := by simp [rot]
theorem get_rot (d : Array α) (a m b t : Nat) (h : t < d.size) : (rot d a m b)[t]! = d[ri a m b t]! := by simp [rot, h]
theorem get_rot_out (d : Array α) (a m b t : Nat) (ham : a ≤ m) (hmb : m ≤ b) (h : t < a ∨ b ≤ t) : (rot d a m b)[t]! = d[t]! := by
  by_cases ht : t < d.size
  · rw [get_rot d a m b t ht]; unfold ri; rw [if_neg (by omega), if_neg (by omega)]
  · rw [getElem!_neg _ t (by simpa using ht), getElem!_neg d t ht]

def swr (d : Array α) (a b : Nat) : Nat → Array α
  | 0 => d
  | n + 1 => swp (swr d a b n) (a + n) (b + n)
@[simp] theorem size_swr (d : Array α) (a b : Nat) : ∀ n, (swr d a b n).size = d.size
  | 0 => rfl
  | n + 1 => by rw [swr, size_swp, size_swr d a b n]
theorem get_swr (d : Array α) (a b t : Nat) : ∀ n, a + n ≤ b → b + n ≤ d.size → (swr d a b n)[t]! = if a ≤ t ∧ t < a + n then d[t - a + b]! else if b ≤ t ∧ t < b + n then d[t - b + a]! else d[t]!
  | 0, _, _ => by rw [swr, if_neg (by omega), if_neg (by omega)]
  | n + 1, h1, h2 => by
    rw [swr, swp_get _ (by simp; omega) (by simp; omega), get_swr d a b (a + n) n (by omega) (by omega), get_swr d a b (b + n) n (by omega) (by omega), get_swr d a b t n (by omega) (by omega)]
    rw [if_neg (show ¬ (a ≤ a + n ∧ a + n < a + n) by omega), if_neg (show ¬ (b ≤ a + n ∧ a + n < b + n) by omega), if_neg (show ¬ (a ≤ b + n ∧ b + n < a + n) by omega), if_neg (show ¬ (b ≤ b + n ∧ b + n < b + n) by omega)]
    by_cases c1 : t = b + n
    · subst c1
      rw [if_pos rfl, if_neg (show ¬ (a ≤ b + n ∧ b + n < a + (n + 1)) by omega), if_pos (show b ≤ b + n ∧ b + n < b + (n + 1) by omega)]
      congr 1; omega
    · rw [if_neg c1]
      by_cases c2 : t = a + n
      · subst c2
        rw [if_pos rfl, if_pos (show a ≤ a + n ∧ a + n < a + (n + 1) by omega)]
        congr 1; omega
      · rw [if_neg c2]
        by_cases c3 : a ≤ t ∧ t < a + n
        · rw [if_pos c3, if_pos (show a ≤ t ∧ t < a + (n + 1) by omega)]
        · rw [if_neg c3, if_neg (show ¬ (a ≤ t ∧ t < a + (n + 1)) by omega)]
          by_cases c4 : b ≤ t ∧ t < b + n
          · rw [if_pos c4, if_pos (show b ≤ t ∧ t < b + (n + 1) by omega)]
          · rw [if_neg c4, if_neg (show ¬ (b ≤ t ∧ t < b + (n + 1)) by omega)]

def si (a b n t : Nat) : Nat := if a ≤ t ∧ t < a + n then t - a + b else if b ≤ t ∧ t < b + n then t - b + a else t
theorem get_swr' (d : Array α) (a b t n : Nat) (h1 : a + n ≤ b) (h2 : b + n ≤ d.size) : (swr d a b n)[t]! = d[si a b n t]! := by
  rw [get_swr d a b t n h1 h2]; unfold si
  split
  · rfl
  · split <;> rfl
theorem swr_rot_gt (d : Array α) (m i j : Nat) (hj : 0 < j) (hij : j < i) (him : i ≤ m) (hs : m + j ≤ d.size) : rot (swr d (m - i) m j) (m - (i - j)) m (m + j) = rot d (m - i) m (m + j) := by
  refine ext_get2 (by simp) fun t ht => ?_
  simp only [size_rot, size_swr] at ht
  rw [get_rot _ _ _ _ t (by simpa using ht), get_rot _ _ _ _ t ht, get_swr' d _ _ _ j (by omega) hs]
  congr 1; unfold si ri
  (repeat' split) <;> omega

theorem swr_rot_lt (d : Array α) (m i j : Nat) (hi : 0 < i) (hij : i < j) (him : i ≤ m) (hs : m + j ≤ d.size) : rot (swr d (m - i) (m + j - i) i) (m - i) m (m + (j - i)) = rot d (m - i) m (m + j) := by
  refine ext_get2 (by simp) fun t ht => ?_
  simp only [size_rot, size_swr] at ht
  rw [get_rot _ _ _ _ t (by simpa using ht), get_rot _ _ _ _ t ht, get_swr' d _ _ _ i (by omega) (by omega)]
  congr 1; unfold si ri
  (repeat' split) <;> omega

theorem swr_rot_eq (d : Array α) (m i : Nat) (him : i ≤ m) (hs : m + i ≤ d.size) : swr d (m - i) m i = rot d (m - i) m (m + i) := by
  refine ext_get2 (by simp) fun t ht => ?_
  simp only [size_swr] at ht
  rw [get_rot _ _ _ _ t ht, get_swr' d _ _ _ i (by omega) hs]
  congr 1; unfold si ri
  (repeat' split) <;> omega

theorem rot_self (d : Array α) (a m : Nat) : rot d a m m = d := by
  refine ext_get2 (by simp) fun t ht => ?_
  simp only [size_rot] at ht
  rw [get_rot _ _ _ _ t ht]; unfold ri
  rw [if_neg (by omega)]
  split
  · congr 1; omega
  · rfl
theorem rot_self2 (d : Array α) (m b : Nat) : rot d m m b = d := by
  refine ext_get2 (by simp) fun t ht => ?_
  simp only [size_rot] at ht
  rw [get_rot _ _ _ _ t ht]; unfold ri
  split
  · congr 1; omega
  · rw [if_neg (by omega)]
theorem rot_up (d : Array α) (a k : Nat) (hak : a ≤ k) (hk : k + 1 < d.size) : swp (rot d a (a + 1) (k + 1)) k (k + 1) = rot d a (a + 1) (k + 2) := by
  refine ext_get2 (by simp [size_swp]) fun t ht => ?_
  simp only [size_swp, size_rot] at ht
  rw [swp_get _ (by simp; omega) (by simp; omega), get_rot _ _ _ _ _ (by omega), get_rot _ _ _ _ _ hk, get_rot _ _ _ _ t ht, get_rot _ _ _ _ t ht]
  unfold ri
  by_cases c1 : t = k + 1
  · subst c1; rw [if_pos rfl]; congr 1; repeat' split
    all_goals omega
  · rw [if_neg c1]
    by_cases c2 : t = k
    · subst c2; rw [if_pos rfl]; congr 1; repeat' split
      all_goals omega
    · rw [if_neg c2]; congr 1; repeat' split
      all_goals omega
theorem rot_down (d : Array α) (k m : Nat) (hk : 0 < k) (hkm : k ≤ m) (hm : m < d.size) : swp (rot d k m (m + 1)) k (k - 1) = rot d (k - 1) m (m + 1) := by
  refine ext_get2 (by simp [size_swp]) fun t ht => ?_
  simp only [size_swp, size_rot] at ht
  rw [swp_get _ (by simp; omega) (by simp; omega), get_rot _ _ _ _ _ (by omega), get_rot _ _ _ _ _ (by omega), get_rot _ _ _ _ t ht, get_rot _ _ _ _ t ht]
  unfold ri
  by_cases c1 : t = k - 1
  · subst c1; rw [if_pos rfl]; congr 1; repeat' split
    all_goals omega
  · rw [if_neg c1]
    by_cases c2 : t = k
    · subst c2; rw [if_pos rfl]; congr 1; repeat' split
      all_goals omega
    · rw [if_neg c2]; congr 1; repeat' split
      all_goals omega

def bs (q : Nat → Bool) (i j : Nat) : Nat := if i < j then (if q ((i + j) / 2) then bs q ((i + j) / 2 + 1) j else bs q i ((i + j) / 2)) else i
termination_by j - i
decreasing_by all_goals omega
theorem bs_spec (q : Nat → Bool) (I J : Nat) (hq : ∀ h k, I ≤ h → h < k → k < J → q k = true → q h = true) : ∀ (n i j : Nat), j - i ≤ n → I ≤ i → i ≤ j → j ≤ J → (∀ k, I ≤ k → k < i → q k = true) → (∀ k, j ≤ k → k < J → q k = false) →
    i ≤ bs q i j ∧ bs q i j ≤ j ∧ (∀ k, I ≤ k → k < bs q i j → q k = true) ∧ (∀ k, bs q i j ≤ k → k < J → q k = false)
  | n, i, j, hn, hI, hij, hJ, h1, h2 => by
    rw [bs]
    split
    · rename_i hlt
      cases n with
      | zero => omega
      | succ n =>
        split
        · rename_i hh
          have r := bs_spec q I J hq n ((i + j) / 2 + 1) j (by omega) (by omega) (by omega) hJ (fun k a b => by
            by_cases e : k = (i + j) / 2
            · rw [e]; exact hh
            · exact hq k ((i + j) / 2) a (by omega) (by omega) hh) h2
          exact ⟨by omega, r.2.1, r.2.2⟩
        · rename_i hh
          have hh : q ((i + j) / 2) = false := by simpa using hh
          have r := bs_spec q I J hq n i ((i + j) / 2) (by omega) hI (by omega) (by omega) h1 (fun k a b => by
            by_cases e : k = (i + j) / 2
            · rw [e]; exact hh
            · cases hk : q k with
              | false => rfl
              | true => rw [hq ((i + j) / 2) k (by omega) (by omega) b hk] at hh; exact absurd hh (by simp))
          exact ⟨r.1, by omega, r.2.2⟩
    · obtain rfl : i = j := by omega
      exact ⟨Nat.le_refl _, Nat.le_refl _, h1, h2⟩
theorem bs_of (q : Nat → Bool) (I J : Nat) (hIJ : I ≤ J) (hq : ∀ h k, I ≤ h → h < k → k < J → q k = true → q h = true) :
    I ≤ bs q I J ∧ bs q I J ≤ J ∧ (∀ k, I ≤ k → k < bs q I J → q k = true) ∧ (∀ k, bs q I J ≤ k → k < J → q k = false) :=
  bs_spec q I J hq (J - I) I J (Nat.le_refl _) (Nat.le_refl _) hIJ (Nat.le_refl _) (fun _ _ _ => by omega) (fun _ _ _ => by omega)
section
variable (lt : α → α → Bool)
def sm : Nat → Array α → Nat → Nat → Nat → Array α
  | 0, d, _, _, _ => d
  | f + 1, d, a, m, b =>
    if m - a = 1 then rot d a m (bs (fun h => lt d[h]! d[a]!) m b)
    else if b - m = 1 then rot d (bs (fun h => !lt d[m]! d[h]!) a m) m b
    else
      let mid := (a + b) / 2
      let n := mid + m
      let s := bs (fun c => !lt d[n - 1 - c]! d[c]!) (if mid < m then n - b else a) (if mid < m then mid else m)
      let e := n - s
      let d1 := if s < m ∧ m < e then rot d s m e else d
      let d2 := if a < s ∧ s < mid then sm f d1 a s mid else d1
      if mid < e ∧ e < b then sm f d2 mid e b else d2
def stBlocks (n a : Nat) (d : Array α) : Array α := if a + 20 ≤ n then stBlocks n (a + 20) (insertionSort lt d a (a + 20)) else insertionSort lt d a n
termination_by n - a
def stPass (n s a : Nat) (d : Array α) : Array α := if 0 < s ∧ a + 2 * s ≤ n then stPass n s (a + 2 * s) (sm lt (2 * s) d a (a + s) (a + 2 * s)) else if a + s < n then sm lt (n - a) d a (a + s) n else d
termination_by n - a
decreasing_by omega
def stOuter (n s : Nat) (d : Array α) : Array α := if 0 < s ∧ s < n then stOuter n (2 * s) (stPass lt n s 0 d) else d
termination_by n - s
decreasing_by omega
def stable (d : Array α) (n : Nat) : Array α := stOuter lt n 20 (stBlocks lt n 0 d)
end

def eqv (lt : α → α → Bool) (c x : α) : Bool := !lt c x && !lt x c
def St (lt : α → α → Bool) (l l' : List α) : Prop := ∀ c, l'.filter (eqv lt c) = l.filter (eqv lt c)
section
variable {lt : α → α → Bool}
omit [Inhabited α] in
theorem St.refl (l : List α) : St lt l l := fun _ => rfl
omit [Inhabited α] in
theorem St.trans {a b c : List α} (h : St lt a b) (g : St lt b c) : St lt a c := fun x => (g x).trans (h x)
omit [Inhabited α] in
theorem St.append {a b c d : List α} (h : St lt a b) (g : St lt c d) : St lt (a ++ c) (b ++ d) := fun x => by rw [List.filter_append, List.filter_append, h x, g x]
omit [Inhabited α] in
theorem St.mem (hS : SWO lt) {a b : List α} (h : St lt a b) (x : α) : x ∈ b ↔ x ∈ a := by
  have e : eqv lt x x = true := by simp [eqv, hS.irrefl]
  have k : ∀ l : List α, x ∈ l ↔ x ∈ l.filter (eqv lt x) := fun l => by simp [List.mem_filter, e]
  rw [k b, k a, h x]
omit [Inhabited α] in
theorem eqv_no (hS : SWO lt) {c x y : α} (h : lt y x = true) (hx : eqv lt c x = true) : eqv lt c y = false := by
  simp only [eqv, Bool.and_eq_true, Bool.not_eq_true'] at hx
  cases hy : eqv lt c y with
  | false => rfl
  | true =>
    simp only [eqv, Bool.and_eq_true, Bool.not_eq_true'] at hy
    have := hS.ntrans _ _ _ hy.2 hx.1
    rw [h] at this; cases this
omit [Inhabited α] in
theorem St.swap (hS : SWO lt) (u v : List α) (h : ∀ x ∈ u, ∀ y ∈ v, lt y x = true) : St lt (u ++ v) (v ++ u) := fun c => by
  rw [List.filter_append, List.filter_append]
  by_cases hu : u.filter (eqv lt c) = []
  · rw [hu]; simp
  · obtain ⟨x, hx⟩ := List.exists_mem_of_ne_nil _ hu
    rw [List.mem_filter] at hx
    have : v.filter (eqv lt c) = [] := by
      rw [List.filter_eq_nil_iff]
      intro y hy
      rw [eqv_no hS (h x hx.1 y hy) hx.2]; simp
    rw [this]; simp

def seg (d : Array α) (a b : Nat) : List α := (List.range' a (b - a)).map (d[·]!)
theorem seg_append (d : Array α) {a b c : Nat} (h1 : a ≤ b) (h2 : b ≤ c) : seg d a b ++ seg d b c = seg d a c := by
  unfold seg; rw [← List.map_append]
  congr 1
  have h := @List.range'_append_1 a (b - a) (c - b)
  rw [show a + (b - a) = b by omega, show (b - a) + (c - b) = c - a by omega] at h
  exact h
theorem seg_congr {d d' : Array α} {a b : Nat} (h : ∀ t, a ≤ t → t < b → d'[t]! = d[t]!) : seg d' a b = seg d a b := by
  unfold seg
  refine List.map_congr_left fun t ht => ?_
  have := List.mem_range'_1.1 ht
  exact h t this.1 (by omega)
theorem seg_shift {d d' : Array α} {x y n : Nat} (h : ∀ t, t < n → d'[x + t]! = d[y + t]!) : seg d' x (x + n) = seg d y (y + n) := by
  unfold seg
  rw [show x + n - x = n by omega, show y + n - y = n by omega, List.range'_eq_map_range, List.range'_eq_map_range, List.map_map, List.map_map]
  exact List.map_congr_left fun t ht => h t (List.mem_range.1 ht)
theorem mem_seg {d : Array α} {a b : Nat} {x : α} : x ∈ seg d a b ↔ ∃ t, a ≤ t ∧ t < b ∧ d[t]! = x := by
  unfold seg
  rw [List.mem_map]
  constructor
  · rintro ⟨t, ht, rfl⟩; have := List.mem_range'_1.1 ht; exact ⟨t, this.1, by omega, rfl⟩
  · rintro ⟨t, h1, h2, rfl⟩; exact ⟨t, List.mem_range'_1.2 ⟨h1, by omega⟩, rfl⟩
theorem seg_rot (d : Array α) {a m b : Nat} (h1 : a ≤ m) (h2 : m ≤ b) (hb : b ≤ d.size) : seg (rot d a m b) a b = seg d m b ++ seg d a m := by
  rw [← seg_append (rot d a m b) (show a ≤ a + (b - m) by omega) (show a + (b - m) ≤ b by omega)]
  congr 1
  · have := seg_shift (d := d) (d' := rot d a m b) (x := a) (y := m) (n := b - m) (fun t ht => by
      rw [get_rot _ _ _ _ _ (by omega)]; unfold ri; rw [if_pos (by omega)]; congr 1; omega)
    rw [this, show m + (b - m) = b by omega]
  · have := seg_shift (d := d) (d' := rot d a m b) (x := a + (b - m)) (y := a) (n := m - a) (fun t ht => by
      rw [get_rot _ _ _ _ _ (by omega)]; unfold ri; rw [if_neg (by omega), if_pos (by omega)]; congr 1; omega)
    rw [show a + (b - m) + (m - a) = b by omega, show a + (m - a) = m by omega] at this
    exact this

structure Mg (lt : α → α → Bool) (a b : Nat) (d d' : Array α) : Prop where
  size : d'.size = d.size
  out : ∀ t, t < a ∨ b ≤ t → d'[t]! = d[t]!
  sorted : SortedIn lt a b d'
  st : St lt (seg d a b) (seg d' a b)
theorem Mg.id {a b : Nat} {d : Array α} (h : SortedIn lt a b d) : Mg lt a b d d := ⟨rfl, fun _ _ => rfl, h, St.refl _⟩
theorem Mg.mem (hS : SWO lt) {a b : Nat} {d d' : Array α} (h : Mg lt a b d d') {p : Nat} (h1 : a ≤ p) (h2 : p < b) : ∃ t, a ≤ t ∧ t < b ∧ d[t]! = d'[p]! :=
  mem_seg.1 ((h.st.mem hS _).1 (mem_seg.2 ⟨p, h1, h2, rfl⟩))

theorem St.rot (hS : SWO lt) {d : Array α} {a s m e b : Nat} (h1 : a ≤ s) (h2 : s ≤ m) (h3 : m ≤ e) (h4 : e ≤ b) (hb : b ≤ d.size) (hc : ∀ i j, s ≤ i → i < m → m ≤ j → j < e → lt d[j]! d[i]! = true) :
    St lt (seg d a b) (seg (rot d s m e) a b) := by
  rw [← seg_append d (show a ≤ s from h1) (show s ≤ b by omega), ← seg_append d (show s ≤ e by omega) h4, ← seg_append d h2 h3,
    ← seg_append (Stable.rot d s m e) (show a ≤ s from h1) (show s ≤ b by omega), ← seg_append (Stable.rot d s m e) (show s ≤ e by omega) h4, seg_rot d h2 h3 (by omega),
    seg_congr (d := d) (d' := Stable.rot d s m e) (a := a) (b := s) (fun t _ ht => get_rot_out _ _ _ _ _ h2 h3 (Or.inl ht)), seg_congr (d := d) (d' := Stable.rot d s m e) (a := e) (b := b) (fun t ht _ => get_rot_out _ _ _ _ _ h2 h3 (Or.inr ht))]
  refine (St.refl _).append ((St.swap hS _ _ ?_).append (St.refl _))
  intro x hx y hy
  obtain ⟨i, i1, i2, rfl⟩ := mem_seg.1 hx
  obtain ⟨j, j1, j2, rfl⟩ := mem_seg.1 hy
  exact hc i j i1 i2 j1 j2

theorem sorted_rot (hS : SWO lt) {d : Array α} {a s m e b : Nat} (h1 : a ≤ s) (h2 : s ≤ m) (h3 : m ≤ e) (h4 : e ≤ b) (hb : b ≤ d.size) (hu : SortedIn lt a m d) (hv : SortedIn lt m b d)
    (hc : ∀ i j, s ≤ i → i < m → m ≤ j → j < e → lt d[j]! d[i]! = true) (g1 : ∀ i j, a ≤ i → i < s → m ≤ j → j < b → lt d[j]! d[i]! = false) (g2 : ∀ i j, s ≤ i → i < m → e ≤ j → j < b → lt d[j]! d[i]! = false) :
    SortedIn lt a b (rot d s m e) := by
  intro p q hp hpq hq
  rw [get_rot _ _ _ _ _ (by omega), get_rot _ _ _ _ _ (by omega)]
  unfold ri
  split
  · split
    · exact hv _ _ (by omega) (by omega) (by omega)
    · split
      · omega
      · exact g1 _ _ (by omega) (by omega) (by omega) (by omega)
  · split
    · split
      · exact hS.asymmA (hc _ _ (by omega) (by omega) (by omega) (by omega))
      · split
        · exact hu _ _ (by omega) (by omega) (by omega)
        · exact hu _ _ (by omega) (by omega) (by omega)
    · split
      · exact hv _ _ (by omega) (by omega) (by omega)
      · split
        · exact g2 _ _ (by omega) (by omega) (by omega) (by omega)
        · by_cases c : q < s
          · exact hu _ _ (by omega) (by omega) (by omega)
          · by_cases c' : p < s
            · exact g1 _ _ (by omega) (by omega) (by omega) (by omega)
            · exact hv _ _ (by omega) (by omega) (by omega)

theorem SortedIn.le (hS : SWO lt) {a b : Nat} {d : Array α} (h : SortedIn lt a b d) {i j : Nat} (h1 : a ≤ i) (h2 : i ≤ j) (h3 : j < b) : lt d[j]! d[i]! = false := by
  by_cases e : i = j
  · subst e; exact hS.irrefl _
  · exact h i j h1 (by omega) h3

theorem sm_spec (hS : SWO lt) : ∀ (f : Nat) (d : Array α) (a m b : Nat), b - a ≤ f → a < m → m < b → b ≤ d.size → SortedIn lt a m d → SortedIn lt m b d → Mg lt a b d (sm lt f d a m b)
  | 0, _, _, _, _, hf, _, _, _, _, _ => by omega
  | f + 1, d, a, m, b, hf, ham, hmb, hb, hu, hv => by
    rw [sm]
    by_cases c1 : m - a = 1
    · rw [if_pos c1]
      obtain ⟨r1, r2, r3, r4⟩ := bs_of (fun h => lt d[h]! d[a]!) m b (by omega) (fun h k x1 x2 x3 hk => by
        cases hh : lt d[h]! d[a]! with
        | true => rfl
        | false =>
          have := hS.ntrans _ _ _ (hv h k x1 x2 x3) hh
          rw [hk] at this; cases this)
      have hc : ∀ i j, a ≤ i → i < m → m ≤ j → j < bs (fun h => lt d[h]! d[a]!) m b → lt d[j]! d[i]! = true := fun i j x1 x2 x3 x4 => by
        obtain rfl : i = a := by omega
        exact r3 j x3 x4
      refine ⟨by simp, fun t ht => get_rot_out _ _ _ _ _ (by omega) r1 (by omega), sorted_rot hS (Nat.le_refl _) (by omega) r1 r2 hb hu hv hc (fun i j _ _ _ _ => by omega) (fun i j x1 x2 x3 x4 => ?_), St.rot hS (Nat.le_refl _) (by omega) r1 r2 hb hc⟩
      obtain rfl : i = a := by omega
      exact r4 j x3 x4
    · rw [if_neg c1]
      by_cases c2 : b - m = 1
      · rw [if_pos c2]
        obtain ⟨r1, r2, r3, r4⟩ := bs_of (fun h => !lt d[m]! d[h]!) a m (by omega) (fun h k x1 x2 x3 hk => by
          simp only [Bool.not_eq_true'] at hk ⊢
          exact hS.ntrans _ _ _ hk (hu h k x1 x2 x3))
        have hc : ∀ i j, bs (fun h => !lt d[m]! d[h]!) a m ≤ i → i < m → m ≤ j → j < b → lt d[j]! d[i]! = true := fun i j x1 x2 x3 x4 => by
          obtain rfl : j = m := by omega
          have := r4 i x1 x2
          simpa using this
        refine ⟨by simp, fun t ht => get_rot_out _ _ _ _ _ r2 (by omega) (by omega), sorted_rot hS r1 r2 (by omega) (Nat.le_refl _) hb hu hv hc (fun i j x1 x2 x3 x4 => ?_) (fun i j _ _ _ _ => by omega), St.rot hS r1 r2 (by omega) (Nat.le_refl _) hb hc⟩
        obtain rfl : j = m := by omega
        have := r3 i x1 x2
        simpa using this
      · rw [if_neg c2]
        simp only
        generalize hmid : (a + b) / 2 = mid
        generalize hS0 : (if mid < m then mid + m - b else a) = S0
        generalize hR0 : (if mid < m then mid else m) = R0
        have hS0' : mid < m ∧ S0 = mid + m - b ∧ R0 = mid ∨ m ≤ mid ∧ S0 = a ∧ R0 = m := by
          by_cases c : mid < m
          · rw [if_pos c] at hS0 hR0; omega
          · rw [if_neg c] at hS0 hR0; omega
        have hmid' : a + b = 2 * mid ∨ a + b = 2 * mid + 1 := by omega
        clear hS0 hR0 hmid
        obtain ⟨r1, r2, r3, r4⟩ := bs_of (fun c => !lt d[mid + m - 1 - c]! d[c]!) S0 R0 (by omega) (fun h k x1 x2 x3 hk => by
          simp only [Bool.not_eq_true'] at hk ⊢
          exact hS.ntrans _ _ _ (hv (mid + m - 1 - k) (mid + m - 1 - h) (by omega) (by omega) (by omega)) (hS.ntrans _ _ _ hk (hu h k (by omega) x2 (by omega))))
        generalize hs : bs (fun c => !lt d[mid + m - 1 - c]! d[c]!) S0 R0 = s at r1 r2 r3 r4
        clear hs
        generalize he : mid + m - s = e
        have e1 : s ≤ m := by omega
        have e2 : m ≤ e := by omega
        have e3 : e ≤ b := by omega
        have e0 : a ≤ s := by omega
        have hc : ∀ i j, s ≤ i → i < m → m ≤ j → j < e → lt d[j]! d[i]! = true := fun i j x1 x2 x3 x4 => by
          have q1 := r4 s (Nat.le_refl _) (by omega)
          simp only [Bool.not_eq_false'] at q1
          cases h : lt d[j]! d[i]! with
          | true => rfl
          | false =>
            have := hS.ntrans _ _ _ (SortedIn.le hS hv x3 (show j ≤ mid + m - 1 - s by omega) (by omega)) (hS.ntrans _ _ _ h (SortedIn.le hS hu (show a ≤ s from e0) x1 x2))
            rw [q1] at this; cases this
        have g : ∀ i j, a ≤ i → i < s → e ≤ j → j < b → lt d[j]! d[i]! = false := fun i j x1 x2 x3 x4 => by
          have q1 := r3 (s - 1) (by omega) (by omega)
          simp only [Bool.not_eq_true'] at q1
          rw [show mid + m - 1 - (s - 1) = e by omega] at q1
          exact hS.ntrans _ _ _ (SortedIn.le hS hv e2 x3 x4) (hS.ntrans _ _ _ q1 (SortedIn.le hS hu x1 (show i ≤ s - 1 by omega) (by omega)))
        have hd1 : (if s < m ∧ m < e then rot d s m e else d) = rot d s m e := by
          by_cases c : s < m ∧ m < e
          · rw [if_pos c]
          · rw [if_neg c]
            by_cases c' : s = m
            · subst c'; rw [rot_self2]
            · obtain rfl : m = e := by omega
              rw [rot_self]
        rw [hd1]
        have st1 := St.rot hS e0 e1 e2 e3 hb hc
        have sz1 : (rot d s m e).size = d.size := by simp
        have o1 : ∀ t, t < s ∨ e ≤ t → (rot d s m e)[t]! = d[t]! := fun t ht => get_rot_out _ _ _ _ _ e1 e2 ht
        have gr : ∀ t, t < b → (rot d s m e)[t]! = d[ri s m e t]! := fun t ht => get_rot _ _ _ _ _ (by omega)
        have A1 : SortedIn lt a s (rot d s m e) := fun p q x1 x2 x3 => by rw [o1 _ (by omega), o1 _ (by omega)]; exact hu _ _ x1 x2 (by omega)
        have A2 : SortedIn lt s mid (rot d s m e) := fun p q x1 x2 x3 => by
          rw [gr _ (by omega), gr _ (by omega)]; unfold ri; rw [if_pos (by omega), if_pos (by omega)]; exact hv _ _ (by omega) (by omega) (by omega)
        have A3 : SortedIn lt mid e (rot d s m e) := fun p q x1 x2 x3 => by
          rw [gr _ (by omega), gr _ (by omega)]; unfold ri; rw [if_neg (by omega), if_pos (by omega), if_neg (by omega), if_pos (by omega)]; exact hu _ _ (by omega) (by omega) (by omega)
        have A4 : SortedIn lt e b (rot d s m e) := fun p q x1 x2 x3 => by rw [o1 _ (by omega), o1 _ (by omega)]; exact hv _ _ (by omega) x2 x3
        have H : ∀ p q, a ≤ p → p < mid → mid ≤ q → q < b → lt (rot d s m e)[q]! (rot d s m e)[p]! = false := fun p q x1 x2 x3 x4 => by
          rw [gr _ x4, gr _ (by omega)]; unfold ri
          rw [if_neg (show ¬ (s ≤ q ∧ q < s + (e - m)) by omega), if_neg (show ¬ (s + (e - m) ≤ p ∧ p < e) by omega)]
          split
          · split
            · exact hS.asymmA (hc _ _ (by omega) (by omega) (by omega) (by omega))
            · exact hu _ _ (by omega) (by omega) (by omega)
          · split
            · exact hv _ _ (by omega) (by omega) (by omega)
            · exact g _ _ (by omega) (by omega) (by omega) (by omega)
        generalize rot d s m e = d1 at *
        clear gr hd1
        have M2 : Mg lt a mid d1 (if a < s ∧ s < mid then sm lt f d1 a s mid else d1) := by
          by_cases c : a < s ∧ s < mid
          · rw [if_pos c]; exact sm_spec hS f d1 a s mid (by omega) c.1 c.2 (by omega) A1 A2
          · rw [if_neg c]
            refine Mg.id ?_
            by_cases c' : a = s
            · rw [c']; exact A2
            · obtain rfl : s = mid := by omega
              exact A1
        generalize (if a < s ∧ s < mid then sm lt f d1 a s mid else d1) = d2 at M2
        have M3 : Mg lt mid b d2 (if mid < e ∧ e < b then sm lt f d2 mid e b else d2) := by
          have B3 : SortedIn lt mid e d2 := fun p q x1 x2 x3 => by rw [M2.out _ (by omega), M2.out _ (by omega)]; exact A3 _ _ x1 x2 x3
          have B4 : SortedIn lt e b d2 := fun p q x1 x2 x3 => by rw [M2.out _ (by omega), M2.out _ (by omega)]; exact A4 _ _ x1 x2 x3
          by_cases c : mid < e ∧ e < b
          · rw [if_pos c]; exact sm_spec hS f d2 mid e b (by omega) c.1 c.2 (by rw [M2.size]; omega) B3 B4
          · rw [if_neg c]
            refine Mg.id ?_
            by_cases c' : mid = e
            · rw [c']; exact B4
            · obtain rfl : e = b := by omega
              exact B3
        generalize (if mid < e ∧ e < b then sm lt f d2 mid e b else d2) = d3 at M3
        refine ⟨by rw [M3.size, M2.size, sz1], fun t ht => by rw [M3.out _ (by omega), M2.out _ (by omega), o1 _ (by omega)], ?_, ?_⟩
        · intro p q x1 x2 x3
          by_cases c : q < mid
          · rw [M3.out _ (by omega), M3.out _ (by omega)]; exact M2.sorted _ _ x1 x2 c
          · by_cases c' : mid ≤ p
            · exact M3.sorted _ _ c' x2 x3
            · rw [M3.out p (by omega)]
              obtain ⟨p', y1, y2, y3⟩ := M2.mem hS x1 (show p < mid by omega)
              obtain ⟨q', z1, z2, z3⟩ := M3.mem hS (show mid ≤ q by omega) x3
              rw [← y3, ← z3, M2.out q' (by omega)]
              exact H _ _ y1 y2 z1 z2
        · refine st1.trans ?_
          rw [← seg_append d1 (show a ≤ mid by omega) (show mid ≤ b by omega), ← seg_append d3 (show a ≤ mid by omega) (show mid ≤ b by omega)]
          refine St.append ?_ ?_
          · rw [seg_congr (d := d2) (d' := d3) (fun t _ ht => M3.out _ (by omega))]; exact M2.st
          · rw [← seg_congr (d := d1) (d' := d2) (fun t ht _ => M2.out _ (by omega))]; exact M3.st

theorem seg_swp (d : Array α) {a b j : Nat} (haj : a ≤ j) (hjb : j + 2 ≤ b) (hb : b ≤ d.size) (hS : SWO lt) (hl : lt d[j + 1]! d[j]! = true) : St lt (seg d a b) (seg (swp d (j + 1) j) a b) := by
  have e : swp d (j + 1) j = rot d j (j + 1) (j + 2) := by
    have := rot_up d j j (Nat.le_refl _) (by omega)
    rw [← this, rot_self]
    refine ext_get2 (by simp [size_swp]) fun t _ => ?_
    rw [swp_get _ (by omega) (by omega), swp_get _ (by omega) (by omega)]
    by_cases c1 : t = j
    · subst c1; rw [if_pos rfl, if_neg (by omega), if_pos rfl]
    · rw [if_neg c1, if_neg c1]
  rw [e]
  refine St.rot hS haj (by omega) (by omega) hjb hb fun p q x1 x2 x3 x4 => ?_
  obtain rfl : p = j := by omega
  obtain rfl : q = p + 1 := by omega
  exact hl
theorem insInner_st (hS : SWO lt) (a b : Nat) : ∀ (j : Nat) (d : Array α), a ≤ j → j < b → b ≤ d.size → (insInner lt a j d).size = d.size ∧ St lt (seg d a b) (seg (insInner lt a j d) a b)
  | 0, d, _, _, _ => by rw [insInner]; exact ⟨rfl, St.refl _⟩
  | j + 1, d, haj, hjb, hb => by
    rw [insInner]
    split
    · rename_i hc
      simp only [Bool.and_eq_true, decide_eq_true_eq] at hc
      have ih := insInner_st hS a b j (swp d (j + 1) j) (by omega) (by omega) (by rw [size_swp]; exact hb)
      exact ⟨ih.1.trans (size_swp _ _ _), (seg_swp d (by omega) (by omega) hb hS hc.2).trans ih.2⟩
    · exact ⟨rfl, St.refl _⟩
theorem insOuter_st (hS : SWO lt) (a b : Nat) : ∀ (n i : Nat) (d : Array α), b - i = n → a ≤ i → b ≤ d.size → St lt (seg d a b) (seg (insOuter lt a b i d) a b)
  | 0, i, d, hn, _, _ => by rw [insOuter, if_neg (by omega)]; exact St.refl _
  | n + 1, i, d, hn, hai, hb => by
    rw [insOuter, if_pos (by omega)]
    have h1 := insInner_st hS a b i d hai (by omega) hb
    exact h1.2.trans (insOuter_st hS a b n (i + 1) _ (by omega) (by omega) (by rw [h1.1]; exact hb))
theorem ins_Mg (hS : SWO lt) {a b : Nat} (d : Array α) (hab : a ≤ b) (hb : b ≤ d.size) : Mg lt a b d (insertionSort lt d a b) := by
  have h := insertionSort_holds hS d a b hab hb
  exact ⟨h.1.1, fun t ht => h.1.2.1 t ht, h.2, insOuter_st hS a b _ (a + 1) d rfl (by omega) hb⟩

def Blk (lt : α → α → Bool) (s a n : Nat) (d : Array α) : Prop := ∀ k, SortedIn lt (a + k * s) (min (a + k * s + s) n) d
theorem stBlocks_spec (hS : SWO lt) (n : Nat) : ∀ (r a : Nat) (d : Array α), n - a ≤ r → a ≤ n → n ≤ d.size →
    (stBlocks lt n a d).size = d.size ∧ (∀ t, t < a ∨ n ≤ t → (stBlocks lt n a d)[t]! = d[t]!) ∧ St lt (seg d a n) (seg (stBlocks lt n a d) a n) ∧ Blk lt 20 a n (stBlocks lt n a d)
  | r, a, d, hr, han, hn => by
    rw [stBlocks]
    split
    · rename_i h
      cases r with
      | zero => omega
      | succ r =>
        have M := ins_Mg hS d (show a ≤ a + 20 by omega) (show a + 20 ≤ d.size by omega)
        generalize insertionSort lt d a (a + 20) = d1 at M
        obtain ⟨q1, q2, q3, q4⟩ := stBlocks_spec hS n r (a + 20) d1 (by omega) h (by rw [M.size]; exact hn)
        generalize stBlocks lt n (a + 20) d1 = d2 at *
        refine ⟨q1.trans M.size, fun t ht => by rw [q2 t (by omega), M.out t (by omega)], ?_, ?_⟩
        · rw [← seg_append d (show a ≤ a + 20 by omega) h, ← seg_append d2 (show a ≤ a + 20 by omega) h]
          refine St.append ?_ ?_
          · rw [seg_congr (d := d1) (d' := d2) (fun t _ ht => q2 _ (by omega))]; exact M.st
          · rw [← seg_congr (d := d) (d' := d1) (fun t ht _ => M.out _ (by omega))]; exact q3
        · intro k
          cases k with
          | zero =>
            intro i j x1 x2 x3
            rw [q2 _ (by omega), q2 _ (by omega)]
            exact M.sorted i j (by omega) x2 (by omega)
          | succ k =>
            have := q4 k
            rw [show a + (k + 1) * 20 = a + 20 + k * 20 by omega]; exact this
    · have M := ins_Mg hS d han hn
      refine ⟨M.size, M.out, M.st, fun k i j x1 x2 x3 => ?_⟩
      exact M.sorted i j (by omega) x2 (by omega)
theorem stPass_spec (hS : SWO lt) (n s : Nat) (hs : 0 < s) : ∀ (r a : Nat) (d : Array α), n - a ≤ r → a ≤ n → n ≤ d.size → Blk lt s a n d →
    (stPass lt n s a d).size = d.size ∧ (∀ t, t < a ∨ n ≤ t → (stPass lt n s a d)[t]! = d[t]!) ∧ St lt (seg d a n) (seg (stPass lt n s a d) a n) ∧ Blk lt (2 * s) a n (stPass lt n s a d)
  | r, a, d, hr, han, hn, hB => by
    have B0 := hB 0
    have B1 := hB 1
    rw [Nat.zero_mul, Nat.add_zero] at B0
    rw [Nat.one_mul] at B1
    rw [stPass]
    split
    · rename_i h
      cases r with
      | zero => omega
      | succ r =>
        have M := sm_spec hS (2 * s) d a (a + s) (a + 2 * s) (by omega) (by omega) (by omega) (by omega) (fun i j x1 x2 x3 => B0 i j x1 x2 (by omega)) (fun i j x1 x2 x3 => B1 i j x1 x2 (by omega))
        generalize sm lt (2 * s) d a (a + s) (a + 2 * s) = d1 at M
        have hB1 : Blk lt s (a + 2 * s) n d1 := fun k i j x1 x2 x3 => by
          have g := hB (k + 2)
          rw [show a + (k + 2) * s = a + 2 * s + k * s by rw [Nat.add_mul]; omega] at g
          rw [M.out _ (Or.inr (by omega)), M.out _ (Or.inr (by omega))]
          exact g i j x1 x2 x3
        obtain ⟨q1, q2, q3, q4⟩ := stPass_spec hS n s hs r (a + 2 * s) d1 (by omega) h.2 (by rw [M.size]; exact hn) hB1
        generalize stPass lt n s (a + 2 * s) d1 = d2 at *
        refine ⟨q1.trans M.size, fun t ht => by rw [q2 t (by omega), M.out t (by omega)], ?_, ?_⟩
        · rw [← seg_append d (show a ≤ a + 2 * s by omega) h.2, ← seg_append d2 (show a ≤ a + 2 * s by omega) h.2]
          refine St.append ?_ ?_
          · rw [seg_congr (d := d1) (d' := d2) (fun t _ ht => q2 _ (by omega))]; exact M.st
          · rw [← seg_congr (d := d) (d' := d1) (fun t ht _ => M.out _ (by omega))]; exact q3
        · intro k
          cases k with
          | zero =>
            intro i j x1 x2 x3
            rw [q2 _ (by omega), q2 _ (by omega)]
            exact M.sorted i j (by omega) x2 (by omega)
          | succ k =>
            have := q4 k
            rw [show a + (k + 1) * (2 * s) = a + 2 * s + k * (2 * s) by rw [Nat.add_mul]; omega]; exact this
    · rename_i h
      have fin : ∀ d', Mg lt a n d d' → d'.size = d.size ∧ (∀ t, t < a ∨ n ≤ t → d'[t]! = d[t]!) ∧ St lt (seg d a n) (seg d' a n) ∧ Blk lt (2 * s) a n d' := fun d' M =>
        ⟨M.size, M.out, M.st, fun k i j x1 x2 x3 => M.sorted i j (by omega) x2 (by omega)⟩
      split
      · rename_i h2
        exact fin _ (sm_spec hS (n - a) d a (a + s) n (Nat.le_refl _) (by omega) h2 hn (fun i j x1 x2 x3 => B0 i j x1 x2 (by omega)) (fun i j x1 x2 x3 => B1 i j x1 x2 (by omega)))
      · exact fin _ (Mg.id fun i j x1 x2 x3 => B0 i j x1 x2 (by omega))
theorem stOuter_spec (hS : SWO lt) (n : Nat) : ∀ (r s : Nat) (d : Array α), n - s ≤ r → 0 < s → n ≤ d.size → Blk lt s 0 n d →
    (stOuter lt n s d).size = d.size ∧ St lt (seg d 0 n) (seg (stOuter lt n s d) 0 n) ∧ SortedIn lt 0 n (stOuter lt n s d)
  | r, s, d, hr, hs, hn, hB => by
    rw [stOuter]
    split
    · rename_i h
      cases r with
      | zero => omega
      | succ r =>
        obtain ⟨p1, _, p3, p4⟩ := stPass_spec hS n s hs n 0 d (by omega) (Nat.zero_le _) hn hB
        obtain ⟨q1, q2, q3⟩ := stOuter_spec hS n r (2 * s) _ (by omega) (by omega) (by rw [p1]; exact hn) p4
        exact ⟨q1.trans p1, p3.trans q2, q3⟩
    · have := hB 0
      refine ⟨rfl, St.refl _, fun i j x1 x2 x3 => this i j (by omega) x2 (by omega)⟩
theorem stable_spec (hS : SWO lt) (d : Array α) : (stable lt d d.size).size = d.size ∧ St lt d.toList (stable lt d d.size).toList ∧ SortedIn lt 0 d.size (stable lt d d.size) := by
  have all : ∀ x : Array α, seg x 0 x.size = x.toList := fun x => by
    have := extract_toList x 0 x.size (Nat.le_refl _)
    unfold seg; rw [← this]; simp
  obtain ⟨p1, _, p3, p4⟩ := stBlocks_spec hS d.size d.size 0 d (by omega) (Nat.zero_le _) (Nat.le_refl _)
  obtain ⟨q1, q2, q3⟩ := stOuter_spec hS d.size d.size 20 (stBlocks lt d.size 0 d) (by omega) (by omega) (by omega) p4
  refine ⟨q1.trans p1, ?_, q3⟩
  have := p3.trans q2
  rw [all] at this
  have h2 := all (stable lt d d.size)
  rw [show (stable lt d d.size).size = d.size from q1.trans p1] at h2
  rw [← h2]; exact this

omit [Inhabited α] in
theorem St.unique (hS : SWO lt) : ∀ {l l' : List α}, St lt l l' → l.Pairwise (fun x y => lt y x = false) → l'.Pairwise (fun x y => lt y x = false) → l' = l
  | [], [], _, _, _ => rfl
  | [], y :: l', h, _, _ => by have := (h.mem hS y).1 (by simp); simp at this
  | x :: l, [], h, _, _ => by have := (h.mem hS x).2 (by simp); simp at this
  | x :: l, y :: l', h, hl, hl' => by
    have hx : x ∈ y :: l' := (h.mem hS x).2 (by simp)
    have hy : y ∈ x :: l := (h.mem hS y).1 (by simp)
    have hxy : lt x y = false := by
      rcases List.mem_cons.1 hx with e | e
      · rw [e]; exact hS.irrefl _
      · exact (List.pairwise_cons.1 hl').1 x e
    have hyx : lt y x = false := by
      rcases List.mem_cons.1 hy with e | e
      · rw [e]; exact hS.irrefl _
      · exact (List.pairwise_cons.1 hl).1 y e
    have e1 := h x
    rw [List.filter_cons_of_pos (by simp [eqv, hxy, hyx]), List.filter_cons_of_pos (by simp [eqv, hS.irrefl])] at e1
    obtain ⟨rfl, -⟩ := List.cons.inj e1
    have h' : St lt l l' := fun c => by
      have := h c
      rw [List.filter_cons, List.filter_cons] at this
      split at this
      · exact (List.cons.inj this).2
      · exact this
    rw [St.unique hS h' (List.pairwise_cons.1 hl).2 (List.pairwise_cons.1 hl').2]
theorem stable_eq (hS : SWO lt) (d : Array α) (L : List α) (h : St lt d.toList L) (hp : L.Pairwise (fun x y => lt y x = false)) : (stable lt d d.size).toList = L := by
  obtain ⟨h1, h2, h3⟩ := stable_spec hS d
  have h4 : St lt L (stable lt d d.size).toList := fun c => (h2 c).trans (h c).symm
  refine St.unique hS h4 hp ?_
  rw [List.pairwise_iff_getElem]
  intro i j hi hj hij
  simp only [Array.length_toList] at hi hj
  have := h3 i j (Nat.zero_le _) hij (by omega)
  rw [getElem!_pos (stable lt d d.size) j hj, getElem!_pos (stable lt d d.size) i hi] at this
  simpa using this

def put (lt : α → α → Bool) (x : α) (l : List α) : List α := l.takeWhile (fun y => !lt x y) ++ x :: l.dropWhile (fun y => !lt x y)
end
end Go.Proofs.Yticgekgojgkbgaa.Stable
end
