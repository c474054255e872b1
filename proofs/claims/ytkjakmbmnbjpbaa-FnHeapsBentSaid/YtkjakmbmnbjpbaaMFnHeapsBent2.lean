import Derived.Test.YtkjakmbmnbjpbaaMFnHeapsBent1
section
namespace Go.Proofs.Ytkjakmbmnbjpbaa.Print
open Go.RowKit Go.Proofs.YtkjakmbmnbjpbaaV.PrintWords Go.Proofs.YtkjakmbmnbjpbaaV.PrintLast Go.Proofs.YtkjakmbmnbjpbaaV.PrintMore
attribute [local go_sem] max2_int min2_int max_two min_two max_three min_three max_four min_four
set_option linter.unusedVariables false
set_option linter.unusedSimpArgs false
set_option maxHeartbeats 8000000
set_option maxRecDepth 100000
def impl_HeapDrop.l0 : Nat → Int → List (S25) → List (S25) → Int → Int → Option ((List (S25)))
 | 0, _, _, _, _, _ => none
 | k + 1, x1, x5, x8, x9, x10 => if x10 < x9 then (if 0 ≤ x10 then (if x10 < (x8.length : Int) then (if ((rd_T25 x8 x10).f1) = x1 then (impl_HeapDrop.l0 k x1 x5 x8 x9 (wrap64 (x10 + 1))) else ((impl_HeapPut.f k x5 ((rd_T25 x8 x10).f0) ((rd_T25 x8 x10).f1)).bind fun t335 => (impl_HeapDrop.l0 k x1 t335 x8 x9 (wrap64 (x10 + 1))))) else (none)) else (none)) else (some x5)
def impl_HeapDrop.f (k : Nat) (l0 : List (S25)) (a1 : Int) : Option ((List (S25))) := impl_HeapDrop.l0 k a1 ([] : List (S25)) l0 (l0.length : Int) 0
theorem impl_HeapDrop.mono_l : ∀ k, (∀ y0 y1 y2 y3 y4, LeO (impl_HeapDrop.l0 k y0 y1 y2 y3 y4) (impl_HeapDrop.l0 (k + 1) y0 y1 y2 y3 y4))
 | 0 => fun _ _ _ _ _ r h => by simp [impl_HeapDrop.l0] at h
 | k + 1 => by
  have ih0 := impl_HeapDrop.mono_l k
  intro y0 y1 y2 y3 y4
  unfold impl_HeapDrop.l0
  repeat' first
  | (with_reducible exact ih0 _ _ _ _ _)
  | (with_reducible exact impl_HeapPut.mono _ _ _ _)
  | (with_reducible exact LeO.refl _)
  | (with_reducible exact LeO.none _)
  | (with_reducible refine LeO.ite ?_ ?_)
  | (with_reducible refine LeO.bind ?_ (fun _ => ?_))
  | exact ih0 _ _ _ _ _
  | exact impl_HeapPut.mono _ _ _ _
theorem impl_HeapDrop.mono : ∀ a0 a1 k, LeO (impl_HeapDrop.f k a0 a1) (impl_HeapDrop.f (k + 1) a0 a1) := by
 intro a0 a1 k
 have ih0 := impl_HeapDrop.mono_l k
 unfold impl_HeapDrop.f
 repeat' first
   | (with_reducible exact ih0 _ _ _ _ _)
   | (with_reducible exact impl_HeapPut.mono _ _ _ _)
   | (with_reducible exact LeO.refl _)
   | (with_reducible exact LeO.none _)
   | (with_reducible refine LeO.ite ?_ ?_)
   | (with_reducible refine LeO.bind ?_ (fun _ => ?_))
   | exact ih0 _ _ _ _ _
   | exact impl_HeapPut.mono _ _ _ _
theorem impl_HeapDrop.calls (k : Nat) (A0 : Option Addr) (c0 : Nat) (l0 : List (S25)) (a1 : Int) (r : List (S25)) (w : World) (hr0 : Kd.C k25 w A0 l0.length l0) (hc0 : l0.length ≤ c0) (h : impl_HeapDrop.f k l0 a1 = some r) :
  Calls Try.prog 32 #[.slice A0 l0.length c0, .int .i64 a1] w fun e w' => ∃ v0_ : Value, e = .returned (v0_) ∧ Kd.R k25 25 w' w.heap.size (fun _ => True) v0_ r ∧ Below w.heap.size w w' := by
 have hu25 := Try.underlying25
 have HR0 := Aside0.mk hr0
 have HC0 := Aside0.mk hc0
 clear hr0 hc0
 have HB := Aside0.mk (Below.refl w.heap.size w)
 have H : (impl_HeapDrop.l0 k a1 ([] : List (S25)) l0 (l0.length : Int) 0) = some r := h
 clear h
 have H' := Aside0.mk H
 clear H
 go_enter Try.func32, Try.ntmps32
 go_wp2
 go_loopg [5, 10] k (fun kq v5 v10 w' => ∃ (x5_1 : List (S25)) (x10_1 : Int), v10 = .int .i64 x10_1 ∧ Aside0 (impl_HeapDrop.l0 kq a1 x5_1 l0 (l0.length : Int) x10_1 = some r) ∧ Aside0 (kq ≤ k) ∧ Aside0 (Kd.R k25 25 w' w.heap.size (fun _ => True) v5 x5_1) ∧ Aside0 (Below w.heap.size w w'))
 case atStart => exact ⟨(([] : List (S25))), (0), (by first | rfl | (simp; done) | (simp [*]; done)), H', ⟨Nat.le_refl _⟩, ⟨by first | exact Kd.R_nil _ _ _ _ _ | exact Kd.N_nil _ _ _ _ _ | exact Kd.V_nil _ _ _ _ _ | exact Kd.Q_nil _ _ _ _ _ | exact Kd.S_nil _ _ _ _ _⟩, ⟨by repeat (first | (with_reducible first | exact HB.out | apply ba_ | apply bn_ | apply bd_) | exact HB.out)⟩⟩
 case round =>
  clear H'
  try clear p2
  obtain ⟨x5_1, x10_1, rfl, HA, HK1, HO_5, HB⟩ := hrel
  cases gk with
  | zero => exact absurd HA.out (by simp [impl_HeapDrop.l0])
  | succ k1 =>
   have H := HA.out
   clear HA
   simp only [impl_HeapDrop.l0] at H
   by_cases c3 : x10_1 < (l0.length : Int)
   ·
    rw [if_pos c3] at H
    have c3b0 := decide_eq_true c3
    clear c3
    by_cases c4 : 0 ≤ x10_1
    ·
     rw [if_pos c4] at H
     have c4b0 := decide_eq_true c4
     clear c4
     by_cases c5 : x10_1 < (l0.length : Int)
     ·
      rw [if_pos c5] at H
      have c5b0 := decide_eq_true c5
      clear c5
      by_cases c6 : ((rd_T25 l0 x10_1).f1) = a1
      ·
       rw [if_pos c6] at H
       have c6b0 : (((rd_T25 l0 x10_1).f1) == a1) = true := beq_iff_eq.mpr c6
       have c6b1 : (((rd_T25 l0 x10_1).f1) != a1) = false := bne_eq_false_iff_eq.mpr c6
       clear c6
       have H' := Aside0.mk H
       clear H
       have p333 : 0 ≤ (x10_1 : Int) := of_decide_eq_true (by with_reducible assumption)
       have q333 : x10_1 < (l0.length : Int) := of_decide_eq_true (by with_reducible assumption)
       obtain ⟨ad333, e333, hx333_0, hx333_1⟩ := at_T25 HR0.out x10_1 p333 q333
       cases e333
       replace hx333_0 := cl_ HB.out hx333_0
       replace hx333_1 := cl_ HB.out hx333_1
       replace p333 := eq_true p333
       replace q333 := eq_true q333
       go_wp2_with (first | ((with_reducible refine gate_dst (N := 7) rfl ?_); refine box_event ?hg (N := 7) ?hd (cs := #[.int .i64 0, .int .i64 0]) (t := 25) ?hr ?_; (case hd => rfl); (case hg => rfl); (case hr => first | (go_simp; done) | (go_simp; rfl)); intro gb334 hg w7 hbox hb; have n0_ := Aside0.mk (Kd.R_below (Kd.R_elderB (rp_ HO_5.out) gb334 (Nat.le_of_eq hg.symm)) hb); have n1_ := Aside0.mk (below_step (by repeat (first | (with_reducible first | exact HB.out | apply ba_ | apply bn_ | apply bd_) | exact HB.out)) hb); have BK334 := Aside0.mk (hbox); have GW334 := Aside0.mk ((by rw [hg]; exact (below_size (by repeat (first | (with_reducible first | exact HB.out | apply ba_ | apply bn_ | apply bd_) | exact HB.out))) : w.heap.size ≤ gb334)); have GE334 := GW334; clear HO_5 HB; have HO_5 := n0_; have HB := n1_; clear n0_ n1_; clear hb hbox hg; obtain ⟨hcz8_0, hcz8_1, hfz8_0, hfz8_1⟩ := bc2_ BK334.out))
       go_roundg k1
       case measure => have := HK1.out; omega
       case rel => exact ⟨(x5_1), (wrap64 (x10_1 + 1)), (by first | rfl | (simp; done) | (simp [*]; done)), H', ⟨by have := HK1.out; omega⟩, ⟨by (with_reducible repeat (first | apply Kd.R_alloc | apply Kd.R_drewN | apply Kd.R_drew)); exact Kd.R_mono (Kd.R_far (p := ⟨gb334, 1, none⟩) (Kd.R_far (p := ⟨gb334, 0, none⟩) (Kd.R_mono HO_5.out (fun k_ hk => (⟨hk, hk.2⟩ : _ ∧ k_ ≠ gb334))) (fun _ hk => hk.2) (.int .i64 ((rd_T25 l0 x10_1).f0))) (fun _ hk => hk.2) (.int .i64 ((rd_T25 l0 x10_1).f1))) (fun _ hk => trivial)⟩, ⟨by repeat (first | (with_reducible first | exact HB.out | apply ba_ | apply bn_ | apply bd_ | refine below_set ?_ GE334.out) | exact HB.out)⟩⟩
      rw [if_neg c6] at H
      have c6b0 : (((rd_T25 l0 x10_1).f1) == a1) = false := beq_eq_false_iff_ne.mpr c6
      have c6b1 : (((rd_T25 l0 x10_1).f1) != a1) = true := bne_iff_ne.mpr c6
      replace H := Option.bind_eq_some_iff.mp H
      obtain ⟨t335, A90, H⟩ := H
      have A9 := Aside0.mk A90
      clear A90
      have H' := Aside0.mk H
      clear H
      have p333 : 0 ≤ (x10_1 : Int) := of_decide_eq_true (by with_reducible assumption)
      have q333 : x10_1 < (l0.length : Int) := of_decide_eq_true (by with_reducible assumption)
      obtain ⟨ad333, e333, hx333_0, hx333_1⟩ := at_T25 HR0.out x10_1 p333 q333
      cases e333
      replace hx333_0 := cl_ HB.out hx333_0
      replace hx333_1 := cl_ HB.out hx333_1
      replace p333 := eq_true p333
      replace q333 := eq_true q333
      go_wp2_with (first | ((with_reducible refine gate_dst (N := 7) rfl ?_); refine box_event ?hg (N := 7) ?hd (cs := #[.int .i64 0, .int .i64 0]) (t := 25) ?hr ?_; (case hd => rfl); (case hg => rfl); (case hr => first | (go_simp; done) | (go_simp; rfl)); intro gb334 hg w10 hbox hb; have n0_ := Aside0.mk (Kd.R_below (Kd.R_elderB (rp_ HO_5.out) gb334 (Nat.le_of_eq hg.symm)) hb); have n1_ := Aside0.mk (below_step (by repeat (first | (with_reducible first | exact HB.out | apply ba_ | apply bn_ | apply bd_) | exact HB.out)) hb); have BK334 := Aside0.mk (hbox); have GW334 := Aside0.mk ((by rw [hg]; exact (below_size (by repeat (first | (with_reducible first | exact HB.out | apply ba_ | apply bn_ | apply bd_) | exact HB.out))) : w.heap.size ≤ gb334)); have GE334 := GW334; clear HO_5 HB; have HO_5 := n0_; have HB := n1_; clear n0_ n1_; clear hb hbox hg; obtain ⟨hcz11_0, hcz11_1, hfz11_0, hfz11_1⟩ := bc2_ BK334.out; obtain ⟨Ao12, co12, eo12⟩ := Kd.R_slice HO_5.out; subst eo12) | ((with_reducible refine gate_callee (f := 23) rfl ?_); refine goesL_ (some 20) rfl rfl Try.func23 (by kernel_rfl) rfl #[.slice Ao12 x5_1.length co12, .agg #[.int .i64 ((rd_T25 l0 x10_1).f0), .int .i64 ((rd_T25 l0 x10_1).f1)]] rfl (by (try simp only [mp_]); first | done | rfl | (simp only [List.length_drop, List.length_take]; rfl)) ?_; (with_reducible refine (impl_HeapPut.calls k1 _ _ x5_1 ((rd_T25 l0 x10_1).f0) ((rd_T25 l0 x10_1).f1) t335 _ ?side1 ?side2 A9.out).mono ?_); (case side1 => refine (Kd.R_reads' (e := 25) (base := w.heap.size) (ok := fun k_ => (True ∧ k_ ≠ gb334)) (n := x5_1.length) (c := co12) ?_).2.2; exact (by (with_reducible repeat (first | apply Kd.R_alloc | apply Kd.R_drewN | apply Kd.R_drew)); exact (Kd.R_mono (Kd.R_far (p := ⟨gb334, 1, none⟩) (Kd.R_far (p := ⟨gb334, 0, none⟩) (Kd.R_mono HO_5.out (fun k_ hk => (⟨hk, hk.2⟩ : _ ∧ k_ ≠ gb334))) (fun _ hk => hk.2) (.int .i64 ((rd_T25 l0 x10_1).f0))) (fun _ hk => hk.2) (.int .i64 ((rd_T25 l0 x10_1).f1))) (fun _ h_ => h_.1)))); (case side2 => exact (Kd.R_reads' HO_5.out).2.1); rintro e w13 ⟨v336, rfl, ho0, hb⟩; refine ⟨_, rfl, ?_⟩; have n0_ := Aside0.mk (Kd.R_elder' (by (with_reducible repeat (first | apply Kd.R_alloc | apply Kd.R_drewN | apply Kd.R_drew)); exact (Kd.R_mono (Kd.R_far (p := ⟨gb334, 1, none⟩) (Kd.R_far (p := ⟨gb334, 0, none⟩) (Kd.R_mono HO_5.out (fun k_ hk => (⟨hk, hk.2⟩ : _ ∧ k_ ≠ gb334))) (fun _ hk => hk.2) (.int .i64 ((rd_T25 l0 x10_1).f0))) (fun _ hk => hk.2) (.int .i64 ((rd_T25 l0 x10_1).f1))) (fun _ h_ => h_.1))) (Kd.R_base ho0) hb); have n1_ := Aside0.mk (Kd.R_lower (Kd.R_newB (Kd.R_new' ho0 (Kd.R_lt (by (with_reducible repeat (first | apply Kd.R_alloc | apply Kd.R_drewN | apply Kd.R_drew)); exact (Kd.R_mono (Kd.R_far (p := ⟨gb334, 1, none⟩) (Kd.R_far (p := ⟨gb334, 0, none⟩) (Kd.R_mono HO_5.out (fun k_ hk => (⟨hk, hk.2⟩ : _ ∧ k_ ≠ gb334))) (fun _ hk => hk.2) (.int .i64 ((rd_T25 l0 x10_1).f0))) (fun _ hk => hk.2) (.int .i64 ((rd_T25 l0 x10_1).f1))) (fun _ h_ => h_.1))))) (g := gb334) (o := .cells #[.int .i64 ((rd_T25 l0 x10_1).f0), .int .i64 ((rd_T25 l0 x10_1).f1)] 25 (0, 0)) (by (with_reducible repeat (first | refine kn_ ?_ _ | refine kd_ ?_ | refine ka_ ?_ _)); refine blk_put (cs := #[.int .i64 ((rd_T25 l0 x10_1).f0), .int .i64 0]) ?_ 1 _ rfl; (with_reducible repeat (first | refine kn_ ?_ _ | refine kd_ ?_ | refine ka_ ?_ _)); refine blk_put (cs := #[.int .i64 0, .int .i64 0]) ?_ 0 _ rfl; (with_reducible repeat (first | refine kn_ ?_ _ | refine kd_ ?_ | refine ka_ ?_ _)); exact BK334.out)) (below_size (by repeat (first | (with_reducible first | exact HB.out | apply ba_ | apply bn_ | apply bd_ | refine below_set ?_ GE334.out) | exact HB.out)))); have n2_ := Aside0.mk (blk_below (g := gb334) (o := .cells #[.int .i64 ((rd_T25 l0 x10_1).f0), .int .i64 ((rd_T25 l0 x10_1).f1)] 25 (0, 0)) (by (with_reducible repeat (first | refine kn_ ?_ _ | refine kd_ ?_ | refine ka_ ?_ _)); refine blk_put (cs := #[.int .i64 ((rd_T25 l0 x10_1).f0), .int .i64 0]) ?_ 1 _ rfl; (with_reducible repeat (first | refine kn_ ?_ _ | refine kd_ ?_ | refine ka_ ?_ _)); refine blk_put (cs := #[.int .i64 0, .int .i64 0]) ?_ 0 _ rfl; (with_reducible repeat (first | refine kn_ ?_ _ | refine kd_ ?_ | refine ka_ ?_ _)); exact BK334.out) hb); have n3_ := Aside0.mk (below_step (by repeat (first | (with_reducible first | exact HB.out | apply ba_ | apply bn_ | apply bd_ | refine below_set ?_ GE334.out) | exact HB.out)) hb); clear HO_5 BK334 HB; have HO_5 := n0_; have HO337 := n1_; have BK334 := n2_; have HB := n3_; clear n0_ n1_ n2_ n3_; (try clear hb); (try clear hb2); (try clear hk); (try clear hi); (try clear ho0)))
      go_roundg k1
      case measure => have := HK1.out; omega
      case rel => exact ⟨(t335), (wrap64 (x10_1 + 1)), (by first | rfl | (simp; done) | (simp [*]; done)), H', ⟨by have := HK1.out; omega⟩, ⟨by (with_reducible repeat (first | apply Kd.R_alloc | apply Kd.R_drewN | apply Kd.R_drew)); exact Kd.R_mono HO337.out (fun _ hk => trivial)⟩, ⟨by repeat (first | (with_reducible first | exact HB.out | apply ba_ | apply bn_ | apply bd_ | refine below_set ?_ GE334.out) | exact HB.out)⟩⟩
     rw [if_neg c5] at H
     exact absurd H (by simp)
    rw [if_neg c4] at H
    exact absurd H (by simp)
   rw [if_neg c3] at H
   have c3b0 : decide (x10_1 < (l0.length : Int)) = false := decide_eq_false c3
   clear c3
   obtain rfl := Option.some.inj H
   go_wp2
   go_ret
   exact ⟨_, by first | rfl | (simp [errW_none, errW_some] <;> rfl) | (simp [*, errW_none, errW_some] <;> rfl), by (with_reducible repeat (first | apply Kd.R_alloc | apply Kd.R_drewN | apply Kd.R_drew)); exact HO_5.out, by repeat (first | (with_reducible first | exact HB.out | apply ba_ | apply bn_ | apply bd_) | exact HB.out)⟩
mutual
def spec_HeapTake.j0 : Nat → List (S25) → Int → List (S25) → Option ((List (S25)) × Int × Int × Bool)
 | 0, _, _, _ => none
 | k + 1, x0, x5, x6 => spec_HeapTake.l0 k x0 x5 x6 0
def spec_HeapTake.l0 : Nat → List (S25) → Int → List (S25) → Int → Option ((List (S25)) × Int × Int × Bool)
 | 0, _, _, _, _ => none
 | k + 1, x0, x5, x6, x7 => if (wrap64 ((wrap64 (2 * x7)) + 1)) < x5 then (if (wrap64 ((wrap64 ((wrap64 (2 * x7)) + 1)) + 1)) < x5 then (if 0 ≤ (wrap64 ((wrap64 ((wrap64 (2 * x7)) + 1)) + 1)) then (if (wrap64 ((wrap64 ((wrap64 (2 * x7)) + 1)) + 1)) < (x6.length : Int) then (if 0 ≤ (wrap64 ((wrap64 (2 * x7)) + 1)) then (if (wrap64 ((wrap64 (2 * x7)) + 1)) < (x6.length : Int) then ((spec_Before.f ((rd_T25 x6 (wrap64 ((wrap64 ((wrap64 (2 * x7)) + 1)) + 1))).f0) ((rd_T25 x6 (wrap64 ((wrap64 ((wrap64 (2 * x7)) + 1)) + 1))).f1) ((rd_T25 x6 (wrap64 ((wrap64 (2 * x7)) + 1))).f0) ((rd_T25 x6 (wrap64 ((wrap64 (2 * x7)) + 1))).f1)).bind fun t389 => (spec_HeapTake.j2 k x0 x5 x6 x7 (wrap64 ((wrap64 (2 * x7)) + 1)) t389)) else (none)) else (none)) else (none)) else (none)) else (spec_HeapTake.j2 k x0 x5 x6 x7 (wrap64 ((wrap64 (2 * x7)) + 1)) false)) else (if 0 < (x0.length : Int) then (some (x6, (rd_T25 x0 0).f0, (rd_T25 x0 0).f1, true)) else (none))
def spec_HeapTake.j2 : Nat → List (S25) → Int → List (S25) → Int → Int → Bool → Option ((List (S25)) × Int × Int × Bool)
 | 0, _, _, _, _, _, _ => none
 | k + 1, x0, x5, x6, x7, x8, x54 => if x54 = true then (if 0 ≤ (wrap64 (x8 + 1)) then (if (wrap64 (x8 + 1)) < (x6.length : Int) then (if 0 ≤ x7 then (if x7 < (x6.length : Int) then ((spec_Before.f ((rd_T25 x6 (wrap64 (x8 + 1))).f0) ((rd_T25 x6 (wrap64 (x8 + 1))).f1) ((rd_T25 x6 x7).f0) ((rd_T25 x6 x7).f1)).bind fun t392 => (if t392 = true then (spec_HeapTake.l0 k x0 x5 ((x6.set (x7 : Int).toNat (⟨(rd_T25 x6 (wrap64 (x8 + 1))).f0, (rd_T25 x6 (wrap64 (x8 + 1))).f1⟩ : S25)).set ((wrap64 (x8 + 1)) : Int).toNat (⟨(rd_T25 x6 x7).f0, (rd_T25 x6 x7).f1⟩ : S25)) (wrap64 (x8 + 1))) else (if 0 < (x0.length : Int) then (some (x6, (rd_T25 x0 0).f0, (rd_T25 x0 0).f1, true)) else (none)))) else (none)) else (none)) else (none)) else (none)) else (if 0 ≤ x8 then (if x8 < (x6.length : Int) then (if 0 ≤ x7 then (if x7 < (x6.length : Int) then ((spec_Before.f ((rd_T25 x6 x8).f0) ((rd_T25 x6 x8).f1) ((rd_T25 x6 x7).f0) ((rd_T25 x6 x7).f1)).bind fun t401 => (if t401 = true then (spec_HeapTake.l0 k x0 x5 ((x6.set (x7 : Int).toNat (⟨(rd_T25 x6 x8).f0, (rd_T25 x6 x8).f1⟩ : S25)).set (x8 : Int).toNat (⟨(rd_T25 x6 x7).f0, (rd_T25 x6 x7).f1⟩ : S25)) x8) else (if 0 < (x0.length : Int) then (some (x6, (rd_T25 x0 0).f0, (rd_T25 x0 0).f1, true)) else (none)))) else (none)) else (none)) else (none)) else (none))
end
def spec_HeapTake.f (k : Nat) (l0 : List (S25)) : Option ((List (S25)) × Int × Int × Bool) := if (l0.length : Int) = 0 then (some ((([] : List (S25))), 0, 0, false)) else ((some (([] : List (S25)) : List (S25))).bind fun y374 => (if 0 ≤ (wrap64 ((l0.length : Int) - 1)) then (if (wrap64 ((l0.length : Int) - 1)) ≤ (l0.length : Int) then ((some (l0.take ((wrap64 ((l0.length : Int) - 1)) : Int).toNat : List (S25))).bind fun y377 => (if y374.length + y377.length < 8796093022208 then ((some (y374 ++ y377 : List (S25))).bind fun y381 => (if (wrap64 ((l0.length : Int) - 1)) > 0 then (if (wrap64 ((l0.length : Int) - 1)) < (l0.length : Int) then (if 0 < (y381.length : Int) then (spec_HeapTake.j0 k l0 (wrap64 ((l0.length : Int) - 1)) (y381.set (0 : Int).toNat (⟨(rd_T25 l0 (wrap64 ((l0.length : Int) - 1))).f0, (rd_T25 l0 (wrap64 ((l0.length : Int) - 1))).f1⟩ : S25))) else (none)) else (none)) else (spec_HeapTake.j0 k l0 (wrap64 ((l0.length : Int) - 1)) y381))) else (none))) else (none)) else (none)))
theorem spec_HeapTake.mono_l : ∀ k, (∀ y0 y1 y2, LeO (spec_HeapTake.j0 k y0 y1 y2) (spec_HeapTake.j0 (k + 1) y0 y1 y2)) ∧ (∀ y0 y1 y2 y3, LeO (spec_HeapTake.l0 k y0 y1 y2 y3) (spec_HeapTake.l0 (k + 1) y0 y1 y2 y3)) ∧ (∀ y0 y1 y2 y3 y4 y5, LeO (spec_HeapTake.j2 k y0 y1 y2 y3 y4 y5) (spec_HeapTake.j2 (k + 1) y0 y1 y2 y3 y4 y5))
 | 0 => ⟨fun _ _ _ r h => by simp [spec_HeapTake.j0] at h, fun _ _ _ _ r h => by simp [spec_HeapTake.l0] at h, fun _ _ _ _ _ _ r h => by simp [spec_HeapTake.j2] at h⟩
 | k + 1 => by
  obtain ⟨ih0, ih1, ih2⟩ := spec_HeapTake.mono_l k
  refine ⟨?_, ?_, ?_⟩
  ·
   intro y0 y1 y2
   unfold spec_HeapTake.j0
   repeat' first
   | (with_reducible exact ih0 _ _ _)
   | (with_reducible exact ih1 _ _ _ _)
   | (with_reducible exact ih2 _ _ _ _ _ _)
   | (with_reducible exact LeO.refl _)
   | (with_reducible exact LeO.none _)
   | (with_reducible refine LeO.ite ?_ ?_)
   | (with_reducible refine LeO.bind ?_ (fun _ => ?_))
   | exact ih0 _ _ _
   | exact ih1 _ _ _ _
   | exact ih2 _ _ _ _ _ _
  ·
   intro y0 y1 y2 y3
   unfold spec_HeapTake.l0
   repeat' first
   | (with_reducible exact ih0 _ _ _)
   | (with_reducible exact ih1 _ _ _ _)
   | (with_reducible exact ih2 _ _ _ _ _ _)
   | (with_reducible exact LeO.refl _)
   | (with_reducible exact LeO.none _)
   | (with_reducible refine LeO.ite ?_ ?_)
   | (with_reducible refine LeO.bind ?_ (fun _ => ?_))
   | exact ih0 _ _ _
   | exact ih1 _ _ _ _
   | exact ih2 _ _ _ _ _ _
  intro y0 y1 y2 y3 y4 y5
  unfold spec_HeapTake.j2
  repeat' first
  | (with_reducible exact ih0 _ _ _)
  | (with_reducible exact ih1 _ _ _ _)
  | (with_reducible exact ih2 _ _ _ _ _ _)
  | (with_reducible exact LeO.refl _)
  | (with_reducible exact LeO.none _)
  | (with_reducible refine LeO.ite ?_ ?_)
  | (with_reducible refine LeO.bind ?_ (fun _ => ?_))
  | exact ih0 _ _ _
  | exact ih1 _ _ _ _
  | exact ih2 _ _ _ _ _ _
theorem spec_HeapTake.mono : ∀ a0 k, LeO (spec_HeapTake.f k a0) (spec_HeapTake.f (k + 1) a0) := by
 intro a0 k
 obtain ⟨ih0, ih1, ih2⟩ := spec_HeapTake.mono_l k
 unfold spec_HeapTake.f
 repeat' first
   | (with_reducible exact ih0 _ _ _)
   | (with_reducible exact ih1 _ _ _ _)
   | (with_reducible exact ih2 _ _ _ _ _ _)
   | (with_reducible exact LeO.refl _)
   | (with_reducible exact LeO.none _)
   | (with_reducible refine LeO.ite ?_ ?_)
   | (with_reducible refine LeO.bind ?_ (fun _ => ?_))
   | exact ih0 _ _ _
   | exact ih1 _ _ _ _
   | exact ih2 _ _ _ _ _ _
def spec_HeapTake.T10 : Bool × List (List Nat × List Nat) := (true, [([], []), ([0], [0]), ([], []), ([1, 2], [1, 2]), ([3], [3]), ([4], [4]), ([4], [4]), ([6, 4], [4, 6]), ([5, 7, 4], [4, 5, 7]), ([8, 4], [4, 8]), ([4], [4]), ([4], [4]), ([10, 11, 4], [4, 10, 11]), ([12, 4], [4, 12]), ([9, 13, 4, 4], [4, 9, 13]), ([4, 14], [4, 14])])
def spec_HeapTake.B10 : List Nat := [0, 1, 0, 7, 15, 31, 31, 95, 255, 511, 31, 31, 3103, 7199, 16383, 32767]
theorem spec_HeapTake.tab10 : rtab .any (opsOf Try.f33 10) = spec_HeapTake.T10 := by kernel_rfl
theorem spec_HeapTake.bits10 : waitsOk spec_HeapTake.T10.2 spec_HeapTake.B10 = true := by kernel_rfl
def spec_HeapTake.T12 : Bool × List (List Nat × List Nat) := (true, [([], []), ([], []), ([0, 1], [0, 1]), ([2], [2]), ([], []), ([], []), ([4, 5], [4, 5]), ([6], [6]), ([3, 7], [3, 7]), ([8], [8])])
def spec_HeapTake.B12 : List Nat := [0, 0, 3, 7, 0, 0, 48, 112, 255, 511]
theorem spec_HeapTake.tab12 : rtab .any (opsOf Try.f33 12) = spec_HeapTake.T12 := by kernel_rfl
theorem spec_HeapTake.bits12 : waitsOk spec_HeapTake.T12.2 spec_HeapTake.B12 = true := by kernel_rfl
theorem spec_HeapTake.calls (k : Nat) (A0 : Option Addr) (c0 : Nat) (l0 : List (S25)) (r1 : List (S25)) (r2 : Int) (r3 : Int) (r4 : Bool) (w : World) (hr0 : Kd.C k25 w A0 l0.length l0) (hc0 : l0.length ≤ c0) (h : spec_HeapTake.f k l0 = some (r1, r2, r3, r4)) :
  Calls Try.prog 33 #[.slice A0 l0.length c0] w fun e w' => ∃ v0_ : Value, e = .returned (.tuple #[v0_, .agg #[.int .i64 r2, .int .i64 r3], .bool r4]) ∧ Kd.R k25 25 w' w.heap.size (fun _ => True) v0_ r1 ∧ Below w.heap.size w w' := by
 have hu25 := Try.underlying25
 have HR0 := Aside0.mk hr0
 have HC0 := Aside0.mk hc0
 clear hr0 hc0
 have HB := Aside0.mk (Below.refl w.heap.size w)
 have H : (if (l0.length : Int) = 0 then (some ((([] : List (S25))), 0, 0, false)) else ((some (([] : List (S25)) : List (S25))).bind fun y374 => (if 0 ≤ (wrap64 ((l0.length : Int) - 1)) then (if (wrap64 ((l0.length : Int) - 1)) ≤ (l0.length : Int) then ((some (l0.take ((wrap64 ((l0.length : Int) - 1)) : Int).toNat : List (S25))).bind fun y377 => (if y374.length + y377.length < 8796093022208 then ((some (y374 ++ y377 : List (S25))).bind fun y381 => (if (wrap64 ((l0.length : Int) - 1)) > 0 then (if (wrap64 ((l0.length : Int) - 1)) < (l0.length : Int) then (if 0 < (y381.length : Int) then (spec_HeapTake.j0 k l0 (wrap64 ((l0.length : Int) - 1)) (y381.set (0 : Int).toNat (⟨(rd_T25 l0 (wrap64 ((l0.length : Int) - 1))).f0, (rd_T25 l0 (wrap64 ((l0.length : Int) - 1))).f1⟩ : S25))) else (none)) else (none)) else (spec_HeapTake.j0 k l0 (wrap64 ((l0.length : Int) - 1)) y381))) else (none))) else (none)) else (none)))) = some (r1, r2, r3, r4) := h
 clear h
 by_cases c2 : (l0.length : Int) = 0
 ·
  rw [if_pos c2] at H
  have c2b0 : ((l0.length : Int) == 0) = true := beq_iff_eq.mpr c2
  have c2b1 : ((l0.length : Int) != 0) = false := bne_eq_false_iff_eq.mpr c2
  clear c2
  obtain ⟨y371, hy371⟩ : ∃ y_ : List (S25), y_ = (([] : List (S25))) := ⟨_, rfl⟩
  replace H : (some (y371, 0, 0, false)) = some (r1, r2, r3, r4) := by first | (rw [hy371]; with_reducible exact H) | (have H2_ := (Option.bind_some _ _).symm.trans H; rw [hy371]; with_reducible exact H2_) | (have H2_ := (Option.bind_some _ _).symm.trans H; with_reducible exact H2_) | with_reducible exact H | (rw [hy371]; exact H) | exact H
  have Ny371 := Aside0.mk hy371
  clear hy371
  simp only [Option.some.injEq, Prod.mk.injEq] at H
  obtain ⟨rfl, rfl, rfl, rfl⟩ := H
  go_enter Try.func33, Try.ntmps33
  go_wp2_with (first | ((with_reducible refine gate_dst (N := 3) rfl ?_); refine box_event ?hg (N := 3) ?hd (cs := #[.int .i64 0, .int .i64 0]) (t := 25) ?hr ?_; (case hd => rfl); (case hg => rfl); (case hr => first | (go_simp; done) | (go_simp; rfl)); intro gb370 hg w3 hbox hb; have n0_ := Aside0.mk (below_step (by repeat (first | (with_reducible first | exact HB.out | apply ba_ | apply bn_ | apply bd_) | exact HB.out)) hb); have BK370 := Aside0.mk (hbox); have GW370 := Aside0.mk ((by rw [hg]; exact (below_size (by repeat (first | (with_reducible first | exact HB.out | apply ba_ | apply bn_ | apply bd_) | exact HB.out))) : w.heap.size ≤ gb370)); have GE370 := GW370; clear HB; have HB := n0_; clear n0_; clear hb hbox hg) | ((with_reducible refine gate_dst (N := 13) rfl ?_); refine Kd.R_lit k25 _ 25 ?hg (N := 13) ?hd (xs := ([] : List (S25))) (inner := []) (ok := fun _ => True) (okp := fun _ => True) ?hr ?hp (fun _ hk => hk) trivial (Below.refl _ _) (Nat.le_refl _) (by simp) ?_; (case hd => rfl); (case hg => rfl); (case hr => first | (go_simp; done) | (go_simp; rfl)); (case hp => exact (Reps.none _ _)); intro v372 w4 ho5 hb hg_ hnew_; clear hg_ hnew_; (first | rw [← Ny371.out] at ho5 | (simp only [Int.reduceToNat] at ho5; rw [← Ny371.out] at ho5)); have n0_ := Aside0.mk (Kd.R_lower (Kd.R_newB ho5 (g := gb370) (o := .cells #[.int .i64 0, .int .i64 0] 25 (0, 0)) (pb_ BK370.out)) (below_size (by repeat (first | (with_reducible first | exact HB.out | apply ba_ | apply bn_ | apply bd_ | refine below_set ?_ GE370.out) | exact HB.out)))); have n1_ := Aside0.mk (bb_ BK370.out hb); have n2_ := Aside0.mk (below_step (by repeat (first | (with_reducible first | exact HB.out | apply ba_ | apply bn_ | apply bd_ | refine below_set ?_ GE370.out) | exact HB.out)) hb); clear BK370 HB; have HO373 := n0_; have BK370 := n1_; have HB := n2_; clear n0_ n1_ n2_; clear hb ho5; obtain ⟨hcz6_0, hcz6_1, hfz6_0, hfz6_1⟩ := bc2_ BK370.out))
  refine bodyPost_ret (results_list (rs := [.tmp 2, .cell 3 25, .tmp 4]) rfl (by simp) (.tmp (.cell gb370 25 #[.int .i64 0, .int .i64 0] (0, 0) _ rfl (by (with_reducible repeat (first | refine kn_ ?_ _ | refine kd_ ?_ | refine ka_ ?_ _)); refine blk_put (cs := #[.int .i64 0, .int .i64 0]) ?_ 1 _ rfl; (with_reducible repeat (first | refine kn_ ?_ _ | refine kd_ ?_ | refine ka_ ?_ _)); refine blk_put (cs := #[.int .i64 0, .int .i64 0]) ?_ 0 _ rfl; (with_reducible repeat (first | refine kn_ ?_ _ | refine kd_ ?_ | refine ka_ ?_ _)); exact BK370.out) Try.underlying25 rfl (by kernel_rfl) (.tmp .nil)))) rfl ?_
  exact ⟨_, by first | rfl | (simp [errW_none, errW_some] <;> rfl) | (simp [*, errW_none, errW_some] <;> rfl), by (with_reducible repeat (first | apply Kd.R_alloc | apply Kd.R_drewN | apply Kd.R_drew)); exact Kd.R_mono (Kd.R_far (p := ⟨gb370, 1, none⟩) (Kd.R_far (p := ⟨gb370, 0, none⟩) (Kd.R_mono HO373.out (fun k_ hk => (⟨hk, hk.2⟩ : _ ∧ k_ ≠ gb370))) (fun _ hk => hk.2) (.int .i64 0)) (fun _ hk => hk.2) (.int .i64 0)) (fun _ hk => trivial), by repeat (first | (with_reducible first | exact HB.out | apply ba_ | apply bn_ | apply bd_ | refine below_set ?_ GE370.out) | exact HB.out)⟩
 rw [if_neg c2] at H
 have c2b0 : ((l0.length : Int) == 0) = false := beq_eq_false_iff_ne.mpr c2
 have c2b1 : ((l0.length : Int) != 0) = true := bne_iff_ne.mpr c2
 have c2b2 : ¬ (l0 = []) := fun h_ => c2 (by rw [h_]; rfl)
 obtain ⟨y374, hy374⟩ : ∃ y_ : List (S25), y_ = (([] : List (S25))) := ⟨_, rfl⟩
 replace H : (if 0 ≤ (wrap64 ((l0.length : Int) - 1)) then (if (wrap64 ((l0.length : Int) - 1)) ≤ (l0.length : Int) then ((some (l0.take ((wrap64 ((l0.length : Int) - 1)) : Int).toNat : List (S25))).bind fun y377 => (if y374.length + y377.length < 8796093022208 then ((some (y374 ++ y377 : List (S25))).bind fun y381 => (if (wrap64 ((l0.length : Int) - 1)) > 0 then (if (wrap64 ((l0.length : Int) - 1)) < (l0.length : Int) then (if 0 < (y381.length : Int) then (spec_HeapTake.j0 k l0 (wrap64 ((l0.length : Int) - 1)) (y381.set (0 : Int).toNat (⟨(rd_T25 l0 (wrap64 ((l0.length : Int) - 1))).f0, (rd_T25 l0 (wrap64 ((l0.length : Int) - 1))).f1⟩ : S25))) else (none)) else (none)) else (spec_HeapTake.j0 k l0 (wrap64 ((l0.length : Int) - 1)) y381))) else (none))) else (none)) else (none)) = some (r1, r2, r3, r4) := by first | (rw [hy374]; with_reducible exact H) | (have H2_ := (Option.bind_some _ _).symm.trans H; rw [hy374]; with_reducible exact H2_) | (have H2_ := (Option.bind_some _ _).symm.trans H; with_reducible exact H2_) | with_reducible exact H | (rw [hy374]; exact H) | exact H
 have Ny374 := Aside0.mk hy374
 clear hy374
 obtain ⟨ji7, hji7⟩ : ∃ j_ : Int, (wrap64 ((l0.length : Int) - 1)) = j_ := ⟨_, rfl⟩
 replace H : (if 0 ≤ (ji7) then (if (ji7) ≤ (l0.length : Int) then ((some (l0.take ((ji7) : Int).toNat : List (S25))).bind fun y377 => (if y374.length + y377.length < 8796093022208 then ((some (y374 ++ y377 : List (S25))).bind fun y381 => (if (ji7) > 0 then (if (ji7) < (l0.length : Int) then (if 0 < (y381.length : Int) then (spec_HeapTake.j0 k l0 ji7 (y381.set (0 : Int).toNat (⟨(rd_T25 l0 (ji7)).f0, (rd_T25 l0 (ji7)).f1⟩ : S25))) else (none)) else (none)) else (spec_HeapTake.j0 k l0 ji7 y381))) else (none))) else (none)) else (none)) = some (r1, r2, r3, r4) := by first | (rw [hji7] at H; exact H) | (simp only [hji7] at H ⊢; exact H)
 have hji7w : (IntKind.i64.wrap ((l0.length : Int) - 1)) = ji7 := (i64_w _).trans hji7
 by_cases c8 : 0 ≤ (ji7)
 ·
  rw [if_pos c8] at H
  have c8b0 := eq_true c8
  have c8b1 := decide_eq_true c8
  clear c8
  by_cases c9 : (ji7) ≤ (l0.length : Int)
  ·
   rw [if_pos c9] at H
   have c9b0 := eq_true c9
   have c9b1 := decide_eq_true c9
   clear c9
   obtain ⟨y377, hy377⟩ : ∃ y_ : List (S25), y_ = (l0.take ((ji7) : Int).toNat) := ⟨_, rfl⟩
   replace H : (if y374.length + y377.length < 8796093022208 then ((some (y374 ++ y377 : List (S25))).bind fun y381 => (if (ji7) > 0 then (if (ji7) < (l0.length : Int) then (if 0 < (y381.length : Int) then (spec_HeapTake.j0 k l0 ji7 (y381.set (0 : Int).toNat (⟨(rd_T25 l0 (ji7)).f0, (rd_T25 l0 (ji7)).f1⟩ : S25))) else (none)) else (none)) else (spec_HeapTake.j0 k l0 ji7 y381))) else (none)) = some (r1, r2, r3, r4) := by first | (rw [hy377]; with_reducible exact H) | (have H2_ := (Option.bind_some _ _).symm.trans H; rw [hy377]; with_reducible exact H2_) | (have H2_ := (Option.bind_some _ _).symm.trans H; with_reducible exact H2_) | with_reducible exact H | (rw [hy377]; exact H) | exact H
   have Ny377 := Aside0.mk hy377
   clear hy377
   by_cases c10 : y374.length + y377.length < 8796093022208
   ·
    rw [if_pos c10] at H
    have LMc10 := Aside0.mk c10
    clear c10
    obtain ⟨y381, hy381⟩ : ∃ y_ : List (S25), y_ = (y374 ++ y377) := ⟨_, rfl⟩
    replace H : (if (ji7) > 0 then (if (ji7) < (l0.length : Int) then (if 0 < (y381.length : Int) then (spec_HeapTake.j0 k l0 ji7 (y381.set (0 : Int).toNat (⟨(rd_T25 l0 (ji7)).f0, (rd_T25 l0 (ji7)).f1⟩ : S25))) else (none)) else (none)) else (spec_HeapTake.j0 k l0 ji7 y381)) = some (r1, r2, r3, r4) := by first | (rw [hy381]; with_reducible exact H) | (have H2_ := (Option.bind_some _ _).symm.trans H; rw [hy381]; with_reducible exact H2_) | (have H2_ := (Option.bind_some _ _).symm.trans H; with_reducible exact H2_) | with_reducible exact H | (rw [hy381]; exact H) | exact H
    have Ny381 := Aside0.mk hy381
    clear hy381
    have HC11 := Aside0.mk H
    clear H
    go_enter Try.func33, Try.ntmps33
    go_upto_if 24 with (first | ((with_reducible refine gate_dst (N := 3) rfl ?_); refine box_event ?hg (N := 3) ?hd (cs := #[.int .i64 0, .int .i64 0]) (t := 25) ?hr ?_; (case hd => rfl); (case hg => rfl); (case hr => first | (go_simp; done) | (go_simp; rfl)); intro gb370 hg w12 hbox hb; have n0_ := Aside0.mk (below_step (by repeat (first | (with_reducible first | exact HB.out | apply ba_ | apply bn_ | apply bd_) | exact HB.out)) hb); have BK370 := Aside0.mk (hbox); have GW370 := Aside0.mk ((by rw [hg]; exact (below_size (by repeat (first | (with_reducible first | exact HB.out | apply ba_ | apply bn_ | apply bd_) | exact HB.out))) : w.heap.size ≤ gb370)); have GE370 := GW370; clear HB; have HB := n0_; clear n0_; clear hb hbox hg) | ((with_reducible refine gate_dst (N := 18) rfl ?_); refine Kd.R_lit k25 _ 25 ?hg (N := 18) ?hd (xs := ([] : List (S25))) (inner := []) (ok := fun _ => True) (okp := fun _ => True) ?hr ?hp (fun _ hk => hk) trivial (Below.refl _ _) (Nat.le_refl _) (by simp) ?_; (case hd => rfl); (case hg => rfl); (case hr => first | (go_simp; done) | (go_simp; rfl)); (case hp => exact (Reps.none _ _)); intro v375 w13 ho14 hb hg_ hnew_; clear hg_ hnew_; (first | rw [← Ny374.out] at ho14 | (simp only [Int.reduceToNat] at ho14; rw [← Ny374.out] at ho14)); have n0_ := Aside0.mk (Kd.R_lower (Kd.R_newB ho14 (g := gb370) (o := .cells #[.int .i64 0, .int .i64 0] 25 (0, 0)) (pb_ BK370.out)) (below_size (by repeat (first | (with_reducible first | exact HB.out | apply ba_ | apply bn_ | apply bd_ | refine below_set ?_ GE370.out) | exact HB.out)))); have n1_ := Aside0.mk (bb_ BK370.out hb); have n2_ := Aside0.mk (below_step (by repeat (first | (with_reducible first | exact HB.out | apply ba_ | apply bn_ | apply bd_ | refine below_set ?_ GE370.out) | exact HB.out)) hb); clear BK370 HB; have HO376 := n0_; have BK370 := n1_; have HB := n2_; clear n0_ n1_ n2_; clear hb ho14; have q15 : ((ji7) : Int) ≤ ((l0.length : Int) : Int) := of_decide_eq_true (by with_reducible assumption); obtain ⟨i015, hi015, _, hsz15, _⟩ := info_parts info25; have hroom15 : l0.length ≤ c0 := HC0.out; have hC15 : Kd.C k25 _ A0 l0.length l0 := HR0.out; have hcut15 := cut_to (P := Try.prog) 31 25 .i64 Try.underlying31 hi015 A0 l0.length c0 (ji7) (of_decide_eq_true (by with_reducible assumption)) q15 hroom15; have hr15 := Kd.C_take (m := ((ji7) : Int).toNat) hC15 (by omega); have hy15 : y377.length = ((ji7) : Int).toNat := (by rw [Ny377.out, List.length_take]; omega); rw [← Ny377.out] at hr15; rw [← hy15] at hcut15; have HR380 := Aside0.mk hr15; have HC380 := Aside0.mk (show y377.length ≤ c0 from by omega); clear hr15 hC15 hroom15 hi015 hsz15; have KY15 := Aside0.mk hy15; clear hy15; replace q15 := eq_true q15) | ((with_reducible refine gate_builtin (b := .append) (xs := #[.tmp 18, .tmp 21]) rfl ?_); at_builtin; refine Kd.R_append_rows k25 (w0 := w) w.heap.size rfl (.tmp 18) (.tmp 21) 31 25 (.agg #[(.int .i64 0), (.int .i64 0)]) 16 rfl Try.underlying31 info25 rfl (by decide) (by omega) v375 y374 y377 _ _ _ (fun k_ => k_ ≠ gb370) (fun _ => False) rfl rfl ?aO ?aR (fun _ _ h => h) (fun _ h => h.elim) ?aF ?aB ?aS ?aL ?_; (case aR => repeat (first | exact (Kd.C_below HR380.out HB.out) | (with_reducible first | refine ca_ ?_ _ | refine cn_ ?_ _ | refine cd_ ?_))); (case aB => exact (by repeat (first | (with_reducible first | exact HB.out | apply ba_ | apply bn_ | apply bd_ | refine below_set ?_ GE370.out) | exact HB.out))); (case aF => exact (fun k_ hk => Kd.freshB (g := gb370) (o := .cells #[.int .i64 0, .int .i64 0] 25 (0, 0)) (pb_ BK370.out) k_ hk)); (case aO => exact (by (with_reducible repeat (first | apply Kd.R_alloc | apply Kd.R_drewN | apply Kd.R_drew)); exact Kd.R_mono HO376.out (fun _ hk => hk.2))); (case aS => exact (below_size (by repeat (first | (with_reducible first | exact HB.out | apply ba_ | apply bn_ | apply bd_ | refine below_set ?_ GE370.out) | exact HB.out)))); (case aL => have := LMc10.out; omega); intro v382 w16 ho hb hg hat; rw [← Ny381.out] at ho; have n0_ := Aside0.mk (blk_grown (g := gb370) (o := .cells #[.int .i64 0, .int .i64 0] 25 (0, 0)) (pb_ BK370.out) hg (Kd.R_away HO376.out (fun _ hk => hk.2))); have n1_ := Aside0.mk (hb); have n2_ := Aside0.mk (ho); clear BK370 HB HO376; have BK370 := n0_; have HB := n1_; have HO383 := n2_; clear n0_ n1_ n2_; clear ho hb hg hat))
    (try simp only [Act.put, List.setIfInBounds_toArray, List.set_cons_zero, List.set_cons_succ])
    go_cut [] (fun wc => ∃ (kq : Nat) (x6_10 : List (S25)) (x371000_10 : Int) (x371001_10 : Int), Aside0 (spec_HeapTake.j0 kq l0 ji7 x6_10 = some (r1, r2, r3, r4)) ∧ Aside0 (kq ≤ k) ∧ Aside0 (Kd.R k25 25 wc w.heap.size (fun k_ => k_ ≠ gb370) v382 x6_10) ∧ Aside0 (wc.heap[gb370]? = some (.cells #[.int .i64 x371000_10, .int .i64 x371001_10] 25 (0, 0))) ∧ Aside0 (Below w.heap.size w wc))
    case first =>
     have H := HC11.out
     clear HC11
     by_cases c17 : (ji7) > 0
     ·
      rw [if_pos c17] at H
      have c17b0 : decide (0 < (ji7)) = true := decide_eq_true c17
      clear c17
      (first | rw [c17b0] | (simp only [i64_w, i32_w]; rw [c17b0]) | skip)
      by_cases c18 : (ji7) < (l0.length : Int)
      ·
       rw [if_pos c18] at H
       have c18b0 := decide_eq_true c18
       clear c18
       by_cases c19 : 0 < (y381.length : Int)
       ·
        rw [if_pos c19] at H
        have c19b0 := decide_eq_true c19
        have c19b1 : decide (0 < y381.length) = true := decide_eq_true (by omega)
        clear c19
        obtain ⟨y385, hy385⟩ : ∃ y_ : List (S25), y_ = (y381.set (0 : Int).toNat (⟨(rd_T25 l0 (ji7)).f0, (rd_T25 l0 (ji7)).f1⟩ : S25)) := ⟨_, rfl⟩
        replace H : (spec_HeapTake.j0 k l0 ji7 y385) = some (r1, r2, r3, r4) := by first | (rw [hy385]; with_reducible exact H) | (have H2_ := (Option.bind_some _ _).symm.trans H; rw [hy385]; with_reducible exact H2_) | (have H2_ := (Option.bind_some _ _).symm.trans H; with_reducible exact H2_) | with_reducible exact H | (rw [hy385]; exact H) | exact H
        have Ny385 := Aside0.mk hy385
        clear hy385
        have H' := Aside0.mk H
        clear H
        have p384 : 0 ≤ ((ji7) : Int) := of_decide_eq_true (by with_reducible assumption)
        have q384 : (ji7) < (l0.length : Int) := of_decide_eq_true (by with_reducible assumption)
        obtain ⟨ad384, e384, hx384_0, hx384_1⟩ := at_T25 HR0.out (ji7) p384 q384
        cases e384
        replace hx384_0 := cl_ HB.out hx384_0
        replace hx384_1 := cl_ HB.out hx384_1
        replace p384 := eq_true p384
        replace q384 := eq_true q384
        have p20 : 0 ≤ (0 : Int) := (by omega)
        have q20 : (0 : Int) < ((y381.length : Int) : Int) := of_decide_eq_true (by with_reducible assumption)
        have qi20 : (0 < y381.length) = True := eq_true (by omega)
        obtain ⟨go20, co20, eo20, gb20, gl20, cl20, HG20⟩ := Kd.R_form HO383.out (by omega)
        (first | cases eo20 | (injection eo20 with ea_ en_ ec_; (first | subst ea_ | (injection ea_ with ea_; subst ea_)); subst ec_; clear en_))
        have GB20 := Aside0.mk gb20
        have GG20 := Aside0.mk HG20
        clear gb20 gl20 HG20
        obtain ⟨ce20, hcl20, hM20, hcc20, hfr20⟩ := Kd.R_elem HO383.out z25 (0 : Int) p20 q20
        obtain rfl := k25_openM hM20
        have hx20_0 : w16.cell? ⟨go20, (0 : Int).toNat * 2, none⟩ = some (.int .i64 ((rd_T25 y381 0).f0)) := hcc20 0 _ rfl
        have hx20_1 : w16.cell? ⟨go20, (0 : Int).toNat * 2 + 1, none⟩ = some (.int .i64 ((rd_T25 y381 0).f1)) := hcc20 1 _ rfl
        have hf20_0 : w16.frozen? ⟨go20, (0 : Int).toNat * 2, none⟩ = false := hfr20 0
        have hf20_1 : w16.frozen? ⟨go20, (0 : Int).toNat * 2 + 1, none⟩ = false := hfr20 1
        clear hcl20 hcc20 hfr20 hM20
        (try rw [show ((0 : Int)).toNat = 0 from rfl] at hx20_0)
        (try simp only [Nat.reduceMul, Nat.zero_mul, Nat.zero_add, Nat.reduceAdd] at hx20_0)
        (try rw [show ((0 : Int)).toNat = 0 from rfl] at hf20_0)
        (try simp only [Nat.reduceMul, Nat.zero_mul, Nat.zero_add, Nat.reduceAdd] at hf20_0)
        (try rw [show ((0 : Int)).toNat = 0 from rfl] at hx20_1)
        (try simp only [Nat.reduceMul, Nat.zero_mul, Nat.zero_add, Nat.reduceAdd] at hx20_1)
        (try rw [show ((0 : Int)).toNat = 0 from rfl] at hf20_1)
        (try simp only [Nat.reduceMul, Nat.zero_mul, Nat.zero_add, Nat.reduceAdd] at hf20_1)
        replace p20 := eq_true p20
        replace q20 := eq_true q20
        have HX21 := Aside0.mk (show Kd.R k25 25 w16 w.heap.size (fun k_ => k_ ≠ gb370) (.slice (some ⟨go20, 0, none⟩) y381.length co20) y381 from (rp_ HO383.out))
        obtain ⟨ce21, hcl21, hM21, hcc21, hfr21⟩ := Kd.R_elem HX21.out z25 (0 : Int) (by omega) (by have h_ : (0 : Int) < ((y381.length : Int) : Int) := of_decide_eq_true (by with_reducible assumption); first | exact h_ | (have e_ := (Kd.R_reads' HO383.out).1; omega) | simpa using h_)
        obtain rfl := k25_openM hM21
        have HP21 := Kd.R_seg HX21.out (0 : Int) (by omega) (by have h_ : (0 : Int) < ((y381.length : Int) : Int) := of_decide_eq_true (by with_reducible assumption); first | exact h_ | (have e_ := (Kd.R_reads' HO383.out).1; omega) | simpa using h_) (seg := [.int .i64 ((rd_T25 l0 (ji7)).f0), .int .i64 ((rd_T25 l0 (ji7)).f1)]) (j := 0) hcl21 hcc21 (show 2 ≤ 2 from by decide) (x' := (⟨(rd_T25 l0 (ji7)).f0, (rd_T25 l0 (ji7)).f1⟩ : S25)) (k25_mkM _ _ _ (⟨(rd_T25 l0 (ji7)).f0, (rd_T25 l0 (ji7)).f1⟩ : S25) ) (fun _ hk => hk)
        have hx21_0 := hcc21 0 _ rfl
        (try simp only [show (k25).sz = 2 from rfl, Nat.mul_one, Nat.add_zero] at hx21_0)
        (try rw [show ((0 : Int)).toNat = 0 from rfl] at hx21_0)
        (try simp only [Nat.reduceMul, Nat.zero_mul, Nat.zero_add, Nat.reduceAdd] at hx21_0)
        have hf21_0 := hfr21 0
        (try simp only [show (k25).sz = 2 from rfl, Nat.mul_one, Nat.add_zero] at hf21_0)
        (try rw [show ((0 : Int)).toNat = 0 from rfl] at hf21_0)
        (try simp only [Nat.reduceMul, Nat.zero_mul, Nat.zero_add, Nat.reduceAdd] at hf21_0)
        have hx21_1 := hcc21 1 _ rfl
        (try simp only [show (k25).sz = 2 from rfl, Nat.mul_one, Nat.add_zero] at hx21_1)
        (try rw [show ((0 : Int)).toNat = 0 from rfl] at hx21_1)
        (try simp only [Nat.reduceMul, Nat.zero_mul, Nat.zero_add, Nat.reduceAdd] at hx21_1)
        have hf21_1 := hfr21 1
        (try simp only [show (k25).sz = 2 from rfl, Nat.mul_one, Nat.add_zero] at hf21_1)
        (try rw [show ((0 : Int)).toNat = 0 from rfl] at hf21_1)
        (try simp only [Nat.reduceMul, Nat.zero_mul, Nat.zero_add, Nat.reduceAdd] at hf21_1)
        clear hcl21 hcc21 hfr21 hM21
        go_wp2_with (first | ((with_reducible refine gate_store (t := 25) (p := 30) rfl ?_); refine store_event (t := 25) (p := 30) (v := ?vo_w22) (w1 := ((w16.setCell ⟨go20, 0, none⟩ (.int .i64 ((rd_T25 l0 (ji7)).f0))).setCell ⟨go20, 1, none⟩ (.int .i64 ((rd_T25 l0 (ji7)).f1)))) ?hg ?ho ?hn ?hr ?_; (case ho => rfl); (case hg => rfl); (case hn => rfl); (case hr => first | (go_simp; done) | (go_simp; rfl)); intro w22 hw; have hg : w16.grownBy w22 (some go20) := (by rw [hw]; exact HP21.2); have hp_ : Kd.R k25 25 w22 w.heap.size (fun k_ => k_ ≠ gb370) (.slice (some ⟨go20, 0, none⟩) y381.length co20) y385 := (by rw [hw, Ny385.out]; exact HP21.1); clear HP21; have n0_ := Aside0.mk (blk_grown (g := gb370) (o := .cells #[.int .i64 0, .int .i64 0] 25 (0, 0)) (pb_ BK370.out) hg (Kd.R_away HO383.out (fun _ hk => hk))); have n1_ := Aside0.mk (hp_); have n2_ := Aside0.mk ((by rw [hw]; exact below_set (below_set (HB.out) GB20.out) GB20.out : Below w.heap.size w w22)); clear BK370 HO383 HB; have BK370 := n0_; have HO383 := n1_; have HB := n2_; clear n0_ n1_ n2_; clear hg hw hp_))
        go_meet
        case rel => exact ⟨_, (y385), (0), (0), H', ⟨by first | omega | exact Nat.le_refl _⟩, ⟨by (with_reducible repeat (first | apply Kd.R_alloc | apply Kd.R_drewN | apply Kd.R_drew)); exact HO383.out⟩, ⟨by (with_reducible repeat (first | refine kn_ ?_ _ | refine kd_ ?_ | refine ka_ ?_ _)); exact BK370.out⟩, ⟨by repeat (first | (with_reducible first | exact HB.out | apply ba_ | apply bn_ | apply bd_ | refine below_set ?_ GE370.out) | exact HB.out)⟩⟩
       rw [if_neg c19] at H
       exact absurd H (by simp)
      rw [if_neg c18] at H
      exact absurd H (by simp)
     rw [if_neg c17] at H
     have c17b0 : decide (0 < (ji7)) = false := decide_eq_false c17
     clear c17
     (first | rw [c17b0] | (simp only [i64_w, i32_w]; rw [c17b0]) | skip)
     have H' := Aside0.mk H
     clear H
     go_wp2
     go_meet
     case rel => exact ⟨_, (y381), (0), (0), H', ⟨by first | omega | exact Nat.le_refl _⟩, ⟨by (with_reducible repeat (first | apply Kd.R_alloc | apply Kd.R_drewN | apply Kd.R_drew)); exact HO383.out⟩, ⟨by (with_reducible repeat (first | refine kn_ ?_ _ | refine kd_ ?_ | refine ka_ ?_ _)); exact BK370.out⟩, ⟨by repeat (first | (with_reducible first | exact HB.out | apply ba_ | apply bn_ | apply bd_ | refine below_set ?_ GE370.out) | exact HB.out)⟩⟩
    case rest =>
     clear HC11
     try clear c1
     try clear q1
     try clear c2
     try clear c2b0
     try clear c2b1
     try clear c2b2
     try clear p2
     try clear q2
     try clear hx2
     try clear qi2
     try clear hf2
     try clear c3
     try clear p3
     try clear q3
     try clear hx3
     try clear p6
     try clear c8
     try clear c8b0
     try clear c8b1
     try clear c9
     try clear c9b0
     try clear c9b1
     try clear c10
     try clear q15
     try clear c17
     try clear c17b0
     try clear c18
     try clear c18b0
     try clear c19
     try clear c19b0
     try clear c19b1
     try clear c20
     try clear p20
     try clear q20
     try clear hx20
     try clear qi20
     try clear hf20
     try clear c21
     try clear hx21
     try clear hf21
     try clear hx20_0
     try clear hx20_1
     try clear hx21_0
     try clear hx21_1
     try clear hx384_0
     try clear hx384_1
     try clear p20
     try clear p384
     try clear q15
     try clear q20
     try clear q384
     obtain ⟨kq, x6_10, x371000_10, x371001_10, HA, HJ10, HO_6, BK370, HB⟩ := hcut
     cases kq with
     | zero => exact absurd HA.out (by simp [spec_HeapTake.j0])
     | succ kj10 =>
      have H := HA.out
      clear HA
      simp only [spec_HeapTake.j0] at H
      have H' := Aside0.mk H
      clear H
      go_wp2
      go_loopg [7] kj10 (fun kq v7 w' => ∃ (x6_2 : List (S25)) (x7_2 : Int) (x371000_2 : Int) (x371001_2 : Int), v7 = .int .i64 x7_2 ∧ Aside0 (spec_HeapTake.l0 kq l0 ji7 x6_2 x7_2 = some (r1, r2, r3, r4)) ∧ Aside0 (kq ≤ kj10) ∧ Aside0 (Kd.R k25 25 w' w.heap.size (fun k_ => k_ ≠ gb370) v382 x6_2) ∧ Aside0 (w'.heap[gb370]? = some (.cells #[.int .i64 x371000_2, .int .i64 x371001_2] 25 (0, 0))) ∧ Aside0 (Below w.heap.size w w'))
      case atStart => exact ⟨(x6_10), (0), (x371000_10), (x371001_10), (by first | rfl | (simp; done) | (simp [*]; done)), H', ⟨Nat.le_refl _⟩, ⟨by (with_reducible repeat (first | apply Kd.R_alloc | apply Kd.R_drewN | apply Kd.R_drew)); exact HO_6.out⟩, ⟨by (with_reducible repeat (first | refine kn_ ?_ _ | refine kd_ ?_ | refine ka_ ?_ _)); exact BK370.out⟩, ⟨by repeat (first | (with_reducible first | exact HB.out | apply ba_ | apply bn_ | apply bd_ | refine below_set ?_ GE370.out) | exact HB.out)⟩⟩
      case round =>
       clear H'
       try clear c1
       try clear q1
       try clear c2
       try clear c2b0
       try clear c2b1
       try clear c2b2
       try clear p2
       try clear q2
       try clear hx2
       try clear qi2
       try clear hf2
       try clear c3
       try clear p3
       try clear q3
       try clear hx3
       try clear p6
       try clear c8
       try clear c8b0
       try clear c8b1
       try clear c9
       try clear c9b0
       try clear c9b1
       try clear c10
       try clear q15
       try clear c17
       try clear c17b0
       try clear c18
       try clear c18b0
       try clear c19
       try clear c19b0
       try clear c19b1
       try clear c20
       try clear p20
       try clear q20
       try clear hx20
       try clear qi20
       try clear hf20
       try clear c21
       try clear hx21
       try clear hf21
       try clear hx20_0
       try clear hx20_1
       try clear hx21_0
       try clear hx21_1
       try clear hx384_0
       try clear hx384_1
       try clear p2
       try clear p20
       try clear p3
       try clear p384
       try clear p6
       try clear q1
       try clear q15
       try clear q2
       try clear q20
       try clear q3
       try clear q384
       obtain ⟨x6_2, x7_2, x371000_2, x371001_2, rfl, HA, HK2, HO_6, BK370, HB⟩ := hrel
       cases gk with
       | zero => exact absurd HA.out (by simp [spec_HeapTake.l0])
       | succ k2 =>
        have H := HA.out
        clear HA
        simp only [spec_HeapTake.l0] at H
        by_cases c23 : (wrap64 ((wrap64 (2 * x7_2)) + 1)) < ji7
        ·
         rw [if_pos c23] at H
         have c23b0 := decide_eq_true c23
         clear c23
         have HC24 := Aside0.mk H
         clear H
         go_upto_region 10 with (fail)
         go_cut [54] (fun v54 wc => ∃ (kq : Nat) (x54_23 : Bool), v54 = .bool x54_23 ∧ Aside0 (spec_HeapTake.j2 kq l0 ji7 x6_2 x7_2 (wrap64 ((wrap64 (2 * x7_2)) + 1)) x54_23 = some (r1, r2, r3, r4)) ∧ Aside0 (kq ≤ k2) ∧ Aside0 (Kd.R k25 25 wc w.heap.size (fun k_ => k_ ≠ gb370) v382 x6_2) ∧ Aside0 (wc.heap[gb370]? = some (.cells #[.int .i64 x371000_2, .int .i64 x371001_2] 25 (0, 0))) ∧ Aside0 (Below w.heap.size w wc))
         case first =>
          have H := HC24.out
          clear HC24
          by_cases c25 : (wrap64 ((wrap64 ((wrap64 (2 * x7_2)) + 1)) + 1)) < ji7
          ·
           rw [if_pos c25] at H
           have c25b0 := decide_eq_true c25
           clear c25
           (first | rw [c25b0] | (simp only [i64_w, i32_w]; rw [c25b0]) | skip)
           obtain ⟨ji26, hji26⟩ : ∃ j_ : Int, (wrap64 ((wrap64 ((wrap64 (2 * x7_2)) + 1)) + 1)) = j_ := ⟨_, rfl⟩
           replace H : (if 0 ≤ (ji26) then (if (ji26) < (x6_2.length : Int) then (if 0 ≤ (wrap64 ((wrap64 (2 * x7_2)) + 1)) then (if (wrap64 ((wrap64 (2 * x7_2)) + 1)) < (x6_2.length : Int) then ((spec_Before.f ((rd_T25 x6_2 (ji26)).f0) ((rd_T25 x6_2 (ji26)).f1) ((rd_T25 x6_2 (wrap64 ((wrap64 (2 * x7_2)) + 1))).f0) ((rd_T25 x6_2 (wrap64 ((wrap64 (2 * x7_2)) + 1))).f1)).bind fun t389 => (spec_HeapTake.j2 k2 l0 ji7 x6_2 x7_2 (wrap64 ((wrap64 (2 * x7_2)) + 1)) t389)) else (none)) else (none)) else (none)) else (none)) = some (r1, r2, r3, r4) := by first | (rw [hji26] at H; exact H) | (simp only [hji26] at H ⊢; exact H)
           (try rw [hji26] at c25b0)
           have hji26w : (IntKind.i64.wrap ((wrap64 ((wrap64 (2 * x7_2)) + 1)) + 1)) = ji26 := (i64_w _).trans hji26
           by_cases c27 : 0 ≤ (ji26)
           ·
            rw [if_pos c27] at H
            have c27b0 := decide_eq_true c27
            clear c27
            by_cases c28 : (ji26) < (x6_2.length : Int)
            ·
             rw [if_pos c28] at H
             have c28b0 := decide_eq_true c28
             clear c28
             obtain ⟨ji29, hji29⟩ : ∃ j_ : Int, (wrap64 ((wrap64 (2 * x7_2)) + 1)) = j_ := ⟨_, rfl⟩
             replace H : (if 0 ≤ (ji29) then (if (ji29) < (x6_2.length : Int) then ((spec_Before.f ((rd_T25 x6_2 (ji26)).f0) ((rd_T25 x6_2 (ji26)).f1) ((rd_T25 x6_2 (ji29)).f0) ((rd_T25 x6_2 (ji29)).f1)).bind fun t389 => (spec_HeapTake.j2 k2 l0 ji7 x6_2 x7_2 ji29 t389)) else (none)) else (none)) = some (r1, r2, r3, r4) := by first | (rw [hji29] at H; exact H) | (simp only [hji29] at H ⊢; exact H)
             (try rw [hji29] at c23b0)
             (try rw [hji29] at c25b0)
             have hji29w : (IntKind.i64.wrap ((wrap64 (2 * x7_2)) + 1)) = ji29 := (i64_w _).trans hji29
             (try rw [hji29] at hji26)
             (try rw [hji29] at hji26w)
             by_cases c30 : 0 ≤ (ji29)
             ·
              rw [if_pos c30] at H
              have c30b0 := decide_eq_true c30
              clear c30
              by_cases c31 : (ji29) < (x6_2.length : Int)
              ·
               rw [if_pos c31] at H
               have c31b0 := decide_eq_true c31
               clear c31
               replace H := Option.bind_eq_some_iff.mp H
               obtain ⟨t389, A320, H⟩ := H
               have A32 := Aside0.mk A320
               clear A320
               have H' := Aside0.mk H
               clear H
               try go_wp2
               have n0_ := Aside0.mk (Kd.R_drew HO_6.out)
               have n1_ := Aside0.mk (blk_drew BK370.out)
               have n2_ := Aside0.mk (bd_ HB.out)
               clear HO_6 BK370 HB
               have HO_6 := n0_
               have BK370 := n1_
               have HB := n2_
               clear n0_ n1_ n2_
               obtain ⟨Ao34, co34, eo34⟩ := Kd.R_slice HO_6.out
               (first | subst eo34 | (injection eo34 with f1_ f2_ f3_; have f4_ := f1_.symm; have f5_ := f3_.symm; clear f1_ f2_ f3_; subst f4_; subst f5_))
               have p387 : 0 ≤ ((ji26) : Int) := of_decide_eq_true (by with_reducible assumption)
               have q387 : (ji26) < (x6_2.length : Int) := of_decide_eq_true (by with_reducible assumption)
               obtain ⟨ad387, e387, hx387_0, hx387_1⟩ := at_T25 (Kd.R_reads' HO_6.out).2.2 (ji26) p387 q387
               cases e387
               replace p387 := eq_true p387
               replace q387 := eq_true q387
               have p388 : 0 ≤ ((ji29) : Int) := of_decide_eq_true (by with_reducible assumption)
               have q388 : (ji29) < (x6_2.length : Int) := of_decide_eq_true (by with_reducible assumption)
               obtain ⟨ad388, e388, hx388_0, hx388_1⟩ := at_T25 (Kd.R_reads' HO_6.out).2.2 (ji29) p388 q388
               obtain rfl : ad387 = ad388 := (by injection e388)
               replace p388 := eq_true p388
               replace q388 := eq_true q388
               refine start_ (n := 16) (S := fun w' => w'.cell? (ad387.add (((ji26)).toNat * 2)) = some (.int .i64 ((rd_T25 x6_2 (ji26)).f0)) ∧ w'.cell? ⟨(ad387.add (((ji26)).toNat * 2)).block, (ad387.add (((ji26)).toNat * 2)).off + 1, none⟩ = some (.int .i64 ((rd_T25 x6_2 (ji26)).f1)) ∧ w'.cell? (ad387.add (((ji29)).toNat * 2)) = some (.int .i64 ((rd_T25 x6_2 (ji29)).f0)) ∧ w'.cell? ⟨(ad387.add (((ji29)).toNat * 2)).block, (ad387.add (((ji29)).toNat * 2)).off + 1, none⟩ = some (.int .i64 ((rd_T25 x6_2 (ji29)).f1))) (ds := []) #[f_,f_,f_,f_,f_,f_,f_,f_,f_,f_,f_,f_,f_,f_,f_,f_] (by kernel_rfl) rfl rfl ⟨hx387_0, hx387_1, hx388_0, hx388_1⟩ (fun hHeld => ?_); refine with_tabW spec_HeapTake.tab10 spec_HeapTake.bits10 (fun HT_ HW_ => ?_)
               generalize wr.drew = w33 at HO_6 BK370 HB hx387_0 hx387_1 hx388_0 hx388_1 hHeld ⊢
               refine pu_ 0 39 ?_ (b_ 1 15) rfl rfl HT_.out ?_ ?_ ?_ ?_; rotate_left; intro w'; go_simp; with_reducible rfl; rotate_left; simp only [fr_]; rfl
               refine pu_ 1 40 ?_ (b_ 2 14) rfl rfl HT_.out ?_ ?_ ?_ ?_; rotate_left; intro w'; go_simp; with_reducible rfl; rotate_left; simp only [fr_]; rfl
               refine pu_ 2 41 ?_ (b_ 3 13) rfl rfl HT_.out ?_ ?_ ?_ ?_; rotate_left; intro w'; go_simp; with_reducible rfl; rotate_left; simp only [fr_]; rfl
               refine pu_ 3 42 ?_ (b_ 4 12) rfl rfl HT_.out ?_ ?_ ?_ ?_; rotate_left; intro w'; go_simp; with_reducible rfl; rotate_left; simp only [fr_]; rfl
               refine pu_ 4 43 ?_ (b_ 5 11) rfl rfl HT_.out ?_ ?_ ?_ ?_; rotate_left; intro w'; go_simp; with_reducible rfl; rotate_left; simp only [fr_]; rfl
               refine pu_ 5 44 ?_ (b_ 6 10) rfl rfl HT_.out ?_ ?_ ?_ ?_; rotate_left; intro w'; go_simp; with_reducible rfl; rotate_left; simp only [fr_]; rfl
               refine pu_ 6 45 ?_ (b_ 7 9) rfl rfl HT_.out ?_ ?_ ?_ ?_; rotate_left; intro w'; go_simp; with_reducible rfl; rotate_left; simp only [fr_]; rfl
               refine pu_ 7 46 ?_ (b_ 8 8) rfl rfl HT_.out ?_ ?_ ?_ ?_; rotate_left; intro w'; go_simp; with_reducible rfl; rotate_left; simp only [fr_]; rfl
               refine pu_ 8 47 ?_ (b_ 9 7) rfl rfl HT_.out ?_ ?_ ?_ ?_; rotate_left; intro w'; go_simp; with_reducible rfl; rotate_left; simp only [fr_]; rfl
               refine pu_ 10 49 ?_ #[t_,t_,t_,t_,t_,t_,t_,t_,t_,f_,t_,f_,f_,f_,f_,f_] rfl rfl HT_.out ?_ ?_ ?_ ?_; rotate_left; intro w'; go_simp; with_reducible rfl; rotate_left; simp only [fr_]; rfl
               refine pu_ 11 50 ?_ #[t_,t_,t_,t_,t_,t_,t_,t_,t_,f_,t_,t_,f_,f_,f_,f_] rfl rfl HT_.out ?_ ?_ ?_ ?_; rotate_left; intro w'; go_simp; with_reducible rfl; rotate_left; simp only [fr_]; rfl
               refine pu_ 12 51 ?_ #[t_,t_,t_,t_,t_,t_,t_,t_,t_,f_,t_,t_,t_,f_,f_,f_] rfl rfl HT_.out ?_ ?_ ?_ ?_; rotate_left; intro w'; go_simp; with_reducible rfl; rotate_left; simp only [fr_]; rfl
               refine take_ (i := 9) (N := some 48) (v := ?_) (a' := ?_) #[t_,t_,t_,t_,t_,t_,t_,t_,t_,t_,t_,t_,t_,f_,f_,f_] rfl rfl (take_ofW HT_.out HW_.out (by kernel_rfl)) (fun _ _ _ h => h) (Or.inl ⟨by rfl, ?_⟩) hHeld ?_ ?_
               rotate_left
               ·
                rintro w' ⟨s0, s1, s2, s3⟩
                go_simp
                with_reducible rfl
               rotate_left
               ·
                simp only [fr_]
                rfl
               refine take_ (i := 13) (N := some 52) (v := ?_) (a' := ?_) #[t_,t_,t_,t_,t_,t_,t_,t_,t_,t_,t_,t_,t_,t_,f_,f_] rfl rfl (take_ofW HT_.out HW_.out (by kernel_rfl)) (fun _ _ _ h => h) (Or.inl ⟨by rfl, ?_⟩) hHeld ?_ ?_
               rotate_left
               ·
                rintro w' ⟨s0, s1, s2, s3⟩
                go_simp
                with_reducible rfl
               rotate_left
               ·
                simp only [fr_]
                rfl
               refine one_ (i := 14) (N := some 53) #[t_,t_,t_,t_,t_,t_,t_,t_,t_,t_,t_,t_,t_,t_,t_,f_] rfl rfl (one_of HT_.out (by kernel_rfl)) (by decide) (fun K hK => ?_)
               refine goes_ Try.func14 (by kernel_rfl) rfl #[.agg #[.int .i64 ((rd_T25 x6_2 (ji26)).f0), .int .i64 ((rd_T25 x6_2 (ji26)).f1)], .agg #[.int .i64 ((rd_T25 x6_2 (ji29)).f0), .int .i64 ((rd_T25 x6_2 (ji29)).f1)]] (by rfl) rfl rfl (by (try simp only [mp_]); first | done | (simp only [hji26, hji29]; rfl) | rfl | (simp only [List.length_drop, List.length_take]; rfl)) ?_
               with_reducible refine (spec_Before.calls ((rd_T25 x6_2 (ji26)).f0) ((rd_T25 x6_2 (ji26)).f1) ((rd_T25 x6_2 (ji29)).f0) ((rd_T25 x6_2 (ji29)).f1) t389 _ A32.out).mono ?_
               rintro e w35 ⟨rfl, hb⟩
               have HS0_ := (hb.cell (World.block_lt_of_cell? _ _ (hHeld.1))).trans (hHeld.1)
               have HS1_ := (hb.cell (World.block_lt_of_cell? _ _ (hHeld.2.1))).trans (hHeld.2.1)
               have HS2_ := (hb.cell (World.block_lt_of_cell? _ _ (hHeld.2.2.1))).trans (hHeld.2.2.1)
               have HS3_ := (hb.cell (World.block_lt_of_cell? _ _ (hHeld.2.2.2))).trans (hHeld.2.2.2)
               refine ⟨_, rfl, ?_⟩
               have n0_ := Aside0.mk (Kd.R_below (rp_ HO_6.out) hb)
               have n1_ := Aside0.mk (bb_ BK370.out hb)
               have n2_ := Aside0.mk (below_step (by repeat (first | (with_reducible first | exact HB.out | apply ba_ | apply bn_ | apply bd_ | refine below_set ?_ GE370.out) | exact HB.out)) hb)
               clear HO_6 BK370 HB
               have HO_6 := n0_
               have BK370 := n1_
               have HB := n2_
               clear n0_ n1_ n2_
               (try clear hb)
               (try clear hb2)
               (try clear hk)
               (try clear hi)
               refine hK.out _ _ ⟨HS0_, HS1_, HS2_, HS3_⟩ (fun hHeld => ?_)
               clear hK K
               refine norm_ (a' := ?_) ?_ ?_
               rotate_left
               ·
                show Act.put _ (some 53) _ = _
                simp only [fr_]
                rfl
               refine pu_ 15 54 ?_ (b_ 16 0) rfl rfl HT_.out ?_ ?_ ?_ ?_; rotate_left; intro w'; go_simp; with_reducible rfl; rotate_left; simp only [fr_]; rfl
               refine done_ (done_of HT_.out (by kernel_rfl)) ?_
               try go_wp2
               (try subst hji29)
               (try subst hji26)
               go_meet
               case rel => exact ⟨_, (t389), (by first | rfl | (simp; done) | (simp [*]; done)), H', ⟨by have := HJ10.out; have := HK2.out; first | omega | exact Nat.le_refl _⟩, ⟨by (with_reducible repeat (first | apply Kd.R_alloc | apply Kd.R_drewN | apply Kd.R_drew)); exact HO_6.out⟩, ⟨by (with_reducible repeat (first | refine kn_ ?_ _ | refine kd_ ?_ | refine ka_ ?_ _)); exact BK370.out⟩, ⟨by repeat (first | (with_reducible first | exact HB.out | apply ba_ | apply bn_ | apply bd_ | refine below_set ?_ GE370.out) | exact HB.out)⟩⟩
              rw [if_neg c31] at H
              exact absurd H (by simp)
             rw [if_neg c30] at H
             exact absurd H (by simp)
            rw [if_neg c28] at H
            exact absurd H (by simp)
           rw [if_neg c27] at H
           exact absurd H (by simp)
          rw [if_neg c25] at H
          have c25b0 : decide ((wrap64 ((wrap64 ((wrap64 (2 * x7_2)) + 1)) + 1)) < ji7) = false := decide_eq_false c25
          clear c25
          (first | rw [c25b0] | (simp only [i64_w, i32_w]; rw [c25b0]) | skip)
          have H' := Aside0.mk H
          clear H
          try go_wp2
          have n0_ := Aside0.mk (Kd.R_drew HO_6.out)
          have n1_ := Aside0.mk (blk_drew BK370.out)
          have n2_ := Aside0.mk (bd_ HB.out)
          clear HO_6 BK370 HB
          have HO_6 := n0_
          have BK370 := n1_
          have HB := n2_
          clear n0_ n1_ n2_
          refine start_ (n := 16) (S := fun w' => True) (ds := []) #[f_,f_,f_,f_,f_,f_,f_,f_,f_,f_,f_,f_,f_,f_,f_,f_] (by kernel_rfl) rfl rfl trivial (fun hHeld => ?_); refine with_tabW spec_HeapTake.tab10 spec_HeapTake.bits10 (fun HT_ HW_ => ?_)
          generalize wr.drew = w36 at HO_6 BK370 HB hHeld ⊢
          refine pu_ 0 39 ?_ (b_ 1 15) rfl rfl HT_.out ?_ ?_ ?_ ?_; rotate_left; intro w'; go_simp; with_reducible rfl; rotate_left; simp only [fr_]; rfl
          refine pu_ 1 40 ?_ (b_ 2 14) rfl rfl HT_.out ?_ ?_ ?_ ?_; rotate_left; intro w'; go_simp; with_reducible rfl; rotate_left; simp only [fr_]; rfl
          refine pu_ 2 41 ?_ (b_ 3 13) rfl rfl HT_.out ?_ ?_ ?_ ?_; rotate_left; intro w'; go_simp; with_reducible rfl; rotate_left; simp only [fr_]; rfl
          refine pu_ 3 42 ?_ (b_ 4 12) rfl rfl HT_.out ?_ ?_ ?_ ?_; rotate_left; intro w'; go_simp; with_reducible rfl; rotate_left; simp only [fr_]; rfl
          refine pu_ 4 43 ?_ (b_ 5 11) rfl rfl HT_.out ?_ ?_ ?_ ?_; rotate_left; intro w'; go_simp; with_reducible rfl; rotate_left; simp only [fr_]; rfl
          refine pv_ 5 44 ?_ (b_ 6 10) rfl rfl HT_.out ?_ ?_; rotate_left; simp only [fr_]; rfl
          refine pv_ 6 45 ?_ (b_ 7 9) rfl rfl HT_.out ?_ ?_; rotate_left; simp only [fr_]; rfl
          refine pv_ 7 46 ?_ (b_ 8 8) rfl rfl HT_.out ?_ ?_; rotate_left; simp only [fr_]; rfl
          refine pv_ 8 47 ?_ (b_ 9 7) rfl rfl HT_.out ?_ ?_; rotate_left; simp only [fr_]; rfl
          refine pv_ 9 48 ?_ (b_ 10 6) rfl rfl HT_.out ?_ ?_; rotate_left; simp only [fr_]; rfl
          refine pv_ 10 49 ?_ (b_ 11 5) rfl rfl HT_.out ?_ ?_; rotate_left; simp only [fr_]; rfl
          refine pv_ 11 50 ?_ (b_ 12 4) rfl rfl HT_.out ?_ ?_; rotate_left; simp only [fr_]; rfl
          refine pv_ 12 51 ?_ (b_ 13 3) rfl rfl HT_.out ?_ ?_; rotate_left; simp only [fr_]; rfl
          refine pv_ 13 52 ?_ (b_ 14 2) rfl rfl HT_.out ?_ ?_; rotate_left; simp only [fr_]; rfl
          refine pv_ 14 53 ?_ (b_ 15 1) rfl rfl HT_.out ?_ ?_; rotate_left; simp only [fr_]; rfl
          refine pu_ 15 54 ?_ (b_ 16 0) rfl rfl HT_.out ?_ ?_ ?_ ?_; rotate_left; intro w'; go_simp; with_reducible rfl; rotate_left; simp only [fr_]; rfl
          refine done_ (done_of HT_.out (by kernel_rfl)) ?_
          try go_wp2
          (try subst hji26)
          go_meet
          case rel => exact ⟨_, (false), (by first | rfl | (simp; done) | (simp [*]; done)), H', ⟨by have := HJ10.out; have := HK2.out; first | omega | exact Nat.le_refl _⟩, ⟨by (with_reducible repeat (first | apply Kd.R_alloc | apply Kd.R_drewN | apply Kd.R_drew)); exact HO_6.out⟩, ⟨by (with_reducible repeat (first | refine kn_ ?_ _ | refine kd_ ?_ | refine ka_ ?_ _)); exact BK370.out⟩, ⟨by repeat (first | (with_reducible first | exact HB.out | apply ba_ | apply bn_ | apply bd_ | refine below_set ?_ GE370.out) | exact HB.out)⟩⟩
         case rest =>
          clear HC24
          try clear c1
          try clear q1
          try clear c2
          try clear c2b0
          try clear c2b1
          try clear c2b2
          try clear p2
          try clear q2
          try clear hx2
          try clear qi2
          try clear hf2
          try clear c3
          try clear p3
          try clear q3
          try clear hx3
          try clear p6
          try clear c8
          try clear c8b0
          try clear c8b1
          try clear c9
          try clear c9b0
          try clear c9b1
          try clear c10
          try clear c14
          try clear q15
          try clear c17
          try clear c17b0
          try clear c18
          try clear c18b0
          try clear c19
          try clear c19b0
          try clear c19b1
          try clear c20
          try clear p20
          try clear q20
          try clear hx20
          try clear qi20
          try clear hf20
          try clear c21
          try clear hx21
          try clear hf21
          try clear c23
          try clear c23b0
          try clear c25
          try clear c25b0
          try clear c27
          try clear c27b0
          try clear c28
          try clear c28b0
          try clear c30
          try clear c30b0
          try clear c31
          try clear c31b0
          try clear c33
          try clear hx20_0
          try clear hx20_1
          try clear hx21_0
          try clear hx21_1
          try clear hx384_0
          try clear hx384_1
          try clear hx387_0
          try clear hx387_1
          try clear hx388_0
          try clear hx388_1
          try clear p2
          try clear p20
          try clear p3
          try clear p384
          try clear p387
          try clear p388
          try clear p6
          try clear q1
          try clear q15
          try clear q2
          try clear q20
          try clear q3
          try clear q384
          try clear q387
          try clear q388
          obtain ⟨kq, x54_23, rfl, HA, HJ23, HO_6, BK370, HB⟩ := hcut
          cases kq with
          | zero => exact absurd HA.out (by simp [spec_HeapTake.j2])
          | succ kj23 =>
           have H := HA.out
           clear HA
           simp only [spec_HeapTake.j2] at H
           by_cases c37 : x54_23 = true
           ·
            subst c37
            rw [if_pos rfl] at H
            obtain ⟨ji38, hji38⟩ : ∃ j_ : Int, (wrap64 ((wrap64 ((wrap64 (2 * x7_2)) + 1)) + 1)) = j_ := ⟨_, rfl⟩
            replace H : (if 0 ≤ (ji38) then (if (ji38) < (x6_2.length : Int) then (if 0 ≤ x7_2 then (if x7_2 < (x6_2.length : Int) then ((spec_Before.f ((rd_T25 x6_2 (ji38)).f0) ((rd_T25 x6_2 (ji38)).f1) ((rd_T25 x6_2 x7_2).f0) ((rd_T25 x6_2 x7_2).f1)).bind fun t392 => (if t392 = true then (spec_HeapTake.l0 kj23 l0 ji7 ((x6_2.set (x7_2 : Int).toNat (⟨(rd_T25 x6_2 (ji38)).f0, (rd_T25 x6_2 (ji38)).f1⟩ : S25)).set ((ji38) : Int).toNat (⟨(rd_T25 x6_2 x7_2).f0, (rd_T25 x6_2 x7_2).f1⟩ : S25)) ji38) else (if 0 < (l0.length : Int) then (some (x6_2, (rd_T25 l0 0).f0, (rd_T25 l0 0).f1, true)) else (none)))) else (none)) else (none)) else (none)) else (none)) = some (r1, r2, r3, r4) := by first | (rw [hji38] at H; exact H) | (simp only [hji38] at H ⊢; exact H)
            have hji38w : (IntKind.i64.wrap ((wrap64 ((wrap64 (2 * x7_2)) + 1)) + 1)) = ji38 := (i64_w _).trans hji38
            (try rw [hji38] at hji26)
            (try rw [hji38] at hji26w)
            by_cases c39 : 0 ≤ (ji38)
            ·
             rw [if_pos c39] at H
             have c39b0 := decide_eq_true c39
             clear c39
             by_cases c40 : (ji38) < (x6_2.length : Int)
             ·
              rw [if_pos c40] at H
              have c40b0 := decide_eq_true c40
              clear c40
              by_cases c41 : 0 ≤ x7_2
              ·
               rw [if_pos c41] at H
               have c41b0 := decide_eq_true c41
               clear c41
               by_cases c42 : x7_2 < (x6_2.length : Int)
               ·
                rw [if_pos c42] at H
                have c42b0 := decide_eq_true c42
                clear c42
                replace H := Option.bind_eq_some_iff.mp H
                obtain ⟨t392, A430, H⟩ := H
                have A43 := Aside0.mk A430
                clear A430
                by_cases c44 : t392 = true
                ·
                 subst c44
                 rw [if_pos rfl] at H
                 obtain ⟨y396, hy396⟩ : ∃ y_ : List (S25), y_ = (x6_2.set (x7_2 : Int).toNat (⟨(rd_T25 x6_2 (ji38)).f0, (rd_T25 x6_2 (ji38)).f1⟩ : S25)) := ⟨_, rfl⟩
                 replace H : (spec_HeapTake.l0 kj23 l0 ji7 (y396.set ((ji38) : Int).toNat (⟨(rd_T25 x6_2 x7_2).f0, (rd_T25 x6_2 x7_2).f1⟩ : S25)) ji38) = some (r1, r2, r3, r4) := by first | (rw [hy396]; with_reducible exact H) | (have H2_ := (Option.bind_some _ _).symm.trans H; rw [hy396]; with_reducible exact H2_) | (have H2_ := (Option.bind_some _ _).symm.trans H; with_reducible exact H2_) | with_reducible exact H | (rw [hy396]; exact H) | exact H
                 have Ny396 := Aside0.mk hy396
                 clear hy396
                 obtain ⟨y397, hy397⟩ : ∃ y_ : List (S25), y_ = (y396.set ((ji38) : Int).toNat (⟨(rd_T25 x6_2 x7_2).f0, (rd_T25 x6_2 x7_2).f1⟩ : S25)) := ⟨_, rfl⟩
                 replace H : (spec_HeapTake.l0 kj23 l0 ji7 y397 ji38) = some (r1, r2, r3, r4) := by first | (rw [hy397]; with_reducible exact H) | (have H2_ := (Option.bind_some _ _).symm.trans H; rw [hy397]; with_reducible exact H2_) | (have H2_ := (Option.bind_some _ _).symm.trans H; with_reducible exact H2_) | with_reducible exact H | (rw [hy397]; exact H) | exact H
                 have Ny397 := Aside0.mk hy397
                 clear hy397
                 have H' := Aside0.mk H
                 clear H
                 try go_wp2
                 have n0_ := Aside0.mk (Kd.R_drew HO_6.out)
                 have n1_ := Aside0.mk (blk_drew BK370.out)
                 have n2_ := Aside0.mk (bd_ HB.out)
                 clear HO_6 BK370 HB
                 have HO_6 := n0_
                 have BK370 := n1_
                 have HB := n2_
                 clear n0_ n1_ n2_
                 obtain ⟨Ao48, co48, eo48⟩ := Kd.R_slice HO_6.out
                 (first | subst eo48 | (injection eo48 with f1_ f2_ f3_; have f4_ := f1_.symm; have f5_ := f3_.symm; clear f1_ f2_ f3_; subst f4_; subst f5_))
                 have p390 : 0 ≤ ((ji38) : Int) := of_decide_eq_true (by with_reducible assumption)
                 have q390 : (ji38) < (x6_2.length : Int) := of_decide_eq_true (by with_reducible assumption)
                 obtain ⟨ad390, e390, hx390_0, hx390_1⟩ := at_T25 (Kd.R_reads' HO_6.out).2.2 (ji38) p390 q390
                 cases e390
                 replace p390 := eq_true p390
                 replace q390 := eq_true q390
                 have p391 : 0 ≤ (x7_2 : Int) := of_decide_eq_true (by with_reducible assumption)
                 have q391 : x7_2 < (x6_2.length : Int) := of_decide_eq_true (by with_reducible assumption)
                 obtain ⟨ad391, e391, hx391_0, hx391_1⟩ := at_T25 (Kd.R_reads' HO_6.out).2.2 x7_2 p391 q391
                 obtain rfl : ad390 = ad391 := (by injection e391)
                 replace p391 := eq_true p391
                 replace q391 := eq_true q391
                 refine start_ (n := 10) (S := fun w' => w'.cell? (ad390.add (((ji38)).toNat * 2)) = some (.int .i64 ((rd_T25 x6_2 (ji38)).f0)) ∧ w'.cell? ⟨(ad390.add (((ji38)).toNat * 2)).block, (ad390.add (((ji38)).toNat * 2)).off + 1, none⟩ = some (.int .i64 ((rd_T25 x6_2 (ji38)).f1)) ∧ w'.cell? (ad390.add ((x7_2).toNat * 2)) = some (.int .i64 ((rd_T25 x6_2 x7_2).f0)) ∧ w'.cell? ⟨(ad390.add ((x7_2).toNat * 2)).block, (ad390.add ((x7_2).toNat * 2)).off + 1, none⟩ = some (.int .i64 ((rd_T25 x6_2 x7_2).f1))) (ds := []) #[f_,f_,f_,f_,f_,f_,f_,f_,f_,f_] (by kernel_rfl) rfl rfl ⟨hx390_0, hx390_1, hx391_0, hx391_1⟩ (fun hHeld => ?_); refine with_tabW spec_HeapTake.tab12 spec_HeapTake.bits12 (fun HT_ HW_ => ?_)
                 generalize wc.drew = w47 at HO_6 BK370 HB hx390_0 hx390_1 hx391_0 hx391_1 hHeld ⊢
                 refine pu_ 0 57 ?_ (b_ 1 9) rfl rfl HT_.out ?_ ?_ ?_ ?_; rotate_left; intro w'; go_simp; with_reducible rfl; rotate_left; simp only [fr_]; rfl
                 refine pu_ 1 58 ?_ (b_ 2 8) rfl rfl HT_.out ?_ ?_ ?_ ?_; rotate_left; intro w'; go_simp; with_reducible rfl; rotate_left; simp only [fr_]; rfl
                 refine pu_ 2 59 ?_ (b_ 3 7) rfl rfl HT_.out ?_ ?_ ?_ ?_; rotate_left; intro w'; go_simp; with_reducible rfl; rotate_left; simp only [fr_]; rfl
                 refine pu_ 4 61 ?_ #[t_,t_,t_,f_,t_,f_,f_,f_,f_,f_] rfl rfl HT_.out ?_ ?_ ?_ ?_; rotate_left; intro w'; go_simp; with_reducible rfl; rotate_left; simp only [fr_]; rfl
                 refine pu_ 5 62 ?_ #[t_,t_,t_,f_,t_,t_,f_,f_,f_,f_] rfl rfl HT_.out ?_ ?_ ?_ ?_; rotate_left; intro w'; go_simp; with_reducible rfl; rotate_left; simp only [fr_]; rfl
                 refine pu_ 6 63 ?_ #[t_,t_,t_,f_,t_,t_,t_,f_,f_,f_] rfl rfl HT_.out ?_ ?_ ?_ ?_; rotate_left; intro w'; go_simp; with_reducible rfl; rotate_left; simp only [fr_]; rfl
                 refine take_ (i := 3) (N := some 60) (v := ?_) (a' := ?_) #[t_,t_,t_,t_,t_,t_,t_,f_,f_,f_] rfl rfl (take_ofW HT_.out HW_.out (by kernel_rfl)) (fun _ _ _ h => h) (Or.inl ⟨by rfl, ?_⟩) hHeld ?_ ?_
                 rotate_left
                 ·
                  rintro w' ⟨s0, s1, s2, s3⟩
                  go_simp
                  with_reducible rfl
                 rotate_left
                 ·
                  simp only [fr_]
                  rfl
                 refine take_ (i := 7) (N := some 64) (v := ?_) (a' := ?_) #[t_,t_,t_,t_,t_,t_,t_,t_,f_,f_] rfl rfl (take_ofW HT_.out HW_.out (by kernel_rfl)) (fun _ _ _ h => h) (Or.inl ⟨by rfl, ?_⟩) hHeld ?_ ?_
                 rotate_left
                 ·
                  rintro w' ⟨s0, s1, s2, s3⟩
                  go_simp
                  with_reducible rfl
                 rotate_left
                 ·
                  simp only [fr_]
                  rfl
                 refine one_ (i := 8) (N := some 65) #[t_,t_,t_,t_,t_,t_,t_,t_,t_,f_] rfl rfl (one_of HT_.out (by kernel_rfl)) (by decide) (fun K hK => ?_)
                 refine goes_ Try.func14 (by kernel_rfl) rfl #[.agg #[.int .i64 ((rd_T25 x6_2 (ji38)).f0), .int .i64 ((rd_T25 x6_2 (ji38)).f1)], .agg #[.int .i64 ((rd_T25 x6_2 x7_2).f0), .int .i64 ((rd_T25 x6_2 x7_2).f1)]] (by rfl) rfl rfl (by (try simp only [mp_]); first | done | (simp only [hji38]; rfl) | rfl | (simp only [List.length_drop, List.length_take]; rfl)) ?_
                 with_reducible refine (spec_Before.calls ((rd_T25 x6_2 (ji38)).f0) ((rd_T25 x6_2 (ji38)).f1) ((rd_T25 x6_2 x7_2).f0) ((rd_T25 x6_2 x7_2).f1) true _ A43.out).mono ?_
                 rintro e w49 ⟨rfl, hb⟩
                 have HS0_ := (hb.cell (World.block_lt_of_cell? _ _ (hHeld.1))).trans (hHeld.1)
                 have HS1_ := (hb.cell (World.block_lt_of_cell? _ _ (hHeld.2.1))).trans (hHeld.2.1)
                 have HS2_ := (hb.cell (World.block_lt_of_cell? _ _ (hHeld.2.2.1))).trans (hHeld.2.2.1)
                 have HS3_ := (hb.cell (World.block_lt_of_cell? _ _ (hHeld.2.2.2))).trans (hHeld.2.2.2)
                 refine ⟨_, rfl, ?_⟩
                 have n0_ := Aside0.mk (Kd.R_below (rp_ HO_6.out) hb)
                 have n1_ := Aside0.mk (bb_ BK370.out hb)
                 have n2_ := Aside0.mk (below_step (by repeat (first | (with_reducible first | exact HB.out | apply ba_ | apply bn_ | apply bd_ | refine below_set ?_ GE370.out) | exact HB.out)) hb)
                 clear HO_6 BK370 HB
                 have HO_6 := n0_
                 have BK370 := n1_
                 have HB := n2_
                 clear n0_ n1_ n2_
                 (try clear hb)
                 (try clear hb2)
                 (try clear hk)
                 (try clear hi)
                 refine hK.out _ _ ⟨HS0_, HS1_, HS2_, HS3_⟩ (fun hHeld => ?_)
                 clear hK K
                 refine norm_ (a' := ?_) ?_ ?_
                 rotate_left
                 ·
                  show Act.put _ (some 65) _ = _
                  simp only [fr_]
                  rfl
                 refine pu_ 9 66 ?_ (b_ 10 0) rfl rfl HT_.out ?_ ?_ ?_ ?_; rotate_left; intro w'; go_simp; with_reducible rfl; rotate_left; simp only [fr_]; rfl
                 refine done_ (done_of HT_.out (by kernel_rfl)) ?_
                 have p393 : 0 ≤ (x7_2 : Int) := of_decide_eq_true (by with_reducible assumption)
                 have q393 : x7_2 < (x6_2.length : Int) := of_decide_eq_true (by with_reducible assumption)
                 obtain ⟨ad393, e393, hx393_0, hx393_1⟩ := at_T25 (Kd.R_reads' HO_6.out).2.2 x7_2 p393 q393
                 obtain rfl : ad390 = ad393 := (by injection e393)
                 replace p393 := eq_true p393
                 replace q393 := eq_true q393
                 try go_wp2_with (first | ((with_reducible refine gate_dst (N := 9) rfl ?_); refine box_event ?hg (N := 9) ?hd (cs := #[.int .i64 0, .int .i64 0]) (t := 25) ?hr ?_; (case hd => rfl); (case hg => rfl); (case hr => first | (go_simp; done) | (go_simp; rfl)); intro gb394 hg w50 hbox hb; have n0_ := Aside0.mk (Kd.R_below (Kd.R_elderB (rp_ HO_6.out) gb394 (Nat.le_of_eq hg.symm)) hb); have n1_ := Aside0.mk (bb_ BK370.out hb); have n2_ := Aside0.mk (below_step (by repeat (first | (with_reducible first | exact HB.out | apply ba_ | apply bn_ | apply bd_ | refine below_set ?_ GE370.out) | exact HB.out)) hb); have n3_ := Aside0.mk (hbox); have n4_ := Aside0.mk ((by rw [hg]; exact (below_size (by repeat (first | (with_reducible first | exact HB.out | apply ba_ | apply bn_ | apply bd_ | refine below_set ?_ GE370.out) | exact HB.out))) : w.heap.size ≤ gb394)); have n5_ := n4_; have n6_ := Aside0.mk (nl_ BK370.out hg); have n7_ := Aside0.mk (n6_.out.symm); clear HO_6 BK370 HB; have HO_6 := n0_; have BK370 := n1_; have HB := n2_; have BK394 := n3_; have GW394 := n4_; have GE394 := n5_; have NB370_394 := n6_; have NB394_370 := n7_; clear n0_ n1_ n2_ n3_ n4_ n5_ n6_ n7_; clear hb hbox hg; have hnb51 := NB394_370.out; have hnc51 := NB370_394.out; obtain ⟨hcz52_0, hcz52_1, hfz52_0, hfz52_1⟩ := bc2_ BK394.out) | ((with_reducible refine gate_store (t := 25) (p := 9) rfl ?_); refine store_event (t := 25) (p := 9) (v := ?vo_w53) (w1 := ((w50.setCell ⟨gb394, 0, none⟩ (.int .i64 ((rd_T25 x6_2 x7_2).f0))).setCell ⟨gb394, 1, none⟩ (.int .i64 ((rd_T25 x6_2 x7_2).f1)))) ?hg ?ho ?hn ?hr ?_; (case ho => rfl); (case hg => rfl); (case hn => rfl); (case hr => first | (go_simp; done) | (go_simp; rfl)); intro w53 hw; have n0_ : Aside0 (Kd.R k25 25 w53 w.heap.size (fun k_ => k_ ≠ gb370 ∧ k_ ≠ gb394) (.slice (some ad390) x6_2.length co48) x6_2) := ⟨(by rw [hw]; exact (by (with_reducible repeat (first | apply Kd.R_alloc | apply Kd.R_drewN | apply Kd.R_drew)); exact Kd.R_mono (Kd.R_far (p := ⟨gb394, 1, none⟩) (Kd.R_far (p := ⟨gb394, 0, none⟩) (Kd.R_mono HO_6.out (fun k_ hk => (⟨hk, hk.2⟩ : _ ∧ k_ ≠ gb394))) (fun _ hk => hk.2) (.int .i64 ((rd_T25 x6_2 x7_2).f0))) (fun _ hk => hk.2) (.int .i64 ((rd_T25 x6_2 x7_2).f1))) (fun _ hk => ⟨hk.1.1, hk.1.2⟩)))⟩; have n1_ : Aside0 (w53.heap[gb370]? = some (.cells #[.int .i64 x371000_2, .int .i64 x371001_2] 25 (0, 0))) := ⟨(by rw [hw]; exact (by (with_reducible repeat (first | refine kn_ ?_ _ | refine kd_ ?_ | refine ka_ ?_ _)); refine blk_far ?_ NB370_394.out _; (with_reducible repeat (first | refine kn_ ?_ _ | refine kd_ ?_ | refine ka_ ?_ _)); refine blk_far ?_ NB370_394.out _; (with_reducible repeat (first | refine kn_ ?_ _ | refine kd_ ?_ | refine ka_ ?_ _)); exact BK370.out))⟩; have n2_ : Aside0 (w53.heap[gb394]? = some (.cells #[.int .i64 ((rd_T25 x6_2 x7_2).f0), .int .i64 ((rd_T25 x6_2 x7_2).f1)] 25 (0, 0))) := ⟨(by rw [hw]; exact (by (with_reducible repeat (first | refine kn_ ?_ _ | refine kd_ ?_ | refine ka_ ?_ _)); refine blk_put (cs := #[.int .i64 ((rd_T25 x6_2 x7_2).f0), .int .i64 0]) ?_ 1 _ rfl; (with_reducible repeat (first | refine kn_ ?_ _ | refine kd_ ?_ | refine ka_ ?_ _)); refine blk_put (cs := #[.int .i64 0, .int .i64 0]) ?_ 0 _ rfl; (with_reducible repeat (first | refine kn_ ?_ _ | refine kd_ ?_ | refine ka_ ?_ _)); exact BK394.out))⟩; have n3_ : Aside0 (Below w.heap.size w w53) := ⟨(by rw [hw]; exact (by repeat (first | (with_reducible first | exact HB.out | apply ba_ | apply bn_ | apply bd_ | refine below_set ?_ GE370.out | refine below_set ?_ GE394.out) | exact HB.out)))⟩; clear hw HO_6 BK370 BK394 HB; have HO_6 := n0_; have BK370 := n1_; have BK394 := n2_; have HB := n3_; clear n0_ n1_ n2_ n3_; have p395 : 0 ≤ ((ji38) : Int) := of_decide_eq_true (by with_reducible assumption); have q395 : (ji38) < (x6_2.length : Int) := of_decide_eq_true (by with_reducible assumption); obtain ⟨ad395, e395, hx395_0, hx395_1⟩ := at_T25 (Kd.R_reads' HO_6.out).2.2 (ji38) p395 q395; obtain rfl : ad390 = ad395 := (by injection e395); replace p395 := eq_true p395; replace q395 := eq_true q395; have p45 : 0 ≤ (x7_2 : Int) := of_decide_eq_true (by with_reducible assumption); have q45 : (x7_2 : Int) < ((x6_2.length : Int) : Int) := of_decide_eq_true (by with_reducible assumption); obtain ⟨go45, co45, eo45, gb45, gl45, cl45, HG45⟩ := Kd.R_form HO_6.out (by omega); (first | cases eo45 | (injection eo45 with ea_ en_ ec_; (first | subst ea_ | (injection ea_ with ea_; subst ea_)); subst ec_; clear en_)); have GB45 := Aside0.mk gb45; have GG45 := Aside0.mk HG45; clear gb45 gl45 HG45; (first | simp only [add_plain] at hx390_0 | skip); (first | simp only [add_plain] at hx390_1 | skip); (first | simp only [add_plain] at hx391_0 | skip); (first | simp only [add_plain] at hx391_1 | skip); (first | simp only [add_plain] at hx393_0 | skip); (first | simp only [add_plain] at hx393_1 | skip); (first | simp only [add_plain] at hx395_0 | skip); (first | simp only [add_plain] at hx395_1 | skip); obtain ⟨ce45, hcl45, hM45, hcc45, hfr45⟩ := Kd.R_elem HO_6.out z25 (x7_2 : Int) p45 q45; obtain rfl := k25_openM hM45; have hx45_0 : w53.cell? ⟨go45, (x7_2 : Int).toNat * 2, none⟩ = some (.int .i64 ((rd_T25 x6_2 x7_2).f0)) := hcc45 0 _ rfl; have hx45_1 : w53.cell? ⟨go45, (x7_2 : Int).toNat * 2 + 1, none⟩ = some (.int .i64 ((rd_T25 x6_2 x7_2).f1)) := hcc45 1 _ rfl; have hf45_0 : w53.frozen? ⟨go45, (x7_2 : Int).toNat * 2, none⟩ = false := hfr45 0; have hf45_1 : w53.frozen? ⟨go45, (x7_2 : Int).toNat * 2 + 1, none⟩ = false := hfr45 1; clear hcl45 hcc45 hfr45 hM45; replace p45 := eq_true p45; replace q45 := eq_true q45; have HX54 := Aside0.mk (show Kd.R k25 25 w53 w.heap.size (fun k_ => k_ ≠ gb370 ∧ k_ ≠ gb394) (.slice (some ⟨go45, 0, none⟩) x6_2.length co48) x6_2 from (rp_ HO_6.out)); obtain ⟨ce54, hcl54, hM54, hcc54, hfr54⟩ := Kd.R_elem HX54.out z25 (x7_2 : Int) (of_decide_eq_true (by with_reducible assumption)) (by have h_ : (x7_2 : Int) < ((x6_2.length : Int) : Int) := of_decide_eq_true (by with_reducible assumption); first | exact h_ | (have e_ := (Kd.R_reads' HO_6.out).1; omega) | simpa using h_); obtain rfl := k25_openM hM54; have HP54 := Kd.R_seg HX54.out (x7_2 : Int) (of_decide_eq_true (by with_reducible assumption)) (by have h_ : (x7_2 : Int) < ((x6_2.length : Int) : Int) := of_decide_eq_true (by with_reducible assumption); first | exact h_ | (have e_ := (Kd.R_reads' HO_6.out).1; omega) | simpa using h_) (seg := [.int .i64 ((rd_T25 x6_2 (ji38)).f0), .int .i64 ((rd_T25 x6_2 (ji38)).f1)]) (j := 0) hcl54 hcc54 (show 2 ≤ 2 from by decide) (x' := (⟨(rd_T25 x6_2 (ji38)).f0, (rd_T25 x6_2 (ji38)).f1⟩ : S25)) (k25_mkM _ _ _ (⟨(rd_T25 x6_2 (ji38)).f0, (rd_T25 x6_2 (ji38)).f1⟩ : S25) ) (fun _ hk => hk); have hx54_0 := hcc54 0 _ rfl; (try simp only [show (k25).sz = 2 from rfl, Nat.mul_one, Nat.add_zero] at hx54_0); have hf54_0 := hfr54 0; (try simp only [show (k25).sz = 2 from rfl, Nat.mul_one, Nat.add_zero] at hf54_0); have hx54_1 := hcc54 1 _ rfl; (try simp only [show (k25).sz = 2 from rfl, Nat.mul_one, Nat.add_zero] at hx54_1); have hf54_1 := hfr54 1; (try simp only [show (k25).sz = 2 from rfl, Nat.mul_one, Nat.add_zero] at hf54_1); clear hcl54 hcc54 hfr54 hM54) | ((with_reducible refine gate_store (t := 25) (p := 77) rfl ?_); refine store_event (t := 25) (p := 77) (v := ?vo_w55) (w1 := ((w53.setCell ⟨go45, (x7_2 : Int).toNat * 2, none⟩ (.int .i64 ((rd_T25 x6_2 (ji38)).f0))).setCell ⟨go45, (x7_2 : Int).toNat * 2 + 1, none⟩ (.int .i64 ((rd_T25 x6_2 (ji38)).f1)))) ?hg ?ho ?hn ?hr ?_; (case ho => rfl); (case hg => rfl); (case hn => rfl); (case hr => first | (go_simp; done) | (go_simp; rfl)); intro w55 hw; have hg : w53.grownBy w55 (some go45) := (by rw [hw]; exact HP54.2); have hp_ : Kd.R k25 25 w55 w.heap.size (fun k_ => k_ ≠ gb370 ∧ k_ ≠ gb394) (.slice (some ⟨go45, 0, none⟩) x6_2.length co48) y396 := (by rw [hw, Ny396.out]; exact HP54.1); clear HP54; have n0_ := Aside0.mk (hp_); have n1_ := Aside0.mk (blk_grown (g := gb370) (o := .cells #[.int .i64 x371000_2, .int .i64 x371001_2] 25 (0, 0)) (pb_ BK370.out) hg (Kd.R_away HO_6.out (fun _ hk => hk.1))); have n2_ := Aside0.mk (blk_grown (g := gb394) (o := .cells #[.int .i64 ((rd_T25 x6_2 x7_2).f0), .int .i64 ((rd_T25 x6_2 x7_2).f1)] 25 (0, 0)) (pb_ BK394.out) hg (Kd.R_away HO_6.out (fun _ hk => hk.2))); have n3_ := Aside0.mk ((by rw [hw]; exact below_set (below_set (HB.out) GB45.out) GB45.out : Below w.heap.size w w55)); clear HO_6 BK370 BK394 HB; have HO_6 := n0_; have BK370 := n1_; have BK394 := n2_; have HB := n3_; clear n0_ n1_ n2_ n3_; clear hg hw hp_; obtain ⟨hcz56_0, hcz56_1, hfz56_0, hfz56_1⟩ := bc2_ BK394.out; have p46 : 0 ≤ ((ji38) : Int) := of_decide_eq_true (by with_reducible assumption); have q46 : ((ji38) : Int) < ((x6_2.length : Int) : Int) := of_decide_eq_true (by with_reducible assumption); obtain ⟨ce46, hcl46, hM46, hcc46, hfr46⟩ := Kd.R_elem HO_6.out z25 ((ji38) : Int) p46 q46; obtain rfl := k25_openM hM46; have hx46_0 : w55.cell? ⟨go45, ((ji38) : Int).toNat * 2, none⟩ = some (.int .i64 ((rd_T25 y396 (ji38)).f0)) := hcc46 0 _ rfl; have hx46_1 : w55.cell? ⟨go45, ((ji38) : Int).toNat * 2 + 1, none⟩ = some (.int .i64 ((rd_T25 y396 (ji38)).f1)) := hcc46 1 _ rfl; have hf46_0 : w55.frozen? ⟨go45, ((ji38) : Int).toNat * 2, none⟩ = false := hfr46 0; have hf46_1 : w55.frozen? ⟨go45, ((ji38) : Int).toNat * 2 + 1, none⟩ = false := hfr46 1; clear hcl46 hcc46 hfr46 hM46; replace p46 := eq_true p46; replace q46 := eq_true q46; have HX57 := Aside0.mk (show Kd.R k25 25 w55 w.heap.size (fun k_ => k_ ≠ gb370 ∧ k_ ≠ gb394) (.slice (some ⟨go45, 0, none⟩) x6_2.length co48) y396 from (rp_ HO_6.out)); obtain ⟨ce57, hcl57, hM57, hcc57, hfr57⟩ := Kd.R_elem HX57.out z25 ((ji38) : Int) (of_decide_eq_true (by with_reducible assumption)) (by have h_ : ((ji38) : Int) < ((x6_2.length : Int) : Int) := of_decide_eq_true (by with_reducible assumption); first | exact h_ | (have e_ := (Kd.R_reads' HO_6.out).1; omega) | simpa using h_); obtain rfl := k25_openM hM57; have HP57 := Kd.R_seg HX57.out ((ji38) : Int) (of_decide_eq_true (by with_reducible assumption)) (by have h_ : ((ji38) : Int) < ((x6_2.length : Int) : Int) := of_decide_eq_true (by with_reducible assumption); first | exact h_ | (have e_ := (Kd.R_reads' HO_6.out).1; omega) | simpa using h_) (seg := [.int .i64 ((rd_T25 x6_2 x7_2).f0), .int .i64 ((rd_T25 x6_2 x7_2).f1)]) (j := 0) hcl57 hcc57 (show 2 ≤ 2 from by decide) (x' := (⟨(rd_T25 x6_2 x7_2).f0, (rd_T25 x6_2 x7_2).f1⟩ : S25)) (k25_mkM _ _ _ (⟨(rd_T25 x6_2 x7_2).f0, (rd_T25 x6_2 x7_2).f1⟩ : S25) ) (fun _ hk => hk); have hx57_0 := hcc57 0 _ rfl; (try simp only [show (k25).sz = 2 from rfl, Nat.mul_one, Nat.add_zero] at hx57_0); have hf57_0 := hfr57 0; (try simp only [show (k25).sz = 2 from rfl, Nat.mul_one, Nat.add_zero] at hf57_0); have hx57_1 := hcc57 1 _ rfl; (try simp only [show (k25).sz = 2 from rfl, Nat.mul_one, Nat.add_zero] at hx57_1); have hf57_1 := hfr57 1; (try simp only [show (k25).sz = 2 from rfl, Nat.mul_one, Nat.add_zero] at hf57_1); clear hcl57 hcc57 hfr57 hM57) | ((with_reducible refine gate_store (t := 25) (p := 81) rfl ?_); refine store_event (t := 25) (p := 81) (v := ?vo_w58) (w1 := ((w55.setCell ⟨go45, ((ji38) : Int).toNat * 2, none⟩ (.int .i64 ((rd_T25 x6_2 x7_2).f0))).setCell ⟨go45, ((ji38) : Int).toNat * 2 + 1, none⟩ (.int .i64 ((rd_T25 x6_2 x7_2).f1)))) ?hg ?ho ?hn ?hr ?_; (case ho => rfl); (case hg => rfl); (case hn => rfl); (case hr => first | (go_simp; done) | (go_simp; rfl)); intro w58 hw; have hg : w55.grownBy w58 (some go45) := (by rw [hw]; exact HP57.2); have hp_ : Kd.R k25 25 w58 w.heap.size (fun k_ => k_ ≠ gb370 ∧ k_ ≠ gb394) (.slice (some ⟨go45, 0, none⟩) x6_2.length co48) y397 := (by rw [hw, Ny397.out]; exact HP57.1); clear HP57; have n0_ := Aside0.mk (hp_); have n1_ := Aside0.mk (blk_grown (g := gb370) (o := .cells #[.int .i64 x371000_2, .int .i64 x371001_2] 25 (0, 0)) (pb_ BK370.out) hg (Kd.R_away HO_6.out (fun _ hk => hk.1))); have n2_ := Aside0.mk (blk_grown (g := gb394) (o := .cells #[.int .i64 ((rd_T25 x6_2 x7_2).f0), .int .i64 ((rd_T25 x6_2 x7_2).f1)] 25 (0, 0)) (pb_ BK394.out) hg (Kd.R_away HO_6.out (fun _ hk => hk.2))); have n3_ := Aside0.mk ((by rw [hw]; exact below_set (below_set (HB.out) GB45.out) GB45.out : Below w.heap.size w w58)); clear HO_6 BK370 BK394 HB; have HO_6 := n0_; have BK370 := n1_; have BK394 := n2_; have HB := n3_; clear n0_ n1_ n2_ n3_; clear hg hw hp_))
                 go_roundg kj23
                 case measure => have := HJ10.out; have := HK2.out; have := HJ23.out; omega
                 case rel => exact ⟨(y397), (ji38), (x371000_2), (x371001_2), (by first | rfl | (simp; done) | (simp only [← hji38] <;> (first | rfl | simp)) | (simp [*]; done)), H', ⟨by have := HJ10.out; have := HK2.out; have := HJ23.out; omega⟩, ⟨by (with_reducible repeat (first | apply Kd.R_alloc | apply Kd.R_drewN | apply Kd.R_drew)); exact Kd.R_mono HO_6.out (fun _ hk => hk.1)⟩, ⟨by (with_reducible repeat (first | refine kn_ ?_ _ | refine kd_ ?_ | refine ka_ ?_ _)); exact BK370.out⟩, ⟨by repeat (first | (with_reducible first | exact HB.out | apply ba_ | apply bn_ | apply bd_ | refine below_set ?_ GE370.out | refine below_set ?_ GE394.out) | exact HB.out)⟩⟩
                replace c44 := Bool.eq_false_iff.mpr c44
                subst c44
                rw [if_neg (show ¬ (false = true) by decide)] at H
                by_cases c59 : 0 < (l0.length : Int)
                ·
                 rw [if_pos c59] at H
                 have c59b0 := decide_eq_true c59
                 have c59b1 : decide (0 < l0.length) = true := decide_eq_true (by omega)
                 clear c59
                 simp only [Option.some.injEq, Prod.mk.injEq] at H
                 obtain ⟨rfl, rfl, rfl, rfl⟩ := H
                 try go_wp2
                 have n0_ := Aside0.mk (Kd.R_drew HO_6.out)
                 have n1_ := Aside0.mk (blk_drew BK370.out)
                 have n2_ := Aside0.mk (bd_ HB.out)
                 clear HO_6 BK370 HB
                 have HO_6 := n0_
                 have BK370 := n1_
                 have HB := n2_
                 clear n0_ n1_ n2_
                 obtain ⟨Ao61, co61, eo61⟩ := Kd.R_slice HO_6.out
                 (first | subst eo61 | (injection eo61 with f1_ f2_ f3_; have f4_ := f1_.symm; have f5_ := f3_.symm; clear f1_ f2_ f3_; subst f4_; subst f5_))
                 have p390 : 0 ≤ ((ji38) : Int) := of_decide_eq_true (by with_reducible assumption)
                 have q390 : (ji38) < (x6_2.length : Int) := of_decide_eq_true (by with_reducible assumption)
                 obtain ⟨ad390, e390, hx390_0, hx390_1⟩ := at_T25 (Kd.R_reads' HO_6.out).2.2 (ji38) p390 q390
                 cases e390
                 replace p390 := eq_true p390
                 replace q390 := eq_true q390
                 have p391 : 0 ≤ (x7_2 : Int) := of_decide_eq_true (by with_reducible assumption)
                 have q391 : x7_2 < (x6_2.length : Int) := of_decide_eq_true (by with_reducible assumption)
                 obtain ⟨ad391, e391, hx391_0, hx391_1⟩ := at_T25 (Kd.R_reads' HO_6.out).2.2 x7_2 p391 q391
                 obtain rfl : ad390 = ad391 := (by injection e391)
                 replace p391 := eq_true p391
                 replace q391 := eq_true q391
                 refine start_ (n := 10) (S := fun w' => w'.cell? (ad390.add (((ji38)).toNat * 2)) = some (.int .i64 ((rd_T25 x6_2 (ji38)).f0)) ∧ w'.cell? ⟨(ad390.add (((ji38)).toNat * 2)).block, (ad390.add (((ji38)).toNat * 2)).off + 1, none⟩ = some (.int .i64 ((rd_T25 x6_2 (ji38)).f1)) ∧ w'.cell? (ad390.add ((x7_2).toNat * 2)) = some (.int .i64 ((rd_T25 x6_2 x7_2).f0)) ∧ w'.cell? ⟨(ad390.add ((x7_2).toNat * 2)).block, (ad390.add ((x7_2).toNat * 2)).off + 1, none⟩ = some (.int .i64 ((rd_T25 x6_2 x7_2).f1))) (ds := []) #[f_,f_,f_,f_,f_,f_,f_,f_,f_,f_] (by kernel_rfl) rfl rfl ⟨hx390_0, hx390_1, hx391_0, hx391_1⟩ (fun hHeld => ?_); refine with_tabW spec_HeapTake.tab12 spec_HeapTake.bits12 (fun HT_ HW_ => ?_)
                 generalize wc.drew = w60 at HO_6 BK370 HB hx390_0 hx390_1 hx391_0 hx391_1 hHeld ⊢
                 refine pu_ 0 57 ?_ (b_ 1 9) rfl rfl HT_.out ?_ ?_ ?_ ?_; rotate_left; intro w'; go_simp; with_reducible rfl; rotate_left; simp only [fr_]; rfl
                 refine pu_ 1 58 ?_ (b_ 2 8) rfl rfl HT_.out ?_ ?_ ?_ ?_; rotate_left; intro w'; go_simp; with_reducible rfl; rotate_left; simp only [fr_]; rfl
                 refine pu_ 2 59 ?_ (b_ 3 7) rfl rfl HT_.out ?_ ?_ ?_ ?_; rotate_left; intro w'; go_simp; with_reducible rfl; rotate_left; simp only [fr_]; rfl
                 refine pu_ 4 61 ?_ #[t_,t_,t_,f_,t_,f_,f_,f_,f_,f_] rfl rfl HT_.out ?_ ?_ ?_ ?_; rotate_left; intro w'; go_simp; with_reducible rfl; rotate_left; simp only [fr_]; rfl
                 refine pu_ 5 62 ?_ #[t_,t_,t_,f_,t_,t_,f_,f_,f_,f_] rfl rfl HT_.out ?_ ?_ ?_ ?_; rotate_left; intro w'; go_simp; with_reducible rfl; rotate_left; simp only [fr_]; rfl
                 refine pu_ 6 63 ?_ #[t_,t_,t_,f_,t_,t_,t_,f_,f_,f_] rfl rfl HT_.out ?_ ?_ ?_ ?_; rotate_left; intro w'; go_simp; with_reducible rfl; rotate_left; simp only [fr_]; rfl
                 refine take_ (i := 3) (N := some 60) (v := ?_) (a' := ?_) #[t_,t_,t_,t_,t_,t_,t_,f_,f_,f_] rfl rfl (take_ofW HT_.out HW_.out (by kernel_rfl)) (fun _ _ _ h => h) (Or.inl ⟨by rfl, ?_⟩) hHeld ?_ ?_
                 rotate_left
                 ·
                  rintro w' ⟨s0, s1, s2, s3⟩
                  go_simp
                  with_reducible rfl
                 rotate_left
                 ·
                  simp only [fr_]
                  rfl
                 refine take_ (i := 7) (N := some 64) (v := ?_) (a' := ?_) #[t_,t_,t_,t_,t_,t_,t_,t_,f_,f_] rfl rfl (take_ofW HT_.out HW_.out (by kernel_rfl)) (fun _ _ _ h => h) (Or.inl ⟨by rfl, ?_⟩) hHeld ?_ ?_
                 rotate_left
                 ·
                  rintro w' ⟨s0, s1, s2, s3⟩
                  go_simp
                  with_reducible rfl
                 rotate_left
                 ·
                  simp only [fr_]
                  rfl
                 refine one_ (i := 8) (N := some 65) #[t_,t_,t_,t_,t_,t_,t_,t_,t_,f_] rfl rfl (one_of HT_.out (by kernel_rfl)) (by decide) (fun K hK => ?_)
                 refine goes_ Try.func14 (by kernel_rfl) rfl #[.agg #[.int .i64 ((rd_T25 x6_2 (ji38)).f0), .int .i64 ((rd_T25 x6_2 (ji38)).f1)], .agg #[.int .i64 ((rd_T25 x6_2 x7_2).f0), .int .i64 ((rd_T25 x6_2 x7_2).f1)]] (by rfl) rfl rfl (by (try simp only [mp_]); first | done | (simp only [hji38]; rfl) | rfl | (simp only [List.length_drop, List.length_take]; rfl)) ?_
                 with_reducible refine (spec_Before.calls ((rd_T25 x6_2 (ji38)).f0) ((rd_T25 x6_2 (ji38)).f1) ((rd_T25 x6_2 x7_2).f0) ((rd_T25 x6_2 x7_2).f1) false _ A43.out).mono ?_
                 rintro e w62 ⟨rfl, hb⟩
                 have HS0_ := (hb.cell (World.block_lt_of_cell? _ _ (hHeld.1))).trans (hHeld.1)
                 have HS1_ := (hb.cell (World.block_lt_of_cell? _ _ (hHeld.2.1))).trans (hHeld.2.1)
                 have HS2_ := (hb.cell (World.block_lt_of_cell? _ _ (hHeld.2.2.1))).trans (hHeld.2.2.1)
                 have HS3_ := (hb.cell (World.block_lt_of_cell? _ _ (hHeld.2.2.2))).trans (hHeld.2.2.2)
                 refine ⟨_, rfl, ?_⟩
                 have n0_ := Aside0.mk (Kd.R_below (rp_ HO_6.out) hb)
                 have n1_ := Aside0.mk (bb_ BK370.out hb)
                 have n2_ := Aside0.mk (below_step (by repeat (first | (with_reducible first | exact HB.out | apply ba_ | apply bn_ | apply bd_ | refine below_set ?_ GE370.out) | exact HB.out)) hb)
                 clear HO_6 BK370 HB
                 have HO_6 := n0_
                 have BK370 := n1_
                 have HB := n2_
                 clear n0_ n1_ n2_
                 (try clear hb)
                 (try clear hb2)
                 (try clear hk)
                 (try clear hi)
                 refine hK.out _ _ ⟨HS0_, HS1_, HS2_, HS3_⟩ (fun hHeld => ?_)
                 clear hK K
                 refine norm_ (a' := ?_) ?_ ?_
                 rotate_left
                 ·
                  show Act.put _ (some 65) _ = _
                  simp only [fr_]
                  rfl
                 refine pu_ 9 66 ?_ (b_ 10 0) rfl rfl HT_.out ?_ ?_ ?_ ?_; rotate_left; intro w'; go_simp; with_reducible rfl; rotate_left; simp only [fr_]; rfl
                 refine done_ (done_of HT_.out (by kernel_rfl)) ?_
                 try go_wp2
                 have n0_ := Aside0.mk (Kd.R_drew HO_6.out)
                 have n1_ := Aside0.mk (blk_drew BK370.out)
                 have n2_ := Aside0.mk (bd_ HB.out)
                 clear HO_6 BK370 HB
                 have HO_6 := n0_
                 have BK370 := n1_
                 have HB := n2_
                 clear n0_ n1_ n2_
                 have p398 : 0 ≤ (0 : Int) := (by omega)
                 have q398 : 0 < (l0.length : Int) := of_decide_eq_true (by with_reducible assumption)
                 obtain ⟨ad398, e398, hx398_0, hx398_1⟩ := at_T25 HR0.out 0 p398 q398
                 have hw398_1 := hx398_1
                 (try rw [show ((0 : Int)).toNat = 0 from rfl] at hw398_1)
                 (try rw [show 0 * 2 = 0 from rfl] at hw398_1)
                 (try rw [Addr.add_zero'] at hw398_1)
                 have hw398_0 := hx398_0
                 (try rw [show ((0 : Int)).toNat = 0 from rfl] at hw398_0)
                 (try rw [show 0 * 2 = 0 from rfl] at hw398_0)
                 (try rw [Addr.add_zero'] at hw398_0)
                 cases e398
                 have qi398 : (0 < l0.length) = True := eq_true (by omega)
                 (try rw [show ((0 : Int)).toNat = 0 from rfl] at hx398_0)
                 (try rw [show 0 * 2 = 0 from rfl] at hx398_0)
                 (try rw [Addr.add_zero'] at hx398_0)
                 (try rw [show ((0 : Int)).toNat = 0 from rfl] at hx398_1)
                 (try rw [show 0 * 2 = 0 from rfl] at hx398_1)
                 (try rw [Addr.add_zero'] at hx398_1)
                 replace hx398_0 := cl_ HB.out hx398_0
                 replace hx398_1 := cl_ HB.out hx398_1
                 replace p398 := eq_true p398
                 replace q398 := eq_true q398
                 refine start_ (n := 7) (S := fun w' => w'.cell? ad398 = some (.int .i64 ((rd_T25 l0 0).f0)) ∧ w'.cell? ⟨ad398.block, ad398.off + 1, none⟩ = some (.int .i64 ((rd_T25 l0 0).f1))) (ds := []) #[f_,f_,f_,f_,f_,f_,f_] (by kernel_rfl) rfl rfl ⟨((HB.out.cell (World.block_lt_of_cell? w _ hw398_0)).trans hw398_0), ((HB.out.cell (World.block_lt_of_cell? w _ hw398_1)).trans hw398_1)⟩ (fun hHeld => ?_)
                 generalize w62.drew = w63 at HO_6 BK370 HB hx398_0 hx398_1 hHeld ⊢
                 refine pure_ (i := 0) (N := some 83) (v := ?_) (a' := ?_) #[t_,f_,f_,f_,f_,f_,f_] rfl rfl (by kernel_rfl) (fun _ _ _ h => h) (Or.inl ⟨by rfl, ?_⟩) ?_ ?_
                 rotate_left
                 ·
                  intro w'
                  go_simp
                  with_reducible rfl
                 rotate_left
                 ·
                  simp only [fr_]
                  rfl
                 refine pure_ (i := 1) (N := some 84) (v := ?_) (a' := ?_) #[t_,t_,f_,f_,f_,f_,f_] rfl rfl (by kernel_rfl) (fun _ _ _ h => h) (Or.inl ⟨by rfl, ?_⟩) ?_ ?_
                 rotate_left
                 ·
                  intro w'
                  go_simp
                  with_reducible rfl
                 rotate_left
                 ·
                  simp only [fr_]
                  rfl
                 refine pure_ (i := 2) (N := some 85) (v := ?_) (a' := ?_) #[t_,t_,t_,f_,f_,f_,f_] rfl rfl (by kernel_rfl) (fun _ _ _ h => h) (Or.inl ⟨by rfl, ?_⟩) ?_ ?_
                 rotate_left
                 ·
                  intro w'
                  go_simp
                  with_reducible rfl
                 rotate_left
                 ·
                  simp only [fr_]
                  rfl
                 refine pure_ (i := 4) (N := some 2) (v := ?_) (a' := ?_) #[t_,t_,t_,f_,t_,f_,f_] rfl rfl (by kernel_rfl) (fun _ _ _ h => h) (Or.inl ⟨by rfl, ?_⟩) ?_ ?_
                 rotate_left
                 ·
                  intro w'
                  go_simp
                  with_reducible rfl
                 rotate_left
                 ·
                  simp only [fr_]
                  rfl
                 refine take_ (i := 3) (N := some 86) (v := ?_) (a' := ?_) #[t_,t_,t_,t_,t_,f_,f_] rfl rfl (by kernel_rfl) (fun _ _ _ h => h) (Or.inl ⟨by rfl, ?_⟩) hHeld ?_ ?_
                 rotate_left
                 ·
                  rintro w' ⟨s0, s1⟩
                  go_simp
                  with_reducible rfl
                 rotate_left
                 ·
                  simp only [fr_]
                  rfl
                 refine one_ (i := 5) (N := none) #[t_,t_,t_,t_,t_,t_,f_] rfl rfl (by kernel_rfl) (by decide) (fun K hK => ?_)
                 have hs64 : w63.cell? ⟨gb370, 0, none⟩ = some (.int .i64 x371000_2) := bx_ BK370.out 0
                 have hfs64 := blk_frozen BK370.out 0
                 have hs65 : w63.cell? ⟨gb370, 1, none⟩ = some (.int .i64 x371001_2) := bx_ BK370.out 1
                 have hfs65 := blk_frozen BK370.out 1
                 refine skip_ (w1 := ?_) (by rfl) rfl ?_ ?_
                 rotate_left
                 ·
                  go_simp
                  rfl
                 refine hK.out _ _ ⟨((cell_far (p := ⟨gb370, _, none⟩) (by first | exact Nat.ne_of_lt (Nat.lt_of_lt_of_le (by have := World.block_lt_of_cell? _ _ hw398_0; first | rwa [add_block] at this | exact this) GW370.out) | (rw [add_block]; exact Nat.ne_of_lt (Nat.lt_of_lt_of_le (by have := World.block_lt_of_cell? _ _ hw398_0; first | rwa [add_block] at this | exact this) GW370.out)) | (show (Addr.add _ _).block ≠ _; rw [add_block]; exact Nat.ne_of_lt (Nat.lt_of_lt_of_le (by have := World.block_lt_of_cell? _ _ hw398_0; first | rwa [add_block] at this | exact this) GW370.out)) | (dsimp only; exact Nat.ne_of_lt (Nat.lt_of_lt_of_le (by have := World.block_lt_of_cell? _ _ hw398_0; first | rwa [add_block] at this | exact this) GW370.out))) _).trans (((cell_far (p := ⟨gb370, _, none⟩) (by first | exact Nat.ne_of_lt (Nat.lt_of_lt_of_le (by have := World.block_lt_of_cell? _ _ hw398_0; first | rwa [add_block] at this | exact this) GW370.out) | (rw [add_block]; exact Nat.ne_of_lt (Nat.lt_of_lt_of_le (by have := World.block_lt_of_cell? _ _ hw398_0; first | rwa [add_block] at this | exact this) GW370.out)) | (show (Addr.add _ _).block ≠ _; rw [add_block]; exact Nat.ne_of_lt (Nat.lt_of_lt_of_le (by have := World.block_lt_of_cell? _ _ hw398_0; first | rwa [add_block] at this | exact this) GW370.out)) | (dsimp only; exact Nat.ne_of_lt (Nat.lt_of_lt_of_le (by have := World.block_lt_of_cell? _ _ hw398_0; first | rwa [add_block] at this | exact this) GW370.out))) _).trans (hHeld.1)))), ((cell_far (p := ⟨gb370, _, none⟩) (by first | exact Nat.ne_of_lt (Nat.lt_of_lt_of_le (by have := World.block_lt_of_cell? _ _ hw398_1; first | rwa [add_block] at this | exact this) GW370.out) | (rw [add_block]; exact Nat.ne_of_lt (Nat.lt_of_lt_of_le (by have := World.block_lt_of_cell? _ _ hw398_1; first | rwa [add_block] at this | exact this) GW370.out)) | (show (Addr.add _ _).block ≠ _; rw [add_block]; exact Nat.ne_of_lt (Nat.lt_of_lt_of_le (by have := World.block_lt_of_cell? _ _ hw398_1; first | rwa [add_block] at this | exact this) GW370.out)) | (dsimp only; exact Nat.ne_of_lt (Nat.lt_of_lt_of_le (by have := World.block_lt_of_cell? _ _ hw398_1; first | rwa [add_block] at this | exact this) GW370.out))) _).trans (((cell_far (p := ⟨gb370, _, none⟩) (by first | exact Nat.ne_of_lt (Nat.lt_of_lt_of_le (by have := World.block_lt_of_cell? _ _ hw398_1; first | rwa [add_block] at this | exact this) GW370.out) | (rw [add_block]; exact Nat.ne_of_lt (Nat.lt_of_lt_of_le (by have := World.block_lt_of_cell? _ _ hw398_1; first | rwa [add_block] at this | exact this) GW370.out)) | (show (Addr.add _ _).block ≠ _; rw [add_block]; exact Nat.ne_of_lt (Nat.lt_of_lt_of_le (by have := World.block_lt_of_cell? _ _ hw398_1; first | rwa [add_block] at this | exact this) GW370.out)) | (dsimp only; exact Nat.ne_of_lt (Nat.lt_of_lt_of_le (by have := World.block_lt_of_cell? _ _ hw398_1; first | rwa [add_block] at this | exact this) GW370.out))) _).trans (hHeld.2))))⟩ (fun hHeld => ?_)
                 clear hK K
                 refine pure_ (i := 6) (N := some 4) (v := ?_) (a' := ?_) #[t_,t_,t_,t_,t_,t_,t_] rfl rfl (by kernel_rfl) (fun _ _ _ h => h) (Or.inl ⟨by rfl, ?_⟩) ?_ ?_
                 rotate_left
                 ·
                  intro w'
                  go_simp
                  with_reducible rfl
                 rotate_left
                 ·
                  simp only [fr_]
                  rfl
                 refine done_ (by kernel_rfl) ?_
                 try go_wp2
                 refine bodyPost_ret (results_list (rs := [.tmp 2, .cell 3 25, .tmp 4]) rfl (by simp) (.tmp (.cell gb370 25 #[.int .i64 ((rd_T25 l0 0).f0), .int .i64 ((rd_T25 l0 0).f1)] (0, 0) _ rfl (by (with_reducible repeat (first | refine kn_ ?_ _ | refine kd_ ?_ | refine ka_ ?_ _)); refine blk_put (cs := #[.int .i64 ((rd_T25 l0 0).f0), .int .i64 x371001_2]) ?_ 1 _ rfl; (with_reducible repeat (first | refine kn_ ?_ _ | refine kd_ ?_ | refine ka_ ?_ _)); refine blk_put (cs := #[.int .i64 x371000_2, .int .i64 x371001_2]) ?_ 0 _ rfl; (with_reducible repeat (first | refine kn_ ?_ _ | refine kd_ ?_ | refine ka_ ?_ _)); exact BK370.out) Try.underlying25 rfl (by kernel_rfl) (.tmp .nil)))) rfl ?_
                 exact ⟨_, by first | rfl | (simp [errW_none, errW_some] <;> rfl) | (simp only [← hji7, ← hji38]; first | rfl | (simp [errW_none, errW_some] <;> rfl)) | (simp [*, errW_none, errW_some] <;> rfl), by (with_reducible repeat (first | apply Kd.R_alloc | apply Kd.R_drewN | apply Kd.R_drew)); exact Kd.R_mono (Kd.R_far (p := ⟨gb370, 1, none⟩) (Kd.R_far (p := ⟨gb370, 0, none⟩) (Kd.R_mono HO_6.out (fun k_ hk => (⟨hk, hk⟩ : _ ∧ k_ ≠ gb370))) (fun _ hk => hk.2) (.int .i64 ((rd_T25 l0 0).f0))) (fun _ hk => hk.2) (.int .i64 ((rd_T25 l0 0).f1))) (fun _ hk => trivial), by repeat (first | (with_reducible first | exact HB.out | apply ba_ | apply bn_ | apply bd_ | refine below_set ?_ GE370.out) | exact HB.out)⟩
                rw [if_neg c59] at H
                exact absurd H (by simp)
               rw [if_neg c42] at H
               exact absurd H (by simp)
              rw [if_neg c41] at H
              exact absurd H (by simp)
             rw [if_neg c40] at H
             exact absurd H (by simp)
            rw [if_neg c39] at H
            exact absurd H (by simp)
           replace c37 := Bool.eq_false_iff.mpr c37
           subst c37
           rw [if_neg (show ¬ (false = true) by decide)] at H
           obtain ⟨ji66, hji66⟩ : ∃ j_ : Int, (wrap64 ((wrap64 (2 * x7_2)) + 1)) = j_ := ⟨_, rfl⟩
           replace H : (if 0 ≤ (ji66) then (if (ji66) < (x6_2.length : Int) then (if 0 ≤ x7_2 then (if x7_2 < (x6_2.length : Int) then ((spec_Before.f ((rd_T25 x6_2 (ji66)).f0) ((rd_T25 x6_2 (ji66)).f1) ((rd_T25 x6_2 x7_2).f0) ((rd_T25 x6_2 x7_2).f1)).bind fun t401 => (if t401 = true then (spec_HeapTake.l0 kj23 l0 ji7 ((x6_2.set (x7_2 : Int).toNat (⟨(rd_T25 x6_2 (ji66)).f0, (rd_T25 x6_2 (ji66)).f1⟩ : S25)).set ((ji66) : Int).toNat (⟨(rd_T25 x6_2 x7_2).f0, (rd_T25 x6_2 x7_2).f1⟩ : S25)) (ji66)) else (if 0 < (l0.length : Int) then (some (x6_2, (rd_T25 l0 0).f0, (rd_T25 l0 0).f1, true)) else (none)))) else (none)) else (none)) else (none)) else (none)) = some (r1, r2, r3, r4) := by first | (rw [hji66] at H; exact H) | (simp only [hji66] at H ⊢; exact H)
           (try rw [hji66] at c23b0)
           have hji66w : (IntKind.i64.wrap ((wrap64 (2 * x7_2)) + 1)) = ji66 := (i64_w _).trans hji66
           (try rw [hji66] at hji26)
           (try rw [hji66] at hji26w)
           (try rw [hji66] at hji38)
           (try rw [hji66] at hji38w)
           by_cases c67 : 0 ≤ (ji66)
           ·
            rw [if_pos c67] at H
            have c67b0 := decide_eq_true c67
            clear c67
            by_cases c68 : (ji66) < (x6_2.length : Int)
            ·
             rw [if_pos c68] at H
             have c68b0 := decide_eq_true c68
             clear c68
             by_cases c69 : 0 ≤ x7_2
             ·
              rw [if_pos c69] at H
              have c69b0 := decide_eq_true c69
              clear c69
              by_cases c70 : x7_2 < (x6_2.length : Int)
              ·
               rw [if_pos c70] at H
               have c70b0 := decide_eq_true c70
               clear c70
               replace H := Option.bind_eq_some_iff.mp H
               obtain ⟨t401, A710, H⟩ := H
               have A71 := Aside0.mk A710
               clear A710
               by_cases c72 : t401 = true
               ·
                subst c72
                rw [if_pos rfl] at H
                obtain ⟨y405, hy405⟩ : ∃ y_ : List (S25), y_ = (x6_2.set (x7_2 : Int).toNat (⟨(rd_T25 x6_2 (ji66)).f0, (rd_T25 x6_2 (ji66)).f1⟩ : S25)) := ⟨_, rfl⟩
                replace H : (spec_HeapTake.l0 kj23 l0 ji7 (y405.set ((ji66) : Int).toNat (⟨(rd_T25 x6_2 x7_2).f0, (rd_T25 x6_2 x7_2).f1⟩ : S25)) (ji66)) = some (r1, r2, r3, r4) := by first | (rw [hy405]; with_reducible exact H) | (have H2_ := (Option.bind_some _ _).symm.trans H; rw [hy405]; with_reducible exact H2_) | (have H2_ := (Option.bind_some _ _).symm.trans H; with_reducible exact H2_) | with_reducible exact H | (rw [hy405]; exact H) | exact H
                have Ny405 := Aside0.mk hy405
                clear hy405
                obtain ⟨y406, hy406⟩ : ∃ y_ : List (S25), y_ = (y405.set ((ji66) : Int).toNat (⟨(rd_T25 x6_2 x7_2).f0, (rd_T25 x6_2 x7_2).f1⟩ : S25)) := ⟨_, rfl⟩
                replace H : (spec_HeapTake.l0 kj23 l0 ji7 y406 (ji66)) = some (r1, r2, r3, r4) := by first | (rw [hy406]; with_reducible exact H) | (have H2_ := (Option.bind_some _ _).symm.trans H; rw [hy406]; with_reducible exact H2_) | (have H2_ := (Option.bind_some _ _).symm.trans H; with_reducible exact H2_) | with_reducible exact H | (rw [hy406]; exact H) | exact H
                have Ny406 := Aside0.mk hy406
                clear hy406
                have H' := Aside0.mk H
                clear H
                try go_wp2
                have n0_ := Aside0.mk (Kd.R_drew HO_6.out)
                have n1_ := Aside0.mk (blk_drew BK370.out)
                have n2_ := Aside0.mk (bd_ HB.out)
                clear HO_6 BK370 HB
                have HO_6 := n0_
                have BK370 := n1_
                have HB := n2_
                clear n0_ n1_ n2_
                obtain ⟨Ao76, co76, eo76⟩ := Kd.R_slice HO_6.out
                (first | subst eo76 | (injection eo76 with f1_ f2_ f3_; have f4_ := f1_.symm; have f5_ := f3_.symm; clear f1_ f2_ f3_; subst f4_; subst f5_))
                have p399 : 0 ≤ ((ji66) : Int) := of_decide_eq_true (by with_reducible assumption)
                have q399 : (ji66) < (x6_2.length : Int) := of_decide_eq_true (by with_reducible assumption)
                obtain ⟨ad399, e399, hx399_0, hx399_1⟩ := at_T25 (Kd.R_reads' HO_6.out).2.2 (ji66) p399 q399
                cases e399
                replace p399 := eq_true p399
                replace q399 := eq_true q399
                have p400 : 0 ≤ (x7_2 : Int) := of_decide_eq_true (by with_reducible assumption)
                have q400 : x7_2 < (x6_2.length : Int) := of_decide_eq_true (by with_reducible assumption)
                obtain ⟨ad400, e400, hx400_0, hx400_1⟩ := at_T25 (Kd.R_reads' HO_6.out).2.2 x7_2 p400 q400
                obtain rfl : ad399 = ad400 := (by injection e400)
                replace p400 := eq_true p400
                replace q400 := eq_true q400
                refine start_ (n := 10) (S := fun w' => w'.cell? (ad399.add (((ji66)).toNat * 2)) = some (.int .i64 ((rd_T25 x6_2 (ji66)).f0)) ∧ w'.cell? ⟨(ad399.add (((ji66)).toNat * 2)).block, (ad399.add (((ji66)).toNat * 2)).off + 1, none⟩ = some (.int .i64 ((rd_T25 x6_2 (ji66)).f1)) ∧ w'.cell? (ad399.add ((x7_2).toNat * 2)) = some (.int .i64 ((rd_T25 x6_2 x7_2).f0)) ∧ w'.cell? ⟨(ad399.add ((x7_2).toNat * 2)).block, (ad399.add ((x7_2).toNat * 2)).off + 1, none⟩ = some (.int .i64 ((rd_T25 x6_2 x7_2).f1))) (ds := []) #[f_,f_,f_,f_,f_,f_,f_,f_,f_,f_] (by kernel_rfl) rfl rfl ⟨hx399_0, hx399_1, hx400_0, hx400_1⟩ (fun hHeld => ?_); refine with_tabW spec_HeapTake.tab12 spec_HeapTake.bits12 (fun HT_ HW_ => ?_)
                generalize wc.drew = w75 at HO_6 BK370 HB hx399_0 hx399_1 hx400_0 hx400_1 hHeld ⊢
                refine pu_ 0 57 ?_ (b_ 1 9) rfl rfl HT_.out ?_ ?_ ?_ ?_; rotate_left; intro w'; go_simp; with_reducible rfl; rotate_left; simp only [fr_]; rfl
                refine pu_ 1 58 ?_ (b_ 2 8) rfl rfl HT_.out ?_ ?_ ?_ ?_; rotate_left; intro w'; go_simp; with_reducible rfl; rotate_left; simp only [fr_]; rfl
                refine pu_ 2 59 ?_ (b_ 3 7) rfl rfl HT_.out ?_ ?_ ?_ ?_; rotate_left; intro w'; go_simp; with_reducible rfl; rotate_left; simp only [fr_]; rfl
                refine pu_ 4 61 ?_ #[t_,t_,t_,f_,t_,f_,f_,f_,f_,f_] rfl rfl HT_.out ?_ ?_ ?_ ?_; rotate_left; intro w'; go_simp; with_reducible rfl; rotate_left; simp only [fr_]; rfl
                refine pu_ 5 62 ?_ #[t_,t_,t_,f_,t_,t_,f_,f_,f_,f_] rfl rfl HT_.out ?_ ?_ ?_ ?_; rotate_left; intro w'; go_simp; with_reducible rfl; rotate_left; simp only [fr_]; rfl
                refine pu_ 6 63 ?_ #[t_,t_,t_,f_,t_,t_,t_,f_,f_,f_] rfl rfl HT_.out ?_ ?_ ?_ ?_; rotate_left; intro w'; go_simp; with_reducible rfl; rotate_left; simp only [fr_]; rfl
                refine take_ (i := 3) (N := some 60) (v := ?_) (a' := ?_) #[t_,t_,t_,t_,t_,t_,t_,f_,f_,f_] rfl rfl (take_ofW HT_.out HW_.out (by kernel_rfl)) (fun _ _ _ h => h) (Or.inl ⟨by rfl, ?_⟩) hHeld ?_ ?_
                rotate_left
                ·
                 rintro w' ⟨s0, s1, s2, s3⟩
                 go_simp
                 with_reducible rfl
                rotate_left
                ·
                 simp only [fr_]
                 rfl
                refine take_ (i := 7) (N := some 64) (v := ?_) (a' := ?_) #[t_,t_,t_,t_,t_,t_,t_,t_,f_,f_] rfl rfl (take_ofW HT_.out HW_.out (by kernel_rfl)) (fun _ _ _ h => h) (Or.inl ⟨by rfl, ?_⟩) hHeld ?_ ?_
                rotate_left
                ·
                 rintro w' ⟨s0, s1, s2, s3⟩
                 go_simp
                 with_reducible rfl
                rotate_left
                ·
                 simp only [fr_]
                 rfl
                refine one_ (i := 8) (N := some 65) #[t_,t_,t_,t_,t_,t_,t_,t_,t_,f_] rfl rfl (one_of HT_.out (by kernel_rfl)) (by decide) (fun K hK => ?_)
                refine goes_ Try.func14 (by kernel_rfl) rfl #[.agg #[.int .i64 ((rd_T25 x6_2 (ji66)).f0), .int .i64 ((rd_T25 x6_2 (ji66)).f1)], .agg #[.int .i64 ((rd_T25 x6_2 x7_2).f0), .int .i64 ((rd_T25 x6_2 x7_2).f1)]] (by rfl) rfl rfl (by (try simp only [mp_]); first | done | (simp only [hji66]; rfl) | rfl | (simp only [List.length_drop, List.length_take]; rfl)) ?_
                with_reducible refine (spec_Before.calls ((rd_T25 x6_2 (ji66)).f0) ((rd_T25 x6_2 (ji66)).f1) ((rd_T25 x6_2 x7_2).f0) ((rd_T25 x6_2 x7_2).f1) true _ A71.out).mono ?_
                rintro e w77 ⟨rfl, hb⟩
                have HS0_ := (hb.cell (World.block_lt_of_cell? _ _ (hHeld.1))).trans (hHeld.1)
                have HS1_ := (hb.cell (World.block_lt_of_cell? _ _ (hHeld.2.1))).trans (hHeld.2.1)
                have HS2_ := (hb.cell (World.block_lt_of_cell? _ _ (hHeld.2.2.1))).trans (hHeld.2.2.1)
                have HS3_ := (hb.cell (World.block_lt_of_cell? _ _ (hHeld.2.2.2))).trans (hHeld.2.2.2)
                refine ⟨_, rfl, ?_⟩
                have n0_ := Aside0.mk (Kd.R_below (rp_ HO_6.out) hb)
                have n1_ := Aside0.mk (bb_ BK370.out hb)
                have n2_ := Aside0.mk (below_step (by repeat (first | (with_reducible first | exact HB.out | apply ba_ | apply bn_ | apply bd_ | refine below_set ?_ GE370.out) | exact HB.out)) hb)
                clear HO_6 BK370 HB
                have HO_6 := n0_
                have BK370 := n1_
                have HB := n2_
                clear n0_ n1_ n2_
                (try clear hb)
                (try clear hb2)
                (try clear hk)
                (try clear hi)
                refine hK.out _ _ ⟨HS0_, HS1_, HS2_, HS3_⟩ (fun hHeld => ?_)
                clear hK K
                refine norm_ (a' := ?_) ?_ ?_
                rotate_left
                ·
                 show Act.put _ (some 65) _ = _
                 simp only [fr_]
                 rfl
                refine pu_ 9 66 ?_ (b_ 10 0) rfl rfl HT_.out ?_ ?_ ?_ ?_; rotate_left; intro w'; go_simp; with_reducible rfl; rotate_left; simp only [fr_]; rfl
                refine done_ (done_of HT_.out (by kernel_rfl)) ?_
                have p402 : 0 ≤ (x7_2 : Int) := of_decide_eq_true (by with_reducible assumption)
                have q402 : x7_2 < (x6_2.length : Int) := of_decide_eq_true (by with_reducible assumption)
                obtain ⟨ad402, e402, hx402_0, hx402_1⟩ := at_T25 (Kd.R_reads' HO_6.out).2.2 x7_2 p402 q402
                obtain rfl : ad399 = ad402 := (by injection e402)
                replace p402 := eq_true p402
                replace q402 := eq_true q402
                try go_wp2_with (first | ((with_reducible refine gate_dst (N := 9) rfl ?_); refine box_event ?hg (N := 9) ?hd (cs := #[.int .i64 0, .int .i64 0]) (t := 25) ?hr ?_; (case hd => rfl); (case hg => rfl); (case hr => first | (go_simp; done) | (go_simp; rfl)); intro gb403 hg w78 hbox hb; have n0_ := Aside0.mk (Kd.R_below (Kd.R_elderB (rp_ HO_6.out) gb403 (Nat.le_of_eq hg.symm)) hb); have n1_ := Aside0.mk (bb_ BK370.out hb); have n2_ := Aside0.mk (below_step (by repeat (first | (with_reducible first | exact HB.out | apply ba_ | apply bn_ | apply bd_ | refine below_set ?_ GE370.out) | exact HB.out)) hb); have n3_ := Aside0.mk (hbox); have n4_ := Aside0.mk ((by rw [hg]; exact (below_size (by repeat (first | (with_reducible first | exact HB.out | apply ba_ | apply bn_ | apply bd_ | refine below_set ?_ GE370.out) | exact HB.out))) : w.heap.size ≤ gb403)); have n5_ := n4_; have n6_ := Aside0.mk (nl_ BK370.out hg); have n7_ := Aside0.mk (n6_.out.symm); clear HO_6 BK370 HB; have HO_6 := n0_; have BK370 := n1_; have HB := n2_; have BK403 := n3_; have GW403 := n4_; have GE403 := n5_; have NB370_403 := n6_; have NB403_370 := n7_; clear n0_ n1_ n2_ n3_ n4_ n5_ n6_ n7_; clear hb hbox hg; have hnb79 := NB403_370.out; have hnc79 := NB370_403.out; obtain ⟨hcz80_0, hcz80_1, hfz80_0, hfz80_1⟩ := bc2_ BK403.out) | ((with_reducible refine gate_store (t := 25) (p := 9) rfl ?_); refine store_event (t := 25) (p := 9) (v := ?vo_w81) (w1 := ((w78.setCell ⟨gb403, 0, none⟩ (.int .i64 ((rd_T25 x6_2 x7_2).f0))).setCell ⟨gb403, 1, none⟩ (.int .i64 ((rd_T25 x6_2 x7_2).f1)))) ?hg ?ho ?hn ?hr ?_; (case ho => rfl); (case hg => rfl); (case hn => rfl); (case hr => first | (go_simp; done) | (go_simp; rfl)); intro w81 hw; have n0_ : Aside0 (Kd.R k25 25 w81 w.heap.size (fun k_ => k_ ≠ gb370 ∧ k_ ≠ gb403) (.slice (some ad399) x6_2.length co76) x6_2) := ⟨(by rw [hw]; exact (by (with_reducible repeat (first | apply Kd.R_alloc | apply Kd.R_drewN | apply Kd.R_drew)); exact Kd.R_mono (Kd.R_far (p := ⟨gb403, 1, none⟩) (Kd.R_far (p := ⟨gb403, 0, none⟩) (Kd.R_mono HO_6.out (fun k_ hk => (⟨hk, hk.2⟩ : _ ∧ k_ ≠ gb403))) (fun _ hk => hk.2) (.int .i64 ((rd_T25 x6_2 x7_2).f0))) (fun _ hk => hk.2) (.int .i64 ((rd_T25 x6_2 x7_2).f1))) (fun _ hk => ⟨hk.1.1, hk.1.2⟩)))⟩; have n1_ : Aside0 (w81.heap[gb370]? = some (.cells #[.int .i64 x371000_2, .int .i64 x371001_2] 25 (0, 0))) := ⟨(by rw [hw]; exact (by (with_reducible repeat (first | refine kn_ ?_ _ | refine kd_ ?_ | refine ka_ ?_ _)); refine blk_far ?_ NB370_403.out _; (with_reducible repeat (first | refine kn_ ?_ _ | refine kd_ ?_ | refine ka_ ?_ _)); refine blk_far ?_ NB370_403.out _; (with_reducible repeat (first | refine kn_ ?_ _ | refine kd_ ?_ | refine ka_ ?_ _)); exact BK370.out))⟩; have n2_ : Aside0 (w81.heap[gb403]? = some (.cells #[.int .i64 ((rd_T25 x6_2 x7_2).f0), .int .i64 ((rd_T25 x6_2 x7_2).f1)] 25 (0, 0))) := ⟨(by rw [hw]; exact (by (with_reducible repeat (first | refine kn_ ?_ _ | refine kd_ ?_ | refine ka_ ?_ _)); refine blk_put (cs := #[.int .i64 ((rd_T25 x6_2 x7_2).f0), .int .i64 0]) ?_ 1 _ rfl; (with_reducible repeat (first | refine kn_ ?_ _ | refine kd_ ?_ | refine ka_ ?_ _)); refine blk_put (cs := #[.int .i64 0, .int .i64 0]) ?_ 0 _ rfl; (with_reducible repeat (first | refine kn_ ?_ _ | refine kd_ ?_ | refine ka_ ?_ _)); exact BK403.out))⟩; have n3_ : Aside0 (Below w.heap.size w w81) := ⟨(by rw [hw]; exact (by repeat (first | (with_reducible first | exact HB.out | apply ba_ | apply bn_ | apply bd_ | refine below_set ?_ GE370.out | refine below_set ?_ GE403.out) | exact HB.out)))⟩; clear hw HO_6 BK370 BK403 HB; have HO_6 := n0_; have BK370 := n1_; have BK403 := n2_; have HB := n3_; clear n0_ n1_ n2_ n3_; have p404 : 0 ≤ ((ji66) : Int) := of_decide_eq_true (by with_reducible assumption); have q404 : (ji66) < (x6_2.length : Int) := of_decide_eq_true (by with_reducible assumption); obtain ⟨ad404, e404, hx404_0, hx404_1⟩ := at_T25 (Kd.R_reads' HO_6.out).2.2 (ji66) p404 q404; obtain rfl : ad399 = ad404 := (by injection e404); replace p404 := eq_true p404; replace q404 := eq_true q404; have p73 : 0 ≤ (x7_2 : Int) := of_decide_eq_true (by with_reducible assumption); have q73 : (x7_2 : Int) < ((x6_2.length : Int) : Int) := of_decide_eq_true (by with_reducible assumption); obtain ⟨go73, co73, eo73, gb73, gl73, cl73, HG73⟩ := Kd.R_form HO_6.out (by omega); (first | cases eo73 | (injection eo73 with ea_ en_ ec_; (first | subst ea_ | (injection ea_ with ea_; subst ea_)); subst ec_; clear en_)); have GB73 := Aside0.mk gb73; have GG73 := Aside0.mk HG73; clear gb73 gl73 HG73; (first | simp only [add_plain] at hx399_0 | skip); (first | simp only [add_plain] at hx399_1 | skip); (first | simp only [add_plain] at hx400_0 | skip); (first | simp only [add_plain] at hx400_1 | skip); (first | simp only [add_plain] at hx402_0 | skip); (first | simp only [add_plain] at hx402_1 | skip); (first | simp only [add_plain] at hx404_0 | skip); (first | simp only [add_plain] at hx404_1 | skip); obtain ⟨ce73, hcl73, hM73, hcc73, hfr73⟩ := Kd.R_elem HO_6.out z25 (x7_2 : Int) p73 q73; obtain rfl := k25_openM hM73; have hx73_0 : w81.cell? ⟨go73, (x7_2 : Int).toNat * 2, none⟩ = some (.int .i64 ((rd_T25 x6_2 x7_2).f0)) := hcc73 0 _ rfl; have hx73_1 : w81.cell? ⟨go73, (x7_2 : Int).toNat * 2 + 1, none⟩ = some (.int .i64 ((rd_T25 x6_2 x7_2).f1)) := hcc73 1 _ rfl; have hf73_0 : w81.frozen? ⟨go73, (x7_2 : Int).toNat * 2, none⟩ = false := hfr73 0; have hf73_1 : w81.frozen? ⟨go73, (x7_2 : Int).toNat * 2 + 1, none⟩ = false := hfr73 1; clear hcl73 hcc73 hfr73 hM73; replace p73 := eq_true p73; replace q73 := eq_true q73; have HX82 := Aside0.mk (show Kd.R k25 25 w81 w.heap.size (fun k_ => k_ ≠ gb370 ∧ k_ ≠ gb403) (.slice (some ⟨go73, 0, none⟩) x6_2.length co76) x6_2 from (rp_ HO_6.out)); obtain ⟨ce82, hcl82, hM82, hcc82, hfr82⟩ := Kd.R_elem HX82.out z25 (x7_2 : Int) (of_decide_eq_true (by with_reducible assumption)) (by have h_ : (x7_2 : Int) < ((x6_2.length : Int) : Int) := of_decide_eq_true (by with_reducible assumption); first | exact h_ | (have e_ := (Kd.R_reads' HO_6.out).1; omega) | simpa using h_); obtain rfl := k25_openM hM82; have HP82 := Kd.R_seg HX82.out (x7_2 : Int) (of_decide_eq_true (by with_reducible assumption)) (by have h_ : (x7_2 : Int) < ((x6_2.length : Int) : Int) := of_decide_eq_true (by with_reducible assumption); first | exact h_ | (have e_ := (Kd.R_reads' HO_6.out).1; omega) | simpa using h_) (seg := [.int .i64 ((rd_T25 x6_2 (ji66)).f0), .int .i64 ((rd_T25 x6_2 (ji66)).f1)]) (j := 0) hcl82 hcc82 (show 2 ≤ 2 from by decide) (x' := (⟨(rd_T25 x6_2 (ji66)).f0, (rd_T25 x6_2 (ji66)).f1⟩ : S25)) (k25_mkM _ _ _ (⟨(rd_T25 x6_2 (ji66)).f0, (rd_T25 x6_2 (ji66)).f1⟩ : S25) ) (fun _ hk => hk); have hx82_0 := hcc82 0 _ rfl; (try simp only [show (k25).sz = 2 from rfl, Nat.mul_one, Nat.add_zero] at hx82_0); have hf82_0 := hfr82 0; (try simp only [show (k25).sz = 2 from rfl, Nat.mul_one, Nat.add_zero] at hf82_0); have hx82_1 := hcc82 1 _ rfl; (try simp only [show (k25).sz = 2 from rfl, Nat.mul_one, Nat.add_zero] at hx82_1); have hf82_1 := hfr82 1; (try simp only [show (k25).sz = 2 from rfl, Nat.mul_one, Nat.add_zero] at hf82_1); clear hcl82 hcc82 hfr82 hM82) | ((with_reducible refine gate_store (t := 25) (p := 77) rfl ?_); refine store_event (t := 25) (p := 77) (v := ?vo_w83) (w1 := ((w81.setCell ⟨go73, (x7_2 : Int).toNat * 2, none⟩ (.int .i64 ((rd_T25 x6_2 (ji66)).f0))).setCell ⟨go73, (x7_2 : Int).toNat * 2 + 1, none⟩ (.int .i64 ((rd_T25 x6_2 (ji66)).f1)))) ?hg ?ho ?hn ?hr ?_; (case ho => rfl); (case hg => rfl); (case hn => rfl); (case hr => first | (go_simp; done) | (go_simp; rfl)); intro w83 hw; have hg : w81.grownBy w83 (some go73) := (by rw [hw]; exact HP82.2); have hp_ : Kd.R k25 25 w83 w.heap.size (fun k_ => k_ ≠ gb370 ∧ k_ ≠ gb403) (.slice (some ⟨go73, 0, none⟩) x6_2.length co76) y405 := (by rw [hw, Ny405.out]; exact HP82.1); clear HP82; have n0_ := Aside0.mk (hp_); have n1_ := Aside0.mk (blk_grown (g := gb370) (o := .cells #[.int .i64 x371000_2, .int .i64 x371001_2] 25 (0, 0)) (pb_ BK370.out) hg (Kd.R_away HO_6.out (fun _ hk => hk.1))); have n2_ := Aside0.mk (blk_grown (g := gb403) (o := .cells #[.int .i64 ((rd_T25 x6_2 x7_2).f0), .int .i64 ((rd_T25 x6_2 x7_2).f1)] 25 (0, 0)) (pb_ BK403.out) hg (Kd.R_away HO_6.out (fun _ hk => hk.2))); have n3_ := Aside0.mk ((by rw [hw]; exact below_set (below_set (HB.out) GB73.out) GB73.out : Below w.heap.size w w83)); clear HO_6 BK370 BK403 HB; have HO_6 := n0_; have BK370 := n1_; have BK403 := n2_; have HB := n3_; clear n0_ n1_ n2_ n3_; clear hg hw hp_; obtain ⟨hcz84_0, hcz84_1, hfz84_0, hfz84_1⟩ := bc2_ BK403.out; have p74 : 0 ≤ ((ji66) : Int) := of_decide_eq_true (by with_reducible assumption); have q74 : ((ji66) : Int) < ((x6_2.length : Int) : Int) := of_decide_eq_true (by with_reducible assumption); obtain ⟨ce74, hcl74, hM74, hcc74, hfr74⟩ := Kd.R_elem HO_6.out z25 ((ji66) : Int) p74 q74; obtain rfl := k25_openM hM74; have hx74_0 : w83.cell? ⟨go73, ((ji66) : Int).toNat * 2, none⟩ = some (.int .i64 ((rd_T25 y405 (ji66)).f0)) := hcc74 0 _ rfl; have hx74_1 : w83.cell? ⟨go73, ((ji66) : Int).toNat * 2 + 1, none⟩ = some (.int .i64 ((rd_T25 y405 (ji66)).f1)) := hcc74 1 _ rfl; have hf74_0 : w83.frozen? ⟨go73, ((ji66) : Int).toNat * 2, none⟩ = false := hfr74 0; have hf74_1 : w83.frozen? ⟨go73, ((ji66) : Int).toNat * 2 + 1, none⟩ = false := hfr74 1; clear hcl74 hcc74 hfr74 hM74; replace p74 := eq_true p74; replace q74 := eq_true q74; have HX85 := Aside0.mk (show Kd.R k25 25 w83 w.heap.size (fun k_ => k_ ≠ gb370 ∧ k_ ≠ gb403) (.slice (some ⟨go73, 0, none⟩) x6_2.length co76) y405 from (rp_ HO_6.out)); obtain ⟨ce85, hcl85, hM85, hcc85, hfr85⟩ := Kd.R_elem HX85.out z25 ((ji66) : Int) (of_decide_eq_true (by with_reducible assumption)) (by have h_ : ((ji66) : Int) < ((x6_2.length : Int) : Int) := of_decide_eq_true (by with_reducible assumption); first | exact h_ | (have e_ := (Kd.R_reads' HO_6.out).1; omega) | simpa using h_); obtain rfl := k25_openM hM85; have HP85 := Kd.R_seg HX85.out ((ji66) : Int) (of_decide_eq_true (by with_reducible assumption)) (by have h_ : ((ji66) : Int) < ((x6_2.length : Int) : Int) := of_decide_eq_true (by with_reducible assumption); first | exact h_ | (have e_ := (Kd.R_reads' HO_6.out).1; omega) | simpa using h_) (seg := [.int .i64 ((rd_T25 x6_2 x7_2).f0), .int .i64 ((rd_T25 x6_2 x7_2).f1)]) (j := 0) hcl85 hcc85 (show 2 ≤ 2 from by decide) (x' := (⟨(rd_T25 x6_2 x7_2).f0, (rd_T25 x6_2 x7_2).f1⟩ : S25)) (k25_mkM _ _ _ (⟨(rd_T25 x6_2 x7_2).f0, (rd_T25 x6_2 x7_2).f1⟩ : S25) ) (fun _ hk => hk); have hx85_0 := hcc85 0 _ rfl; (try simp only [show (k25).sz = 2 from rfl, Nat.mul_one, Nat.add_zero] at hx85_0); have hf85_0 := hfr85 0; (try simp only [show (k25).sz = 2 from rfl, Nat.mul_one, Nat.add_zero] at hf85_0); have hx85_1 := hcc85 1 _ rfl; (try simp only [show (k25).sz = 2 from rfl, Nat.mul_one, Nat.add_zero] at hx85_1); have hf85_1 := hfr85 1; (try simp only [show (k25).sz = 2 from rfl, Nat.mul_one, Nat.add_zero] at hf85_1); clear hcl85 hcc85 hfr85 hM85) | ((with_reducible refine gate_store (t := 25) (p := 81) rfl ?_); refine store_event (t := 25) (p := 81) (v := ?vo_w86) (w1 := ((w83.setCell ⟨go73, ((ji66) : Int).toNat * 2, none⟩ (.int .i64 ((rd_T25 x6_2 x7_2).f0))).setCell ⟨go73, ((ji66) : Int).toNat * 2 + 1, none⟩ (.int .i64 ((rd_T25 x6_2 x7_2).f1)))) ?hg ?ho ?hn ?hr ?_; (case ho => rfl); (case hg => rfl); (case hn => rfl); (case hr => first | (go_simp; done) | (go_simp; rfl)); intro w86 hw; have hg : w83.grownBy w86 (some go73) := (by rw [hw]; exact HP85.2); have hp_ : Kd.R k25 25 w86 w.heap.size (fun k_ => k_ ≠ gb370 ∧ k_ ≠ gb403) (.slice (some ⟨go73, 0, none⟩) x6_2.length co76) y406 := (by rw [hw, Ny406.out]; exact HP85.1); clear HP85; have n0_ := Aside0.mk (hp_); have n1_ := Aside0.mk (blk_grown (g := gb370) (o := .cells #[.int .i64 x371000_2, .int .i64 x371001_2] 25 (0, 0)) (pb_ BK370.out) hg (Kd.R_away HO_6.out (fun _ hk => hk.1))); have n2_ := Aside0.mk (blk_grown (g := gb403) (o := .cells #[.int .i64 ((rd_T25 x6_2 x7_2).f0), .int .i64 ((rd_T25 x6_2 x7_2).f1)] 25 (0, 0)) (pb_ BK403.out) hg (Kd.R_away HO_6.out (fun _ hk => hk.2))); have n3_ := Aside0.mk ((by rw [hw]; exact below_set (below_set (HB.out) GB73.out) GB73.out : Below w.heap.size w w86)); clear HO_6 BK370 BK403 HB; have HO_6 := n0_; have BK370 := n1_; have BK403 := n2_; have HB := n3_; clear n0_ n1_ n2_ n3_; clear hg hw hp_))
                go_roundg kj23
                case measure => have := HJ10.out; have := HK2.out; have := HJ23.out; omega
                case rel => exact ⟨(y406), ((ji66)), (x371000_2), (x371001_2), (by first | rfl | (simp; done) | (simp only [← hji66] <;> (first | rfl | simp)) | (simp [*]; done)), H', ⟨by have := HJ10.out; have := HK2.out; have := HJ23.out; omega⟩, ⟨by (with_reducible repeat (first | apply Kd.R_alloc | apply Kd.R_drewN | apply Kd.R_drew)); exact Kd.R_mono HO_6.out (fun _ hk => hk.1)⟩, ⟨by (with_reducible repeat (first | refine kn_ ?_ _ | refine kd_ ?_ | refine ka_ ?_ _)); exact BK370.out⟩, ⟨by repeat (first | (with_reducible first | exact HB.out | apply ba_ | apply bn_ | apply bd_ | refine below_set ?_ GE370.out | refine below_set ?_ GE403.out) | exact HB.out)⟩⟩
               replace c72 := Bool.eq_false_iff.mpr c72
               subst c72
               rw [if_neg (show ¬ (false = true) by decide)] at H
               by_cases c87 : 0 < (l0.length : Int)
               ·
                rw [if_pos c87] at H
                have c87b0 := decide_eq_true c87
                have c87b1 : decide (0 < l0.length) = true := decide_eq_true (by omega)
                clear c87
                simp only [Option.some.injEq, Prod.mk.injEq] at H
                obtain ⟨rfl, rfl, rfl, rfl⟩ := H
                try go_wp2
                have n0_ := Aside0.mk (Kd.R_drew HO_6.out)
                have n1_ := Aside0.mk (blk_drew BK370.out)
                have n2_ := Aside0.mk (bd_ HB.out)
                clear HO_6 BK370 HB
                have HO_6 := n0_
                have BK370 := n1_
                have HB := n2_
                clear n0_ n1_ n2_
                obtain ⟨Ao89, co89, eo89⟩ := Kd.R_slice HO_6.out
                (first | subst eo89 | (injection eo89 with f1_ f2_ f3_; have f4_ := f1_.symm; have f5_ := f3_.symm; clear f1_ f2_ f3_; subst f4_; subst f5_))
                have p399 : 0 ≤ ((ji66) : Int) := of_decide_eq_true (by with_reducible assumption)
                have q399 : (ji66) < (x6_2.length : Int) := of_decide_eq_true (by with_reducible assumption)
                obtain ⟨ad399, e399, hx399_0, hx399_1⟩ := at_T25 (Kd.R_reads' HO_6.out).2.2 (ji66) p399 q399
                cases e399
                replace p399 := eq_true p399
                replace q399 := eq_true q399
                have p400 : 0 ≤ (x7_2 : Int) := of_decide_eq_true (by with_reducible assumption)
                have q400 : x7_2 < (x6_2.length : Int) := of_decide_eq_true (by with_reducible assumption)
                obtain ⟨ad400, e400, hx400_0, hx400_1⟩ := at_T25 (Kd.R_reads' HO_6.out).2.2 x7_2 p400 q400
                obtain rfl : ad399 = ad400 := (by injection e400)
                replace p400 := eq_true p400
                replace q400 := eq_true q400
                refine start_ (n := 10) (S := fun w' => w'.cell? (ad399.add (((ji66)).toNat * 2)) = some (.int .i64 ((rd_T25 x6_2 (ji66)).f0)) ∧ w'.cell? ⟨(ad399.add (((ji66)).toNat * 2)).block, (ad399.add (((ji66)).toNat * 2)).off + 1, none⟩ = some (.int .i64 ((rd_T25 x6_2 (ji66)).f1)) ∧ w'.cell? (ad399.add ((x7_2).toNat * 2)) = some (.int .i64 ((rd_T25 x6_2 x7_2).f0)) ∧ w'.cell? ⟨(ad399.add ((x7_2).toNat * 2)).block, (ad399.add ((x7_2).toNat * 2)).off + 1, none⟩ = some (.int .i64 ((rd_T25 x6_2 x7_2).f1))) (ds := []) #[f_,f_,f_,f_,f_,f_,f_,f_,f_,f_] (by kernel_rfl) rfl rfl ⟨hx399_0, hx399_1, hx400_0, hx400_1⟩ (fun hHeld => ?_); refine with_tabW spec_HeapTake.tab12 spec_HeapTake.bits12 (fun HT_ HW_ => ?_)
                generalize wc.drew = w88 at HO_6 BK370 HB hx399_0 hx399_1 hx400_0 hx400_1 hHeld ⊢
                refine pu_ 0 57 ?_ (b_ 1 9) rfl rfl HT_.out ?_ ?_ ?_ ?_; rotate_left; intro w'; go_simp; with_reducible rfl; rotate_left; simp only [fr_]; rfl
                refine pu_ 1 58 ?_ (b_ 2 8) rfl rfl HT_.out ?_ ?_ ?_ ?_; rotate_left; intro w'; go_simp; with_reducible rfl; rotate_left; simp only [fr_]; rfl
                refine pu_ 2 59 ?_ (b_ 3 7) rfl rfl HT_.out ?_ ?_ ?_ ?_; rotate_left; intro w'; go_simp; with_reducible rfl; rotate_left; simp only [fr_]; rfl
                refine pu_ 4 61 ?_ #[t_,t_,t_,f_,t_,f_,f_,f_,f_,f_] rfl rfl HT_.out ?_ ?_ ?_ ?_; rotate_left; intro w'; go_simp; with_reducible rfl; rotate_left; simp only [fr_]; rfl
                refine pu_ 5 62 ?_ #[t_,t_,t_,f_,t_,t_,f_,f_,f_,f_] rfl rfl HT_.out ?_ ?_ ?_ ?_; rotate_left; intro w'; go_simp; with_reducible rfl; rotate_left; simp only [fr_]; rfl
                refine pu_ 6 63 ?_ #[t_,t_,t_,f_,t_,t_,t_,f_,f_,f_] rfl rfl HT_.out ?_ ?_ ?_ ?_; rotate_left; intro w'; go_simp; with_reducible rfl; rotate_left; simp only [fr_]; rfl
                refine take_ (i := 3) (N := some 60) (v := ?_) (a' := ?_) #[t_,t_,t_,t_,t_,t_,t_,f_,f_,f_] rfl rfl (take_ofW HT_.out HW_.out (by kernel_rfl)) (fun _ _ _ h => h) (Or.inl ⟨by rfl, ?_⟩) hHeld ?_ ?_
                rotate_left
                ·
                 rintro w' ⟨s0, s1, s2, s3⟩
                 go_simp
                 with_reducible rfl
                rotate_left
                ·
                 simp only [fr_]
                 rfl
                refine take_ (i := 7) (N := some 64) (v := ?_) (a' := ?_) #[t_,t_,t_,t_,t_,t_,t_,t_,f_,f_] rfl rfl (take_ofW HT_.out HW_.out (by kernel_rfl)) (fun _ _ _ h => h) (Or.inl ⟨by rfl, ?_⟩) hHeld ?_ ?_
                rotate_left
                ·
                 rintro w' ⟨s0, s1, s2, s3⟩
                 go_simp
                 with_reducible rfl
                rotate_left
                ·
                 simp only [fr_]
                 rfl
                refine one_ (i := 8) (N := some 65) #[t_,t_,t_,t_,t_,t_,t_,t_,t_,f_] rfl rfl (one_of HT_.out (by kernel_rfl)) (by decide) (fun K hK => ?_)
                refine goes_ Try.func14 (by kernel_rfl) rfl #[.agg #[.int .i64 ((rd_T25 x6_2 (ji66)).f0), .int .i64 ((rd_T25 x6_2 (ji66)).f1)], .agg #[.int .i64 ((rd_T25 x6_2 x7_2).f0), .int .i64 ((rd_T25 x6_2 x7_2).f1)]] (by rfl) rfl rfl (by (try simp only [mp_]); first | done | (simp only [hji66]; rfl) | rfl | (simp only [List.length_drop, List.length_take]; rfl)) ?_
                with_reducible refine (spec_Before.calls ((rd_T25 x6_2 (ji66)).f0) ((rd_T25 x6_2 (ji66)).f1) ((rd_T25 x6_2 x7_2).f0) ((rd_T25 x6_2 x7_2).f1) false _ A71.out).mono ?_
                rintro e w90 ⟨rfl, hb⟩
                have HS0_ := (hb.cell (World.block_lt_of_cell? _ _ (hHeld.1))).trans (hHeld.1)
                have HS1_ := (hb.cell (World.block_lt_of_cell? _ _ (hHeld.2.1))).trans (hHeld.2.1)
                have HS2_ := (hb.cell (World.block_lt_of_cell? _ _ (hHeld.2.2.1))).trans (hHeld.2.2.1)
                have HS3_ := (hb.cell (World.block_lt_of_cell? _ _ (hHeld.2.2.2))).trans (hHeld.2.2.2)
                refine ⟨_, rfl, ?_⟩
                have n0_ := Aside0.mk (Kd.R_below (rp_ HO_6.out) hb)
                have n1_ := Aside0.mk (bb_ BK370.out hb)
                have n2_ := Aside0.mk (below_step (by repeat (first | (with_reducible first | exact HB.out | apply ba_ | apply bn_ | apply bd_ | refine below_set ?_ GE370.out) | exact HB.out)) hb)
                clear HO_6 BK370 HB
                have HO_6 := n0_
                have BK370 := n1_
                have HB := n2_
                clear n0_ n1_ n2_
                (try clear hb)
                (try clear hb2)
                (try clear hk)
                (try clear hi)
                refine hK.out _ _ ⟨HS0_, HS1_, HS2_, HS3_⟩ (fun hHeld => ?_)
                clear hK K
                refine norm_ (a' := ?_) ?_ ?_
                rotate_left
                ·
                 show Act.put _ (some 65) _ = _
                 simp only [fr_]
                 rfl
                refine pu_ 9 66 ?_ (b_ 10 0) rfl rfl HT_.out ?_ ?_ ?_ ?_; rotate_left; intro w'; go_simp; with_reducible rfl; rotate_left; simp only [fr_]; rfl
                refine done_ (done_of HT_.out (by kernel_rfl)) ?_
                try go_wp2
                have n0_ := Aside0.mk (Kd.R_drew HO_6.out)
                have n1_ := Aside0.mk (blk_drew BK370.out)
                have n2_ := Aside0.mk (bd_ HB.out)
                clear HO_6 BK370 HB
                have HO_6 := n0_
                have BK370 := n1_
                have HB := n2_
                clear n0_ n1_ n2_
                have p407 : 0 ≤ (0 : Int) := (by omega)
                have q407 : 0 < (l0.length : Int) := of_decide_eq_true (by with_reducible assumption)
                obtain ⟨ad407, e407, hx407_0, hx407_1⟩ := at_T25 HR0.out 0 p407 q407
                have hw407_1 := hx407_1
                (try rw [show ((0 : Int)).toNat = 0 from rfl] at hw407_1)
                (try rw [show 0 * 2 = 0 from rfl] at hw407_1)
                (try rw [Addr.add_zero'] at hw407_1)
                have hw407_0 := hx407_0
                (try rw [show ((0 : Int)).toNat = 0 from rfl] at hw407_0)
                (try rw [show 0 * 2 = 0 from rfl] at hw407_0)
                (try rw [Addr.add_zero'] at hw407_0)
                cases e407
                have qi407 : (0 < l0.length) = True := eq_true (by omega)
                (try rw [show ((0 : Int)).toNat = 0 from rfl] at hx407_0)
                (try rw [show 0 * 2 = 0 from rfl] at hx407_0)
                (try rw [Addr.add_zero'] at hx407_0)
                (try rw [show ((0 : Int)).toNat = 0 from rfl] at hx407_1)
                (try rw [show 0 * 2 = 0 from rfl] at hx407_1)
                (try rw [Addr.add_zero'] at hx407_1)
                replace hx407_0 := cl_ HB.out hx407_0
                replace hx407_1 := cl_ HB.out hx407_1
                replace p407 := eq_true p407
                replace q407 := eq_true q407
                refine start_ (n := 7) (S := fun w' => w'.cell? ad407 = some (.int .i64 ((rd_T25 l0 0).f0)) ∧ w'.cell? ⟨ad407.block, ad407.off + 1, none⟩ = some (.int .i64 ((rd_T25 l0 0).f1))) (ds := []) #[f_,f_,f_,f_,f_,f_,f_] (by kernel_rfl) rfl rfl ⟨((HB.out.cell (World.block_lt_of_cell? w _ hw407_0)).trans hw407_0), ((HB.out.cell (World.block_lt_of_cell? w _ hw407_1)).trans hw407_1)⟩ (fun hHeld => ?_)
                generalize w90.drew = w91 at HO_6 BK370 HB hx407_0 hx407_1 hHeld ⊢
                refine pure_ (i := 0) (N := some 83) (v := ?_) (a' := ?_) #[t_,f_,f_,f_,f_,f_,f_] rfl rfl (by kernel_rfl) (fun _ _ _ h => h) (Or.inl ⟨by rfl, ?_⟩) ?_ ?_
                rotate_left
                ·
                 intro w'
                 go_simp
                 with_reducible rfl
                rotate_left
                ·
                 simp only [fr_]
                 rfl
                refine pure_ (i := 1) (N := some 84) (v := ?_) (a' := ?_) #[t_,t_,f_,f_,f_,f_,f_] rfl rfl (by kernel_rfl) (fun _ _ _ h => h) (Or.inl ⟨by rfl, ?_⟩) ?_ ?_
                rotate_left
                ·
                 intro w'
                 go_simp
                 with_reducible rfl
                rotate_left
                ·
                 simp only [fr_]
                 rfl
                refine pure_ (i := 2) (N := some 85) (v := ?_) (a' := ?_) #[t_,t_,t_,f_,f_,f_,f_] rfl rfl (by kernel_rfl) (fun _ _ _ h => h) (Or.inl ⟨by rfl, ?_⟩) ?_ ?_
                rotate_left
                ·
                 intro w'
                 go_simp
                 with_reducible rfl
                rotate_left
                ·
                 simp only [fr_]
                 rfl
                refine pure_ (i := 4) (N := some 2) (v := ?_) (a' := ?_) #[t_,t_,t_,f_,t_,f_,f_] rfl rfl (by kernel_rfl) (fun _ _ _ h => h) (Or.inl ⟨by rfl, ?_⟩) ?_ ?_
                rotate_left
                ·
                 intro w'
                 go_simp
                 with_reducible rfl
                rotate_left
                ·
                 simp only [fr_]
                 rfl
                refine take_ (i := 3) (N := some 86) (v := ?_) (a' := ?_) #[t_,t_,t_,t_,t_,f_,f_] rfl rfl (by kernel_rfl) (fun _ _ _ h => h) (Or.inl ⟨by rfl, ?_⟩) hHeld ?_ ?_
                rotate_left
                ·
                 rintro w' ⟨s0, s1⟩
                 go_simp
                 with_reducible rfl
                rotate_left
                ·
                 simp only [fr_]
                 rfl
                refine one_ (i := 5) (N := none) #[t_,t_,t_,t_,t_,t_,f_] rfl rfl (by kernel_rfl) (by decide) (fun K hK => ?_)
                have hs92 : w91.cell? ⟨gb370, 0, none⟩ = some (.int .i64 x371000_2) := bx_ BK370.out 0
                have hfs92 := blk_frozen BK370.out 0
                have hs93 : w91.cell? ⟨gb370, 1, none⟩ = some (.int .i64 x371001_2) := bx_ BK370.out 1
                have hfs93 := blk_frozen BK370.out 1
                refine skip_ (w1 := ?_) (by rfl) rfl ?_ ?_
                rotate_left
                ·
                 go_simp
                 rfl
                refine hK.out _ _ ⟨((cell_far (p := ⟨gb370, _, none⟩) (by first | exact Nat.ne_of_lt (Nat.lt_of_lt_of_le (by have := World.block_lt_of_cell? _ _ hw407_0; first | rwa [add_block] at this | exact this) GW370.out) | (rw [add_block]; exact Nat.ne_of_lt (Nat.lt_of_lt_of_le (by have := World.block_lt_of_cell? _ _ hw407_0; first | rwa [add_block] at this | exact this) GW370.out)) | (show (Addr.add _ _).block ≠ _; rw [add_block]; exact Nat.ne_of_lt (Nat.lt_of_lt_of_le (by have := World.block_lt_of_cell? _ _ hw407_0; first | rwa [add_block] at this | exact this) GW370.out)) | (dsimp only; exact Nat.ne_of_lt (Nat.lt_of_lt_of_le (by have := World.block_lt_of_cell? _ _ hw407_0; first | rwa [add_block] at this | exact this) GW370.out))) _).trans (((cell_far (p := ⟨gb370, _, none⟩) (by first | exact Nat.ne_of_lt (Nat.lt_of_lt_of_le (by have := World.block_lt_of_cell? _ _ hw407_0; first | rwa [add_block] at this | exact this) GW370.out) | (rw [add_block]; exact Nat.ne_of_lt (Nat.lt_of_lt_of_le (by have := World.block_lt_of_cell? _ _ hw407_0; first | rwa [add_block] at this | exact this) GW370.out)) | (show (Addr.add _ _).block ≠ _; rw [add_block]; exact Nat.ne_of_lt (Nat.lt_of_lt_of_le (by have := World.block_lt_of_cell? _ _ hw407_0; first | rwa [add_block] at this | exact this) GW370.out)) | (dsimp only; exact Nat.ne_of_lt (Nat.lt_of_lt_of_le (by have := World.block_lt_of_cell? _ _ hw407_0; first | rwa [add_block] at this | exact this) GW370.out))) _).trans (hHeld.1)))), ((cell_far (p := ⟨gb370, _, none⟩) (by first | exact Nat.ne_of_lt (Nat.lt_of_lt_of_le (by have := World.block_lt_of_cell? _ _ hw407_1; first | rwa [add_block] at this | exact this) GW370.out) | (rw [add_block]; exact Nat.ne_of_lt (Nat.lt_of_lt_of_le (by have := World.block_lt_of_cell? _ _ hw407_1; first | rwa [add_block] at this | exact this) GW370.out)) | (show (Addr.add _ _).block ≠ _; rw [add_block]; exact Nat.ne_of_lt (Nat.lt_of_lt_of_le (by have := World.block_lt_of_cell? _ _ hw407_1; first | rwa [add_block] at this | exact this) GW370.out)) | (dsimp only; exact Nat.ne_of_lt (Nat.lt_of_lt_of_le (by have := World.block_lt_of_cell? _ _ hw407_1; first | rwa [add_block] at this | exact this) GW370.out))) _).trans (((cell_far (p := ⟨gb370, _, none⟩) (by first | exact Nat.ne_of_lt (Nat.lt_of_lt_of_le (by have := World.block_lt_of_cell? _ _ hw407_1; first | rwa [add_block] at this | exact this) GW370.out) | (rw [add_block]; exact Nat.ne_of_lt (Nat.lt_of_lt_of_le (by have := World.block_lt_of_cell? _ _ hw407_1; first | rwa [add_block] at this | exact this) GW370.out)) | (show (Addr.add _ _).block ≠ _; rw [add_block]; exact Nat.ne_of_lt (Nat.lt_of_lt_of_le (by have := World.block_lt_of_cell? _ _ hw407_1; first | rwa [add_block] at this | exact this) GW370.out)) | (dsimp only; exact Nat.ne_of_lt (Nat.lt_of_lt_of_le (by have := World.block_lt_of_cell? _ _ hw407_1; first | rwa [add_block] at this | exact this) GW370.out))) _).trans (hHeld.2))))⟩ (fun hHeld => ?_)
                clear hK K
                refine pure_ (i := 6) (N := some 4) (v := ?_) (a' := ?_) #[t_,t_,t_,t_,t_,t_,t_] rfl rfl (by kernel_rfl) (fun _ _ _ h => h) (Or.inl ⟨by rfl, ?_⟩) ?_ ?_
                rotate_left
                ·
                 intro w'
                 go_simp
                 with_reducible rfl
                rotate_left
                ·
                 simp only [fr_]
                 rfl
                refine done_ (by kernel_rfl) ?_
                try go_wp2
                refine bodyPost_ret (results_list (rs := [.tmp 2, .cell 3 25, .tmp 4]) rfl (by simp) (.tmp (.cell gb370 25 #[.int .i64 ((rd_T25 l0 0).f0), .int .i64 ((rd_T25 l0 0).f1)] (0, 0) _ rfl (by (with_reducible repeat (first | refine kn_ ?_ _ | refine kd_ ?_ | refine ka_ ?_ _)); refine blk_put (cs := #[.int .i64 ((rd_T25 l0 0).f0), .int .i64 x371001_2]) ?_ 1 _ rfl; (with_reducible repeat (first | refine kn_ ?_ _ | refine kd_ ?_ | refine ka_ ?_ _)); refine blk_put (cs := #[.int .i64 x371000_2, .int .i64 x371001_2]) ?_ 0 _ rfl; (with_reducible repeat (first | refine kn_ ?_ _ | refine kd_ ?_ | refine ka_ ?_ _)); exact BK370.out) Try.underlying25 rfl (by kernel_rfl) (.tmp .nil)))) rfl ?_
                exact ⟨_, by first | rfl | (simp [errW_none, errW_some] <;> rfl) | (simp only [← hji7, ← hji66]; first | rfl | (simp [errW_none, errW_some] <;> rfl)) | (simp [*, errW_none, errW_some] <;> rfl), by (with_reducible repeat (first | apply Kd.R_alloc | apply Kd.R_drewN | apply Kd.R_drew)); exact Kd.R_mono (Kd.R_far (p := ⟨gb370, 1, none⟩) (Kd.R_far (p := ⟨gb370, 0, none⟩) (Kd.R_mono HO_6.out (fun k_ hk => (⟨hk, hk⟩ : _ ∧ k_ ≠ gb370))) (fun _ hk => hk.2) (.int .i64 ((rd_T25 l0 0).f0))) (fun _ hk => hk.2) (.int .i64 ((rd_T25 l0 0).f1))) (fun _ hk => trivial), by repeat (first | (with_reducible first | exact HB.out | apply ba_ | apply bn_ | apply bd_ | refine below_set ?_ GE370.out) | exact HB.out)⟩
               rw [if_neg c87] at H
               exact absurd H (by simp)
              rw [if_neg c70] at H
              exact absurd H (by simp)
             rw [if_neg c69] at H
             exact absurd H (by simp)
            rw [if_neg c68] at H
            exact absurd H (by simp)
           rw [if_neg c67] at H
           exact absurd H (by simp)
        rw [if_neg c23] at H
        have c23b0 : decide ((wrap64 ((wrap64 (2 * x7_2)) + 1)) < ji7) = false := decide_eq_false c23
        clear c23
        by_cases c94 : 0 < (l0.length : Int)
        ·
         rw [if_pos c94] at H
         have c94b0 := decide_eq_true c94
         have c94b1 : decide (0 < l0.length) = true := decide_eq_true (by omega)
         clear c94
         simp only [Option.some.injEq, Prod.mk.injEq] at H
         obtain ⟨rfl, rfl, rfl, rfl⟩ := H
         try go_wp2
         have n0_ := Aside0.mk (Kd.R_drew HO_6.out)
         have n1_ := Aside0.mk (blk_drew BK370.out)
         have n2_ := Aside0.mk (bd_ HB.out)
         clear HO_6 BK370 HB
         have HO_6 := n0_
         have BK370 := n1_
         have HB := n2_
         clear n0_ n1_ n2_
         have p386 : 0 ≤ (0 : Int) := (by omega)
         have q386 : 0 < (l0.length : Int) := of_decide_eq_true (by with_reducible assumption)
         obtain ⟨ad386, e386, hx386_0, hx386_1⟩ := at_T25 HR0.out 0 p386 q386
         have hw386_1 := hx386_1
         (try rw [show ((0 : Int)).toNat = 0 from rfl] at hw386_1)
         (try rw [show 0 * 2 = 0 from rfl] at hw386_1)
         (try rw [Addr.add_zero'] at hw386_1)
         have hw386_0 := hx386_0
         (try rw [show ((0 : Int)).toNat = 0 from rfl] at hw386_0)
         (try rw [show 0 * 2 = 0 from rfl] at hw386_0)
         (try rw [Addr.add_zero'] at hw386_0)
         cases e386
         have qi386 : (0 < l0.length) = True := eq_true (by omega)
         (try rw [show ((0 : Int)).toNat = 0 from rfl] at hx386_0)
         (try rw [show 0 * 2 = 0 from rfl] at hx386_0)
         (try rw [Addr.add_zero'] at hx386_0)
         (try rw [show ((0 : Int)).toNat = 0 from rfl] at hx386_1)
         (try rw [show 0 * 2 = 0 from rfl] at hx386_1)
         (try rw [Addr.add_zero'] at hx386_1)
         replace hx386_0 := cl_ HB.out hx386_0
         replace hx386_1 := cl_ HB.out hx386_1
         replace p386 := eq_true p386
         replace q386 := eq_true q386
         refine start_ (n := 7) (S := fun w' => w'.cell? ad386 = some (.int .i64 ((rd_T25 l0 0).f0)) ∧ w'.cell? ⟨ad386.block, ad386.off + 1, none⟩ = some (.int .i64 ((rd_T25 l0 0).f1))) (ds := []) #[f_,f_,f_,f_,f_,f_,f_] (by kernel_rfl) rfl rfl ⟨((HB.out.cell (World.block_lt_of_cell? w _ hw386_0)).trans hw386_0), ((HB.out.cell (World.block_lt_of_cell? w _ hw386_1)).trans hw386_1)⟩ (fun hHeld => ?_)
         generalize wr.drew = w95 at HO_6 BK370 HB hx386_0 hx386_1 hHeld ⊢
         refine pure_ (i := 0) (N := some 83) (v := ?_) (a' := ?_) #[t_,f_,f_,f_,f_,f_,f_] rfl rfl (by kernel_rfl) (fun _ _ _ h => h) (Or.inl ⟨by rfl, ?_⟩) ?_ ?_
         rotate_left
         ·
          intro w'
          go_simp
          with_reducible rfl
         rotate_left
         ·
          simp only [fr_]
          rfl
         refine pure_ (i := 1) (N := some 84) (v := ?_) (a' := ?_) #[t_,t_,f_,f_,f_,f_,f_] rfl rfl (by kernel_rfl) (fun _ _ _ h => h) (Or.inl ⟨by rfl, ?_⟩) ?_ ?_
         rotate_left
         ·
          intro w'
          go_simp
          with_reducible rfl
         rotate_left
         ·
          simp only [fr_]
          rfl
         refine pure_ (i := 2) (N := some 85) (v := ?_) (a' := ?_) #[t_,t_,t_,f_,f_,f_,f_] rfl rfl (by kernel_rfl) (fun _ _ _ h => h) (Or.inl ⟨by rfl, ?_⟩) ?_ ?_
         rotate_left
         ·
          intro w'
          go_simp
          with_reducible rfl
         rotate_left
         ·
          simp only [fr_]
          rfl
         refine pure_ (i := 4) (N := some 2) (v := ?_) (a' := ?_) #[t_,t_,t_,f_,t_,f_,f_] rfl rfl (by kernel_rfl) (fun _ _ _ h => h) (Or.inl ⟨by rfl, ?_⟩) ?_ ?_
         rotate_left
         ·
          intro w'
          go_simp
          with_reducible rfl
         rotate_left
         ·
          simp only [fr_]
          rfl
         refine take_ (i := 3) (N := some 86) (v := ?_) (a' := ?_) #[t_,t_,t_,t_,t_,f_,f_] rfl rfl (by kernel_rfl) (fun _ _ _ h => h) (Or.inl ⟨by rfl, ?_⟩) hHeld ?_ ?_
         rotate_left
         ·
          rintro w' ⟨s0, s1⟩
          go_simp
          with_reducible rfl
         rotate_left
         ·
          simp only [fr_]
          rfl
         refine one_ (i := 5) (N := none) #[t_,t_,t_,t_,t_,t_,f_] rfl rfl (by kernel_rfl) (by decide) (fun K hK => ?_)
         have hs96 : w95.cell? ⟨gb370, 0, none⟩ = some (.int .i64 x371000_2) := bx_ BK370.out 0
         have hfs96 := blk_frozen BK370.out 0
         have hs97 : w95.cell? ⟨gb370, 1, none⟩ = some (.int .i64 x371001_2) := bx_ BK370.out 1
         have hfs97 := blk_frozen BK370.out 1
         refine skip_ (w1 := ?_) (by rfl) rfl ?_ ?_
         rotate_left
         ·
          go_simp
          rfl
         refine hK.out _ _ ⟨((cell_far (p := ⟨gb370, _, none⟩) (by first | exact Nat.ne_of_lt (Nat.lt_of_lt_of_le (by have := World.block_lt_of_cell? _ _ hw386_0; first | rwa [add_block] at this | exact this) GW370.out) | (rw [add_block]; exact Nat.ne_of_lt (Nat.lt_of_lt_of_le (by have := World.block_lt_of_cell? _ _ hw386_0; first | rwa [add_block] at this | exact this) GW370.out)) | (show (Addr.add _ _).block ≠ _; rw [add_block]; exact Nat.ne_of_lt (Nat.lt_of_lt_of_le (by have := World.block_lt_of_cell? _ _ hw386_0; first | rwa [add_block] at this | exact this) GW370.out)) | (dsimp only; exact Nat.ne_of_lt (Nat.lt_of_lt_of_le (by have := World.block_lt_of_cell? _ _ hw386_0; first | rwa [add_block] at this | exact this) GW370.out))) _).trans (((cell_far (p := ⟨gb370, _, none⟩) (by first | exact Nat.ne_of_lt (Nat.lt_of_lt_of_le (by have := World.block_lt_of_cell? _ _ hw386_0; first | rwa [add_block] at this | exact this) GW370.out) | (rw [add_block]; exact Nat.ne_of_lt (Nat.lt_of_lt_of_le (by have := World.block_lt_of_cell? _ _ hw386_0; first | rwa [add_block] at this | exact this) GW370.out)) | (show (Addr.add _ _).block ≠ _; rw [add_block]; exact Nat.ne_of_lt (Nat.lt_of_lt_of_le (by have := World.block_lt_of_cell? _ _ hw386_0; first | rwa [add_block] at this | exact this) GW370.out)) | (dsimp only; exact Nat.ne_of_lt (Nat.lt_of_lt_of_le (by have := World.block_lt_of_cell? _ _ hw386_0; first | rwa [add_block] at this | exact this) GW370.out))) _).trans (hHeld.1)))), ((cell_far (p := ⟨gb370, _, none⟩) (by first | exact Nat.ne_of_lt (Nat.lt_of_lt_of_le (by have := World.block_lt_of_cell? _ _ hw386_1; first | rwa [add_block] at this | exact this) GW370.out) | (rw [add_block]; exact Nat.ne_of_lt (Nat.lt_of_lt_of_le (by have := World.block_lt_of_cell? _ _ hw386_1; first | rwa [add_block] at this | exact this) GW370.out)) | (show (Addr.add _ _).block ≠ _; rw [add_block]; exact Nat.ne_of_lt (Nat.lt_of_lt_of_le (by have := World.block_lt_of_cell? _ _ hw386_1; first | rwa [add_block] at this | exact this) GW370.out)) | (dsimp only; exact Nat.ne_of_lt (Nat.lt_of_lt_of_le (by have := World.block_lt_of_cell? _ _ hw386_1; first | rwa [add_block] at this | exact this) GW370.out))) _).trans (((cell_far (p := ⟨gb370, _, none⟩) (by first | exact Nat.ne_of_lt (Nat.lt_of_lt_of_le (by have := World.block_lt_of_cell? _ _ hw386_1; first | rwa [add_block] at this | exact this) GW370.out) | (rw [add_block]; exact Nat.ne_of_lt (Nat.lt_of_lt_of_le (by have := World.block_lt_of_cell? _ _ hw386_1; first | rwa [add_block] at this | exact this) GW370.out)) | (show (Addr.add _ _).block ≠ _; rw [add_block]; exact Nat.ne_of_lt (Nat.lt_of_lt_of_le (by have := World.block_lt_of_cell? _ _ hw386_1; first | rwa [add_block] at this | exact this) GW370.out)) | (dsimp only; exact Nat.ne_of_lt (Nat.lt_of_lt_of_le (by have := World.block_lt_of_cell? _ _ hw386_1; first | rwa [add_block] at this | exact this) GW370.out))) _).trans (hHeld.2))))⟩ (fun hHeld => ?_)
         clear hK K
         refine pure_ (i := 6) (N := some 4) (v := ?_) (a' := ?_) #[t_,t_,t_,t_,t_,t_,t_] rfl rfl (by kernel_rfl) (fun _ _ _ h => h) (Or.inl ⟨by rfl, ?_⟩) ?_ ?_
         rotate_left
         ·
          intro w'
          go_simp
          with_reducible rfl
         rotate_left
         ·
          simp only [fr_]
          rfl
         refine done_ (by kernel_rfl) ?_
         try go_wp2
         refine bodyPost_ret (results_list (rs := [.tmp 2, .cell 3 25, .tmp 4]) rfl (by simp) (.tmp (.cell gb370 25 #[.int .i64 ((rd_T25 l0 0).f0), .int .i64 ((rd_T25 l0 0).f1)] (0, 0) _ rfl (by (with_reducible repeat (first | refine kn_ ?_ _ | refine kd_ ?_ | refine ka_ ?_ _)); refine blk_put (cs := #[.int .i64 ((rd_T25 l0 0).f0), .int .i64 x371001_2]) ?_ 1 _ rfl; (with_reducible repeat (first | refine kn_ ?_ _ | refine kd_ ?_ | refine ka_ ?_ _)); refine blk_put (cs := #[.int .i64 x371000_2, .int .i64 x371001_2]) ?_ 0 _ rfl; (with_reducible repeat (first | refine kn_ ?_ _ | refine kd_ ?_ | refine ka_ ?_ _)); exact BK370.out) Try.underlying25 rfl (by kernel_rfl) (.tmp .nil)))) rfl ?_
         exact ⟨_, by first | rfl | (simp [errW_none, errW_some] <;> rfl) | (simp only [← hji7]; first | rfl | (simp [errW_none, errW_some] <;> rfl)) | (simp [*, errW_none, errW_some] <;> rfl), by (with_reducible repeat (first | apply Kd.R_alloc | apply Kd.R_drewN | apply Kd.R_drew)); exact Kd.R_mono (Kd.R_far (p := ⟨gb370, 1, none⟩) (Kd.R_far (p := ⟨gb370, 0, none⟩) (Kd.R_mono HO_6.out (fun k_ hk => (⟨hk, hk⟩ : _ ∧ k_ ≠ gb370))) (fun _ hk => hk.2) (.int .i64 ((rd_T25 l0 0).f0))) (fun _ hk => hk.2) (.int .i64 ((rd_T25 l0 0).f1))) (fun _ hk => trivial), by repeat (first | (with_reducible first | exact HB.out | apply ba_ | apply bn_ | apply bd_ | refine below_set ?_ GE370.out) | exact HB.out)⟩
        rw [if_neg c94] at H
        exact absurd H (by simp)
   rw [if_neg c10] at H
   exact absurd H (by simp)
  rw [if_neg c9] at H
  exact absurd H (by simp)
 rw [if_neg c8] at H
 exact absurd H (by simp)
end Go.Proofs.Ytkjakmbmnbjpbaa.Print
end
