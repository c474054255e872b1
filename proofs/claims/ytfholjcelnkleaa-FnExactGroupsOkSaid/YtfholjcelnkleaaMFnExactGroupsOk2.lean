import Derived.Test.YtfholjcelnkleaaMFnExactGroupsOk1
section
namespace Go.Proofs.Ytfholjcelnkleaa.Print
open Go.RowKit Go.Proofs.YtfholjcelnkleaaV.PrintWords Go.Proofs.YtfholjcelnkleaaV.PrintLast Go.Proofs.YtfholjcelnkleaaV.PrintMore
attribute [local go_sem] max2_int min2_int max_two min_two max_three min_three max_four min_four
set_option linter.unusedVariables false
set_option linter.unusedSimpArgs false
set_option maxHeartbeats 8000000
set_option maxRecDepth 100000
def spec_Project.l0 : Nat → List (S164) → List ByteArray → List (S164) → Int → Option ((List (S164)))
 | 0, _, _, _, _ => none
 | k + 1, x0, x1, x5, x6 => if x6 < (x0.length : Int) then (if 0 ≤ x6 then ((spec_l5Has.f k x1 ((rd_T164 x0 x6).f0)).bind fun t651 => (if t651 = true then (if x5.length < 4398046511104 then (spec_Project.l0 k x0 x1 (x5 ++ [(⟨(rd_T164 x0 x6).f0, (rd_T164 x0 x6).f1⟩ : S164)]) (wrap64 (x6 + 1))) else (none)) else (spec_Project.l0 k x0 x1 x5 (wrap64 (x6 + 1))))) else (none)) else (some x5)
def spec_Project.f (k : Nat) (l0 : List (S164)) (l1 : List ByteArray) : Option ((List (S164))) := spec_Project.l0 k l0 l1 (([] : List (S164))) 0
theorem spec_Project.mono_l : ∀ k, (∀ y0 y1 y2 y3, LeO (spec_Project.l0 k y0 y1 y2 y3) (spec_Project.l0 (k + 1) y0 y1 y2 y3))
 | 0 => fun _ _ _ _ r h => by simp [spec_Project.l0] at h
 | k + 1 => by
  have ih0 := spec_Project.mono_l k
  intro y0 y1 y2 y3
  unfold spec_Project.l0
  repeat' first
  | (with_reducible exact ih0 _ _ _ _)
  | (with_reducible exact spec_l5Has.mono _ _ _)
  | (with_reducible exact LeO.refl _)
  | (with_reducible exact LeO.none _)
  | (with_reducible refine LeO.ite ?_ ?_)
  | (with_reducible refine LeO.bind ?_ (fun _ => ?_))
  | exact ih0 _ _ _ _
  | exact spec_l5Has.mono _ _ _
theorem spec_Project.mono : ∀ a0 a1 k, LeO (spec_Project.f k a0 a1) (spec_Project.f (k + 1) a0 a1) := by
 intro a0 a1 k
 have ih0 := spec_Project.mono_l k
 unfold spec_Project.f
 repeat' first
   | (with_reducible exact ih0 _ _ _ _)
   | (with_reducible exact spec_l5Has.mono _ _ _)
   | (with_reducible exact LeO.refl _)
   | (with_reducible exact LeO.none _)
   | (with_reducible refine LeO.ite ?_ ?_)
   | (with_reducible refine LeO.bind ?_ (fun _ => ?_))
   | exact ih0 _ _ _ _
   | exact spec_l5Has.mono _ _ _
theorem spec_Project.calls (k : Nat) (A0 : Option Addr) (c0 : Nat) (l0 : List (S164)) (A1 : Option Addr) (c1 : Nat) (l1 : List ByteArray) (r : List (S164)) (w : World) (hr0 : Kd.C k164 w A0 l0.length l0) (hc0 : l0.length ≤ c0) (hr1 : Kd.C Kd.string w A1 l1.length l1) (hc1 : l1.length ≤ c1) (h : spec_Project.f k l0 l1 = some r) :
  Calls Try.prog 150 #[.slice A0 l0.length c0, .slice A1 l1.length c1] w fun e w' => ∃ v0_ : Value, e = .returned (v0_) ∧ Kd.R k164 164 w' w.heap.size (fun _ => True) v0_ r ∧ Below w.heap.size w w' := by
 have hu164 := Try.underlying164
 have HR0 := Aside0.mk hr0
 have HC0 := Aside0.mk hc0
 clear hr0 hc0
 have HR1 := Aside0.mk hr1
 have HC1 := Aside0.mk hc1
 clear hr1 hc1
 have HB := Aside0.mk (Below.refl w.heap.size w)
 have H : (spec_Project.l0 k l0 l1 (([] : List (S164))) 0) = some r := h
 clear h
 obtain ⟨y647, hy647⟩ : ∃ y_ : List (S164), y_ = (([] : List (S164))) := ⟨_, rfl⟩
 replace H : (spec_Project.l0 k l0 l1 y647 0) = some r := by first | (rw [hy647]; with_reducible exact H) | (have H2_ := (Option.bind_some _ _).symm.trans H; rw [hy647]; with_reducible exact H2_) | (have H2_ := (Option.bind_some _ _).symm.trans H; with_reducible exact H2_) | with_reducible exact H | (rw [hy647]; exact H) | exact H
 have Ny647 := Aside0.mk hy647
 clear hy647
 have H' := Aside0.mk H
 clear H
 go_enter Try.func150, Try.ntmps150
 go_wp2_with (first | ((with_reducible refine gate_dst (N := 7) rfl ?_); refine Kd.R_lit k164 _ 164 ?hg (N := 7) ?hd (xs := ([] : List (S164))) (inner := []) (ok := fun _ => True) (okp := fun _ => True) ?hr ?hp (fun _ hk => hk) trivial (Below.refl _ _) (Nat.le_refl _) (by simp) ?_; (case hd => rfl); (case hg => rfl); (case hr => first | (go_simp; done) | (go_simp; rfl)); (case hp => exact (Reps.none _ _)); intro v648 w3 ho4 hb hg_ hnew_; clear hg_ hnew_; (first | rw [← Ny647.out] at ho4 | (simp only [Int.reduceToNat] at ho4; rw [← Ny647.out] at ho4)); have HO649 := Aside0.mk (Kd.R_lower ho4 (below_size (by repeat (first | (with_reducible first | exact HB.out | apply ba_ | apply bn_ | apply bd_) | exact HB.out)))); have n1_ := Aside0.mk (below_step (by repeat (first | (with_reducible first | exact HB.out | apply ba_ | apply bn_ | apply bd_) | exact HB.out)) hb); clear HB; have HB := n1_; clear n1_; clear hb ho4))
 go_loopg [5, 6] k (fun kq v5 v6 w' => ∃ (x5_1 : List (S164)) (x6_1 : Int), v6 = .int .i64 x6_1 ∧ Aside0 (spec_Project.l0 kq l0 l1 x5_1 x6_1 = some r) ∧ Aside0 (kq ≤ k) ∧ Aside0 (Kd.R k164 164 w' w.heap.size (fun _ => True) v5 x5_1) ∧ Aside0 (Below w.heap.size w w'))
 case atStart => exact ⟨(y647), (0), (by first | rfl | (simp; done) | (simp [*]; done)), H', ⟨Nat.le_refl _⟩, ⟨by (with_reducible repeat (first | apply Kd.R_alloc | apply Kd.R_drewN | apply Kd.R_drew)); exact HO649.out⟩, ⟨by repeat (first | (with_reducible first | exact HB.out | apply ba_ | apply bn_ | apply bd_) | exact HB.out)⟩⟩
 case round =>
  clear H'
  try clear c1
  try clear p2
  obtain ⟨x5_1, x6_1, rfl, HA, HK1, HO_5, HB⟩ := hrel
  cases gk with
  | zero => exact absurd HA.out (by simp [spec_Project.l0])
  | succ k1 =>
   have H := HA.out
   clear HA
   simp only [spec_Project.l0] at H
   by_cases c5 : x6_1 < (l0.length : Int)
   ·
    rw [if_pos c5] at H
    have c5b0 := decide_eq_true c5
    clear c5
    by_cases c6 : 0 ≤ x6_1
    ·
     rw [if_pos c6] at H
     have c6b0 := decide_eq_true c6
     clear c6
     replace H := Option.bind_eq_some_iff.mp H
     obtain ⟨t651, A70, H⟩ := H
     have A7 := Aside0.mk A70
     clear A70
     by_cases c8 : t651 = true
     ·
      subst c8
      rw [if_pos rfl] at H
      by_cases c9 : x5_1.length < 4398046511104
      ·
       rw [if_pos c9] at H
       have LMc9 := Aside0.mk c9
       clear c9
       obtain ⟨y653, hy653⟩ : ∃ y_ : List (S164), y_ = (x5_1 ++ [(⟨(rd_T164 l0 x6_1).f0, (rd_T164 l0 x6_1).f1⟩ : S164)]) := ⟨_, rfl⟩
       replace H : (spec_Project.l0 k1 l0 l1 y653 (wrap64 (x6_1 + 1))) = some r := by first | (rw [hy653]; with_reducible exact H) | (have H2_ := (Option.bind_some _ _).symm.trans H; rw [hy653]; with_reducible exact H2_) | (have H2_ := (Option.bind_some _ _).symm.trans H; with_reducible exact H2_) | with_reducible exact H | (rw [hy653]; exact H) | exact H
       have Ny653 := Aside0.mk hy653
       clear hy653
       have H' := Aside0.mk H
       clear H
       have p650 : 0 ≤ (x6_1 : Int) := of_decide_eq_true (by with_reducible assumption)
       have q650 : x6_1 < (l0.length : Int) := of_decide_eq_true (by with_reducible assumption)
       obtain ⟨ad650, e650, hx650_0, hx650_1⟩ := at_T164 HR0.out x6_1 p650 q650
       cases e650
       replace hx650_0 := cl_ HB.out hx650_0
       replace hx650_1 := cl_ HB.out hx650_1
       replace p650 := eq_true p650
       replace q650 := eq_true q650
       go_wp2_with (first | ((with_reducible refine gate_callee (f := 167) rfl ?_); refine goesL_ (some 20) rfl rfl Try.func167 (by kernel_rfl) rfl #[.slice A1 l1.length c1, .string ((rd_T164 l0 x6_1).f0)] rfl (by (try simp only [mp_]); first | done | rfl | (simp only [List.length_drop, List.length_take]; rfl)) ?_; (with_reducible refine (spec_l5Has.calls k1 _ _ l1 ((rd_T164 l0 x6_1).f0) true _ ?side1 ?side2 A7.out).mono ?_); (case side1 => repeat (first | exact (Kd.C_below HR1.out HB.out) | (with_reducible first | refine ca_ ?_ _ | refine cn_ ?_ _ | refine cd_ ?_))); (case side2 => exact HC1.out); rintro e w' ⟨rfl, ⟨nd, rfl⟩⟩; refine ⟨_, rfl, ?_⟩; have p652 : 0 ≤ (x6_1 : Int) := of_decide_eq_true (by with_reducible assumption); have q652 : x6_1 < (l0.length : Int) := of_decide_eq_true (by with_reducible assumption); obtain ⟨ad652, e652, hx652_0, hx652_1⟩ := at_T164 HR0.out x6_1 p652 q652; obtain rfl : ad650 = ad652 := (by injection e652); replace hx652_0 := cl_ HB.out hx652_0; replace hx652_1 := cl_ HB.out hx652_1; replace p652 := eq_true p652; replace q652 := eq_true q652) | ((with_reducible refine gate_builtin (b := .append) (xs := #[.tmp 21, .tmp 26]) rfl ?_); at_builtin; refine Kd.R_append k164 (w0 := w) w.heap.size rfl (.tmp 21) (.tmp 26) 42 164 (.agg #[(.string ⟨#[]⟩), (.string ⟨#[]⟩)]) 32 rfl Try.underlying42 info164 rfl (by decide) (by omega) u5 x5_1 (⟨(rd_T164 l0 x6_1).f0, (rd_T164 l0 x6_1).f1⟩ : S164) [.string ((rd_T164 l0 x6_1).f0), .string ((rd_T164 l0 x6_1).f1)] (fun _ => True) (fun _ => False) rfl rfl ?aP (fun _ hk => hk.elim) ?aF ?aO ?aB ?aS ?aL ?_; (case aP => exact k164_mkM _ _ _ (⟨(rd_T164 l0 x6_1).f0, (rd_T164 l0 x6_1).f1⟩ : S164)); (case aB => exact (by repeat (first | (with_reducible first | exact HB.out | apply ba_ | apply bn_ | apply bd_) | exact HB.out))); (case aF => exact (fun _ _ => trivial)); (case aO => exact (by (with_reducible repeat (first | apply Kd.R_alloc | apply Kd.R_drewN | apply Kd.R_drew)); exact HO_5.out)); (case aS => exact (below_size (by repeat (first | (with_reducible first | exact HB.out | apply ba_ | apply bn_ | apply bd_) | exact HB.out)))); (case aL => have := LMc9.out; omega); intro v654 w10 ho hb hg hat; rw [← Ny653.out] at ho; have n0_ := Aside0.mk (hb); have n1_ := Aside0.mk (ho); clear HB; clear HO_5; have HB := n0_; have HO655 := n1_; clear n0_ n1_; clear ho hb hg hat))
       go_roundg k1
       case measure => have := HK1.out; omega
       case rel => exact ⟨(y653), (wrap64 (x6_1 + 1)), (by first | rfl | (simp; done) | (simp [*]; done)), H', ⟨by have := HK1.out; omega⟩, ⟨by (with_reducible repeat (first | apply Kd.R_alloc | apply Kd.R_drewN | apply Kd.R_drew)); exact HO655.out⟩, ⟨by repeat (first | (with_reducible first | exact HB.out | apply ba_ | apply bn_ | apply bd_) | exact HB.out)⟩⟩
      rw [if_neg c9] at H
      exact absurd H (by simp)
     replace c8 := Bool.eq_false_iff.mpr c8
     subst c8
     rw [if_neg (show ¬ (false = true) by decide)] at H
     have H' := Aside0.mk H
     clear H
     have p650 : 0 ≤ (x6_1 : Int) := of_decide_eq_true (by with_reducible assumption)
     have q650 : x6_1 < (l0.length : Int) := of_decide_eq_true (by with_reducible assumption)
     obtain ⟨ad650, e650, hx650_0, hx650_1⟩ := at_T164 HR0.out x6_1 p650 q650
     cases e650
     replace hx650_0 := cl_ HB.out hx650_0
     replace hx650_1 := cl_ HB.out hx650_1
     replace p650 := eq_true p650
     replace q650 := eq_true q650
     go_wp2_with (first | ((with_reducible refine gate_callee (f := 167) rfl ?_); refine goesL_ (some 20) rfl rfl Try.func167 (by kernel_rfl) rfl #[.slice A1 l1.length c1, .string ((rd_T164 l0 x6_1).f0)] rfl (by (try simp only [mp_]); first | done | rfl | (simp only [List.length_drop, List.length_take]; rfl)) ?_; (with_reducible refine (spec_l5Has.calls k1 _ _ l1 ((rd_T164 l0 x6_1).f0) false _ ?side1 ?side2 A7.out).mono ?_); (case side1 => repeat (first | exact (Kd.C_below HR1.out HB.out) | (with_reducible first | refine ca_ ?_ _ | refine cn_ ?_ _ | refine cd_ ?_))); (case side2 => exact HC1.out); rintro e w' ⟨rfl, ⟨nd, rfl⟩⟩; refine ⟨_, rfl, ?_⟩))
     go_roundg k1
     case measure => have := HK1.out; omega
     case rel => exact ⟨(x5_1), (wrap64 (x6_1 + 1)), (by first | rfl | (simp; done) | (simp [*]; done)), H', ⟨by have := HK1.out; omega⟩, ⟨by (with_reducible repeat (first | apply Kd.R_alloc | apply Kd.R_drewN | apply Kd.R_drew)); exact HO_5.out⟩, ⟨by repeat (first | (with_reducible first | exact HB.out | apply ba_ | apply bn_ | apply bd_) | exact HB.out)⟩⟩
    rw [if_neg c6] at H
    exact absurd H (by simp)
   rw [if_neg c5] at H
   have c5b0 : decide (x6_1 < (l0.length : Int)) = false := decide_eq_false c5
   clear c5
   obtain rfl := Option.some.inj H
   go_wp2
   go_ret
   exact ⟨_, by first | rfl | (simp [errW_none, errW_some] <;> rfl) | (simp [*, errW_none, errW_some] <;> rfl), by (with_reducible repeat (first | apply Kd.R_alloc | apply Kd.R_drewN | apply Kd.R_drew)); exact HO_5.out, by repeat (first | (with_reducible first | exact HB.out | apply ba_ | apply bn_ | apply bd_) | exact HB.out)⟩
def spec_KeyOf.f (k : Nat) (l0_0 : List (S164)) (a0_1 : Int) (a0_2 : Int) (a0_3 : ByteArray) (l1 : List ByteArray) : Option ((List (S164))) := (spec_Project.f k l0_0 l1).bind fun t657 => (some t657)
theorem spec_KeyOf.mono : ∀ a0 a1 a2 a3 a4 k, LeO (spec_KeyOf.f k a0 a1 a2 a3 a4) (spec_KeyOf.f (k + 1) a0 a1 a2 a3 a4) := by
 intro a0 a1 a2 a3 a4 k
 unfold spec_KeyOf.f
 repeat' first
   | (with_reducible exact spec_Project.mono _ _ _)
   | (with_reducible exact LeO.refl _)
   | (with_reducible exact LeO.none _)
   | (with_reducible refine LeO.ite ?_ ?_)
   | (with_reducible refine LeO.bind ?_ (fun _ => ?_))
   | exact spec_Project.mono _ _ _
theorem spec_KeyOf.calls (k : Nat) (A0_0 : Option Addr) (c0_0 : Nat) (l0_0 : List (S164)) (a0_1 : Int) (a0_2 : Int) (a0_3 : ByteArray) (A1 : Option Addr) (c1 : Nat) (l1 : List ByteArray) (r : List (S164)) (w : World) (hr0_0 : Kd.C k164 w A0_0 l0_0.length l0_0) (hc0_0 : l0_0.length ≤ c0_0) (hr1 : Kd.C Kd.string w A1 l1.length l1) (hc1 : l1.length ≤ c1) (h : spec_KeyOf.f k l0_0 a0_1 a0_2 a0_3 l1 = some r) :
  Calls Try.prog 107 #[.agg #[.slice A0_0 l0_0.length c0_0, .int .i64 a0_1, .int .i64 a0_2, .string a0_3], .slice A1 l1.length c1] w fun e w' => ∃ v0_ : Value, e = .returned (v0_) ∧ Kd.R k164 164 w' w.heap.size (fun _ => True) v0_ r ∧ Below w.heap.size w w' := by
 have hu44 := Try.underlying44
 have HR0_0 := Aside0.mk hr0_0
 have HC0_0 := Aside0.mk hc0_0
 clear hr0_0 hc0_0
 have HR1 := Aside0.mk hr1
 have HC1 := Aside0.mk hc1
 clear hr1 hc1
 have HB := Aside0.mk (Below.refl w.heap.size w)
 have H : ((spec_Project.f k l0_0 l1).bind fun t657 => (some t657)) = some r := h
 clear h
 replace H := Option.bind_eq_some_iff.mp H
 obtain ⟨t657, A30, H⟩ := H
 have A3 := Aside0.mk A30
 clear A30
 obtain rfl := Option.some.inj H
 go_enter Try.func107, Try.ntmps107
 go_wp2_with (first | ((with_reducible refine gate_dst (N := 2) rfl ?_); refine box_event ?hg (N := 2) ?hd (cs := #[.slice A0_0 l0_0.length c0_0, .int .i64 a0_1, .int .i64 a0_2, .string a0_3]) (t := 44) ?hr ?_; (case hd => rfl); (case hg => rfl); (case hr => first | (go_simp; done) | (go_simp; rfl)); intro gb656 hg w4 hbox hb; have n0_ := Aside0.mk (below_step (by repeat (first | (with_reducible first | exact HB.out | apply ba_ | apply bn_ | apply bd_) | exact HB.out)) hb); have BK656 := Aside0.mk (hbox); have GW656 := Aside0.mk ((by rw [hg]; exact (below_size (by repeat (first | (with_reducible first | exact HB.out | apply ba_ | apply bn_ | apply bd_) | exact HB.out))) : w.heap.size ≤ gb656)); have GE656 := GW656; clear HB; have HB := n0_; clear n0_; clear hb hbox hg; have hcz5_0 : w4.cell? ⟨gb656, 0, none⟩ = some (.slice A0_0 l0_0.length c0_0) := (blk_cell BK656.out 0).trans rfl; have hcz5_1 : w4.cell? ⟨gb656, 1, none⟩ = some (.int .i64 a0_1) := (blk_cell BK656.out 1).trans rfl; have hcz5_2 : w4.cell? ⟨gb656, 2, none⟩ = some (.int .i64 a0_2) := (blk_cell BK656.out 2).trans rfl; have hcz5_3 : w4.cell? ⟨gb656, 3, none⟩ = some (.string a0_3) := (blk_cell BK656.out 3).trans rfl; have hfz5_0 := blk_frozen BK656.out 0; have hfz5_1 := blk_frozen BK656.out 1; have hfz5_2 := blk_frozen BK656.out 2; have hfz5_3 := blk_frozen BK656.out 3) | ((with_reducible refine gate_callee (f := 150) rfl ?_); refine goesL_ (some 8) rfl rfl Try.func150 (by kernel_rfl) rfl #[.slice A0_0 l0_0.length c0_0, .slice A1 l1.length c1] rfl (by (try simp only [mp_]); first | done | rfl | (simp only [List.length_drop, List.length_take]; rfl)) ?_; (with_reducible refine (spec_Project.calls k _ _ l0_0 _ _ l1 t657 _ ?side1 ?side2 ?side3 ?side4 A3.out).mono ?_); (case side1 => repeat (first | exact (Kd.C_below HR0_0.out HB.out) | (with_reducible first | refine ca_ ?_ _ | refine cn_ ?_ _ | refine cd_ ?_))); (case side2 => exact HC0_0.out); (case side3 => repeat (first | exact (Kd.C_below HR1.out HB.out) | (with_reducible first | refine ca_ ?_ _ | refine cn_ ?_ _ | refine cd_ ?_))); (case side4 => exact HC1.out); rintro e w6 ⟨v658, rfl, ho0, hb⟩; refine ⟨_, rfl, ?_⟩; have n0_ := Aside0.mk (Kd.R_lower ho0 (below_size (by repeat (first | (with_reducible first | exact HB.out | apply ba_ | apply bn_ | apply bd_ | refine below_set ?_ GE656.out) | exact HB.out)))); have n1_ := Aside0.mk (blk_below (g := gb656) (o := .cells #[.slice A0_0 l0_0.length c0_0, .int .i64 a0_1, .int .i64 a0_2, .string a0_3] 44 (0, 0)) (by (with_reducible repeat (first | refine kn_ ?_ _ | refine kd_ ?_ | refine ka_ ?_ _)); exact BK656.out) hb); have n2_ := Aside0.mk (below_step (by repeat (first | (with_reducible first | exact HB.out | apply ba_ | apply bn_ | apply bd_ | refine below_set ?_ GE656.out) | exact HB.out)) hb); clear BK656; clear HB; have HO659 := n0_; have BK656 := n1_; have HB := n2_; clear n0_ n1_ n2_; (try clear hb); (try clear hb2); (try clear hk); (try clear hi); (try clear ho0)))
 go_ret
 exact ⟨_, by first | rfl | (simp [errW_none, errW_some] <;> rfl) | (simp [*, errW_none, errW_some] <;> rfl), by (with_reducible repeat (first | apply Kd.R_alloc | apply Kd.R_drewN | apply Kd.R_drew)); exact HO659.out, by repeat (first | (with_reducible first | exact HB.out | apply ba_ | apply bn_ | apply bd_ | refine below_set ?_ GE656.out) | exact HB.out)⟩
def spec_GroupOk.l0 : Nat → List ByteArray → Int → Int → List (S164) → Int → Int → List (S44) → Option (Bool)
 | 0, _, _, _, _, _, _, _ => none
 | k + 1, x1, x5, x661000, x661001, x661002, x661003, x661004 => if x5 < (x661004.length : Int) then (if 0 ≤ x5 then ((spec_AlarmOk.f k ((rd_T44 x661004 x5).f0) ((rd_T44 x661004 x5).f1) ((rd_T44 x661004 x5).f2) ((rd_T44 x661004 x5).f3)).bind fun t665 => (if t665 = true then (if x5 > 0 then (if 0 ≤ (wrap64 (x5 - 1)) then (if (wrap64 (x5 - 1)) < (x661004.length : Int) then ((spec_SetLess.f k ((rd_T44 x661004 (wrap64 (x5 - 1))).f0) ((rd_T44 x661004 x5).f0)).bind fun t668 => (if t668 = true then ((spec_KeyOf.f k ((rd_T44 x661004 x5).f0) ((rd_T44 x661004 x5).f1) ((rd_T44 x661004 x5).f2) ((rd_T44 x661004 x5).f3) x1).bind fun t670 => ((spec_SameSet.f k t670 x661001).bind fun t673 => (if t673 = true then (spec_GroupOk.l0 k x1 (wrap64 (x5 + 1)) x661000 x661001 x661002 x661003 x661004) else (some false)))) else (some false))) else (none)) else (none)) else ((spec_KeyOf.f k ((rd_T44 x661004 x5).f0) ((rd_T44 x661004 x5).f1) ((rd_T44 x661004 x5).f2) ((rd_T44 x661004 x5).f3) x1).bind fun t675 => ((spec_SameSet.f k t675 x661001).bind fun t678 => (if t678 = true then (spec_GroupOk.l0 k x1 (wrap64 (x5 + 1)) x661000 x661001 x661002 x661003 x661004) else (some false))))) else (some false))) else (none)) else (if x661000 ≥ 0 then ((spec_SetOk.f k x661001).bind fun t661 => (if t661 = true then ((spec_l1In.f x661002 0 99999).bind fun t662 => (if t662 = true then (if x661003 = (-1) then (some (decide ((x661004.length : Int) > 0))) else ((spec_l1In.f x661003 x661002 99999).bind fun t663 => (if t663 = true then (some (decide ((x661004.length : Int) > 0))) else (some false)))) else (some false))) else (some false))) else (some false))
def spec_GroupOk.f (k : Nat) (a0_0 : Int) (l0_1 : List (S164)) (a0_2 : Int) (a0_3 : Int) (l0_4 : List (S44)) (l1 : List ByteArray) : Option (Bool) := spec_GroupOk.l0 k l1 0 a0_0 l0_1 a0_2 a0_3 l0_4
theorem spec_GroupOk.mono_l : ∀ k, (∀ y0 y1 y2 y3 y4 y5 y6, LeO (spec_GroupOk.l0 k y0 y1 y2 y3 y4 y5 y6) (spec_GroupOk.l0 (k + 1) y0 y1 y2 y3 y4 y5 y6))
 | 0 => fun _ _ _ _ _ _ _ r h => by simp [spec_GroupOk.l0] at h
 | k + 1 => by
  have ih0 := spec_GroupOk.mono_l k
  intro y0 y1 y2 y3 y4 y5 y6
  unfold spec_GroupOk.l0
  repeat' first
  | (with_reducible exact ih0 _ _ _ _ _ _ _)
  | (with_reducible exact spec_AlarmOk.mono _ _ _ _ _)
  | (with_reducible exact spec_KeyOf.mono _ _ _ _ _ _)
  | (with_reducible exact spec_SameSet.mono _ _ _)
  | (with_reducible exact spec_SetLess.mono _ _ _)
  | (with_reducible exact spec_SetOk.mono _ _)
  | (with_reducible exact LeO.refl _)
  | (with_reducible exact LeO.none _)
  | (with_reducible refine LeO.ite ?_ ?_)
  | (with_reducible refine LeO.bind ?_ (fun _ => ?_))
  | exact ih0 _ _ _ _ _ _ _
  | exact spec_AlarmOk.mono _ _ _ _ _
  | exact spec_KeyOf.mono _ _ _ _ _ _
  | exact spec_SameSet.mono _ _ _
  | exact spec_SetLess.mono _ _ _
  | exact spec_SetOk.mono _ _
theorem spec_GroupOk.mono : ∀ a0 a1 a2 a3 a4 a5 k, LeO (spec_GroupOk.f k a0 a1 a2 a3 a4 a5) (spec_GroupOk.f (k + 1) a0 a1 a2 a3 a4 a5) := by
 intro a0 a1 a2 a3 a4 a5 k
 have ih0 := spec_GroupOk.mono_l k
 unfold spec_GroupOk.f
 repeat' first
   | (with_reducible exact ih0 _ _ _ _ _ _ _)
   | (with_reducible exact spec_AlarmOk.mono _ _ _ _ _)
   | (with_reducible exact spec_KeyOf.mono _ _ _ _ _ _)
   | (with_reducible exact spec_SameSet.mono _ _ _)
   | (with_reducible exact spec_SetLess.mono _ _ _)
   | (with_reducible exact spec_SetOk.mono _ _)
   | (with_reducible exact LeO.refl _)
   | (with_reducible exact LeO.none _)
   | (with_reducible refine LeO.ite ?_ ?_)
   | (with_reducible refine LeO.bind ?_ (fun _ => ?_))
   | exact ih0 _ _ _ _ _ _ _
   | exact spec_AlarmOk.mono _ _ _ _ _
   | exact spec_KeyOf.mono _ _ _ _ _ _
   | exact spec_SameSet.mono _ _ _
   | exact spec_SetLess.mono _ _ _
   | exact spec_SetOk.mono _ _
def spec_GroupOk.T4 : Bool × List (List Nat × List Nat) := (true, [([], []), ([0], [0]), ([], []), ([1, 2], [1, 2]), ([3], [3]), ([4], [4]), ([5], [5]), ([6, 5], [6]), ([7], [7]), ([8, 7], [7, 8]), ([9, 7, 7], [7, 9]), ([10], [10]), ([11, 10], [10, 11]), ([10], [10]), ([13, 10], [10, 13]), ([12, 14, 10], [10, 12, 14]), ([15, 10], [10, 15]), ([16, 10], [10, 16]), ([10], [10]), ([18, 10], [10, 18]), ([10], [10]), ([19, 20, 10], [10, 19, 20]), ([21, 10], [10, 21]), ([22, 10], [10, 22]), ([17, 23, 10, 10], [10, 17, 23]), ([24, 10], [10, 24]), ([10, 25, 7], [7, 10, 25]), ([7, 26], [7, 26]), ([27, 24], [27]), ([28], [28]), ([29, 28], [28, 29]), ([28], [28]), ([30, 31, 28], [28, 30, 31]), ([32, 28], [28, 32]), ([28], [28]), ([33, 34, 28, 28], [28, 33, 34]), ([28], [28]), ([36, 28], [28, 36]), ([35, 37, 35, 28], [28, 35, 37]), ([38, 28], [28, 38]), ([28, 39], [28, 39])])
def spec_GroupOk.B4 : List Nat := [0, 1, 0, 7, 15, 31, 63, 127, 255, 511, 1023, 2047, 4095, 2047, 10239, 32767, 65535, 131071, 2047, 264191, 2047, 1837055, 3934207, 8128511, 16777215, 33554431, 67108863, 134217727, 268435455, 536870911, 1073741823, 536870911, 4294967295, 8589934591, 536870911, 34359738367, 536870911, 69256347647, 274877906943, 549755813887, 1099511627775]
theorem spec_GroupOk.tab4 : rtab .any (opsOf Try.f50 4) = spec_GroupOk.T4 := by kernel_rfl
theorem spec_GroupOk.bits4 : waitsOk spec_GroupOk.T4.2 spec_GroupOk.B4 = true := by kernel_rfl
theorem spec_GroupOk.calls (k : Nat) (a0_0 : Int) (A0_1 : Option Addr) (c0_1 : Nat) (l0_1 : List (S164)) (a0_2 : Int) (a0_3 : Int) (A0_4 : Option Addr) (c0_4 : Nat) (l0_4 : List (S44)) (A1 : Option Addr) (c1 : Nat) (l1 : List ByteArray) (r : Bool) (w : World) (hr0_1 : Kd.C k164 w A0_1 l0_1.length l0_1) (hc0_1 : l0_1.length ≤ c0_1) (hr0_4 : Kd.C k44 w A0_4 l0_4.length l0_4) (hc0_4 : l0_4.length ≤ c0_4) (hr1 : Kd.C Kd.string w A1 l1.length l1) (hc1 : l1.length ≤ c1) (h : spec_GroupOk.f k a0_0 l0_1 a0_2 a0_3 l0_4 l1 = some r) :
  Calls Try.prog 50 #[.agg #[.int .i64 a0_0, .slice A0_1 l0_1.length c0_1, .int .i64 a0_2, .int .i64 a0_3, .slice A0_4 l0_4.length c0_4], .slice A1 l1.length c1] w fun e w' => e = .returned (.bool r) ∧ Below w.heap.size w w' := by
 have hu75 := Try.underlying75
 have hu44 := Try.underlying44
 have HR0_1 := Aside0.mk hr0_1
 have HC0_1 := Aside0.mk hc0_1
 clear hr0_1 hc0_1
 have HR0_4 := Aside0.mk hr0_4
 have HC0_4 := Aside0.mk hc0_4
 clear hr0_4 hc0_4
 have HR1 := Aside0.mk hr1
 have HC1 := Aside0.mk hc1
 clear hr1 hc1
 have HB := Aside0.mk (Below.refl w.heap.size w)
 have H : (spec_GroupOk.l0 k l1 0 a0_0 l0_1 a0_2 a0_3 l0_4) = some r := h
 clear h
 have H' := Aside0.mk H
 clear H
 go_enter Try.func50, Try.ntmps50
 go_wp2_with (first | ((with_reducible refine gate_dst (N := 2) rfl ?_); refine box_event ?hg (N := 2) ?hd (cs := #[.int .i64 a0_0, .slice A0_1 l0_1.length c0_1, .int .i64 a0_2, .int .i64 a0_3, .slice A0_4 l0_4.length c0_4]) (t := 75) ?hr ?_; (case hd => rfl); (case hg => rfl); (case hr => first | (go_simp; done) | (go_simp; rfl)); intro gb660 hg w3 hbox hb; have n0_ := Aside0.mk (below_step (by repeat (first | (with_reducible first | exact HB.out | apply ba_ | apply bn_ | apply bd_) | exact HB.out)) hb); have BK660 := Aside0.mk (hbox); have GW660 := Aside0.mk ((by rw [hg]; exact (below_size (by repeat (first | (with_reducible first | exact HB.out | apply ba_ | apply bn_ | apply bd_) | exact HB.out))) : w.heap.size ≤ gb660)); have GE660 := GW660; clear HB; have HB := n0_; clear n0_; clear hb hbox hg))
 go_loopg [5] k (fun kq v5 w' => ∃ (x5_1 : Int), v5 = .int .i64 x5_1 ∧ Aside0 (spec_GroupOk.l0 kq l1 x5_1 a0_0 l0_1 a0_2 a0_3 l0_4 = some r) ∧ Aside0 (kq ≤ k) ∧ Aside0 (w'.heap[gb660]? = some (.cells #[.int .i64 a0_0, (.slice A0_1 l0_1.length c0_1), .int .i64 a0_2, .int .i64 a0_3, (.slice A0_4 l0_4.length c0_4)] 75 (0, 0))) ∧ Aside0 (Below w.heap.size w w'))
 case atStart => exact ⟨(0), (by first | rfl | (simp; done) | (simp [*]; done)), H', ⟨Nat.le_refl _⟩, ⟨by (with_reducible repeat (first | refine kn_ ?_ _ | refine kd_ ?_ | refine ka_ ?_ _)); exact BK660.out⟩, ⟨by repeat (first | (with_reducible first | exact HB.out | apply ba_ | apply bn_ | apply bd_ | refine below_set ?_ GE660.out) | exact HB.out)⟩⟩
 case round =>
  clear H'
  try clear c1
  try clear p2
  obtain ⟨x5_1, rfl, HA, HK1, BK660, HB⟩ := hrel
  cases gk with
  | zero => exact absurd HA.out (by simp [spec_GroupOk.l0])
  | succ k1 =>
   have H := HA.out
   clear HA
   simp only [spec_GroupOk.l0] at H
   by_cases c4 : x5_1 < (l0_4.length : Int)
   ·
    rw [if_pos c4] at H
    have c4b0 := decide_eq_true c4
    clear c4
    by_cases c5 : 0 ≤ x5_1
    ·
     rw [if_pos c5] at H
     have c5b0 := decide_eq_true c5
     clear c5
     replace H := Option.bind_eq_some_iff.mp H
     obtain ⟨t665, A60, H⟩ := H
     have A6 := Aside0.mk A60
     clear A60
     by_cases c7 : t665 = true
     ·
      subst c7
      rw [if_pos rfl] at H
      by_cases c8 : x5_1 > 0
      ·
       rw [if_pos c8] at H
       have c8b0 : decide (0 < x5_1) = true := decide_eq_true c8
       clear c8
       obtain ⟨ji9, hji9⟩ : ∃ j_ : Int, (wrap64 (x5_1 - 1)) = j_ := ⟨_, rfl⟩
       replace H : (if 0 ≤ (ji9) then (if (ji9) < (l0_4.length : Int) then ((spec_SetLess.f k1 ((rd_T44 l0_4 (ji9)).f0) ((rd_T44 l0_4 x5_1).f0)).bind fun t668 => (if t668 = true then ((spec_KeyOf.f k1 ((rd_T44 l0_4 x5_1).f0) ((rd_T44 l0_4 x5_1).f1) ((rd_T44 l0_4 x5_1).f2) ((rd_T44 l0_4 x5_1).f3) l1).bind fun t670 => ((spec_SameSet.f k1 t670 l0_1).bind fun t673 => (if t673 = true then (spec_GroupOk.l0 k1 l1 (wrap64 (x5_1 + 1)) a0_0 l0_1 a0_2 a0_3 l0_4) else (some false)))) else (some false))) else (none)) else (none)) = some r := by first | (rw [hji9] at H; exact H) | (simp only [hji9] at H ⊢; exact H)
       (try rw [hji9] at A6)
       have hji9w : (IntKind.i64.wrap (x5_1 - 1)) = ji9 := (i64_w _).trans hji9
       by_cases c10 : 0 ≤ (ji9)
       ·
        rw [if_pos c10] at H
        have c10b0 := decide_eq_true c10
        clear c10
        by_cases c11 : (ji9) < (l0_4.length : Int)
        ·
         rw [if_pos c11] at H
         have c11b0 := decide_eq_true c11
         clear c11
         replace H := Option.bind_eq_some_iff.mp H
         obtain ⟨t668, A120, H⟩ := H
         have A12 := Aside0.mk A120
         clear A120
         by_cases c13 : t668 = true
         ·
          subst c13
          rw [if_pos rfl] at H
          replace H := Option.bind_eq_some_iff.mp H
          obtain ⟨t670, A140, H⟩ := H
          have A14 := Aside0.mk A140
          clear A140
          replace H := Option.bind_eq_some_iff.mp H
          obtain ⟨t673, A150, H⟩ := H
          have A15 := Aside0.mk A150
          clear A150
          by_cases c16 : t673 = true
          ·
           subst c16
           rw [if_pos rfl] at H
           have H' := Aside0.mk H
           clear H
           have hcz17_0 : wr.cell? ⟨gb660, 0, none⟩ = some (.int .i64 a0_0) := (blk_cell BK660.out 0).trans rfl
           have hcz17_1 : wr.cell? ⟨gb660, 1, none⟩ = some (.slice A0_1 l0_1.length c0_1) := (blk_cell BK660.out 1).trans rfl
           have hcz17_2 : wr.cell? ⟨gb660, 2, none⟩ = some (.int .i64 a0_2) := (blk_cell BK660.out 2).trans rfl
           have hcz17_3 : wr.cell? ⟨gb660, 3, none⟩ = some (.int .i64 a0_3) := (blk_cell BK660.out 3).trans rfl
           have hcz17_4 : wr.cell? ⟨gb660, 4, none⟩ = some (.slice A0_4 l0_4.length c0_4) := (blk_cell BK660.out 4).trans rfl
           have hfz17_0 := blk_frozen BK660.out 0
           have hfz17_1 := blk_frozen BK660.out 1
           have hfz17_2 := blk_frozen BK660.out 2
           have hfz17_3 := blk_frozen BK660.out 3
           have hfz17_4 := blk_frozen BK660.out 4
           try go_wp2
           have n0_ := Aside0.mk (blk_drew BK660.out)
           have n1_ := Aside0.mk (bd_ HB.out)
           clear BK660
           clear HB
           have BK660 := n0_
           have HB := n1_
           clear n0_ n1_
           have p664 : 0 ≤ (x5_1 : Int) := of_decide_eq_true (by with_reducible assumption)
           have q664 : x5_1 < (l0_4.length : Int) := of_decide_eq_true (by with_reducible assumption)
           obtain ⟨ad664, A664_0, c664_0, e664, hx664_0, hx664_1, hx664_2, hx664_3, hl664_0, hi664_0⟩ := at_T44 HR0_4.out x5_1 p664 q664
           have hw664_3 := hx664_3
           have hw664_2 := hx664_2
           have hw664_1 := hx664_1
           have hw664_0 := hx664_0
           cases e664
           replace hx664_0 := cl_ HB.out hx664_0
           replace hx664_1 := cl_ HB.out hx664_1
           replace hx664_2 := cl_ HB.out hx664_2
           replace hx664_3 := cl_ HB.out hx664_3
           have HR664_0 := Aside0.mk hi664_0
           have HC664_0 := Aside0.mk hl664_0
           clear hi664_0 hl664_0
           replace p664 := eq_true p664
           replace q664 := eq_true q664
           have p666 : 0 ≤ ((ji9) : Int) := of_decide_eq_true (by with_reducible assumption)
           have q666 : (ji9) < (l0_4.length : Int) := of_decide_eq_true (by with_reducible assumption)
           obtain ⟨ad666, A666_0, c666_0, e666, hx666_0, hx666_1, hx666_2, hx666_3, hl666_0, hi666_0⟩ := at_T44 HR0_4.out (ji9) p666 q666
           have hw666_3 := hx666_3
           have hw666_2 := hx666_2
           have hw666_1 := hx666_1
           have hw666_0 := hx666_0
           obtain rfl : ad664 = ad666 := (by injection e666)
           replace hx666_0 := cl_ HB.out hx666_0
           replace hx666_1 := cl_ HB.out hx666_1
           replace hx666_2 := cl_ HB.out hx666_2
           replace hx666_3 := cl_ HB.out hx666_3
           have HR666_0 := Aside0.mk hi666_0
           have HC666_0 := Aside0.mk hl666_0
           clear hi666_0 hl666_0
           replace p666 := eq_true p666
           replace q666 := eq_true q666
           have p667 : 0 ≤ (x5_1 : Int) := of_decide_eq_true (by with_reducible assumption)
           have q667 : x5_1 < (l0_4.length : Int) := of_decide_eq_true (by with_reducible assumption)
           obtain ⟨ad667, A667_0, c667_0, e667, hx667_0, hx667_1, hx667_2, hx667_3, hl667_0, hi667_0⟩ := at_T44 HR0_4.out x5_1 p667 q667
           have hw667_3 := hx667_3
           have hw667_2 := hx667_2
           have hw667_1 := hx667_1
           have hw667_0 := hx667_0
           obtain rfl : ad664 = ad667 := (by injection e667)
           replace hx667_0 := cl_ HB.out hx667_0
           replace hx667_1 := cl_ HB.out hx667_1
           replace hx667_2 := cl_ HB.out hx667_2
           replace hx667_3 := cl_ HB.out hx667_3
           have HR667_0 := Aside0.mk hi667_0
           have HC667_0 := Aside0.mk hl667_0
           clear hi667_0 hl667_0
           replace p667 := eq_true p667
           replace q667 := eq_true q667
           have ea_ := Option.some.inj (hx664_0.symm.trans hx667_0)
           injection ea_ with ea_ en_ ec_
           subst ea_
           subst ec_
           clear en_
           have p669 : 0 ≤ (x5_1 : Int) := of_decide_eq_true (by with_reducible assumption)
           have q669 : x5_1 < (l0_4.length : Int) := of_decide_eq_true (by with_reducible assumption)
           obtain ⟨ad669, A669_0, c669_0, e669, hx669_0, hx669_1, hx669_2, hx669_3, hl669_0, hi669_0⟩ := at_T44 HR0_4.out x5_1 p669 q669
           have hw669_3 := hx669_3
           have hw669_2 := hx669_2
           have hw669_1 := hx669_1
           have hw669_0 := hx669_0
           obtain rfl : ad664 = ad669 := (by injection e669)
           replace hx669_0 := cl_ HB.out hx669_0
           replace hx669_1 := cl_ HB.out hx669_1
           replace hx669_2 := cl_ HB.out hx669_2
           replace hx669_3 := cl_ HB.out hx669_3
           have HR669_0 := Aside0.mk hi669_0
           have HC669_0 := Aside0.mk hl669_0
           clear hi669_0 hl669_0
           replace p669 := eq_true p669
           replace q669 := eq_true q669
           have ea_ := Option.some.inj (hx667_0.symm.trans hx669_0)
           injection ea_ with ea_ en_ ec_
           subst ea_
           subst ec_
           clear en_
           refine start_ (n := 41) (S := fun w' => w'.cell? ⟨gb660, 0, none⟩ = some (.int .i64 a0_0) ∧ w'.cell? ⟨gb660, 1, none⟩ = some (.slice A0_1 l0_1.length c0_1) ∧ w'.cell? ⟨gb660, 2, none⟩ = some (.int .i64 a0_2) ∧ w'.cell? ⟨gb660, 3, none⟩ = some (.int .i64 a0_3) ∧ w'.cell? ⟨gb660, 4, none⟩ = some (.slice (some ad664) l0_4.length c0_4) ∧ w'.cell? (ad664.add ((x5_1).toNat * 4)) = some (.slice A664_0 ((rd_T44 l0_4 x5_1).f0).length c664_0) ∧ w'.cell? ⟨(ad664.add ((x5_1).toNat * 4)).block, (ad664.add ((x5_1).toNat * 4)).off + 1, none⟩ = some (.int .i64 ((rd_T44 l0_4 x5_1).f1)) ∧ w'.cell? ⟨(ad664.add ((x5_1).toNat * 4)).block, (ad664.add ((x5_1).toNat * 4)).off + 2, none⟩ = some (.int .i64 ((rd_T44 l0_4 x5_1).f2)) ∧ w'.cell? ⟨(ad664.add ((x5_1).toNat * 4)).block, (ad664.add ((x5_1).toNat * 4)).off + 3, none⟩ = some (.string ((rd_T44 l0_4 x5_1).f3)) ∧ w'.cell? (ad664.add (((ji9)).toNat * 4)) = some (.slice A666_0 ((rd_T44 l0_4 (ji9)).f0).length c666_0) ∧ w'.cell? ⟨(ad664.add (((ji9)).toNat * 4)).block, (ad664.add (((ji9)).toNat * 4)).off + 1, none⟩ = some (.int .i64 ((rd_T44 l0_4 (ji9)).f1)) ∧ w'.cell? ⟨(ad664.add (((ji9)).toNat * 4)).block, (ad664.add (((ji9)).toNat * 4)).off + 2, none⟩ = some (.int .i64 ((rd_T44 l0_4 (ji9)).f2)) ∧ w'.cell? ⟨(ad664.add (((ji9)).toNat * 4)).block, (ad664.add (((ji9)).toNat * 4)).off + 3, none⟩ = some (.string ((rd_T44 l0_4 (ji9)).f3)) ∧ w'.cell? (ad664.add ((x5_1).toNat * 4)) = some (.slice A664_0 ((rd_T44 l0_4 x5_1).f0).length c664_0) ∧ w'.cell? ⟨(ad664.add ((x5_1).toNat * 4)).block, (ad664.add ((x5_1).toNat * 4)).off + 1, none⟩ = some (.int .i64 ((rd_T44 l0_4 x5_1).f1)) ∧ w'.cell? ⟨(ad664.add ((x5_1).toNat * 4)).block, (ad664.add ((x5_1).toNat * 4)).off + 2, none⟩ = some (.int .i64 ((rd_T44 l0_4 x5_1).f2)) ∧ w'.cell? ⟨(ad664.add ((x5_1).toNat * 4)).block, (ad664.add ((x5_1).toNat * 4)).off + 3, none⟩ = some (.string ((rd_T44 l0_4 x5_1).f3)) ∧ w'.cell? (ad664.add ((x5_1).toNat * 4)) = some (.slice A664_0 ((rd_T44 l0_4 x5_1).f0).length c664_0) ∧ w'.cell? ⟨(ad664.add ((x5_1).toNat * 4)).block, (ad664.add ((x5_1).toNat * 4)).off + 1, none⟩ = some (.int .i64 ((rd_T44 l0_4 x5_1).f1)) ∧ w'.cell? ⟨(ad664.add ((x5_1).toNat * 4)).block, (ad664.add ((x5_1).toNat * 4)).off + 2, none⟩ = some (.int .i64 ((rd_T44 l0_4 x5_1).f2)) ∧ w'.cell? ⟨(ad664.add ((x5_1).toNat * 4)).block, (ad664.add ((x5_1).toNat * 4)).off + 3, none⟩ = some (.string ((rd_T44 l0_4 x5_1).f3))) (ds := []) #[f_,f_,f_,f_,f_,f_,f_,f_,f_,f_,f_,f_,f_,f_,f_,f_,f_,f_,f_,f_,f_,f_,f_,f_,f_,f_,f_,f_,f_,f_,f_,f_,f_,f_,f_,f_,f_,f_,f_,f_,f_] (by kernel_rfl) rfl rfl ⟨(blk_cell BK660.out 0).trans rfl, (blk_cell BK660.out 1).trans rfl, (blk_cell BK660.out 2).trans rfl, (blk_cell BK660.out 3).trans rfl, (blk_cell BK660.out 4).trans rfl, ((HB.out.cell (World.block_lt_of_cell? w _ hw664_0)).trans hw664_0), ((HB.out.cell (World.block_lt_of_cell? w _ hw664_1)).trans hw664_1), ((HB.out.cell (World.block_lt_of_cell? w _ hw664_2)).trans hw664_2), ((HB.out.cell (World.block_lt_of_cell? w _ hw664_3)).trans hw664_3), ((HB.out.cell (World.block_lt_of_cell? w _ hw666_0)).trans hw666_0), ((HB.out.cell (World.block_lt_of_cell? w _ hw666_1)).trans hw666_1), ((HB.out.cell (World.block_lt_of_cell? w _ hw666_2)).trans hw666_2), ((HB.out.cell (World.block_lt_of_cell? w _ hw666_3)).trans hw666_3), ((HB.out.cell (World.block_lt_of_cell? w _ hw667_0)).trans hw667_0), ((HB.out.cell (World.block_lt_of_cell? w _ hw667_1)).trans hw667_1), ((HB.out.cell (World.block_lt_of_cell? w _ hw667_2)).trans hw667_2), ((HB.out.cell (World.block_lt_of_cell? w _ hw667_3)).trans hw667_3), ((HB.out.cell (World.block_lt_of_cell? w _ hw669_0)).trans hw669_0), ((HB.out.cell (World.block_lt_of_cell? w _ hw669_1)).trans hw669_1), ((HB.out.cell (World.block_lt_of_cell? w _ hw669_2)).trans hw669_2), ((HB.out.cell (World.block_lt_of_cell? w _ hw669_3)).trans hw669_3)⟩ (fun hHeld => ?_); refine with_tabW spec_GroupOk.tab4 spec_GroupOk.bits4 (fun HT_ HW_ => ?_)
           generalize wr.drew = w18 at BK660 HB HR664_0 HR666_0 HR667_0 HR669_0 hx664_0 hx664_1 hx664_2 hx664_3 hx666_0 hx666_1 hx666_2 hx666_3 hx667_0 hx667_1 hx667_2 hx667_3 hx669_0 hx669_1 hx669_2 hx669_3 hHeld ⊢
           refine pu_ 0 13 ?_ (b_ 1 40) rfl rfl HT_.out ?_ ?_ ?_ ?_; rotate_left; intro w'; go_simp; with_reducible rfl; rotate_left; simp only [fr_]; rfl
           refine pu_ 2 15 ?_ #[t_,f_,t_,f_,f_,f_,f_,f_,f_,f_,f_,f_,f_,f_,f_,f_,f_,f_,f_,f_,f_,f_,f_,f_,f_,f_,f_,f_,f_,f_,f_,f_,f_,f_,f_,f_,f_,f_,f_,f_,f_] rfl rfl HT_.out ?_ ?_ ?_ ?_; rotate_left; intro w'; go_simp; with_reducible rfl; rotate_left; simp only [fr_]; rfl
           refine take_ (i := 1) (N := some 14) (v := ?_) (a' := ?_) #[t_,t_,t_,f_,f_,f_,f_,f_,f_,f_,f_,f_,f_,f_,f_,f_,f_,f_,f_,f_,f_,f_,f_,f_,f_,f_,f_,f_,f_,f_,f_,f_,f_,f_,f_,f_,f_,f_,f_,f_,f_] rfl rfl (take_ofW HT_.out HW_.out (by kernel_rfl)) (fun _ _ _ h => h) (Or.inl ⟨by rfl, ?_⟩) hHeld ?_ ?_
           rotate_left
           ·
            rintro w' ⟨s0, s1, s2, s3, s4, s5, s6, s7, s8, s9, s10, s11, s12, s13, s14, s15, s16, s17, s18, s19, s20⟩
            go_simp
            with_reducible rfl
           rotate_left
           ·
            simp only [fr_]
            rfl
           refine pu_ 3 16 ?_ (b_ 4 37) rfl rfl HT_.out ?_ ?_ ?_ ?_; rotate_left; intro w'; go_simp; with_reducible rfl; rotate_left; simp only [fr_]; rfl
           refine take_ (i := 4) (N := some 17) (v := ?_) (a' := ?_) #[t_,t_,t_,t_,t_,f_,f_,f_,f_,f_,f_,f_,f_,f_,f_,f_,f_,f_,f_,f_,f_,f_,f_,f_,f_,f_,f_,f_,f_,f_,f_,f_,f_,f_,f_,f_,f_,f_,f_,f_,f_] rfl rfl (take_ofW HT_.out HW_.out (by kernel_rfl)) (fun _ _ _ h => h) (Or.inl ⟨by rfl, ?_⟩) hHeld ?_ ?_
           rotate_left
           ·
            rintro w' ⟨s0, s1, s2, s3, s4, s5, s6, s7, s8, s9, s10, s11, s12, s13, s14, s15, s16, s17, s18, s19, s20⟩
            go_simp
            with_reducible rfl
           rotate_left
           ·
            simp only [fr_]
            rfl
           refine one_ (i := 5) (N := some 18) #[t_,t_,t_,t_,t_,t_,f_,f_,f_,f_,f_,f_,f_,f_,f_,f_,f_,f_,f_,f_,f_,f_,f_,f_,f_,f_,f_,f_,f_,f_,f_,f_,f_,f_,f_,f_,f_,f_,f_,f_,f_] rfl rfl (one_of HT_.out (by kernel_rfl)) (by decide) (fun K hK => ?_)
           refine goes_ Try.func104 (by kernel_rfl) rfl #[.agg #[.slice A664_0 ((rd_T44 l0_4 x5_1).f0).length c664_0, .int .i64 ((rd_T44 l0_4 x5_1).f1), .int .i64 ((rd_T44 l0_4 x5_1).f2), .string ((rd_T44 l0_4 x5_1).f3)]] (by rfl) rfl rfl (by (try simp only [mp_]); first | done | rfl | (simp only [List.length_drop, List.length_take]; rfl)) ?_
           with_reducible refine (spec_AlarmOk.calls k1 _ _ ((rd_T44 l0_4 x5_1).f0) ((rd_T44 l0_4 x5_1).f1) ((rd_T44 l0_4 x5_1).f2) ((rd_T44 l0_4 x5_1).f3) true _ ?side1 ?side2 A6.out).mono ?_
           (case side1 => repeat (first | exact (Kd.C_below HR664_0.out HB.out) | (with_reducible first | refine ca_ ?_ _ | refine cn_ ?_ _ | refine cd_ ?_)))
           (case side2 => exact HC664_0.out)
           rintro e w19 ⟨rfl, hb⟩
           refine ⟨_, rfl, ?_⟩
           have n0_ := Aside0.mk (blk_below (g := gb660) (o := .cells #[.int .i64 a0_0, .slice A0_1 l0_1.length c0_1, .int .i64 a0_2, .int .i64 a0_3, .slice (some ad664) l0_4.length c0_4] 75 (0, 0)) (by (with_reducible repeat (first | refine kn_ ?_ _ | refine kd_ ?_ | refine ka_ ?_ _)); exact BK660.out) hb)
           have n1_ := Aside0.mk (below_step (by repeat (first | (with_reducible first | exact HB.out | apply ba_ | apply bn_ | apply bd_ | refine below_set ?_ GE660.out) | exact HB.out)) hb)
           clear BK660
           clear HB
           have BK660 := n0_
           have HB := n1_
           clear n0_ n1_
           (try clear hb)
           (try clear hb2)
           (try clear hk)
           (try clear hi)
           refine hK.out _ _ ⟨(blk_cell BK660.out 0).trans rfl, (blk_cell BK660.out 1).trans rfl, (blk_cell BK660.out 2).trans rfl, (blk_cell BK660.out 3).trans rfl, (blk_cell BK660.out 4).trans rfl, ((HB.out.cell (World.block_lt_of_cell? w _ hw664_0)).trans hw664_0), ((HB.out.cell (World.block_lt_of_cell? w _ hw664_1)).trans hw664_1), ((HB.out.cell (World.block_lt_of_cell? w _ hw664_2)).trans hw664_2), ((HB.out.cell (World.block_lt_of_cell? w _ hw664_3)).trans hw664_3), ((HB.out.cell (World.block_lt_of_cell? w _ hw666_0)).trans hw666_0), ((HB.out.cell (World.block_lt_of_cell? w _ hw666_1)).trans hw666_1), ((HB.out.cell (World.block_lt_of_cell? w _ hw666_2)).trans hw666_2), ((HB.out.cell (World.block_lt_of_cell? w _ hw666_3)).trans hw666_3), ((HB.out.cell (World.block_lt_of_cell? w _ hw667_0)).trans hw667_0), ((HB.out.cell (World.block_lt_of_cell? w _ hw667_1)).trans hw667_1), ((HB.out.cell (World.block_lt_of_cell? w _ hw667_2)).trans hw667_2), ((HB.out.cell (World.block_lt_of_cell? w _ hw667_3)).trans hw667_3), ((HB.out.cell (World.block_lt_of_cell? w _ hw669_0)).trans hw669_0), ((HB.out.cell (World.block_lt_of_cell? w _ hw669_1)).trans hw669_1), ((HB.out.cell (World.block_lt_of_cell? w _ hw669_2)).trans hw669_2), ((HB.out.cell (World.block_lt_of_cell? w _ hw669_3)).trans hw669_3)⟩ (fun hHeld => ?_)
           clear hK K
           refine norm_ (a' := ?_) ?_ ?_
           rotate_left
           ·
            show Act.put _ (some 18) _ = _
            simp only [fr_]
            rfl
           refine pu_ 6 19 ?_ (b_ 7 34) rfl rfl HT_.out ?_ ?_ ?_ ?_; rotate_left; intro w'; go_simp; with_reducible rfl; rotate_left; simp only [fr_]; rfl
           refine pu_ 7 20 ?_ (b_ 8 33) rfl rfl HT_.out ?_ ?_ ?_ ?_; rotate_left; intro w'; go_simp; with_reducible rfl; rotate_left; simp only [fr_]; rfl
           refine pu_ 8 21 ?_ (b_ 9 32) rfl rfl HT_.out ?_ ?_ ?_ ?_; rotate_left; intro w'; go_simp; with_reducible rfl; rotate_left; simp only [fr_]; rfl
           refine pu_ 9 22 ?_ (b_ 10 31) rfl rfl HT_.out ?_ ?_ ?_ ?_; rotate_left; intro w'; go_simp; with_reducible rfl; rotate_left; simp only [fr_]; rfl
           refine pu_ 10 23 ?_ (b_ 11 30) rfl rfl HT_.out ?_ ?_ ?_ ?_; rotate_left; intro w'; go_simp; with_reducible rfl; rotate_left; simp only [fr_]; rfl
           refine pu_ 11 24 ?_ (b_ 12 29) rfl rfl HT_.out ?_ ?_ ?_ ?_; rotate_left; intro w'; go_simp; with_reducible rfl; rotate_left; simp only [fr_]; rfl
           refine pu_ 13 26 ?_ #[t_,t_,t_,t_,t_,t_,t_,t_,t_,t_,t_,t_,f_,t_,f_,f_,f_,f_,f_,f_,f_,f_,f_,f_,f_,f_,f_,f_,f_,f_,f_,f_,f_,f_,f_,f_,f_,f_,f_,f_,f_] rfl rfl HT_.out ?_ ?_ ?_ ?_; rotate_left; intro w'; go_simp; with_reducible rfl; rotate_left; simp only [fr_]; rfl
           refine pu_ 14 27 ?_ #[t_,t_,t_,t_,t_,t_,t_,t_,t_,t_,t_,t_,f_,t_,t_,f_,f_,f_,f_,f_,f_,f_,f_,f_,f_,f_,f_,f_,f_,f_,f_,f_,f_,f_,f_,f_,f_,f_,f_,f_,f_] rfl rfl HT_.out ?_ ?_ ?_ ?_; rotate_left; intro w'; go_simp; with_reducible rfl; rotate_left; simp only [fr_]; rfl
           refine pu_ 18 31 ?_ #[t_,t_,t_,t_,t_,t_,t_,t_,t_,t_,t_,t_,f_,t_,t_,f_,f_,f_,t_,f_,f_,f_,f_,f_,f_,f_,f_,f_,f_,f_,f_,f_,f_,f_,f_,f_,f_,f_,f_,f_,f_] rfl rfl HT_.out ?_ ?_ ?_ ?_; rotate_left; intro w'; go_simp; with_reducible rfl; rotate_left; simp only [fr_]; rfl
           refine pu_ 20 33 ?_ #[t_,t_,t_,t_,t_,t_,t_,t_,t_,t_,t_,t_,f_,t_,t_,f_,f_,f_,t_,f_,t_,f_,f_,f_,f_,f_,f_,f_,f_,f_,f_,f_,f_,f_,f_,f_,f_,f_,f_,f_,f_] rfl rfl HT_.out ?_ ?_ ?_ ?_; rotate_left; intro w'; go_simp; with_reducible rfl; rotate_left; simp only [fr_]; rfl
           refine take_ (i := 12) (N := some 25) (v := ?_) (a' := ?_) #[t_,t_,t_,t_,t_,t_,t_,t_,t_,t_,t_,t_,t_,t_,t_,f_,f_,f_,t_,f_,t_,f_,f_,f_,f_,f_,f_,f_,f_,f_,f_,f_,f_,f_,f_,f_,f_,f_,f_,f_,f_] rfl rfl (take_ofW HT_.out HW_.out (by kernel_rfl)) (fun _ _ _ h => h) (Or.inl ⟨by rfl, ?_⟩) hHeld ?_ ?_
           rotate_left
           ·
            rintro w' ⟨s0, s1, s2, s3, s4, s5, s6, s7, s8, s9, s10, s11, s12, s13, s14, s15, s16, s17, s18, s19, s20⟩
            go_simp
            with_reducible rfl
           rotate_left
           ·
            simp only [fr_]
            rfl
           refine pu_ 15 28 ?_ #[t_,t_,t_,t_,t_,t_,t_,t_,t_,t_,t_,t_,t_,t_,t_,t_,f_,f_,t_,f_,t_,f_,f_,f_,f_,f_,f_,f_,f_,f_,f_,f_,f_,f_,f_,f_,f_,f_,f_,f_,f_] rfl rfl HT_.out ?_ ?_ ?_ ?_; rotate_left; intro w'; go_simp; with_reducible rfl; rotate_left; simp only [fr_]; rfl
           refine pu_ 16 29 ?_ #[t_,t_,t_,t_,t_,t_,t_,t_,t_,t_,t_,t_,t_,t_,t_,t_,t_,f_,t_,f_,t_,f_,f_,f_,f_,f_,f_,f_,f_,f_,f_,f_,f_,f_,f_,f_,f_,f_,f_,f_,f_] rfl rfl HT_.out ?_ ?_ ?_ ?_; rotate_left; intro w'; go_simp; with_reducible rfl; rotate_left; simp only [fr_]; rfl
           refine take_ (i := 17) (N := some 30) (v := ?_) (a' := ?_) #[t_,t_,t_,t_,t_,t_,t_,t_,t_,t_,t_,t_,t_,t_,t_,t_,t_,t_,t_,f_,t_,f_,f_,f_,f_,f_,f_,f_,f_,f_,f_,f_,f_,f_,f_,f_,f_,f_,f_,f_,f_] rfl rfl (take_ofW HT_.out HW_.out (by kernel_rfl)) (fun _ _ _ h => h) (Or.inl ⟨by rfl, ?_⟩) hHeld ?_ ?_
           rotate_left
           ·
            rintro w' ⟨s0, s1, s2, s3, s4, s5, s6, s7, s8, s9, s10, s11, s12, s13, s14, s15, s16, s17, s18, s19, s20⟩
            go_simp
            with_reducible rfl
           rotate_left
           ·
            simp only [fr_]
            rfl
           refine take_ (i := 19) (N := some 32) (v := ?_) (a' := ?_) #[t_,t_,t_,t_,t_,t_,t_,t_,t_,t_,t_,t_,t_,t_,t_,t_,t_,t_,t_,t_,t_,f_,f_,f_,f_,f_,f_,f_,f_,f_,f_,f_,f_,f_,f_,f_,f_,f_,f_,f_,f_] rfl rfl (take_ofW HT_.out HW_.out (by kernel_rfl)) (fun _ _ _ h => h) (Or.inl ⟨by rfl, ?_⟩) hHeld ?_ ?_
           rotate_left
           ·
            rintro w' ⟨s0, s1, s2, s3, s4, s5, s6, s7, s8, s9, s10, s11, s12, s13, s14, s15, s16, s17, s18, s19, s20⟩
            go_simp
            with_reducible rfl
           rotate_left
           ·
            simp only [fr_]
            rfl
           refine pu_ 21 34 ?_ (b_ 22 19) rfl rfl HT_.out ?_ ?_ ?_ ?_; rotate_left; intro w'; go_simp; with_reducible rfl; rotate_left; simp only [fr_]; rfl
           refine pu_ 22 35 ?_ (b_ 23 18) rfl rfl HT_.out ?_ ?_ ?_ ?_; rotate_left; intro w'; go_simp; with_reducible rfl; rotate_left; simp only [fr_]; rfl
           refine take_ (i := 23) (N := some 36) (v := ?_) (a' := ?_) #[t_,t_,t_,t_,t_,t_,t_,t_,t_,t_,t_,t_,t_,t_,t_,t_,t_,t_,t_,t_,t_,t_,t_,t_,f_,f_,f_,f_,f_,f_,f_,f_,f_,f_,f_,f_,f_,f_,f_,f_,f_] rfl rfl (take_ofW HT_.out HW_.out (by kernel_rfl)) (fun _ _ _ h => h) (Or.inl ⟨by rfl, ?_⟩) hHeld ?_ ?_
           rotate_left
           ·
            rintro w' ⟨s0, s1, s2, s3, s4, s5, s6, s7, s8, s9, s10, s11, s12, s13, s14, s15, s16, s17, s18, s19, s20⟩
            go_simp
            with_reducible rfl
           rotate_left
           ·
            simp only [fr_]
            rfl
           refine one_ (i := 24) (N := some 37) #[t_,t_,t_,t_,t_,t_,t_,t_,t_,t_,t_,t_,t_,t_,t_,t_,t_,t_,t_,t_,t_,t_,t_,t_,t_,f_,f_,f_,f_,f_,f_,f_,f_,f_,f_,f_,f_,f_,f_,f_,f_] rfl rfl (one_of HT_.out (by kernel_rfl)) (by decide) (fun K hK => ?_)
           refine goes_ Try.func105 (by kernel_rfl) rfl #[.slice A666_0 ((rd_T44 l0_4 (ji9)).f0).length c666_0, .slice A664_0 ((rd_T44 l0_4 x5_1).f0).length c664_0] (by rfl) rfl rfl (by (try simp only [mp_]); first | done | (simp only [hji9]; rfl) | rfl | (simp only [List.length_drop, List.length_take]; rfl)) ?_
           with_reducible refine (spec_SetLess.calls k1 _ _ ((rd_T44 l0_4 (ji9)).f0) _ _ ((rd_T44 l0_4 x5_1).f0) true _ ?side1 ?side2 ?side3 ?side4 A12.out).mono ?_
           (case side1 => repeat (first | exact (Kd.C_below HR666_0.out HB.out) | (with_reducible first | refine ca_ ?_ _ | refine cn_ ?_ _ | refine cd_ ?_)))
           (case side2 => exact HC666_0.out)
           (case side3 => repeat (first | exact (Kd.C_below HR667_0.out HB.out) | (with_reducible first | refine ca_ ?_ _ | refine cn_ ?_ _ | refine cd_ ?_)))
           (case side4 => exact HC667_0.out)
           rintro e w' ⟨rfl, ⟨nd, rfl⟩⟩
           refine ⟨_, rfl, ?_⟩
           refine hK.out _ _ ⟨(blk_cell BK660.out 0).trans rfl, (blk_cell BK660.out 1).trans rfl, (blk_cell BK660.out 2).trans rfl, (blk_cell BK660.out 3).trans rfl, (blk_cell BK660.out 4).trans rfl, ((HB.out.cell (World.block_lt_of_cell? w _ hw664_0)).trans hw664_0), ((HB.out.cell (World.block_lt_of_cell? w _ hw664_1)).trans hw664_1), ((HB.out.cell (World.block_lt_of_cell? w _ hw664_2)).trans hw664_2), ((HB.out.cell (World.block_lt_of_cell? w _ hw664_3)).trans hw664_3), ((HB.out.cell (World.block_lt_of_cell? w _ hw666_0)).trans hw666_0), ((HB.out.cell (World.block_lt_of_cell? w _ hw666_1)).trans hw666_1), ((HB.out.cell (World.block_lt_of_cell? w _ hw666_2)).trans hw666_2), ((HB.out.cell (World.block_lt_of_cell? w _ hw666_3)).trans hw666_3), ((HB.out.cell (World.block_lt_of_cell? w _ hw667_0)).trans hw667_0), ((HB.out.cell (World.block_lt_of_cell? w _ hw667_1)).trans hw667_1), ((HB.out.cell (World.block_lt_of_cell? w _ hw667_2)).trans hw667_2), ((HB.out.cell (World.block_lt_of_cell? w _ hw667_3)).trans hw667_3), ((HB.out.cell (World.block_lt_of_cell? w _ hw669_0)).trans hw669_0), ((HB.out.cell (World.block_lt_of_cell? w _ hw669_1)).trans hw669_1), ((HB.out.cell (World.block_lt_of_cell? w _ hw669_2)).trans hw669_2), ((HB.out.cell (World.block_lt_of_cell? w _ hw669_3)).trans hw669_3)⟩ (fun hHeld => ?_)
           clear hK K
           refine norm_ (a' := ?_) ?_ ?_
           rotate_left
           ·
            show Act.put _ (some 37) _ = _
            simp only [fr_]
            rfl
           refine pu_ 25 38 ?_ (b_ 26 15) rfl rfl HT_.out ?_ ?_ ?_ ?_; rotate_left; intro w'; go_simp; with_reducible rfl; rotate_left; simp only [fr_]; rfl
           refine pu_ 26 39 ?_ (b_ 27 14) rfl rfl HT_.out ?_ ?_ ?_ ?_; rotate_left; intro w'; go_simp; with_reducible rfl; rotate_left; simp only [fr_]; rfl
           refine pu_ 27 40 ?_ (b_ 28 13) rfl rfl HT_.out ?_ ?_ ?_ ?_; rotate_left; intro w'; go_simp; with_reducible rfl; rotate_left; simp only [fr_]; rfl
           refine pu_ 28 41 ?_ (b_ 29 12) rfl rfl HT_.out ?_ ?_ ?_ ?_; rotate_left; intro w'; go_simp; with_reducible rfl; rotate_left; simp only [fr_]; rfl
           refine pu_ 29 42 ?_ (b_ 30 11) rfl rfl HT_.out ?_ ?_ ?_ ?_; rotate_left; intro w'; go_simp; with_reducible rfl; rotate_left; simp only [fr_]; rfl
           refine pu_ 31 44 ?_ #[t_,t_,t_,t_,t_,t_,t_,t_,t_,t_,t_,t_,t_,t_,t_,t_,t_,t_,t_,t_,t_,t_,t_,t_,t_,t_,t_,t_,t_,t_,f_,t_,f_,f_,f_,f_,f_,f_,f_,f_,f_] rfl rfl HT_.out ?_ ?_ ?_ ?_; rotate_left; intro w'; go_simp; with_reducible rfl; rotate_left; simp only [fr_]; rfl
           refine pu_ 34 47 ?_ #[t_,t_,t_,t_,t_,t_,t_,t_,t_,t_,t_,t_,t_,t_,t_,t_,t_,t_,t_,t_,t_,t_,t_,t_,t_,t_,t_,t_,t_,t_,f_,t_,f_,f_,t_,f_,f_,f_,f_,f_,f_] rfl rfl HT_.out ?_ ?_ ?_ ?_; rotate_left; intro w'; go_simp; with_reducible rfl; rotate_left; simp only [fr_]; rfl
           refine pu_ 36 49 ?_ #[t_,t_,t_,t_,t_,t_,t_,t_,t_,t_,t_,t_,t_,t_,t_,t_,t_,t_,t_,t_,t_,t_,t_,t_,t_,t_,t_,t_,t_,t_,f_,t_,f_,f_,t_,f_,t_,f_,f_,f_,f_] rfl rfl HT_.out ?_ ?_ ?_ ?_; rotate_left; intro w'; go_simp; with_reducible rfl; rotate_left; simp only [fr_]; rfl
           refine take_ (i := 30) (N := some 43) (v := ?_) (a' := ?_) #[t_,t_,t_,t_,t_,t_,t_,t_,t_,t_,t_,t_,t_,t_,t_,t_,t_,t_,t_,t_,t_,t_,t_,t_,t_,t_,t_,t_,t_,t_,t_,t_,f_,f_,t_,f_,t_,f_,f_,f_,f_] rfl rfl (take_ofW HT_.out HW_.out (by kernel_rfl)) (fun _ _ _ h => h) (Or.inl ⟨by rfl, ?_⟩) hHeld ?_ ?_
           rotate_left
           ·
            rintro w' ⟨s0, s1, s2, s3, s4, s5, s6, s7, s8, s9, s10, s11, s12, s13, s14, s15, s16, s17, s18, s19, s20⟩
            go_simp
            with_reducible rfl
           rotate_left
           ·
            simp only [fr_]
            rfl
           refine pu_ 32 45 ?_ #[t_,t_,t_,t_,t_,t_,t_,t_,t_,t_,t_,t_,t_,t_,t_,t_,t_,t_,t_,t_,t_,t_,t_,t_,t_,t_,t_,t_,t_,t_,t_,t_,t_,f_,t_,f_,t_,f_,f_,f_,f_] rfl rfl HT_.out ?_ ?_ ?_ ?_; rotate_left; intro w'; go_simp; with_reducible rfl; rotate_left; simp only [fr_]; rfl
           refine take_ (i := 33) (N := some 46) (v := ?_) (a' := ?_) #[t_,t_,t_,t_,t_,t_,t_,t_,t_,t_,t_,t_,t_,t_,t_,t_,t_,t_,t_,t_,t_,t_,t_,t_,t_,t_,t_,t_,t_,t_,t_,t_,t_,t_,t_,f_,t_,f_,f_,f_,f_] rfl rfl (take_ofW HT_.out HW_.out (by kernel_rfl)) (fun _ _ _ h => h) (Or.inl ⟨by rfl, ?_⟩) hHeld ?_ ?_
           rotate_left
           ·
            rintro w' ⟨s0, s1, s2, s3, s4, s5, s6, s7, s8, s9, s10, s11, s12, s13, s14, s15, s16, s17, s18, s19, s20⟩
            go_simp
            with_reducible rfl
           rotate_left
           ·
            simp only [fr_]
            rfl
           refine take_ (i := 37) (N := some 50) (v := ?_) (a' := ?_) #[t_,t_,t_,t_,t_,t_,t_,t_,t_,t_,t_,t_,t_,t_,t_,t_,t_,t_,t_,t_,t_,t_,t_,t_,t_,t_,t_,t_,t_,t_,t_,t_,t_,t_,t_,f_,t_,t_,f_,f_,f_] rfl rfl (take_ofW HT_.out HW_.out (by kernel_rfl)) (fun _ _ _ h => h) (Or.inl ⟨by rfl, ?_⟩) hHeld ?_ ?_
           rotate_left
           ·
            rintro w' ⟨s0, s1, s2, s3, s4, s5, s6, s7, s8, s9, s10, s11, s12, s13, s14, s15, s16, s17, s18, s19, s20⟩
            go_simp
            with_reducible rfl
           rotate_left
           ·
            simp only [fr_]
            rfl
           refine one_ (i := 35) (N := some 48) #[t_,t_,t_,t_,t_,t_,t_,t_,t_,t_,t_,t_,t_,t_,t_,t_,t_,t_,t_,t_,t_,t_,t_,t_,t_,t_,t_,t_,t_,t_,t_,t_,t_,t_,t_,t_,t_,t_,f_,f_,f_] rfl rfl (one_of HT_.out (by kernel_rfl)) (by decide) (fun K hK => ?_)
           refine goes_ Try.func107 (by kernel_rfl) rfl #[.agg #[.slice A664_0 ((rd_T44 l0_4 x5_1).f0).length c664_0, .int .i64 ((rd_T44 l0_4 x5_1).f1), .int .i64 ((rd_T44 l0_4 x5_1).f2), .string ((rd_T44 l0_4 x5_1).f3)], .slice A1 l1.length c1] (by rfl) rfl rfl (by (try simp only [mp_]); first | done | rfl | (simp only [List.length_drop, List.length_take]; rfl)) ?_
           with_reducible refine (spec_KeyOf.calls k1 _ _ ((rd_T44 l0_4 x5_1).f0) ((rd_T44 l0_4 x5_1).f1) ((rd_T44 l0_4 x5_1).f2) ((rd_T44 l0_4 x5_1).f3) _ _ l1 t670 _ ?side1 ?side2 ?side3 ?side4 A14.out).mono ?_
           (case side1 => repeat (first | exact (Kd.C_below HR669_0.out (by repeat (first | (with_reducible first | exact HB.out | apply ba_ | apply bn_ | apply bd_ | refine below_set ?_ GE660.out) | exact HB.out))) | (with_reducible first | refine ca_ ?_ _ | refine cn_ ?_ _ | refine cd_ ?_)))
           (case side2 => exact HC669_0.out)
           (case side3 => repeat (first | exact (Kd.C_below HR1.out (by repeat (first | (with_reducible first | exact HB.out | apply ba_ | apply bn_ | apply bd_ | refine below_set ?_ GE660.out) | exact HB.out))) | (with_reducible first | refine ca_ ?_ _ | refine cn_ ?_ _ | refine cd_ ?_)))
           (case side4 => exact HC1.out)
           rintro e w20 ⟨v671, rfl, ho0, hb⟩
           refine ⟨_, rfl, ?_⟩
           have n0_ := Aside0.mk (Kd.R_lower ho0 (below_size (by repeat (first | (with_reducible first | exact HB.out | apply ba_ | apply bn_ | apply bd_ | refine below_set ?_ GE660.out) | exact HB.out))))
           have n1_ := Aside0.mk (blk_below (g := gb660) (o := .cells #[.int .i64 a0_0, .slice A0_1 l0_1.length c0_1, .int .i64 a0_2, .int .i64 a0_3, .slice (some ad664) l0_4.length c0_4] 75 (0, 0)) (by (with_reducible repeat (first | refine kn_ ?_ _ | refine kd_ ?_ | refine ka_ ?_ _)); exact BK660.out) hb)
           have n2_ := Aside0.mk (below_step (by repeat (first | (with_reducible first | exact HB.out | apply ba_ | apply bn_ | apply bd_ | refine below_set ?_ GE660.out) | exact HB.out)) hb)
           clear BK660
           clear HB
           have HO672 := n0_
           have BK660 := n1_
           have HB := n2_
           clear n0_ n1_ n2_
           (try clear hb)
           (try clear hb2)
           (try clear hk)
           (try clear hi)
           (try clear ho0)
           obtain ⟨Ao21, co21, eo21⟩ := Kd.R_slice HO672.out
           (first | subst eo21 | (injection eo21 with f1_ f2_ f3_; have f4_ := f1_.symm; have f5_ := f3_.symm; clear f1_ f2_ f3_; subst f4_; subst f5_))
           refine hK.out _ _ ⟨(blk_cell BK660.out 0).trans rfl, (blk_cell BK660.out 1).trans rfl, (blk_cell BK660.out 2).trans rfl, (blk_cell BK660.out 3).trans rfl, (blk_cell BK660.out 4).trans rfl, ((HB.out.cell (World.block_lt_of_cell? w _ hw664_0)).trans hw664_0), ((HB.out.cell (World.block_lt_of_cell? w _ hw664_1)).trans hw664_1), ((HB.out.cell (World.block_lt_of_cell? w _ hw664_2)).trans hw664_2), ((HB.out.cell (World.block_lt_of_cell? w _ hw664_3)).trans hw664_3), ((HB.out.cell (World.block_lt_of_cell? w _ hw666_0)).trans hw666_0), ((HB.out.cell (World.block_lt_of_cell? w _ hw666_1)).trans hw666_1), ((HB.out.cell (World.block_lt_of_cell? w _ hw666_2)).trans hw666_2), ((HB.out.cell (World.block_lt_of_cell? w _ hw666_3)).trans hw666_3), ((HB.out.cell (World.block_lt_of_cell? w _ hw667_0)).trans hw667_0), ((HB.out.cell (World.block_lt_of_cell? w _ hw667_1)).trans hw667_1), ((HB.out.cell (World.block_lt_of_cell? w _ hw667_2)).trans hw667_2), ((HB.out.cell (World.block_lt_of_cell? w _ hw667_3)).trans hw667_3), ((HB.out.cell (World.block_lt_of_cell? w _ hw669_0)).trans hw669_0), ((HB.out.cell (World.block_lt_of_cell? w _ hw669_1)).trans hw669_1), ((HB.out.cell (World.block_lt_of_cell? w _ hw669_2)).trans hw669_2), ((HB.out.cell (World.block_lt_of_cell? w _ hw669_3)).trans hw669_3)⟩ (fun hHeld => ?_)
           clear hK K
           refine norm_ (a' := ?_) ?_ ?_
           rotate_left
           ·
            show Act.put _ (some 48) _ = _
            simp only [fr_]
            rfl
           refine one_ (i := 38) (N := some 51) #[t_,t_,t_,t_,t_,t_,t_,t_,t_,t_,t_,t_,t_,t_,t_,t_,t_,t_,t_,t_,t_,t_,t_,t_,t_,t_,t_,t_,t_,t_,t_,t_,t_,t_,t_,t_,t_,t_,t_,f_,f_] rfl rfl (one_of HT_.out (by kernel_rfl)) (by decide) (fun K hK => ?_)
           refine goes_ Try.func106 (by kernel_rfl) rfl #[.slice Ao21 t670.length co21, .slice A0_1 l0_1.length c0_1] (by rfl) rfl rfl (by (try simp only [mp_]); first | done | rfl | (simp only [List.length_drop, List.length_take]; rfl)) ?_
           with_reducible refine (spec_SameSet.calls k1 _ _ t670 _ _ l0_1 true _ ?side1 ?side2 ?side3 ?side4 A15.out).mono ?_
           (case side1 => repeat (first | exact (Kd.R_reads' HO672.out).2.2 | (with_reducible first | refine ca_ ?_ _ | refine cn_ ?_ _ | refine cd_ ?_)))
           (case side2 => exact (Kd.R_reads' HO672.out).2.1)
           (case side3 => repeat (first | exact (Kd.C_below HR0_1.out HB.out) | (with_reducible first | refine ca_ ?_ _ | refine cn_ ?_ _ | refine cd_ ?_)))
           (case side4 => exact HC0_1.out)
           rintro e w' ⟨rfl, ⟨nd, rfl⟩⟩
           refine ⟨_, rfl, ?_⟩
           refine hK.out _ _ ⟨(blk_cell BK660.out 0).trans rfl, (blk_cell BK660.out 1).trans rfl, (blk_cell BK660.out 2).trans rfl, (blk_cell BK660.out 3).trans rfl, (blk_cell BK660.out 4).trans rfl, ((HB.out.cell (World.block_lt_of_cell? w _ hw664_0)).trans hw664_0), ((HB.out.cell (World.block_lt_of_cell? w _ hw664_1)).trans hw664_1), ((HB.out.cell (World.block_lt_of_cell? w _ hw664_2)).trans hw664_2), ((HB.out.cell (World.block_lt_of_cell? w _ hw664_3)).trans hw664_3), ((HB.out.cell (World.block_lt_of_cell? w _ hw666_0)).trans hw666_0), ((HB.out.cell (World.block_lt_of_cell? w _ hw666_1)).trans hw666_1), ((HB.out.cell (World.block_lt_of_cell? w _ hw666_2)).trans hw666_2), ((HB.out.cell (World.block_lt_of_cell? w _ hw666_3)).trans hw666_3), ((HB.out.cell (World.block_lt_of_cell? w _ hw667_0)).trans hw667_0), ((HB.out.cell (World.block_lt_of_cell? w _ hw667_1)).trans hw667_1), ((HB.out.cell (World.block_lt_of_cell? w _ hw667_2)).trans hw667_2), ((HB.out.cell (World.block_lt_of_cell? w _ hw667_3)).trans hw667_3), ((HB.out.cell (World.block_lt_of_cell? w _ hw669_0)).trans hw669_0), ((HB.out.cell (World.block_lt_of_cell? w _ hw669_1)).trans hw669_1), ((HB.out.cell (World.block_lt_of_cell? w _ hw669_2)).trans hw669_2), ((HB.out.cell (World.block_lt_of_cell? w _ hw669_3)).trans hw669_3)⟩ (fun hHeld => ?_)
           clear hK K
           refine norm_ (a' := ?_) ?_ ?_
           rotate_left
           ·
            show Act.put _ (some 51) _ = _
            simp only [fr_]
            rfl
           refine pu_ 39 52 ?_ (b_ 40 1) rfl rfl HT_.out ?_ ?_ ?_ ?_; rotate_left; intro w'; go_simp; with_reducible rfl; rotate_left; simp only [fr_]; rfl
           refine pu_ 40 53 ?_ (b_ 41 0) rfl rfl HT_.out ?_ ?_ ?_ ?_; rotate_left; intro w'; go_simp; with_reducible rfl; rotate_left; simp only [fr_]; rfl
           refine done_ (done_of HT_.out (by kernel_rfl)) ?_
           try go_wp2
           go_roundg k1
           case measure => have := HK1.out; omega
           case rel => exact ⟨(wrap64 (x5_1 + 1)), (by first | rfl | (simp; done) | (simp [*]; done)), H', ⟨by have := HK1.out; omega⟩, ⟨by (with_reducible repeat (first | refine kn_ ?_ _ | refine kd_ ?_ | refine ka_ ?_ _)); exact BK660.out⟩, ⟨by repeat (first | (with_reducible first | exact HB.out | apply ba_ | apply bn_ | apply bd_ | refine below_set ?_ GE660.out) | exact HB.out)⟩⟩
          replace c16 := Bool.eq_false_iff.mpr c16
          subst c16
          rw [if_neg (show ¬ (false = true) by decide)] at H
          obtain rfl := Option.some.inj H
          have hcz22_0 : wr.cell? ⟨gb660, 0, none⟩ = some (.int .i64 a0_0) := (blk_cell BK660.out 0).trans rfl
          have hcz22_1 : wr.cell? ⟨gb660, 1, none⟩ = some (.slice A0_1 l0_1.length c0_1) := (blk_cell BK660.out 1).trans rfl
          have hcz22_2 : wr.cell? ⟨gb660, 2, none⟩ = some (.int .i64 a0_2) := (blk_cell BK660.out 2).trans rfl
          have hcz22_3 : wr.cell? ⟨gb660, 3, none⟩ = some (.int .i64 a0_3) := (blk_cell BK660.out 3).trans rfl
          have hcz22_4 : wr.cell? ⟨gb660, 4, none⟩ = some (.slice A0_4 l0_4.length c0_4) := (blk_cell BK660.out 4).trans rfl
          have hfz22_0 := blk_frozen BK660.out 0
          have hfz22_1 := blk_frozen BK660.out 1
          have hfz22_2 := blk_frozen BK660.out 2
          have hfz22_3 := blk_frozen BK660.out 3
          have hfz22_4 := blk_frozen BK660.out 4
          try go_wp2
          have n0_ := Aside0.mk (blk_drew BK660.out)
          have n1_ := Aside0.mk (bd_ HB.out)
          clear BK660
          clear HB
          have BK660 := n0_
          have HB := n1_
          clear n0_ n1_
          have p664 : 0 ≤ (x5_1 : Int) := of_decide_eq_true (by with_reducible assumption)
          have q664 : x5_1 < (l0_4.length : Int) := of_decide_eq_true (by with_reducible assumption)
          obtain ⟨ad664, A664_0, c664_0, e664, hx664_0, hx664_1, hx664_2, hx664_3, hl664_0, hi664_0⟩ := at_T44 HR0_4.out x5_1 p664 q664
          have hw664_3 := hx664_3
          have hw664_2 := hx664_2
          have hw664_1 := hx664_1
          have hw664_0 := hx664_0
          cases e664
          replace hx664_0 := cl_ HB.out hx664_0
          replace hx664_1 := cl_ HB.out hx664_1
          replace hx664_2 := cl_ HB.out hx664_2
          replace hx664_3 := cl_ HB.out hx664_3
          have HR664_0 := Aside0.mk hi664_0
          have HC664_0 := Aside0.mk hl664_0
          clear hi664_0 hl664_0
          replace p664 := eq_true p664
          replace q664 := eq_true q664
          have p666 : 0 ≤ ((ji9) : Int) := of_decide_eq_true (by with_reducible assumption)
          have q666 : (ji9) < (l0_4.length : Int) := of_decide_eq_true (by with_reducible assumption)
          obtain ⟨ad666, A666_0, c666_0, e666, hx666_0, hx666_1, hx666_2, hx666_3, hl666_0, hi666_0⟩ := at_T44 HR0_4.out (ji9) p666 q666
          have hw666_3 := hx666_3
          have hw666_2 := hx666_2
          have hw666_1 := hx666_1
          have hw666_0 := hx666_0
          obtain rfl : ad664 = ad666 := (by injection e666)
          replace hx666_0 := cl_ HB.out hx666_0
          replace hx666_1 := cl_ HB.out hx666_1
          replace hx666_2 := cl_ HB.out hx666_2
          replace hx666_3 := cl_ HB.out hx666_3
          have HR666_0 := Aside0.mk hi666_0
          have HC666_0 := Aside0.mk hl666_0
          clear hi666_0 hl666_0
          replace p666 := eq_true p666
          replace q666 := eq_true q666
          have p667 : 0 ≤ (x5_1 : Int) := of_decide_eq_true (by with_reducible assumption)
          have q667 : x5_1 < (l0_4.length : Int) := of_decide_eq_true (by with_reducible assumption)
          obtain ⟨ad667, A667_0, c667_0, e667, hx667_0, hx667_1, hx667_2, hx667_3, hl667_0, hi667_0⟩ := at_T44 HR0_4.out x5_1 p667 q667
          have hw667_3 := hx667_3
          have hw667_2 := hx667_2
          have hw667_1 := hx667_1
          have hw667_0 := hx667_0
          obtain rfl : ad664 = ad667 := (by injection e667)
          replace hx667_0 := cl_ HB.out hx667_0
          replace hx667_1 := cl_ HB.out hx667_1
          replace hx667_2 := cl_ HB.out hx667_2
          replace hx667_3 := cl_ HB.out hx667_3
          have HR667_0 := Aside0.mk hi667_0
          have HC667_0 := Aside0.mk hl667_0
          clear hi667_0 hl667_0
          replace p667 := eq_true p667
          replace q667 := eq_true q667
          have ea_ := Option.some.inj (hx664_0.symm.trans hx667_0)
          injection ea_ with ea_ en_ ec_
          subst ea_
          subst ec_
          clear en_
          have p669 : 0 ≤ (x5_1 : Int) := of_decide_eq_true (by with_reducible assumption)
          have q669 : x5_1 < (l0_4.length : Int) := of_decide_eq_true (by with_reducible assumption)
          obtain ⟨ad669, A669_0, c669_0, e669, hx669_0, hx669_1, hx669_2, hx669_3, hl669_0, hi669_0⟩ := at_T44 HR0_4.out x5_1 p669 q669
          have hw669_3 := hx669_3
          have hw669_2 := hx669_2
          have hw669_1 := hx669_1
          have hw669_0 := hx669_0
          obtain rfl : ad664 = ad669 := (by injection e669)
          replace hx669_0 := cl_ HB.out hx669_0
          replace hx669_1 := cl_ HB.out hx669_1
          replace hx669_2 := cl_ HB.out hx669_2
          replace hx669_3 := cl_ HB.out hx669_3
          have HR669_0 := Aside0.mk hi669_0
          have HC669_0 := Aside0.mk hl669_0
          clear hi669_0 hl669_0
          replace p669 := eq_true p669
          replace q669 := eq_true q669
          have ea_ := Option.some.inj (hx667_0.symm.trans hx669_0)
          injection ea_ with ea_ en_ ec_
          subst ea_
          subst ec_
          clear en_
          refine start_ (n := 41) (S := fun w' => w'.cell? ⟨gb660, 0, none⟩ = some (.int .i64 a0_0) ∧ w'.cell? ⟨gb660, 1, none⟩ = some (.slice A0_1 l0_1.length c0_1) ∧ w'.cell? ⟨gb660, 2, none⟩ = some (.int .i64 a0_2) ∧ w'.cell? ⟨gb660, 3, none⟩ = some (.int .i64 a0_3) ∧ w'.cell? ⟨gb660, 4, none⟩ = some (.slice (some ad664) l0_4.length c0_4) ∧ w'.cell? (ad664.add ((x5_1).toNat * 4)) = some (.slice A664_0 ((rd_T44 l0_4 x5_1).f0).length c664_0) ∧ w'.cell? ⟨(ad664.add ((x5_1).toNat * 4)).block, (ad664.add ((x5_1).toNat * 4)).off + 1, none⟩ = some (.int .i64 ((rd_T44 l0_4 x5_1).f1)) ∧ w'.cell? ⟨(ad664.add ((x5_1).toNat * 4)).block, (ad664.add ((x5_1).toNat * 4)).off + 2, none⟩ = some (.int .i64 ((rd_T44 l0_4 x5_1).f2)) ∧ w'.cell? ⟨(ad664.add ((x5_1).toNat * 4)).block, (ad664.add ((x5_1).toNat * 4)).off + 3, none⟩ = some (.string ((rd_T44 l0_4 x5_1).f3)) ∧ w'.cell? (ad664.add (((ji9)).toNat * 4)) = some (.slice A666_0 ((rd_T44 l0_4 (ji9)).f0).length c666_0) ∧ w'.cell? ⟨(ad664.add (((ji9)).toNat * 4)).block, (ad664.add (((ji9)).toNat * 4)).off + 1, none⟩ = some (.int .i64 ((rd_T44 l0_4 (ji9)).f1)) ∧ w'.cell? ⟨(ad664.add (((ji9)).toNat * 4)).block, (ad664.add (((ji9)).toNat * 4)).off + 2, none⟩ = some (.int .i64 ((rd_T44 l0_4 (ji9)).f2)) ∧ w'.cell? ⟨(ad664.add (((ji9)).toNat * 4)).block, (ad664.add (((ji9)).toNat * 4)).off + 3, none⟩ = some (.string ((rd_T44 l0_4 (ji9)).f3)) ∧ w'.cell? (ad664.add ((x5_1).toNat * 4)) = some (.slice A664_0 ((rd_T44 l0_4 x5_1).f0).length c664_0) ∧ w'.cell? ⟨(ad664.add ((x5_1).toNat * 4)).block, (ad664.add ((x5_1).toNat * 4)).off + 1, none⟩ = some (.int .i64 ((rd_T44 l0_4 x5_1).f1)) ∧ w'.cell? ⟨(ad664.add ((x5_1).toNat * 4)).block, (ad664.add ((x5_1).toNat * 4)).off + 2, none⟩ = some (.int .i64 ((rd_T44 l0_4 x5_1).f2)) ∧ w'.cell? ⟨(ad664.add ((x5_1).toNat * 4)).block, (ad664.add ((x5_1).toNat * 4)).off + 3, none⟩ = some (.string ((rd_T44 l0_4 x5_1).f3)) ∧ w'.cell? (ad664.add ((x5_1).toNat * 4)) = some (.slice A664_0 ((rd_T44 l0_4 x5_1).f0).length c664_0) ∧ w'.cell? ⟨(ad664.add ((x5_1).toNat * 4)).block, (ad664.add ((x5_1).toNat * 4)).off + 1, none⟩ = some (.int .i64 ((rd_T44 l0_4 x5_1).f1)) ∧ w'.cell? ⟨(ad664.add ((x5_1).toNat * 4)).block, (ad664.add ((x5_1).toNat * 4)).off + 2, none⟩ = some (.int .i64 ((rd_T44 l0_4 x5_1).f2)) ∧ w'.cell? ⟨(ad664.add ((x5_1).toNat * 4)).block, (ad664.add ((x5_1).toNat * 4)).off + 3, none⟩ = some (.string ((rd_T44 l0_4 x5_1).f3))) (ds := []) #[f_,f_,f_,f_,f_,f_,f_,f_,f_,f_,f_,f_,f_,f_,f_,f_,f_,f_,f_,f_,f_,f_,f_,f_,f_,f_,f_,f_,f_,f_,f_,f_,f_,f_,f_,f_,f_,f_,f_,f_,f_] (by kernel_rfl) rfl rfl ⟨(blk_cell BK660.out 0).trans rfl, (blk_cell BK660.out 1).trans rfl, (blk_cell BK660.out 2).trans rfl, (blk_cell BK660.out 3).trans rfl, (blk_cell BK660.out 4).trans rfl, ((HB.out.cell (World.block_lt_of_cell? w _ hw664_0)).trans hw664_0), ((HB.out.cell (World.block_lt_of_cell? w _ hw664_1)).trans hw664_1), ((HB.out.cell (World.block_lt_of_cell? w _ hw664_2)).trans hw664_2), ((HB.out.cell (World.block_lt_of_cell? w _ hw664_3)).trans hw664_3), ((HB.out.cell (World.block_lt_of_cell? w _ hw666_0)).trans hw666_0), ((HB.out.cell (World.block_lt_of_cell? w _ hw666_1)).trans hw666_1), ((HB.out.cell (World.block_lt_of_cell? w _ hw666_2)).trans hw666_2), ((HB.out.cell (World.block_lt_of_cell? w _ hw666_3)).trans hw666_3), ((HB.out.cell (World.block_lt_of_cell? w _ hw667_0)).trans hw667_0), ((HB.out.cell (World.block_lt_of_cell? w _ hw667_1)).trans hw667_1), ((HB.out.cell (World.block_lt_of_cell? w _ hw667_2)).trans hw667_2), ((HB.out.cell (World.block_lt_of_cell? w _ hw667_3)).trans hw667_3), ((HB.out.cell (World.block_lt_of_cell? w _ hw669_0)).trans hw669_0), ((HB.out.cell (World.block_lt_of_cell? w _ hw669_1)).trans hw669_1), ((HB.out.cell (World.block_lt_of_cell? w _ hw669_2)).trans hw669_2), ((HB.out.cell (World.block_lt_of_cell? w _ hw669_3)).trans hw669_3)⟩ (fun hHeld => ?_); refine with_tabW spec_GroupOk.tab4 spec_GroupOk.bits4 (fun HT_ HW_ => ?_)
          generalize wr.drew = w23 at BK660 HB HR664_0 HR666_0 HR667_0 HR669_0 hx664_0 hx664_1 hx664_2 hx664_3 hx666_0 hx666_1 hx666_2 hx666_3 hx667_0 hx667_1 hx667_2 hx667_3 hx669_0 hx669_1 hx669_2 hx669_3 hHeld ⊢
          refine pu_ 0 13 ?_ (b_ 1 40) rfl rfl HT_.out ?_ ?_ ?_ ?_; rotate_left; intro w'; go_simp; with_reducible rfl; rotate_left; simp only [fr_]; rfl
          refine pu_ 2 15 ?_ #[t_,f_,t_,f_,f_,f_,f_,f_,f_,f_,f_,f_,f_,f_,f_,f_,f_,f_,f_,f_,f_,f_,f_,f_,f_,f_,f_,f_,f_,f_,f_,f_,f_,f_,f_,f_,f_,f_,f_,f_,f_] rfl rfl HT_.out ?_ ?_ ?_ ?_; rotate_left; intro w'; go_simp; with_reducible rfl; rotate_left; simp only [fr_]; rfl
          refine take_ (i := 1) (N := some 14) (v := ?_) (a' := ?_) #[t_,t_,t_,f_,f_,f_,f_,f_,f_,f_,f_,f_,f_,f_,f_,f_,f_,f_,f_,f_,f_,f_,f_,f_,f_,f_,f_,f_,f_,f_,f_,f_,f_,f_,f_,f_,f_,f_,f_,f_,f_] rfl rfl (take_ofW HT_.out HW_.out (by kernel_rfl)) (fun _ _ _ h => h) (Or.inl ⟨by rfl, ?_⟩) hHeld ?_ ?_
          rotate_left
          ·
           rintro w' ⟨s0, s1, s2, s3, s4, s5, s6, s7, s8, s9, s10, s11, s12, s13, s14, s15, s16, s17, s18, s19, s20⟩
           go_simp
           with_reducible rfl
          rotate_left
          ·
           simp only [fr_]
           rfl
          refine pu_ 3 16 ?_ (b_ 4 37) rfl rfl HT_.out ?_ ?_ ?_ ?_; rotate_left; intro w'; go_simp; with_reducible rfl; rotate_left; simp only [fr_]; rfl
          refine take_ (i := 4) (N := some 17) (v := ?_) (a' := ?_) #[t_,t_,t_,t_,t_,f_,f_,f_,f_,f_,f_,f_,f_,f_,f_,f_,f_,f_,f_,f_,f_,f_,f_,f_,f_,f_,f_,f_,f_,f_,f_,f_,f_,f_,f_,f_,f_,f_,f_,f_,f_] rfl rfl (take_ofW HT_.out HW_.out (by kernel_rfl)) (fun _ _ _ h => h) (Or.inl ⟨by rfl, ?_⟩) hHeld ?_ ?_
          rotate_left
          ·
           rintro w' ⟨s0, s1, s2, s3, s4, s5, s6, s7, s8, s9, s10, s11, s12, s13, s14, s15, s16, s17, s18, s19, s20⟩
           go_simp
           with_reducible rfl
          rotate_left
          ·
           simp only [fr_]
           rfl
          refine one_ (i := 5) (N := some 18) #[t_,t_,t_,t_,t_,t_,f_,f_,f_,f_,f_,f_,f_,f_,f_,f_,f_,f_,f_,f_,f_,f_,f_,f_,f_,f_,f_,f_,f_,f_,f_,f_,f_,f_,f_,f_,f_,f_,f_,f_,f_] rfl rfl (one_of HT_.out (by kernel_rfl)) (by decide) (fun K hK => ?_)
          refine goes_ Try.func104 (by kernel_rfl) rfl #[.agg #[.slice A664_0 ((rd_T44 l0_4 x5_1).f0).length c664_0, .int .i64 ((rd_T44 l0_4 x5_1).f1), .int .i64 ((rd_T44 l0_4 x5_1).f2), .string ((rd_T44 l0_4 x5_1).f3)]] (by rfl) rfl rfl (by (try simp only [mp_]); first | done | rfl | (simp only [List.length_drop, List.length_take]; rfl)) ?_
          with_reducible refine (spec_AlarmOk.calls k1 _ _ ((rd_T44 l0_4 x5_1).f0) ((rd_T44 l0_4 x5_1).f1) ((rd_T44 l0_4 x5_1).f2) ((rd_T44 l0_4 x5_1).f3) true _ ?side1 ?side2 A6.out).mono ?_
          (case side1 => repeat (first | exact (Kd.C_below HR664_0.out HB.out) | (with_reducible first | refine ca_ ?_ _ | refine cn_ ?_ _ | refine cd_ ?_)))
          (case side2 => exact HC664_0.out)
          rintro e w24 ⟨rfl, hb⟩
          refine ⟨_, rfl, ?_⟩
          have n0_ := Aside0.mk (blk_below (g := gb660) (o := .cells #[.int .i64 a0_0, .slice A0_1 l0_1.length c0_1, .int .i64 a0_2, .int .i64 a0_3, .slice (some ad664) l0_4.length c0_4] 75 (0, 0)) (by (with_reducible repeat (first | refine kn_ ?_ _ | refine kd_ ?_ | refine ka_ ?_ _)); exact BK660.out) hb)
          have n1_ := Aside0.mk (below_step (by repeat (first | (with_reducible first | exact HB.out | apply ba_ | apply bn_ | apply bd_ | refine below_set ?_ GE660.out) | exact HB.out)) hb)
          clear BK660
          clear HB
          have BK660 := n0_
          have HB := n1_
          clear n0_ n1_
          (try clear hb)
          (try clear hb2)
          (try clear hk)
          (try clear hi)
          refine hK.out _ _ ⟨(blk_cell BK660.out 0).trans rfl, (blk_cell BK660.out 1).trans rfl, (blk_cell BK660.out 2).trans rfl, (blk_cell BK660.out 3).trans rfl, (blk_cell BK660.out 4).trans rfl, ((HB.out.cell (World.block_lt_of_cell? w _ hw664_0)).trans hw664_0), ((HB.out.cell (World.block_lt_of_cell? w _ hw664_1)).trans hw664_1), ((HB.out.cell (World.block_lt_of_cell? w _ hw664_2)).trans hw664_2), ((HB.out.cell (World.block_lt_of_cell? w _ hw664_3)).trans hw664_3), ((HB.out.cell (World.block_lt_of_cell? w _ hw666_0)).trans hw666_0), ((HB.out.cell (World.block_lt_of_cell? w _ hw666_1)).trans hw666_1), ((HB.out.cell (World.block_lt_of_cell? w _ hw666_2)).trans hw666_2), ((HB.out.cell (World.block_lt_of_cell? w _ hw666_3)).trans hw666_3), ((HB.out.cell (World.block_lt_of_cell? w _ hw667_0)).trans hw667_0), ((HB.out.cell (World.block_lt_of_cell? w _ hw667_1)).trans hw667_1), ((HB.out.cell (World.block_lt_of_cell? w _ hw667_2)).trans hw667_2), ((HB.out.cell (World.block_lt_of_cell? w _ hw667_3)).trans hw667_3), ((HB.out.cell (World.block_lt_of_cell? w _ hw669_0)).trans hw669_0), ((HB.out.cell (World.block_lt_of_cell? w _ hw669_1)).trans hw669_1), ((HB.out.cell (World.block_lt_of_cell? w _ hw669_2)).trans hw669_2), ((HB.out.cell (World.block_lt_of_cell? w _ hw669_3)).trans hw669_3)⟩ (fun hHeld => ?_)
          clear hK K
          refine norm_ (a' := ?_) ?_ ?_
          rotate_left
          ·
           show Act.put _ (some 18) _ = _
           simp only [fr_]
           rfl
          refine pu_ 6 19 ?_ (b_ 7 34) rfl rfl HT_.out ?_ ?_ ?_ ?_; rotate_left; intro w'; go_simp; with_reducible rfl; rotate_left; simp only [fr_]; rfl
          refine pu_ 7 20 ?_ (b_ 8 33) rfl rfl HT_.out ?_ ?_ ?_ ?_; rotate_left; intro w'; go_simp; with_reducible rfl; rotate_left; simp only [fr_]; rfl
          refine pu_ 8 21 ?_ (b_ 9 32) rfl rfl HT_.out ?_ ?_ ?_ ?_; rotate_left; intro w'; go_simp; with_reducible rfl; rotate_left; simp only [fr_]; rfl
          refine pu_ 9 22 ?_ (b_ 10 31) rfl rfl HT_.out ?_ ?_ ?_ ?_; rotate_left; intro w'; go_simp; with_reducible rfl; rotate_left; simp only [fr_]; rfl
          refine pu_ 10 23 ?_ (b_ 11 30) rfl rfl HT_.out ?_ ?_ ?_ ?_; rotate_left; intro w'; go_simp; with_reducible rfl; rotate_left; simp only [fr_]; rfl
          refine pu_ 11 24 ?_ (b_ 12 29) rfl rfl HT_.out ?_ ?_ ?_ ?_; rotate_left; intro w'; go_simp; with_reducible rfl; rotate_left; simp only [fr_]; rfl
          refine pu_ 13 26 ?_ #[t_,t_,t_,t_,t_,t_,t_,t_,t_,t_,t_,t_,f_,t_,f_,f_,f_,f_,f_,f_,f_,f_,f_,f_,f_,f_,f_,f_,f_,f_,f_,f_,f_,f_,f_,f_,f_,f_,f_,f_,f_] rfl rfl HT_.out ?_ ?_ ?_ ?_; rotate_left; intro w'; go_simp; with_reducible rfl; rotate_left; simp only [fr_]; rfl
          refine pu_ 14 27 ?_ #[t_,t_,t_,t_,t_,t_,t_,t_,t_,t_,t_,t_,f_,t_,t_,f_,f_,f_,f_,f_,f_,f_,f_,f_,f_,f_,f_,f_,f_,f_,f_,f_,f_,f_,f_,f_,f_,f_,f_,f_,f_] rfl rfl HT_.out ?_ ?_ ?_ ?_; rotate_left; intro w'; go_simp; with_reducible rfl; rotate_left; simp only [fr_]; rfl
          refine pu_ 18 31 ?_ #[t_,t_,t_,t_,t_,t_,t_,t_,t_,t_,t_,t_,f_,t_,t_,f_,f_,f_,t_,f_,f_,f_,f_,f_,f_,f_,f_,f_,f_,f_,f_,f_,f_,f_,f_,f_,f_,f_,f_,f_,f_] rfl rfl HT_.out ?_ ?_ ?_ ?_; rotate_left; intro w'; go_simp; with_reducible rfl; rotate_left; simp only [fr_]; rfl
          refine pu_ 20 33 ?_ #[t_,t_,t_,t_,t_,t_,t_,t_,t_,t_,t_,t_,f_,t_,t_,f_,f_,f_,t_,f_,t_,f_,f_,f_,f_,f_,f_,f_,f_,f_,f_,f_,f_,f_,f_,f_,f_,f_,f_,f_,f_] rfl rfl HT_.out ?_ ?_ ?_ ?_; rotate_left; intro w'; go_simp; with_reducible rfl; rotate_left; simp only [fr_]; rfl
          refine take_ (i := 12) (N := some 25) (v := ?_) (a' := ?_) #[t_,t_,t_,t_,t_,t_,t_,t_,t_,t_,t_,t_,t_,t_,t_,f_,f_,f_,t_,f_,t_,f_,f_,f_,f_,f_,f_,f_,f_,f_,f_,f_,f_,f_,f_,f_,f_,f_,f_,f_,f_] rfl rfl (take_ofW HT_.out HW_.out (by kernel_rfl)) (fun _ _ _ h => h) (Or.inl ⟨by rfl, ?_⟩) hHeld ?_ ?_
          rotate_left
          ·
           rintro w' ⟨s0, s1, s2, s3, s4, s5, s6, s7, s8, s9, s10, s11, s12, s13, s14, s15, s16, s17, s18, s19, s20⟩
           go_simp
           with_reducible rfl
          rotate_left
          ·
           simp only [fr_]
           rfl
          refine pu_ 15 28 ?_ #[t_,t_,t_,t_,t_,t_,t_,t_,t_,t_,t_,t_,t_,t_,t_,t_,f_,f_,t_,f_,t_,f_,f_,f_,f_,f_,f_,f_,f_,f_,f_,f_,f_,f_,f_,f_,f_,f_,f_,f_,f_] rfl rfl HT_.out ?_ ?_ ?_ ?_; rotate_left; intro w'; go_simp; with_reducible rfl; rotate_left; simp only [fr_]; rfl
          refine pu_ 16 29 ?_ #[t_,t_,t_,t_,t_,t_,t_,t_,t_,t_,t_,t_,t_,t_,t_,t_,t_,f_,t_,f_,t_,f_,f_,f_,f_,f_,f_,f_,f_,f_,f_,f_,f_,f_,f_,f_,f_,f_,f_,f_,f_] rfl rfl HT_.out ?_ ?_ ?_ ?_; rotate_left; intro w'; go_simp; with_reducible rfl; rotate_left; simp only [fr_]; rfl
          refine take_ (i := 17) (N := some 30) (v := ?_) (a' := ?_) #[t_,t_,t_,t_,t_,t_,t_,t_,t_,t_,t_,t_,t_,t_,t_,t_,t_,t_,t_,f_,t_,f_,f_,f_,f_,f_,f_,f_,f_,f_,f_,f_,f_,f_,f_,f_,f_,f_,f_,f_,f_] rfl rfl (take_ofW HT_.out HW_.out (by kernel_rfl)) (fun _ _ _ h => h) (Or.inl ⟨by rfl, ?_⟩) hHeld ?_ ?_
          rotate_left
          ·
           rintro w' ⟨s0, s1, s2, s3, s4, s5, s6, s7, s8, s9, s10, s11, s12, s13, s14, s15, s16, s17, s18, s19, s20⟩
           go_simp
           with_reducible rfl
          rotate_left
          ·
           simp only [fr_]
           rfl
          refine take_ (i := 19) (N := some 32) (v := ?_) (a' := ?_) #[t_,t_,t_,t_,t_,t_,t_,t_,t_,t_,t_,t_,t_,t_,t_,t_,t_,t_,t_,t_,t_,f_,f_,f_,f_,f_,f_,f_,f_,f_,f_,f_,f_,f_,f_,f_,f_,f_,f_,f_,f_] rfl rfl (take_ofW HT_.out HW_.out (by kernel_rfl)) (fun _ _ _ h => h) (Or.inl ⟨by rfl, ?_⟩) hHeld ?_ ?_
          rotate_left
          ·
           rintro w' ⟨s0, s1, s2, s3, s4, s5, s6, s7, s8, s9, s10, s11, s12, s13, s14, s15, s16, s17, s18, s19, s20⟩
           go_simp
           with_reducible rfl
          rotate_left
          ·
           simp only [fr_]
           rfl
          refine pu_ 21 34 ?_ (b_ 22 19) rfl rfl HT_.out ?_ ?_ ?_ ?_; rotate_left; intro w'; go_simp; with_reducible rfl; rotate_left; simp only [fr_]; rfl
          refine pu_ 22 35 ?_ (b_ 23 18) rfl rfl HT_.out ?_ ?_ ?_ ?_; rotate_left; intro w'; go_simp; with_reducible rfl; rotate_left; simp only [fr_]; rfl
          refine take_ (i := 23) (N := some 36) (v := ?_) (a' := ?_) #[t_,t_,t_,t_,t_,t_,t_,t_,t_,t_,t_,t_,t_,t_,t_,t_,t_,t_,t_,t_,t_,t_,t_,t_,f_,f_,f_,f_,f_,f_,f_,f_,f_,f_,f_,f_,f_,f_,f_,f_,f_] rfl rfl (take_ofW HT_.out HW_.out (by kernel_rfl)) (fun _ _ _ h => h) (Or.inl ⟨by rfl, ?_⟩) hHeld ?_ ?_
          rotate_left
          ·
           rintro w' ⟨s0, s1, s2, s3, s4, s5, s6, s7, s8, s9, s10, s11, s12, s13, s14, s15, s16, s17, s18, s19, s20⟩
           go_simp
           with_reducible rfl
          rotate_left
          ·
           simp only [fr_]
           rfl
          refine one_ (i := 24) (N := some 37) #[t_,t_,t_,t_,t_,t_,t_,t_,t_,t_,t_,t_,t_,t_,t_,t_,t_,t_,t_,t_,t_,t_,t_,t_,t_,f_,f_,f_,f_,f_,f_,f_,f_,f_,f_,f_,f_,f_,f_,f_,f_] rfl rfl (one_of HT_.out (by kernel_rfl)) (by decide) (fun K hK => ?_)
          refine goes_ Try.func105 (by kernel_rfl) rfl #[.slice A666_0 ((rd_T44 l0_4 (ji9)).f0).length c666_0, .slice A664_0 ((rd_T44 l0_4 x5_1).f0).length c664_0] (by rfl) rfl rfl (by (try simp only [mp_]); first | done | (simp only [hji9]; rfl) | rfl | (simp only [List.length_drop, List.length_take]; rfl)) ?_
          with_reducible refine (spec_SetLess.calls k1 _ _ ((rd_T44 l0_4 (ji9)).f0) _ _ ((rd_T44 l0_4 x5_1).f0) true _ ?side1 ?side2 ?side3 ?side4 A12.out).mono ?_
          (case side1 => repeat (first | exact (Kd.C_below HR666_0.out HB.out) | (with_reducible first | refine ca_ ?_ _ | refine cn_ ?_ _ | refine cd_ ?_)))
          (case side2 => exact HC666_0.out)
          (case side3 => repeat (first | exact (Kd.C_below HR667_0.out HB.out) | (with_reducible first | refine ca_ ?_ _ | refine cn_ ?_ _ | refine cd_ ?_)))
          (case side4 => exact HC667_0.out)
          rintro e w' ⟨rfl, ⟨nd, rfl⟩⟩
          refine ⟨_, rfl, ?_⟩
          refine hK.out _ _ ⟨(blk_cell BK660.out 0).trans rfl, (blk_cell BK660.out 1).trans rfl, (blk_cell BK660.out 2).trans rfl, (blk_cell BK660.out 3).trans rfl, (blk_cell BK660.out 4).trans rfl, ((HB.out.cell (World.block_lt_of_cell? w _ hw664_0)).trans hw664_0), ((HB.out.cell (World.block_lt_of_cell? w _ hw664_1)).trans hw664_1), ((HB.out.cell (World.block_lt_of_cell? w _ hw664_2)).trans hw664_2), ((HB.out.cell (World.block_lt_of_cell? w _ hw664_3)).trans hw664_3), ((HB.out.cell (World.block_lt_of_cell? w _ hw666_0)).trans hw666_0), ((HB.out.cell (World.block_lt_of_cell? w _ hw666_1)).trans hw666_1), ((HB.out.cell (World.block_lt_of_cell? w _ hw666_2)).trans hw666_2), ((HB.out.cell (World.block_lt_of_cell? w _ hw666_3)).trans hw666_3), ((HB.out.cell (World.block_lt_of_cell? w _ hw667_0)).trans hw667_0), ((HB.out.cell (World.block_lt_of_cell? w _ hw667_1)).trans hw667_1), ((HB.out.cell (World.block_lt_of_cell? w _ hw667_2)).trans hw667_2), ((HB.out.cell (World.block_lt_of_cell? w _ hw667_3)).trans hw667_3), ((HB.out.cell (World.block_lt_of_cell? w _ hw669_0)).trans hw669_0), ((HB.out.cell (World.block_lt_of_cell? w _ hw669_1)).trans hw669_1), ((HB.out.cell (World.block_lt_of_cell? w _ hw669_2)).trans hw669_2), ((HB.out.cell (World.block_lt_of_cell? w _ hw669_3)).trans hw669_3)⟩ (fun hHeld => ?_)
          clear hK K
          refine norm_ (a' := ?_) ?_ ?_
          rotate_left
          ·
           show Act.put _ (some 37) _ = _
           simp only [fr_]
           rfl
          refine pu_ 25 38 ?_ (b_ 26 15) rfl rfl HT_.out ?_ ?_ ?_ ?_; rotate_left; intro w'; go_simp; with_reducible rfl; rotate_left; simp only [fr_]; rfl
          refine pu_ 26 39 ?_ (b_ 27 14) rfl rfl HT_.out ?_ ?_ ?_ ?_; rotate_left; intro w'; go_simp; with_reducible rfl; rotate_left; simp only [fr_]; rfl
          refine pu_ 27 40 ?_ (b_ 28 13) rfl rfl HT_.out ?_ ?_ ?_ ?_; rotate_left; intro w'; go_simp; with_reducible rfl; rotate_left; simp only [fr_]; rfl
          refine pu_ 28 41 ?_ (b_ 29 12) rfl rfl HT_.out ?_ ?_ ?_ ?_; rotate_left; intro w'; go_simp; with_reducible rfl; rotate_left; simp only [fr_]; rfl
          refine pu_ 29 42 ?_ (b_ 30 11) rfl rfl HT_.out ?_ ?_ ?_ ?_; rotate_left; intro w'; go_simp; with_reducible rfl; rotate_left; simp only [fr_]; rfl
          refine pu_ 31 44 ?_ #[t_,t_,t_,t_,t_,t_,t_,t_,t_,t_,t_,t_,t_,t_,t_,t_,t_,t_,t_,t_,t_,t_,t_,t_,t_,t_,t_,t_,t_,t_,f_,t_,f_,f_,f_,f_,f_,f_,f_,f_,f_] rfl rfl HT_.out ?_ ?_ ?_ ?_; rotate_left; intro w'; go_simp; with_reducible rfl; rotate_left; simp only [fr_]; rfl
          refine pu_ 34 47 ?_ #[t_,t_,t_,t_,t_,t_,t_,t_,t_,t_,t_,t_,t_,t_,t_,t_,t_,t_,t_,t_,t_,t_,t_,t_,t_,t_,t_,t_,t_,t_,f_,t_,f_,f_,t_,f_,f_,f_,f_,f_,f_] rfl rfl HT_.out ?_ ?_ ?_ ?_; rotate_left; intro w'; go_simp; with_reducible rfl; rotate_left; simp only [fr_]; rfl
          refine pu_ 36 49 ?_ #[t_,t_,t_,t_,t_,t_,t_,t_,t_,t_,t_,t_,t_,t_,t_,t_,t_,t_,t_,t_,t_,t_,t_,t_,t_,t_,t_,t_,t_,t_,f_,t_,f_,f_,t_,f_,t_,f_,f_,f_,f_] rfl rfl HT_.out ?_ ?_ ?_ ?_; rotate_left; intro w'; go_simp; with_reducible rfl; rotate_left; simp only [fr_]; rfl
          refine take_ (i := 30) (N := some 43) (v := ?_) (a' := ?_) #[t_,t_,t_,t_,t_,t_,t_,t_,t_,t_,t_,t_,t_,t_,t_,t_,t_,t_,t_,t_,t_,t_,t_,t_,t_,t_,t_,t_,t_,t_,t_,t_,f_,f_,t_,f_,t_,f_,f_,f_,f_] rfl rfl (take_ofW HT_.out HW_.out (by kernel_rfl)) (fun _ _ _ h => h) (Or.inl ⟨by rfl, ?_⟩) hHeld ?_ ?_
          rotate_left
          ·
           rintro w' ⟨s0, s1, s2, s3, s4, s5, s6, s7, s8, s9, s10, s11, s12, s13, s14, s15, s16, s17, s18, s19, s20⟩
           go_simp
           with_reducible rfl
          rotate_left
          ·
           simp only [fr_]
           rfl
          refine pu_ 32 45 ?_ #[t_,t_,t_,t_,t_,t_,t_,t_,t_,t_,t_,t_,t_,t_,t_,t_,t_,t_,t_,t_,t_,t_,t_,t_,t_,t_,t_,t_,t_,t_,t_,t_,t_,f_,t_,f_,t_,f_,f_,f_,f_] rfl rfl HT_.out ?_ ?_ ?_ ?_; rotate_left; intro w'; go_simp; with_reducible rfl; rotate_left; simp only [fr_]; rfl
          refine take_ (i := 33) (N := some 46) (v := ?_) (a' := ?_) #[t_,t_,t_,t_,t_,t_,t_,t_,t_,t_,t_,t_,t_,t_,t_,t_,t_,t_,t_,t_,t_,t_,t_,t_,t_,t_,t_,t_,t_,t_,t_,t_,t_,t_,t_,f_,t_,f_,f_,f_,f_] rfl rfl (take_ofW HT_.out HW_.out (by kernel_rfl)) (fun _ _ _ h => h) (Or.inl ⟨by rfl, ?_⟩) hHeld ?_ ?_
          rotate_left
          ·
           rintro w' ⟨s0, s1, s2, s3, s4, s5, s6, s7, s8, s9, s10, s11, s12, s13, s14, s15, s16, s17, s18, s19, s20⟩
           go_simp
           with_reducible rfl
          rotate_left
          ·
           simp only [fr_]
           rfl
          refine take_ (i := 37) (N := some 50) (v := ?_) (a' := ?_) #[t_,t_,t_,t_,t_,t_,t_,t_,t_,t_,t_,t_,t_,t_,t_,t_,t_,t_,t_,t_,t_,t_,t_,t_,t_,t_,t_,t_,t_,t_,t_,t_,t_,t_,t_,f_,t_,t_,f_,f_,f_] rfl rfl (take_ofW HT_.out HW_.out (by kernel_rfl)) (fun _ _ _ h => h) (Or.inl ⟨by rfl, ?_⟩) hHeld ?_ ?_
          rotate_left
          ·
           rintro w' ⟨s0, s1, s2, s3, s4, s5, s6, s7, s8, s9, s10, s11, s12, s13, s14, s15, s16, s17, s18, s19, s20⟩
           go_simp
           with_reducible rfl
          rotate_left
          ·
           simp only [fr_]
           rfl
          refine one_ (i := 35) (N := some 48) #[t_,t_,t_,t_,t_,t_,t_,t_,t_,t_,t_,t_,t_,t_,t_,t_,t_,t_,t_,t_,t_,t_,t_,t_,t_,t_,t_,t_,t_,t_,t_,t_,t_,t_,t_,t_,t_,t_,f_,f_,f_] rfl rfl (one_of HT_.out (by kernel_rfl)) (by decide) (fun K hK => ?_)
          refine goes_ Try.func107 (by kernel_rfl) rfl #[.agg #[.slice A664_0 ((rd_T44 l0_4 x5_1).f0).length c664_0, .int .i64 ((rd_T44 l0_4 x5_1).f1), .int .i64 ((rd_T44 l0_4 x5_1).f2), .string ((rd_T44 l0_4 x5_1).f3)], .slice A1 l1.length c1] (by rfl) rfl rfl (by (try simp only [mp_]); first | done | rfl | (simp only [List.length_drop, List.length_take]; rfl)) ?_
          with_reducible refine (spec_KeyOf.calls k1 _ _ ((rd_T44 l0_4 x5_1).f0) ((rd_T44 l0_4 x5_1).f1) ((rd_T44 l0_4 x5_1).f2) ((rd_T44 l0_4 x5_1).f3) _ _ l1 t670 _ ?side1 ?side2 ?side3 ?side4 A14.out).mono ?_
          (case side1 => repeat (first | exact (Kd.C_below HR669_0.out (by repeat (first | (with_reducible first | exact HB.out | apply ba_ | apply bn_ | apply bd_ | refine below_set ?_ GE660.out) | exact HB.out))) | (with_reducible first | refine ca_ ?_ _ | refine cn_ ?_ _ | refine cd_ ?_)))
          (case side2 => exact HC669_0.out)
          (case side3 => repeat (first | exact (Kd.C_below HR1.out (by repeat (first | (with_reducible first | exact HB.out | apply ba_ | apply bn_ | apply bd_ | refine below_set ?_ GE660.out) | exact HB.out))) | (with_reducible first | refine ca_ ?_ _ | refine cn_ ?_ _ | refine cd_ ?_)))
          (case side4 => exact HC1.out)
          rintro e w25 ⟨v671, rfl, ho0, hb⟩
          refine ⟨_, rfl, ?_⟩
          have n0_ := Aside0.mk (Kd.R_lower ho0 (below_size (by repeat (first | (with_reducible first | exact HB.out | apply ba_ | apply bn_ | apply bd_ | refine below_set ?_ GE660.out) | exact HB.out))))
          have n1_ := Aside0.mk (blk_below (g := gb660) (o := .cells #[.int .i64 a0_0, .slice A0_1 l0_1.length c0_1, .int .i64 a0_2, .int .i64 a0_3, .slice (some ad664) l0_4.length c0_4] 75 (0, 0)) (by (with_reducible repeat (first | refine kn_ ?_ _ | refine kd_ ?_ | refine ka_ ?_ _)); exact BK660.out) hb)
          have n2_ := Aside0.mk (below_step (by repeat (first | (with_reducible first | exact HB.out | apply ba_ | apply bn_ | apply bd_ | refine below_set ?_ GE660.out) | exact HB.out)) hb)
          clear BK660
          clear HB
          have HO672 := n0_
          have BK660 := n1_
          have HB := n2_
          clear n0_ n1_ n2_
          (try clear hb)
          (try clear hb2)
          (try clear hk)
          (try clear hi)
          (try clear ho0)
          obtain ⟨Ao26, co26, eo26⟩ := Kd.R_slice HO672.out
          (first | subst eo26 | (injection eo26 with f1_ f2_ f3_; have f4_ := f1_.symm; have f5_ := f3_.symm; clear f1_ f2_ f3_; subst f4_; subst f5_))
          refine hK.out _ _ ⟨(blk_cell BK660.out 0).trans rfl, (blk_cell BK660.out 1).trans rfl, (blk_cell BK660.out 2).trans rfl, (blk_cell BK660.out 3).trans rfl, (blk_cell BK660.out 4).trans rfl, ((HB.out.cell (World.block_lt_of_cell? w _ hw664_0)).trans hw664_0), ((HB.out.cell (World.block_lt_of_cell? w _ hw664_1)).trans hw664_1), ((HB.out.cell (World.block_lt_of_cell? w _ hw664_2)).trans hw664_2), ((HB.out.cell (World.block_lt_of_cell? w _ hw664_3)).trans hw664_3), ((HB.out.cell (World.block_lt_of_cell? w _ hw666_0)).trans hw666_0), ((HB.out.cell (World.block_lt_of_cell? w _ hw666_1)).trans hw666_1), ((HB.out.cell (World.block_lt_of_cell? w _ hw666_2)).trans hw666_2), ((HB.out.cell (World.block_lt_of_cell? w _ hw666_3)).trans hw666_3), ((HB.out.cell (World.block_lt_of_cell? w _ hw667_0)).trans hw667_0), ((HB.out.cell (World.block_lt_of_cell? w _ hw667_1)).trans hw667_1), ((HB.out.cell (World.block_lt_of_cell? w _ hw667_2)).trans hw667_2), ((HB.out.cell (World.block_lt_of_cell? w _ hw667_3)).trans hw667_3), ((HB.out.cell (World.block_lt_of_cell? w _ hw669_0)).trans hw669_0), ((HB.out.cell (World.block_lt_of_cell? w _ hw669_1)).trans hw669_1), ((HB.out.cell (World.block_lt_of_cell? w _ hw669_2)).trans hw669_2), ((HB.out.cell (World.block_lt_of_cell? w _ hw669_3)).trans hw669_3)⟩ (fun hHeld => ?_)
          clear hK K
          refine norm_ (a' := ?_) ?_ ?_
          rotate_left
          ·
           show Act.put _ (some 48) _ = _
           simp only [fr_]
           rfl
          refine one_ (i := 38) (N := some 51) #[t_,t_,t_,t_,t_,t_,t_,t_,t_,t_,t_,t_,t_,t_,t_,t_,t_,t_,t_,t_,t_,t_,t_,t_,t_,t_,t_,t_,t_,t_,t_,t_,t_,t_,t_,t_,t_,t_,t_,f_,f_] rfl rfl (one_of HT_.out (by kernel_rfl)) (by decide) (fun K hK => ?_)
          refine goes_ Try.func106 (by kernel_rfl) rfl #[.slice Ao26 t670.length co26, .slice A0_1 l0_1.length c0_1] (by rfl) rfl rfl (by (try simp only [mp_]); first | done | rfl | (simp only [List.length_drop, List.length_take]; rfl)) ?_
          with_reducible refine (spec_SameSet.calls k1 _ _ t670 _ _ l0_1 false _ ?side1 ?side2 ?side3 ?side4 A15.out).mono ?_
          (case side1 => repeat (first | exact (Kd.R_reads' HO672.out).2.2 | (with_reducible first | refine ca_ ?_ _ | refine cn_ ?_ _ | refine cd_ ?_)))
          (case side2 => exact (Kd.R_reads' HO672.out).2.1)
          (case side3 => repeat (first | exact (Kd.C_below HR0_1.out HB.out) | (with_reducible first | refine ca_ ?_ _ | refine cn_ ?_ _ | refine cd_ ?_)))
          (case side4 => exact HC0_1.out)
          rintro e w' ⟨rfl, ⟨nd, rfl⟩⟩
          refine ⟨_, rfl, ?_⟩
          refine hK.out _ _ ⟨(blk_cell BK660.out 0).trans rfl, (blk_cell BK660.out 1).trans rfl, (blk_cell BK660.out 2).trans rfl, (blk_cell BK660.out 3).trans rfl, (blk_cell BK660.out 4).trans rfl, ((HB.out.cell (World.block_lt_of_cell? w _ hw664_0)).trans hw664_0), ((HB.out.cell (World.block_lt_of_cell? w _ hw664_1)).trans hw664_1), ((HB.out.cell (World.block_lt_of_cell? w _ hw664_2)).trans hw664_2), ((HB.out.cell (World.block_lt_of_cell? w _ hw664_3)).trans hw664_3), ((HB.out.cell (World.block_lt_of_cell? w _ hw666_0)).trans hw666_0), ((HB.out.cell (World.block_lt_of_cell? w _ hw666_1)).trans hw666_1), ((HB.out.cell (World.block_lt_of_cell? w _ hw666_2)).trans hw666_2), ((HB.out.cell (World.block_lt_of_cell? w _ hw666_3)).trans hw666_3), ((HB.out.cell (World.block_lt_of_cell? w _ hw667_0)).trans hw667_0), ((HB.out.cell (World.block_lt_of_cell? w _ hw667_1)).trans hw667_1), ((HB.out.cell (World.block_lt_of_cell? w _ hw667_2)).trans hw667_2), ((HB.out.cell (World.block_lt_of_cell? w _ hw667_3)).trans hw667_3), ((HB.out.cell (World.block_lt_of_cell? w _ hw669_0)).trans hw669_0), ((HB.out.cell (World.block_lt_of_cell? w _ hw669_1)).trans hw669_1), ((HB.out.cell (World.block_lt_of_cell? w _ hw669_2)).trans hw669_2), ((HB.out.cell (World.block_lt_of_cell? w _ hw669_3)).trans hw669_3)⟩ (fun hHeld => ?_)
          clear hK K
          refine norm_ (a' := ?_) ?_ ?_
          rotate_left
          ·
           show Act.put _ (some 51) _ = _
           simp only [fr_]
           rfl
          refine pu_ 39 52 ?_ (b_ 40 1) rfl rfl HT_.out ?_ ?_ ?_ ?_; rotate_left; intro w'; go_simp; with_reducible rfl; rotate_left; simp only [fr_]; rfl
          refine pu_ 40 53 ?_ (b_ 41 0) rfl rfl HT_.out ?_ ?_ ?_ ?_; rotate_left; intro w'; go_simp; with_reducible rfl; rotate_left; simp only [fr_]; rfl
          refine done_ (done_of HT_.out (by kernel_rfl)) ?_
          try go_wp2
          go_ret
          exact ⟨by first | rfl | (simp [errW_none, errW_some] <;> rfl) | (simp only [← hji9]; first | rfl | (simp [errW_none, errW_some] <;> rfl)) | (simp [*, errW_none, errW_some] <;> rfl), by repeat (first | (with_reducible first | exact HB.out | apply ba_ | apply bn_ | apply bd_ | refine below_set ?_ GE660.out) | exact HB.out)⟩
         replace c13 := Bool.eq_false_iff.mpr c13
         subst c13
         rw [if_neg (show ¬ (false = true) by decide)] at H
         obtain rfl := Option.some.inj H
         have hcz27_0 : wr.cell? ⟨gb660, 0, none⟩ = some (.int .i64 a0_0) := (blk_cell BK660.out 0).trans rfl
         have hcz27_1 : wr.cell? ⟨gb660, 1, none⟩ = some (.slice A0_1 l0_1.length c0_1) := (blk_cell BK660.out 1).trans rfl
         have hcz27_2 : wr.cell? ⟨gb660, 2, none⟩ = some (.int .i64 a0_2) := (blk_cell BK660.out 2).trans rfl
         have hcz27_3 : wr.cell? ⟨gb660, 3, none⟩ = some (.int .i64 a0_3) := (blk_cell BK660.out 3).trans rfl
         have hcz27_4 : wr.cell? ⟨gb660, 4, none⟩ = some (.slice A0_4 l0_4.length c0_4) := (blk_cell BK660.out 4).trans rfl
         have hfz27_0 := blk_frozen BK660.out 0
         have hfz27_1 := blk_frozen BK660.out 1
         have hfz27_2 := blk_frozen BK660.out 2
         have hfz27_3 := blk_frozen BK660.out 3
         have hfz27_4 := blk_frozen BK660.out 4
         try go_wp2
         have n0_ := Aside0.mk (blk_drew BK660.out)
         have n1_ := Aside0.mk (bd_ HB.out)
         clear BK660
         clear HB
         have BK660 := n0_
         have HB := n1_
         clear n0_ n1_
         have p664 : 0 ≤ (x5_1 : Int) := of_decide_eq_true (by with_reducible assumption)
         have q664 : x5_1 < (l0_4.length : Int) := of_decide_eq_true (by with_reducible assumption)
         obtain ⟨ad664, A664_0, c664_0, e664, hx664_0, hx664_1, hx664_2, hx664_3, hl664_0, hi664_0⟩ := at_T44 HR0_4.out x5_1 p664 q664
         have hw664_3 := hx664_3
         have hw664_2 := hx664_2
         have hw664_1 := hx664_1
         have hw664_0 := hx664_0
         cases e664
         replace hx664_0 := cl_ HB.out hx664_0
         replace hx664_1 := cl_ HB.out hx664_1
         replace hx664_2 := cl_ HB.out hx664_2
         replace hx664_3 := cl_ HB.out hx664_3
         have HR664_0 := Aside0.mk hi664_0
         have HC664_0 := Aside0.mk hl664_0
         clear hi664_0 hl664_0
         replace p664 := eq_true p664
         replace q664 := eq_true q664
         have p666 : 0 ≤ ((ji9) : Int) := of_decide_eq_true (by with_reducible assumption)
         have q666 : (ji9) < (l0_4.length : Int) := of_decide_eq_true (by with_reducible assumption)
         obtain ⟨ad666, A666_0, c666_0, e666, hx666_0, hx666_1, hx666_2, hx666_3, hl666_0, hi666_0⟩ := at_T44 HR0_4.out (ji9) p666 q666
         have hw666_3 := hx666_3
         have hw666_2 := hx666_2
         have hw666_1 := hx666_1
         have hw666_0 := hx666_0
         obtain rfl : ad664 = ad666 := (by injection e666)
         replace hx666_0 := cl_ HB.out hx666_0
         replace hx666_1 := cl_ HB.out hx666_1
         replace hx666_2 := cl_ HB.out hx666_2
         replace hx666_3 := cl_ HB.out hx666_3
         have HR666_0 := Aside0.mk hi666_0
         have HC666_0 := Aside0.mk hl666_0
         clear hi666_0 hl666_0
         replace p666 := eq_true p666
         replace q666 := eq_true q666
         have p667 : 0 ≤ (x5_1 : Int) := of_decide_eq_true (by with_reducible assumption)
         have q667 : x5_1 < (l0_4.length : Int) := of_decide_eq_true (by with_reducible assumption)
         obtain ⟨ad667, A667_0, c667_0, e667, hx667_0, hx667_1, hx667_2, hx667_3, hl667_0, hi667_0⟩ := at_T44 HR0_4.out x5_1 p667 q667
         have hw667_3 := hx667_3
         have hw667_2 := hx667_2
         have hw667_1 := hx667_1
         have hw667_0 := hx667_0
         obtain rfl : ad664 = ad667 := (by injection e667)
         replace hx667_0 := cl_ HB.out hx667_0
         replace hx667_1 := cl_ HB.out hx667_1
         replace hx667_2 := cl_ HB.out hx667_2
         replace hx667_3 := cl_ HB.out hx667_3
         have HR667_0 := Aside0.mk hi667_0
         have HC667_0 := Aside0.mk hl667_0
         clear hi667_0 hl667_0
         replace p667 := eq_true p667
         replace q667 := eq_true q667
         have ea_ := Option.some.inj (hx664_0.symm.trans hx667_0)
         injection ea_ with ea_ en_ ec_
         subst ea_
         subst ec_
         clear en_
         refine start_ (n := 41) (S := fun w' => w'.cell? ⟨gb660, 0, none⟩ = some (.int .i64 a0_0) ∧ w'.cell? ⟨gb660, 1, none⟩ = some (.slice A0_1 l0_1.length c0_1) ∧ w'.cell? ⟨gb660, 2, none⟩ = some (.int .i64 a0_2) ∧ w'.cell? ⟨gb660, 3, none⟩ = some (.int .i64 a0_3) ∧ w'.cell? ⟨gb660, 4, none⟩ = some (.slice (some ad664) l0_4.length c0_4) ∧ w'.cell? (ad664.add ((x5_1).toNat * 4)) = some (.slice A664_0 ((rd_T44 l0_4 x5_1).f0).length c664_0) ∧ w'.cell? ⟨(ad664.add ((x5_1).toNat * 4)).block, (ad664.add ((x5_1).toNat * 4)).off + 1, none⟩ = some (.int .i64 ((rd_T44 l0_4 x5_1).f1)) ∧ w'.cell? ⟨(ad664.add ((x5_1).toNat * 4)).block, (ad664.add ((x5_1).toNat * 4)).off + 2, none⟩ = some (.int .i64 ((rd_T44 l0_4 x5_1).f2)) ∧ w'.cell? ⟨(ad664.add ((x5_1).toNat * 4)).block, (ad664.add ((x5_1).toNat * 4)).off + 3, none⟩ = some (.string ((rd_T44 l0_4 x5_1).f3)) ∧ w'.cell? (ad664.add (((ji9)).toNat * 4)) = some (.slice A666_0 ((rd_T44 l0_4 (ji9)).f0).length c666_0) ∧ w'.cell? ⟨(ad664.add (((ji9)).toNat * 4)).block, (ad664.add (((ji9)).toNat * 4)).off + 1, none⟩ = some (.int .i64 ((rd_T44 l0_4 (ji9)).f1)) ∧ w'.cell? ⟨(ad664.add (((ji9)).toNat * 4)).block, (ad664.add (((ji9)).toNat * 4)).off + 2, none⟩ = some (.int .i64 ((rd_T44 l0_4 (ji9)).f2)) ∧ w'.cell? ⟨(ad664.add (((ji9)).toNat * 4)).block, (ad664.add (((ji9)).toNat * 4)).off + 3, none⟩ = some (.string ((rd_T44 l0_4 (ji9)).f3)) ∧ w'.cell? (ad664.add ((x5_1).toNat * 4)) = some (.slice A664_0 ((rd_T44 l0_4 x5_1).f0).length c664_0) ∧ w'.cell? ⟨(ad664.add ((x5_1).toNat * 4)).block, (ad664.add ((x5_1).toNat * 4)).off + 1, none⟩ = some (.int .i64 ((rd_T44 l0_4 x5_1).f1)) ∧ w'.cell? ⟨(ad664.add ((x5_1).toNat * 4)).block, (ad664.add ((x5_1).toNat * 4)).off + 2, none⟩ = some (.int .i64 ((rd_T44 l0_4 x5_1).f2)) ∧ w'.cell? ⟨(ad664.add ((x5_1).toNat * 4)).block, (ad664.add ((x5_1).toNat * 4)).off + 3, none⟩ = some (.string ((rd_T44 l0_4 x5_1).f3))) (ds := []) #[f_,f_,f_,f_,f_,f_,f_,f_,f_,f_,f_,f_,f_,f_,f_,f_,f_,f_,f_,f_,f_,f_,f_,f_,f_,f_,f_,f_,f_,f_,f_,f_,f_,f_,f_,f_,f_,f_,f_,f_,f_] (by kernel_rfl) rfl rfl ⟨(blk_cell BK660.out 0).trans rfl, (blk_cell BK660.out 1).trans rfl, (blk_cell BK660.out 2).trans rfl, (blk_cell BK660.out 3).trans rfl, (blk_cell BK660.out 4).trans rfl, ((HB.out.cell (World.block_lt_of_cell? w _ hw664_0)).trans hw664_0), ((HB.out.cell (World.block_lt_of_cell? w _ hw664_1)).trans hw664_1), ((HB.out.cell (World.block_lt_of_cell? w _ hw664_2)).trans hw664_2), ((HB.out.cell (World.block_lt_of_cell? w _ hw664_3)).trans hw664_3), ((HB.out.cell (World.block_lt_of_cell? w _ hw666_0)).trans hw666_0), ((HB.out.cell (World.block_lt_of_cell? w _ hw666_1)).trans hw666_1), ((HB.out.cell (World.block_lt_of_cell? w _ hw666_2)).trans hw666_2), ((HB.out.cell (World.block_lt_of_cell? w _ hw666_3)).trans hw666_3), ((HB.out.cell (World.block_lt_of_cell? w _ hw667_0)).trans hw667_0), ((HB.out.cell (World.block_lt_of_cell? w _ hw667_1)).trans hw667_1), ((HB.out.cell (World.block_lt_of_cell? w _ hw667_2)).trans hw667_2), ((HB.out.cell (World.block_lt_of_cell? w _ hw667_3)).trans hw667_3)⟩ (fun hHeld => ?_); refine with_tabW spec_GroupOk.tab4 spec_GroupOk.bits4 (fun HT_ HW_ => ?_)
         generalize wr.drew = w28 at BK660 HB HR664_0 HR666_0 HR667_0 hx664_0 hx664_1 hx664_2 hx664_3 hx666_0 hx666_1 hx666_2 hx666_3 hx667_0 hx667_1 hx667_2 hx667_3 hHeld ⊢
         refine pu_ 0 13 ?_ (b_ 1 40) rfl rfl HT_.out ?_ ?_ ?_ ?_; rotate_left; intro w'; go_simp; with_reducible rfl; rotate_left; simp only [fr_]; rfl
         refine pu_ 2 15 ?_ #[t_,f_,t_,f_,f_,f_,f_,f_,f_,f_,f_,f_,f_,f_,f_,f_,f_,f_,f_,f_,f_,f_,f_,f_,f_,f_,f_,f_,f_,f_,f_,f_,f_,f_,f_,f_,f_,f_,f_,f_,f_] rfl rfl HT_.out ?_ ?_ ?_ ?_; rotate_left; intro w'; go_simp; with_reducible rfl; rotate_left; simp only [fr_]; rfl
         refine take_ (i := 1) (N := some 14) (v := ?_) (a' := ?_) #[t_,t_,t_,f_,f_,f_,f_,f_,f_,f_,f_,f_,f_,f_,f_,f_,f_,f_,f_,f_,f_,f_,f_,f_,f_,f_,f_,f_,f_,f_,f_,f_,f_,f_,f_,f_,f_,f_,f_,f_,f_] rfl rfl (take_ofW HT_.out HW_.out (by kernel_rfl)) (fun _ _ _ h => h) (Or.inl ⟨by rfl, ?_⟩) hHeld ?_ ?_
         rotate_left
         ·
          rintro w' ⟨s0, s1, s2, s3, s4, s5, s6, s7, s8, s9, s10, s11, s12, s13, s14, s15, s16⟩
          go_simp
          with_reducible rfl
         rotate_left
         ·
          simp only [fr_]
          rfl
         refine pu_ 3 16 ?_ (b_ 4 37) rfl rfl HT_.out ?_ ?_ ?_ ?_; rotate_left; intro w'; go_simp; with_reducible rfl; rotate_left; simp only [fr_]; rfl
         refine take_ (i := 4) (N := some 17) (v := ?_) (a' := ?_) #[t_,t_,t_,t_,t_,f_,f_,f_,f_,f_,f_,f_,f_,f_,f_,f_,f_,f_,f_,f_,f_,f_,f_,f_,f_,f_,f_,f_,f_,f_,f_,f_,f_,f_,f_,f_,f_,f_,f_,f_,f_] rfl rfl (take_ofW HT_.out HW_.out (by kernel_rfl)) (fun _ _ _ h => h) (Or.inl ⟨by rfl, ?_⟩) hHeld ?_ ?_
         rotate_left
         ·
          rintro w' ⟨s0, s1, s2, s3, s4, s5, s6, s7, s8, s9, s10, s11, s12, s13, s14, s15, s16⟩
          go_simp
          with_reducible rfl
         rotate_left
         ·
          simp only [fr_]
          rfl
         refine one_ (i := 5) (N := some 18) #[t_,t_,t_,t_,t_,t_,f_,f_,f_,f_,f_,f_,f_,f_,f_,f_,f_,f_,f_,f_,f_,f_,f_,f_,f_,f_,f_,f_,f_,f_,f_,f_,f_,f_,f_,f_,f_,f_,f_,f_,f_] rfl rfl (one_of HT_.out (by kernel_rfl)) (by decide) (fun K hK => ?_)
         refine goes_ Try.func104 (by kernel_rfl) rfl #[.agg #[.slice A664_0 ((rd_T44 l0_4 x5_1).f0).length c664_0, .int .i64 ((rd_T44 l0_4 x5_1).f1), .int .i64 ((rd_T44 l0_4 x5_1).f2), .string ((rd_T44 l0_4 x5_1).f3)]] (by rfl) rfl rfl (by (try simp only [mp_]); first | done | rfl | (simp only [List.length_drop, List.length_take]; rfl)) ?_
         with_reducible refine (spec_AlarmOk.calls k1 _ _ ((rd_T44 l0_4 x5_1).f0) ((rd_T44 l0_4 x5_1).f1) ((rd_T44 l0_4 x5_1).f2) ((rd_T44 l0_4 x5_1).f3) true _ ?side1 ?side2 A6.out).mono ?_
         (case side1 => repeat (first | exact (Kd.C_below HR664_0.out HB.out) | (with_reducible first | refine ca_ ?_ _ | refine cn_ ?_ _ | refine cd_ ?_)))
         (case side2 => exact HC664_0.out)
         rintro e w29 ⟨rfl, hb⟩
         refine ⟨_, rfl, ?_⟩
         have n0_ := Aside0.mk (blk_below (g := gb660) (o := .cells #[.int .i64 a0_0, .slice A0_1 l0_1.length c0_1, .int .i64 a0_2, .int .i64 a0_3, .slice (some ad664) l0_4.length c0_4] 75 (0, 0)) (by (with_reducible repeat (first | refine kn_ ?_ _ | refine kd_ ?_ | refine ka_ ?_ _)); exact BK660.out) hb)
         have n1_ := Aside0.mk (below_step (by repeat (first | (with_reducible first | exact HB.out | apply ba_ | apply bn_ | apply bd_ | refine below_set ?_ GE660.out) | exact HB.out)) hb)
         clear BK660
         clear HB
         have BK660 := n0_
         have HB := n1_
         clear n0_ n1_
         (try clear hb)
         (try clear hb2)
         (try clear hk)
         (try clear hi)
         refine hK.out _ _ ⟨(blk_cell BK660.out 0).trans rfl, (blk_cell BK660.out 1).trans rfl, (blk_cell BK660.out 2).trans rfl, (blk_cell BK660.out 3).trans rfl, (blk_cell BK660.out 4).trans rfl, ((HB.out.cell (World.block_lt_of_cell? w _ hw664_0)).trans hw664_0), ((HB.out.cell (World.block_lt_of_cell? w _ hw664_1)).trans hw664_1), ((HB.out.cell (World.block_lt_of_cell? w _ hw664_2)).trans hw664_2), ((HB.out.cell (World.block_lt_of_cell? w _ hw664_3)).trans hw664_3), ((HB.out.cell (World.block_lt_of_cell? w _ hw666_0)).trans hw666_0), ((HB.out.cell (World.block_lt_of_cell? w _ hw666_1)).trans hw666_1), ((HB.out.cell (World.block_lt_of_cell? w _ hw666_2)).trans hw666_2), ((HB.out.cell (World.block_lt_of_cell? w _ hw666_3)).trans hw666_3), ((HB.out.cell (World.block_lt_of_cell? w _ hw667_0)).trans hw667_0), ((HB.out.cell (World.block_lt_of_cell? w _ hw667_1)).trans hw667_1), ((HB.out.cell (World.block_lt_of_cell? w _ hw667_2)).trans hw667_2), ((HB.out.cell (World.block_lt_of_cell? w _ hw667_3)).trans hw667_3)⟩ (fun hHeld => ?_)
         clear hK K
         refine norm_ (a' := ?_) ?_ ?_
         rotate_left
         ·
          show Act.put _ (some 18) _ = _
          simp only [fr_]
          rfl
         refine pu_ 6 19 ?_ (b_ 7 34) rfl rfl HT_.out ?_ ?_ ?_ ?_; rotate_left; intro w'; go_simp; with_reducible rfl; rotate_left; simp only [fr_]; rfl
         refine pu_ 7 20 ?_ (b_ 8 33) rfl rfl HT_.out ?_ ?_ ?_ ?_; rotate_left; intro w'; go_simp; with_reducible rfl; rotate_left; simp only [fr_]; rfl
         refine pu_ 8 21 ?_ (b_ 9 32) rfl rfl HT_.out ?_ ?_ ?_ ?_; rotate_left; intro w'; go_simp; with_reducible rfl; rotate_left; simp only [fr_]; rfl
         refine pu_ 9 22 ?_ (b_ 10 31) rfl rfl HT_.out ?_ ?_ ?_ ?_; rotate_left; intro w'; go_simp; with_reducible rfl; rotate_left; simp only [fr_]; rfl
         refine pu_ 10 23 ?_ (b_ 11 30) rfl rfl HT_.out ?_ ?_ ?_ ?_; rotate_left; intro w'; go_simp; with_reducible rfl; rotate_left; simp only [fr_]; rfl
         refine pu_ 11 24 ?_ (b_ 12 29) rfl rfl HT_.out ?_ ?_ ?_ ?_; rotate_left; intro w'; go_simp; with_reducible rfl; rotate_left; simp only [fr_]; rfl
         refine pu_ 13 26 ?_ #[t_,t_,t_,t_,t_,t_,t_,t_,t_,t_,t_,t_,f_,t_,f_,f_,f_,f_,f_,f_,f_,f_,f_,f_,f_,f_,f_,f_,f_,f_,f_,f_,f_,f_,f_,f_,f_,f_,f_,f_,f_] rfl rfl HT_.out ?_ ?_ ?_ ?_; rotate_left; intro w'; go_simp; with_reducible rfl; rotate_left; simp only [fr_]; rfl
         refine pu_ 14 27 ?_ #[t_,t_,t_,t_,t_,t_,t_,t_,t_,t_,t_,t_,f_,t_,t_,f_,f_,f_,f_,f_,f_,f_,f_,f_,f_,f_,f_,f_,f_,f_,f_,f_,f_,f_,f_,f_,f_,f_,f_,f_,f_] rfl rfl HT_.out ?_ ?_ ?_ ?_; rotate_left; intro w'; go_simp; with_reducible rfl; rotate_left; simp only [fr_]; rfl
         refine pu_ 18 31 ?_ #[t_,t_,t_,t_,t_,t_,t_,t_,t_,t_,t_,t_,f_,t_,t_,f_,f_,f_,t_,f_,f_,f_,f_,f_,f_,f_,f_,f_,f_,f_,f_,f_,f_,f_,f_,f_,f_,f_,f_,f_,f_] rfl rfl HT_.out ?_ ?_ ?_ ?_; rotate_left; intro w'; go_simp; with_reducible rfl; rotate_left; simp only [fr_]; rfl
         refine pu_ 20 33 ?_ #[t_,t_,t_,t_,t_,t_,t_,t_,t_,t_,t_,t_,f_,t_,t_,f_,f_,f_,t_,f_,t_,f_,f_,f_,f_,f_,f_,f_,f_,f_,f_,f_,f_,f_,f_,f_,f_,f_,f_,f_,f_] rfl rfl HT_.out ?_ ?_ ?_ ?_; rotate_left; intro w'; go_simp; with_reducible rfl; rotate_left; simp only [fr_]; rfl
         refine take_ (i := 12) (N := some 25) (v := ?_) (a' := ?_) #[t_,t_,t_,t_,t_,t_,t_,t_,t_,t_,t_,t_,t_,t_,t_,f_,f_,f_,t_,f_,t_,f_,f_,f_,f_,f_,f_,f_,f_,f_,f_,f_,f_,f_,f_,f_,f_,f_,f_,f_,f_] rfl rfl (take_ofW HT_.out HW_.out (by kernel_rfl)) (fun _ _ _ h => h) (Or.inl ⟨by rfl, ?_⟩) hHeld ?_ ?_
         rotate_left
         ·
          rintro w' ⟨s0, s1, s2, s3, s4, s5, s6, s7, s8, s9, s10, s11, s12, s13, s14, s15, s16⟩
          go_simp
          with_reducible rfl
         rotate_left
         ·
          simp only [fr_]
          rfl
         refine pu_ 15 28 ?_ #[t_,t_,t_,t_,t_,t_,t_,t_,t_,t_,t_,t_,t_,t_,t_,t_,f_,f_,t_,f_,t_,f_,f_,f_,f_,f_,f_,f_,f_,f_,f_,f_,f_,f_,f_,f_,f_,f_,f_,f_,f_] rfl rfl HT_.out ?_ ?_ ?_ ?_; rotate_left; intro w'; go_simp; with_reducible rfl; rotate_left; simp only [fr_]; rfl
         refine pu_ 16 29 ?_ #[t_,t_,t_,t_,t_,t_,t_,t_,t_,t_,t_,t_,t_,t_,t_,t_,t_,f_,t_,f_,t_,f_,f_,f_,f_,f_,f_,f_,f_,f_,f_,f_,f_,f_,f_,f_,f_,f_,f_,f_,f_] rfl rfl HT_.out ?_ ?_ ?_ ?_; rotate_left; intro w'; go_simp; with_reducible rfl; rotate_left; simp only [fr_]; rfl
         refine take_ (i := 17) (N := some 30) (v := ?_) (a' := ?_) #[t_,t_,t_,t_,t_,t_,t_,t_,t_,t_,t_,t_,t_,t_,t_,t_,t_,t_,t_,f_,t_,f_,f_,f_,f_,f_,f_,f_,f_,f_,f_,f_,f_,f_,f_,f_,f_,f_,f_,f_,f_] rfl rfl (take_ofW HT_.out HW_.out (by kernel_rfl)) (fun _ _ _ h => h) (Or.inl ⟨by rfl, ?_⟩) hHeld ?_ ?_
         rotate_left
         ·
          rintro w' ⟨s0, s1, s2, s3, s4, s5, s6, s7, s8, s9, s10, s11, s12, s13, s14, s15, s16⟩
          go_simp
          with_reducible rfl
         rotate_left
         ·
          simp only [fr_]
          rfl
         refine take_ (i := 19) (N := some 32) (v := ?_) (a' := ?_) #[t_,t_,t_,t_,t_,t_,t_,t_,t_,t_,t_,t_,t_,t_,t_,t_,t_,t_,t_,t_,t_,f_,f_,f_,f_,f_,f_,f_,f_,f_,f_,f_,f_,f_,f_,f_,f_,f_,f_,f_,f_] rfl rfl (take_ofW HT_.out HW_.out (by kernel_rfl)) (fun _ _ _ h => h) (Or.inl ⟨by rfl, ?_⟩) hHeld ?_ ?_
         rotate_left
         ·
          rintro w' ⟨s0, s1, s2, s3, s4, s5, s6, s7, s8, s9, s10, s11, s12, s13, s14, s15, s16⟩
          go_simp
          with_reducible rfl
         rotate_left
         ·
          simp only [fr_]
          rfl
         refine pu_ 21 34 ?_ (b_ 22 19) rfl rfl HT_.out ?_ ?_ ?_ ?_; rotate_left; intro w'; go_simp; with_reducible rfl; rotate_left; simp only [fr_]; rfl
         refine pu_ 22 35 ?_ (b_ 23 18) rfl rfl HT_.out ?_ ?_ ?_ ?_; rotate_left; intro w'; go_simp; with_reducible rfl; rotate_left; simp only [fr_]; rfl
         refine take_ (i := 23) (N := some 36) (v := ?_) (a' := ?_) #[t_,t_,t_,t_,t_,t_,t_,t_,t_,t_,t_,t_,t_,t_,t_,t_,t_,t_,t_,t_,t_,t_,t_,t_,f_,f_,f_,f_,f_,f_,f_,f_,f_,f_,f_,f_,f_,f_,f_,f_,f_] rfl rfl (take_ofW HT_.out HW_.out (by kernel_rfl)) (fun _ _ _ h => h) (Or.inl ⟨by rfl, ?_⟩) hHeld ?_ ?_
         rotate_left
         ·
          rintro w' ⟨s0, s1, s2, s3, s4, s5, s6, s7, s8, s9, s10, s11, s12, s13, s14, s15, s16⟩
          go_simp
          with_reducible rfl
         rotate_left
         ·
          simp only [fr_]
          rfl
         refine one_ (i := 24) (N := some 37) #[t_,t_,t_,t_,t_,t_,t_,t_,t_,t_,t_,t_,t_,t_,t_,t_,t_,t_,t_,t_,t_,t_,t_,t_,t_,f_,f_,f_,f_,f_,f_,f_,f_,f_,f_,f_,f_,f_,f_,f_,f_] rfl rfl (one_of HT_.out (by kernel_rfl)) (by decide) (fun K hK => ?_)
         refine goes_ Try.func105 (by kernel_rfl) rfl #[.slice A666_0 ((rd_T44 l0_4 (ji9)).f0).length c666_0, .slice A664_0 ((rd_T44 l0_4 x5_1).f0).length c664_0] (by rfl) rfl rfl (by (try simp only [mp_]); first | done | (simp only [hji9]; rfl) | rfl | (simp only [List.length_drop, List.length_take]; rfl)) ?_
         with_reducible refine (spec_SetLess.calls k1 _ _ ((rd_T44 l0_4 (ji9)).f0) _ _ ((rd_T44 l0_4 x5_1).f0) false _ ?side1 ?side2 ?side3 ?side4 A12.out).mono ?_
         (case side1 => repeat (first | exact (Kd.C_below HR666_0.out HB.out) | (with_reducible first | refine ca_ ?_ _ | refine cn_ ?_ _ | refine cd_ ?_)))
         (case side2 => exact HC666_0.out)
         (case side3 => repeat (first | exact (Kd.C_below HR667_0.out HB.out) | (with_reducible first | refine ca_ ?_ _ | refine cn_ ?_ _ | refine cd_ ?_)))
         (case side4 => exact HC667_0.out)
         rintro e w' ⟨rfl, ⟨nd, rfl⟩⟩
         refine ⟨_, rfl, ?_⟩
         refine hK.out _ _ ⟨(blk_cell BK660.out 0).trans rfl, (blk_cell BK660.out 1).trans rfl, (blk_cell BK660.out 2).trans rfl, (blk_cell BK660.out 3).trans rfl, (blk_cell BK660.out 4).trans rfl, ((HB.out.cell (World.block_lt_of_cell? w _ hw664_0)).trans hw664_0), ((HB.out.cell (World.block_lt_of_cell? w _ hw664_1)).trans hw664_1), ((HB.out.cell (World.block_lt_of_cell? w _ hw664_2)).trans hw664_2), ((HB.out.cell (World.block_lt_of_cell? w _ hw664_3)).trans hw664_3), ((HB.out.cell (World.block_lt_of_cell? w _ hw666_0)).trans hw666_0), ((HB.out.cell (World.block_lt_of_cell? w _ hw666_1)).trans hw666_1), ((HB.out.cell (World.block_lt_of_cell? w _ hw666_2)).trans hw666_2), ((HB.out.cell (World.block_lt_of_cell? w _ hw666_3)).trans hw666_3), ((HB.out.cell (World.block_lt_of_cell? w _ hw667_0)).trans hw667_0), ((HB.out.cell (World.block_lt_of_cell? w _ hw667_1)).trans hw667_1), ((HB.out.cell (World.block_lt_of_cell? w _ hw667_2)).trans hw667_2), ((HB.out.cell (World.block_lt_of_cell? w _ hw667_3)).trans hw667_3)⟩ (fun hHeld => ?_)
         clear hK K
         refine norm_ (a' := ?_) ?_ ?_
         rotate_left
         ·
          show Act.put _ (some 37) _ = _
          simp only [fr_]
          rfl
         refine pu_ 25 38 ?_ (b_ 26 15) rfl rfl HT_.out ?_ ?_ ?_ ?_; rotate_left; intro w'; go_simp; with_reducible rfl; rotate_left; simp only [fr_]; rfl
         refine pu_ 26 39 ?_ (b_ 27 14) rfl rfl HT_.out ?_ ?_ ?_ ?_; rotate_left; intro w'; go_simp; with_reducible rfl; rotate_left; simp only [fr_]; rfl
         refine pu_ 27 40 ?_ (b_ 28 13) rfl rfl HT_.out ?_ ?_ ?_ ?_; rotate_left; intro w'; go_simp; with_reducible rfl; rotate_left; simp only [fr_]; rfl
         refine pu_ 28 41 ?_ (b_ 29 12) rfl rfl HT_.out ?_ ?_ ?_ ?_; rotate_left; intro w'; go_simp; with_reducible rfl; rotate_left; simp only [fr_]; rfl
         refine pv_ 29 42 ?_ (b_ 30 11) rfl rfl HT_.out ?_ ?_; rotate_left; simp only [fr_]; rfl
         refine pv_ 30 43 ?_ (b_ 31 10) rfl rfl HT_.out ?_ ?_; rotate_left; simp only [fr_]; rfl
         refine pv_ 31 44 ?_ (b_ 32 9) rfl rfl HT_.out ?_ ?_; rotate_left; simp only [fr_]; rfl
         refine pv_ 32 45 ?_ (b_ 33 8) rfl rfl HT_.out ?_ ?_; rotate_left; simp only [fr_]; rfl
         refine pv_ 33 46 ?_ (b_ 34 7) rfl rfl HT_.out ?_ ?_; rotate_left; simp only [fr_]; rfl
         refine pv_ 34 47 ?_ (b_ 35 6) rfl rfl HT_.out ?_ ?_; rotate_left; simp only [fr_]; rfl
         refine pv_ 35 48 ?_ (b_ 36 5) rfl rfl HT_.out ?_ ?_; rotate_left; simp only [fr_]; rfl
         refine pv_ 36 49 ?_ (b_ 37 4) rfl rfl HT_.out ?_ ?_; rotate_left; simp only [fr_]; rfl
         refine pv_ 37 50 ?_ (b_ 38 3) rfl rfl HT_.out ?_ ?_; rotate_left; simp only [fr_]; rfl
         refine pv_ 38 51 ?_ (b_ 39 2) rfl rfl HT_.out ?_ ?_; rotate_left; simp only [fr_]; rfl
         refine pv_ 39 52 ?_ (b_ 40 1) rfl rfl HT_.out ?_ ?_; rotate_left; simp only [fr_]; rfl
         refine pu_ 40 53 ?_ (b_ 41 0) rfl rfl HT_.out ?_ ?_ ?_ ?_; rotate_left; intro w'; go_simp; with_reducible rfl; rotate_left; simp only [fr_]; rfl
         refine done_ (done_of HT_.out (by kernel_rfl)) ?_
         try go_wp2
         go_ret
         exact ⟨by first | rfl | (simp [errW_none, errW_some] <;> rfl) | (simp only [← hji9]; first | rfl | (simp [errW_none, errW_some] <;> rfl)) | (simp [*, errW_none, errW_some] <;> rfl), by repeat (first | (with_reducible first | exact HB.out | apply ba_ | apply bn_ | apply bd_ | refine below_set ?_ GE660.out) | exact HB.out)⟩
        rw [if_neg c11] at H
        exact absurd H (by simp)
       rw [if_neg c10] at H
       exact absurd H (by simp)
      rw [if_neg c8] at H
      have c8b0 : decide (0 < x5_1) = false := decide_eq_false c8
      clear c8
      replace H := Option.bind_eq_some_iff.mp H
      obtain ⟨t675, A300, H⟩ := H
      have A30 := Aside0.mk A300
      clear A300
      replace H := Option.bind_eq_some_iff.mp H
      obtain ⟨t678, A310, H⟩ := H
      have A31 := Aside0.mk A310
      clear A310
      by_cases c32 : t678 = true
      ·
       subst c32
       rw [if_pos rfl] at H
       have H' := Aside0.mk H
       clear H
       have hcz33_0 : wr.cell? ⟨gb660, 0, none⟩ = some (.int .i64 a0_0) := (blk_cell BK660.out 0).trans rfl
       have hcz33_1 : wr.cell? ⟨gb660, 1, none⟩ = some (.slice A0_1 l0_1.length c0_1) := (blk_cell BK660.out 1).trans rfl
       have hcz33_2 : wr.cell? ⟨gb660, 2, none⟩ = some (.int .i64 a0_2) := (blk_cell BK660.out 2).trans rfl
       have hcz33_3 : wr.cell? ⟨gb660, 3, none⟩ = some (.int .i64 a0_3) := (blk_cell BK660.out 3).trans rfl
       have hcz33_4 : wr.cell? ⟨gb660, 4, none⟩ = some (.slice A0_4 l0_4.length c0_4) := (blk_cell BK660.out 4).trans rfl
       have hfz33_0 := blk_frozen BK660.out 0
       have hfz33_1 := blk_frozen BK660.out 1
       have hfz33_2 := blk_frozen BK660.out 2
       have hfz33_3 := blk_frozen BK660.out 3
       have hfz33_4 := blk_frozen BK660.out 4
       try go_wp2
       have n0_ := Aside0.mk (blk_drew BK660.out)
       have n1_ := Aside0.mk (bd_ HB.out)
       clear BK660
       clear HB
       have BK660 := n0_
       have HB := n1_
       clear n0_ n1_
       have p664 : 0 ≤ (x5_1 : Int) := of_decide_eq_true (by with_reducible assumption)
       have q664 : x5_1 < (l0_4.length : Int) := of_decide_eq_true (by with_reducible assumption)
       obtain ⟨ad664, A664_0, c664_0, e664, hx664_0, hx664_1, hx664_2, hx664_3, hl664_0, hi664_0⟩ := at_T44 HR0_4.out x5_1 p664 q664
       have hw664_3 := hx664_3
       have hw664_2 := hx664_2
       have hw664_1 := hx664_1
       have hw664_0 := hx664_0
       cases e664
       replace hx664_0 := cl_ HB.out hx664_0
       replace hx664_1 := cl_ HB.out hx664_1
       replace hx664_2 := cl_ HB.out hx664_2
       replace hx664_3 := cl_ HB.out hx664_3
       have HR664_0 := Aside0.mk hi664_0
       have HC664_0 := Aside0.mk hl664_0
       clear hi664_0 hl664_0
       replace p664 := eq_true p664
       replace q664 := eq_true q664
       have p674 : 0 ≤ (x5_1 : Int) := of_decide_eq_true (by with_reducible assumption)
       have q674 : x5_1 < (l0_4.length : Int) := of_decide_eq_true (by with_reducible assumption)
       obtain ⟨ad674, A674_0, c674_0, e674, hx674_0, hx674_1, hx674_2, hx674_3, hl674_0, hi674_0⟩ := at_T44 HR0_4.out x5_1 p674 q674
       have hw674_3 := hx674_3
       have hw674_2 := hx674_2
       have hw674_1 := hx674_1
       have hw674_0 := hx674_0
       obtain rfl : ad664 = ad674 := (by injection e674)
       replace hx674_0 := cl_ HB.out hx674_0
       replace hx674_1 := cl_ HB.out hx674_1
       replace hx674_2 := cl_ HB.out hx674_2
       replace hx674_3 := cl_ HB.out hx674_3
       have HR674_0 := Aside0.mk hi674_0
       have HC674_0 := Aside0.mk hl674_0
       clear hi674_0 hl674_0
       replace p674 := eq_true p674
       replace q674 := eq_true q674
       have ea_ := Option.some.inj (hx664_0.symm.trans hx674_0)
       injection ea_ with ea_ en_ ec_
       subst ea_
       subst ec_
       clear en_
       refine start_ (n := 41) (S := fun w' => w'.cell? ⟨gb660, 0, none⟩ = some (.int .i64 a0_0) ∧ w'.cell? ⟨gb660, 1, none⟩ = some (.slice A0_1 l0_1.length c0_1) ∧ w'.cell? ⟨gb660, 2, none⟩ = some (.int .i64 a0_2) ∧ w'.cell? ⟨gb660, 3, none⟩ = some (.int .i64 a0_3) ∧ w'.cell? ⟨gb660, 4, none⟩ = some (.slice (some ad664) l0_4.length c0_4) ∧ w'.cell? (ad664.add ((x5_1).toNat * 4)) = some (.slice A664_0 ((rd_T44 l0_4 x5_1).f0).length c664_0) ∧ w'.cell? ⟨(ad664.add ((x5_1).toNat * 4)).block, (ad664.add ((x5_1).toNat * 4)).off + 1, none⟩ = some (.int .i64 ((rd_T44 l0_4 x5_1).f1)) ∧ w'.cell? ⟨(ad664.add ((x5_1).toNat * 4)).block, (ad664.add ((x5_1).toNat * 4)).off + 2, none⟩ = some (.int .i64 ((rd_T44 l0_4 x5_1).f2)) ∧ w'.cell? ⟨(ad664.add ((x5_1).toNat * 4)).block, (ad664.add ((x5_1).toNat * 4)).off + 3, none⟩ = some (.string ((rd_T44 l0_4 x5_1).f3)) ∧ w'.cell? (ad664.add ((x5_1).toNat * 4)) = some (.slice A664_0 ((rd_T44 l0_4 x5_1).f0).length c664_0) ∧ w'.cell? ⟨(ad664.add ((x5_1).toNat * 4)).block, (ad664.add ((x5_1).toNat * 4)).off + 1, none⟩ = some (.int .i64 ((rd_T44 l0_4 x5_1).f1)) ∧ w'.cell? ⟨(ad664.add ((x5_1).toNat * 4)).block, (ad664.add ((x5_1).toNat * 4)).off + 2, none⟩ = some (.int .i64 ((rd_T44 l0_4 x5_1).f2)) ∧ w'.cell? ⟨(ad664.add ((x5_1).toNat * 4)).block, (ad664.add ((x5_1).toNat * 4)).off + 3, none⟩ = some (.string ((rd_T44 l0_4 x5_1).f3))) (ds := []) #[f_,f_,f_,f_,f_,f_,f_,f_,f_,f_,f_,f_,f_,f_,f_,f_,f_,f_,f_,f_,f_,f_,f_,f_,f_,f_,f_,f_,f_,f_,f_,f_,f_,f_,f_,f_,f_,f_,f_,f_,f_] (by kernel_rfl) rfl rfl ⟨(blk_cell BK660.out 0).trans rfl, (blk_cell BK660.out 1).trans rfl, (blk_cell BK660.out 2).trans rfl, (blk_cell BK660.out 3).trans rfl, (blk_cell BK660.out 4).trans rfl, ((HB.out.cell (World.block_lt_of_cell? w _ hw664_0)).trans hw664_0), ((HB.out.cell (World.block_lt_of_cell? w _ hw664_1)).trans hw664_1), ((HB.out.cell (World.block_lt_of_cell? w _ hw664_2)).trans hw664_2), ((HB.out.cell (World.block_lt_of_cell? w _ hw664_3)).trans hw664_3), ((HB.out.cell (World.block_lt_of_cell? w _ hw674_0)).trans hw674_0), ((HB.out.cell (World.block_lt_of_cell? w _ hw674_1)).trans hw674_1), ((HB.out.cell (World.block_lt_of_cell? w _ hw674_2)).trans hw674_2), ((HB.out.cell (World.block_lt_of_cell? w _ hw674_3)).trans hw674_3)⟩ (fun hHeld => ?_); refine with_tabW spec_GroupOk.tab4 spec_GroupOk.bits4 (fun HT_ HW_ => ?_)
       generalize wr.drew = w34 at BK660 HB HR664_0 HR674_0 hx664_0 hx664_1 hx664_2 hx664_3 hx674_0 hx674_1 hx674_2 hx674_3 hHeld ⊢
       refine pu_ 0 13 ?_ (b_ 1 40) rfl rfl HT_.out ?_ ?_ ?_ ?_; rotate_left; intro w'; go_simp; with_reducible rfl; rotate_left; simp only [fr_]; rfl
       refine pu_ 2 15 ?_ #[t_,f_,t_,f_,f_,f_,f_,f_,f_,f_,f_,f_,f_,f_,f_,f_,f_,f_,f_,f_,f_,f_,f_,f_,f_,f_,f_,f_,f_,f_,f_,f_,f_,f_,f_,f_,f_,f_,f_,f_,f_] rfl rfl HT_.out ?_ ?_ ?_ ?_; rotate_left; intro w'; go_simp; with_reducible rfl; rotate_left; simp only [fr_]; rfl
       refine take_ (i := 1) (N := some 14) (v := ?_) (a' := ?_) #[t_,t_,t_,f_,f_,f_,f_,f_,f_,f_,f_,f_,f_,f_,f_,f_,f_,f_,f_,f_,f_,f_,f_,f_,f_,f_,f_,f_,f_,f_,f_,f_,f_,f_,f_,f_,f_,f_,f_,f_,f_] rfl rfl (take_ofW HT_.out HW_.out (by kernel_rfl)) (fun _ _ _ h => h) (Or.inl ⟨by rfl, ?_⟩) hHeld ?_ ?_
       rotate_left
       ·
        rintro w' ⟨s0, s1, s2, s3, s4, s5, s6, s7, s8, s9, s10, s11, s12⟩
        go_simp
        with_reducible rfl
       rotate_left
       ·
        simp only [fr_]
        rfl
       refine pu_ 3 16 ?_ (b_ 4 37) rfl rfl HT_.out ?_ ?_ ?_ ?_; rotate_left; intro w'; go_simp; with_reducible rfl; rotate_left; simp only [fr_]; rfl
       refine take_ (i := 4) (N := some 17) (v := ?_) (a' := ?_) #[t_,t_,t_,t_,t_,f_,f_,f_,f_,f_,f_,f_,f_,f_,f_,f_,f_,f_,f_,f_,f_,f_,f_,f_,f_,f_,f_,f_,f_,f_,f_,f_,f_,f_,f_,f_,f_,f_,f_,f_,f_] rfl rfl (take_ofW HT_.out HW_.out (by kernel_rfl)) (fun _ _ _ h => h) (Or.inl ⟨by rfl, ?_⟩) hHeld ?_ ?_
       rotate_left
       ·
        rintro w' ⟨s0, s1, s2, s3, s4, s5, s6, s7, s8, s9, s10, s11, s12⟩
        go_simp
        with_reducible rfl
       rotate_left
       ·
        simp only [fr_]
        rfl
       refine one_ (i := 5) (N := some 18) #[t_,t_,t_,t_,t_,t_,f_,f_,f_,f_,f_,f_,f_,f_,f_,f_,f_,f_,f_,f_,f_,f_,f_,f_,f_,f_,f_,f_,f_,f_,f_,f_,f_,f_,f_,f_,f_,f_,f_,f_,f_] rfl rfl (one_of HT_.out (by kernel_rfl)) (by decide) (fun K hK => ?_)
       refine goes_ Try.func104 (by kernel_rfl) rfl #[.agg #[.slice A664_0 ((rd_T44 l0_4 x5_1).f0).length c664_0, .int .i64 ((rd_T44 l0_4 x5_1).f1), .int .i64 ((rd_T44 l0_4 x5_1).f2), .string ((rd_T44 l0_4 x5_1).f3)]] (by rfl) rfl rfl (by (try simp only [mp_]); first | done | rfl | (simp only [List.length_drop, List.length_take]; rfl)) ?_
       with_reducible refine (spec_AlarmOk.calls k1 _ _ ((rd_T44 l0_4 x5_1).f0) ((rd_T44 l0_4 x5_1).f1) ((rd_T44 l0_4 x5_1).f2) ((rd_T44 l0_4 x5_1).f3) true _ ?side1 ?side2 A6.out).mono ?_
       (case side1 => repeat (first | exact (Kd.C_below HR664_0.out HB.out) | (with_reducible first | refine ca_ ?_ _ | refine cn_ ?_ _ | refine cd_ ?_)))
       (case side2 => exact HC664_0.out)
       rintro e w35 ⟨rfl, hb⟩
       refine ⟨_, rfl, ?_⟩
       have n0_ := Aside0.mk (blk_below (g := gb660) (o := .cells #[.int .i64 a0_0, .slice A0_1 l0_1.length c0_1, .int .i64 a0_2, .int .i64 a0_3, .slice (some ad664) l0_4.length c0_4] 75 (0, 0)) (by (with_reducible repeat (first | refine kn_ ?_ _ | refine kd_ ?_ | refine ka_ ?_ _)); exact BK660.out) hb)
       have n1_ := Aside0.mk (below_step (by repeat (first | (with_reducible first | exact HB.out | apply ba_ | apply bn_ | apply bd_ | refine below_set ?_ GE660.out) | exact HB.out)) hb)
       clear BK660
       clear HB
       have BK660 := n0_
       have HB := n1_
       clear n0_ n1_
       (try clear hb)
       (try clear hb2)
       (try clear hk)
       (try clear hi)
       refine hK.out _ _ ⟨(blk_cell BK660.out 0).trans rfl, (blk_cell BK660.out 1).trans rfl, (blk_cell BK660.out 2).trans rfl, (blk_cell BK660.out 3).trans rfl, (blk_cell BK660.out 4).trans rfl, ((HB.out.cell (World.block_lt_of_cell? w _ hw664_0)).trans hw664_0), ((HB.out.cell (World.block_lt_of_cell? w _ hw664_1)).trans hw664_1), ((HB.out.cell (World.block_lt_of_cell? w _ hw664_2)).trans hw664_2), ((HB.out.cell (World.block_lt_of_cell? w _ hw664_3)).trans hw664_3), ((HB.out.cell (World.block_lt_of_cell? w _ hw674_0)).trans hw674_0), ((HB.out.cell (World.block_lt_of_cell? w _ hw674_1)).trans hw674_1), ((HB.out.cell (World.block_lt_of_cell? w _ hw674_2)).trans hw674_2), ((HB.out.cell (World.block_lt_of_cell? w _ hw674_3)).trans hw674_3)⟩ (fun hHeld => ?_)
       clear hK K
       refine norm_ (a' := ?_) ?_ ?_
       rotate_left
       ·
        show Act.put _ (some 18) _ = _
        simp only [fr_]
        rfl
       refine pu_ 6 19 ?_ (b_ 7 34) rfl rfl HT_.out ?_ ?_ ?_ ?_; rotate_left; intro w'; go_simp; with_reducible rfl; rotate_left; simp only [fr_]; rfl
       refine pu_ 7 20 ?_ (b_ 8 33) rfl rfl HT_.out ?_ ?_ ?_ ?_; rotate_left; intro w'; go_simp; with_reducible rfl; rotate_left; simp only [fr_]; rfl
       refine pu_ 8 21 ?_ (b_ 9 32) rfl rfl HT_.out ?_ ?_ ?_ ?_; rotate_left; intro w'; go_simp; with_reducible rfl; rotate_left; simp only [fr_]; rfl
       refine pu_ 9 22 ?_ (b_ 10 31) rfl rfl HT_.out ?_ ?_ ?_ ?_; rotate_left; intro w'; go_simp; with_reducible rfl; rotate_left; simp only [fr_]; rfl
       refine pu_ 10 23 ?_ (b_ 11 30) rfl rfl HT_.out ?_ ?_ ?_ ?_; rotate_left; intro w'; go_simp; with_reducible rfl; rotate_left; simp only [fr_]; rfl
       refine pv_ 11 24 ?_ (b_ 12 29) rfl rfl HT_.out ?_ ?_; rotate_left; simp only [fr_]; rfl
       refine pv_ 12 25 ?_ (b_ 13 28) rfl rfl HT_.out ?_ ?_; rotate_left; simp only [fr_]; rfl
       refine pv_ 13 26 ?_ (b_ 14 27) rfl rfl HT_.out ?_ ?_; rotate_left; simp only [fr_]; rfl
       refine pv_ 14 27 ?_ (b_ 15 26) rfl rfl HT_.out ?_ ?_; rotate_left; simp only [fr_]; rfl
       refine pv_ 15 28 ?_ (b_ 16 25) rfl rfl HT_.out ?_ ?_; rotate_left; simp only [fr_]; rfl
       refine pv_ 16 29 ?_ (b_ 17 24) rfl rfl HT_.out ?_ ?_; rotate_left; simp only [fr_]; rfl
       refine pv_ 17 30 ?_ (b_ 18 23) rfl rfl HT_.out ?_ ?_; rotate_left; simp only [fr_]; rfl
       refine pv_ 18 31 ?_ (b_ 19 22) rfl rfl HT_.out ?_ ?_; rotate_left; simp only [fr_]; rfl
       refine pv_ 19 32 ?_ (b_ 20 21) rfl rfl HT_.out ?_ ?_; rotate_left; simp only [fr_]; rfl
       refine pv_ 20 33 ?_ (b_ 21 20) rfl rfl HT_.out ?_ ?_; rotate_left; simp only [fr_]; rfl
       refine pv_ 21 34 ?_ (b_ 22 19) rfl rfl HT_.out ?_ ?_; rotate_left; simp only [fr_]; rfl
       refine pv_ 22 35 ?_ (b_ 23 18) rfl rfl HT_.out ?_ ?_; rotate_left; simp only [fr_]; rfl
       refine pv_ 23 36 ?_ (b_ 24 17) rfl rfl HT_.out ?_ ?_; rotate_left; simp only [fr_]; rfl
       refine pv_ 24 37 ?_ (b_ 25 16) rfl rfl HT_.out ?_ ?_; rotate_left; simp only [fr_]; rfl
       refine pv_ 25 38 ?_ (b_ 26 15) rfl rfl HT_.out ?_ ?_; rotate_left; simp only [fr_]; rfl
       refine pu_ 26 39 ?_ (b_ 27 14) rfl rfl HT_.out ?_ ?_ ?_ ?_; rotate_left; intro w'; go_simp; with_reducible rfl; rotate_left; simp only [fr_]; rfl
       refine pu_ 27 40 ?_ (b_ 28 13) rfl rfl HT_.out ?_ ?_ ?_ ?_; rotate_left; intro w'; go_simp; with_reducible rfl; rotate_left; simp only [fr_]; rfl
       refine pu_ 28 41 ?_ (b_ 29 12) rfl rfl HT_.out ?_ ?_ ?_ ?_; rotate_left; intro w'; go_simp; with_reducible rfl; rotate_left; simp only [fr_]; rfl
       refine pu_ 29 42 ?_ (b_ 30 11) rfl rfl HT_.out ?_ ?_ ?_ ?_; rotate_left; intro w'; go_simp; with_reducible rfl; rotate_left; simp only [fr_]; rfl
       refine pu_ 31 44 ?_ #[t_,t_,t_,t_,t_,t_,t_,t_,t_,t_,t_,t_,t_,t_,t_,t_,t_,t_,t_,t_,t_,t_,t_,t_,t_,t_,t_,t_,t_,t_,f_,t_,f_,f_,f_,f_,f_,f_,f_,f_,f_] rfl rfl HT_.out ?_ ?_ ?_ ?_; rotate_left; intro w'; go_simp; with_reducible rfl; rotate_left; simp only [fr_]; rfl
       refine pu_ 34 47 ?_ #[t_,t_,t_,t_,t_,t_,t_,t_,t_,t_,t_,t_,t_,t_,t_,t_,t_,t_,t_,t_,t_,t_,t_,t_,t_,t_,t_,t_,t_,t_,f_,t_,f_,f_,t_,f_,f_,f_,f_,f_,f_] rfl rfl HT_.out ?_ ?_ ?_ ?_; rotate_left; intro w'; go_simp; with_reducible rfl; rotate_left; simp only [fr_]; rfl
       refine pu_ 36 49 ?_ #[t_,t_,t_,t_,t_,t_,t_,t_,t_,t_,t_,t_,t_,t_,t_,t_,t_,t_,t_,t_,t_,t_,t_,t_,t_,t_,t_,t_,t_,t_,f_,t_,f_,f_,t_,f_,t_,f_,f_,f_,f_] rfl rfl HT_.out ?_ ?_ ?_ ?_; rotate_left; intro w'; go_simp; with_reducible rfl; rotate_left; simp only [fr_]; rfl
       refine take_ (i := 30) (N := some 43) (v := ?_) (a' := ?_) #[t_,t_,t_,t_,t_,t_,t_,t_,t_,t_,t_,t_,t_,t_,t_,t_,t_,t_,t_,t_,t_,t_,t_,t_,t_,t_,t_,t_,t_,t_,t_,t_,f_,f_,t_,f_,t_,f_,f_,f_,f_] rfl rfl (take_ofW HT_.out HW_.out (by kernel_rfl)) (fun _ _ _ h => h) (Or.inl ⟨by rfl, ?_⟩) hHeld ?_ ?_
       rotate_left
       ·
        rintro w' ⟨s0, s1, s2, s3, s4, s5, s6, s7, s8, s9, s10, s11, s12⟩
        go_simp
        with_reducible rfl
       rotate_left
       ·
        simp only [fr_]
        rfl
       refine pu_ 32 45 ?_ #[t_,t_,t_,t_,t_,t_,t_,t_,t_,t_,t_,t_,t_,t_,t_,t_,t_,t_,t_,t_,t_,t_,t_,t_,t_,t_,t_,t_,t_,t_,t_,t_,t_,f_,t_,f_,t_,f_,f_,f_,f_] rfl rfl HT_.out ?_ ?_ ?_ ?_; rotate_left; intro w'; go_simp; with_reducible rfl; rotate_left; simp only [fr_]; rfl
       refine take_ (i := 33) (N := some 46) (v := ?_) (a' := ?_) #[t_,t_,t_,t_,t_,t_,t_,t_,t_,t_,t_,t_,t_,t_,t_,t_,t_,t_,t_,t_,t_,t_,t_,t_,t_,t_,t_,t_,t_,t_,t_,t_,t_,t_,t_,f_,t_,f_,f_,f_,f_] rfl rfl (take_ofW HT_.out HW_.out (by kernel_rfl)) (fun _ _ _ h => h) (Or.inl ⟨by rfl, ?_⟩) hHeld ?_ ?_
       rotate_left
       ·
        rintro w' ⟨s0, s1, s2, s3, s4, s5, s6, s7, s8, s9, s10, s11, s12⟩
        go_simp
        with_reducible rfl
       rotate_left
       ·
        simp only [fr_]
        rfl
       refine take_ (i := 37) (N := some 50) (v := ?_) (a' := ?_) #[t_,t_,t_,t_,t_,t_,t_,t_,t_,t_,t_,t_,t_,t_,t_,t_,t_,t_,t_,t_,t_,t_,t_,t_,t_,t_,t_,t_,t_,t_,t_,t_,t_,t_,t_,f_,t_,t_,f_,f_,f_] rfl rfl (take_ofW HT_.out HW_.out (by kernel_rfl)) (fun _ _ _ h => h) (Or.inl ⟨by rfl, ?_⟩) hHeld ?_ ?_
       rotate_left
       ·
        rintro w' ⟨s0, s1, s2, s3, s4, s5, s6, s7, s8, s9, s10, s11, s12⟩
        go_simp
        with_reducible rfl
       rotate_left
       ·
        simp only [fr_]
        rfl
       refine one_ (i := 35) (N := some 48) #[t_,t_,t_,t_,t_,t_,t_,t_,t_,t_,t_,t_,t_,t_,t_,t_,t_,t_,t_,t_,t_,t_,t_,t_,t_,t_,t_,t_,t_,t_,t_,t_,t_,t_,t_,t_,t_,t_,f_,f_,f_] rfl rfl (one_of HT_.out (by kernel_rfl)) (by decide) (fun K hK => ?_)
       refine goes_ Try.func107 (by kernel_rfl) rfl #[.agg #[.slice A664_0 ((rd_T44 l0_4 x5_1).f0).length c664_0, .int .i64 ((rd_T44 l0_4 x5_1).f1), .int .i64 ((rd_T44 l0_4 x5_1).f2), .string ((rd_T44 l0_4 x5_1).f3)], .slice A1 l1.length c1] (by rfl) rfl rfl (by (try simp only [mp_]); first | done | rfl | (simp only [List.length_drop, List.length_take]; rfl)) ?_
       with_reducible refine (spec_KeyOf.calls k1 _ _ ((rd_T44 l0_4 x5_1).f0) ((rd_T44 l0_4 x5_1).f1) ((rd_T44 l0_4 x5_1).f2) ((rd_T44 l0_4 x5_1).f3) _ _ l1 t675 _ ?side1 ?side2 ?side3 ?side4 A30.out).mono ?_
       (case side1 => repeat (first | exact (Kd.C_below HR674_0.out HB.out) | (with_reducible first | refine ca_ ?_ _ | refine cn_ ?_ _ | refine cd_ ?_)))
       (case side2 => exact HC674_0.out)
       (case side3 => repeat (first | exact (Kd.C_below HR1.out HB.out) | (with_reducible first | refine ca_ ?_ _ | refine cn_ ?_ _ | refine cd_ ?_)))
       (case side4 => exact HC1.out)
       rintro e w36 ⟨v676, rfl, ho0, hb⟩
       refine ⟨_, rfl, ?_⟩
       have n0_ := Aside0.mk (Kd.R_lower ho0 (below_size (by repeat (first | (with_reducible first | exact HB.out | apply ba_ | apply bn_ | apply bd_ | refine below_set ?_ GE660.out) | exact HB.out))))
       have n1_ := Aside0.mk (blk_below (g := gb660) (o := .cells #[.int .i64 a0_0, .slice A0_1 l0_1.length c0_1, .int .i64 a0_2, .int .i64 a0_3, .slice (some ad664) l0_4.length c0_4] 75 (0, 0)) (by (with_reducible repeat (first | refine kn_ ?_ _ | refine kd_ ?_ | refine ka_ ?_ _)); exact BK660.out) hb)
       have n2_ := Aside0.mk (below_step (by repeat (first | (with_reducible first | exact HB.out | apply ba_ | apply bn_ | apply bd_ | refine below_set ?_ GE660.out) | exact HB.out)) hb)
       clear BK660
       clear HB
       have HO677 := n0_
       have BK660 := n1_
       have HB := n2_
       clear n0_ n1_ n2_
       (try clear hb)
       (try clear hb2)
       (try clear hk)
       (try clear hi)
       (try clear ho0)
       obtain ⟨Ao37, co37, eo37⟩ := Kd.R_slice HO677.out
       (first | subst eo37 | (injection eo37 with f1_ f2_ f3_; have f4_ := f1_.symm; have f5_ := f3_.symm; clear f1_ f2_ f3_; subst f4_; subst f5_))
       refine hK.out _ _ ⟨(blk_cell BK660.out 0).trans rfl, (blk_cell BK660.out 1).trans rfl, (blk_cell BK660.out 2).trans rfl, (blk_cell BK660.out 3).trans rfl, (blk_cell BK660.out 4).trans rfl, ((HB.out.cell (World.block_lt_of_cell? w _ hw664_0)).trans hw664_0), ((HB.out.cell (World.block_lt_of_cell? w _ hw664_1)).trans hw664_1), ((HB.out.cell (World.block_lt_of_cell? w _ hw664_2)).trans hw664_2), ((HB.out.cell (World.block_lt_of_cell? w _ hw664_3)).trans hw664_3), ((HB.out.cell (World.block_lt_of_cell? w _ hw674_0)).trans hw674_0), ((HB.out.cell (World.block_lt_of_cell? w _ hw674_1)).trans hw674_1), ((HB.out.cell (World.block_lt_of_cell? w _ hw674_2)).trans hw674_2), ((HB.out.cell (World.block_lt_of_cell? w _ hw674_3)).trans hw674_3)⟩ (fun hHeld => ?_)
       clear hK K
       refine norm_ (a' := ?_) ?_ ?_
       rotate_left
       ·
        show Act.put _ (some 48) _ = _
        simp only [fr_]
        rfl
       refine one_ (i := 38) (N := some 51) #[t_,t_,t_,t_,t_,t_,t_,t_,t_,t_,t_,t_,t_,t_,t_,t_,t_,t_,t_,t_,t_,t_,t_,t_,t_,t_,t_,t_,t_,t_,t_,t_,t_,t_,t_,t_,t_,t_,t_,f_,f_] rfl rfl (one_of HT_.out (by kernel_rfl)) (by decide) (fun K hK => ?_)
       refine goes_ Try.func106 (by kernel_rfl) rfl #[.slice Ao37 t675.length co37, .slice A0_1 l0_1.length c0_1] (by rfl) rfl rfl (by (try simp only [mp_]); first | done | rfl | (simp only [List.length_drop, List.length_take]; rfl)) ?_
       with_reducible refine (spec_SameSet.calls k1 _ _ t675 _ _ l0_1 true _ ?side1 ?side2 ?side3 ?side4 A31.out).mono ?_
       (case side1 => repeat (first | exact (Kd.R_reads' HO677.out).2.2 | (with_reducible first | refine ca_ ?_ _ | refine cn_ ?_ _ | refine cd_ ?_)))
       (case side2 => exact (Kd.R_reads' HO677.out).2.1)
       (case side3 => repeat (first | exact (Kd.C_below HR0_1.out HB.out) | (with_reducible first | refine ca_ ?_ _ | refine cn_ ?_ _ | refine cd_ ?_)))
       (case side4 => exact HC0_1.out)
       rintro e w' ⟨rfl, ⟨nd, rfl⟩⟩
       refine ⟨_, rfl, ?_⟩
       refine hK.out _ _ ⟨(blk_cell BK660.out 0).trans rfl, (blk_cell BK660.out 1).trans rfl, (blk_cell BK660.out 2).trans rfl, (blk_cell BK660.out 3).trans rfl, (blk_cell BK660.out 4).trans rfl, ((HB.out.cell (World.block_lt_of_cell? w _ hw664_0)).trans hw664_0), ((HB.out.cell (World.block_lt_of_cell? w _ hw664_1)).trans hw664_1), ((HB.out.cell (World.block_lt_of_cell? w _ hw664_2)).trans hw664_2), ((HB.out.cell (World.block_lt_of_cell? w _ hw664_3)).trans hw664_3), ((HB.out.cell (World.block_lt_of_cell? w _ hw674_0)).trans hw674_0), ((HB.out.cell (World.block_lt_of_cell? w _ hw674_1)).trans hw674_1), ((HB.out.cell (World.block_lt_of_cell? w _ hw674_2)).trans hw674_2), ((HB.out.cell (World.block_lt_of_cell? w _ hw674_3)).trans hw674_3)⟩ (fun hHeld => ?_)
       clear hK K
       refine norm_ (a' := ?_) ?_ ?_
       rotate_left
       ·
        show Act.put _ (some 51) _ = _
        simp only [fr_]
        rfl
       refine pu_ 39 52 ?_ (b_ 40 1) rfl rfl HT_.out ?_ ?_ ?_ ?_; rotate_left; intro w'; go_simp; with_reducible rfl; rotate_left; simp only [fr_]; rfl
       refine pu_ 40 53 ?_ (b_ 41 0) rfl rfl HT_.out ?_ ?_ ?_ ?_; rotate_left; intro w'; go_simp; with_reducible rfl; rotate_left; simp only [fr_]; rfl
       refine done_ (done_of HT_.out (by kernel_rfl)) ?_
       try go_wp2
       go_roundg k1
       case measure => have := HK1.out; omega
       case rel => exact ⟨(wrap64 (x5_1 + 1)), (by first | rfl | (simp; done) | (simp [*]; done)), H', ⟨by have := HK1.out; omega⟩, ⟨by (with_reducible repeat (first | refine kn_ ?_ _ | refine kd_ ?_ | refine ka_ ?_ _)); exact BK660.out⟩, ⟨by repeat (first | (with_reducible first | exact HB.out | apply ba_ | apply bn_ | apply bd_ | refine below_set ?_ GE660.out) | exact HB.out)⟩⟩
      replace c32 := Bool.eq_false_iff.mpr c32
      subst c32
      rw [if_neg (show ¬ (false = true) by decide)] at H
      obtain rfl := Option.some.inj H
      have hcz38_0 : wr.cell? ⟨gb660, 0, none⟩ = some (.int .i64 a0_0) := (blk_cell BK660.out 0).trans rfl
      have hcz38_1 : wr.cell? ⟨gb660, 1, none⟩ = some (.slice A0_1 l0_1.length c0_1) := (blk_cell BK660.out 1).trans rfl
      have hcz38_2 : wr.cell? ⟨gb660, 2, none⟩ = some (.int .i64 a0_2) := (blk_cell BK660.out 2).trans rfl
      have hcz38_3 : wr.cell? ⟨gb660, 3, none⟩ = some (.int .i64 a0_3) := (blk_cell BK660.out 3).trans rfl
      have hcz38_4 : wr.cell? ⟨gb660, 4, none⟩ = some (.slice A0_4 l0_4.length c0_4) := (blk_cell BK660.out 4).trans rfl
      have hfz38_0 := blk_frozen BK660.out 0
      have hfz38_1 := blk_frozen BK660.out 1
      have hfz38_2 := blk_frozen BK660.out 2
      have hfz38_3 := blk_frozen BK660.out 3
      have hfz38_4 := blk_frozen BK660.out 4
      try go_wp2
      have n0_ := Aside0.mk (blk_drew BK660.out)
      have n1_ := Aside0.mk (bd_ HB.out)
      clear BK660
      clear HB
      have BK660 := n0_
      have HB := n1_
      clear n0_ n1_
      have p664 : 0 ≤ (x5_1 : Int) := of_decide_eq_true (by with_reducible assumption)
      have q664 : x5_1 < (l0_4.length : Int) := of_decide_eq_true (by with_reducible assumption)
      obtain ⟨ad664, A664_0, c664_0, e664, hx664_0, hx664_1, hx664_2, hx664_3, hl664_0, hi664_0⟩ := at_T44 HR0_4.out x5_1 p664 q664
      have hw664_3 := hx664_3
      have hw664_2 := hx664_2
      have hw664_1 := hx664_1
      have hw664_0 := hx664_0
      cases e664
      replace hx664_0 := cl_ HB.out hx664_0
      replace hx664_1 := cl_ HB.out hx664_1
      replace hx664_2 := cl_ HB.out hx664_2
      replace hx664_3 := cl_ HB.out hx664_3
      have HR664_0 := Aside0.mk hi664_0
      have HC664_0 := Aside0.mk hl664_0
      clear hi664_0 hl664_0
      replace p664 := eq_true p664
      replace q664 := eq_true q664
      have p674 : 0 ≤ (x5_1 : Int) := of_decide_eq_true (by with_reducible assumption)
      have q674 : x5_1 < (l0_4.length : Int) := of_decide_eq_true (by with_reducible assumption)
      obtain ⟨ad674, A674_0, c674_0, e674, hx674_0, hx674_1, hx674_2, hx674_3, hl674_0, hi674_0⟩ := at_T44 HR0_4.out x5_1 p674 q674
      have hw674_3 := hx674_3
      have hw674_2 := hx674_2
      have hw674_1 := hx674_1
      have hw674_0 := hx674_0
      obtain rfl : ad664 = ad674 := (by injection e674)
      replace hx674_0 := cl_ HB.out hx674_0
      replace hx674_1 := cl_ HB.out hx674_1
      replace hx674_2 := cl_ HB.out hx674_2
      replace hx674_3 := cl_ HB.out hx674_3
      have HR674_0 := Aside0.mk hi674_0
      have HC674_0 := Aside0.mk hl674_0
      clear hi674_0 hl674_0
      replace p674 := eq_true p674
      replace q674 := eq_true q674
      have ea_ := Option.some.inj (hx664_0.symm.trans hx674_0)
      injection ea_ with ea_ en_ ec_
      subst ea_
      subst ec_
      clear en_
      refine start_ (n := 41) (S := fun w' => w'.cell? ⟨gb660, 0, none⟩ = some (.int .i64 a0_0) ∧ w'.cell? ⟨gb660, 1, none⟩ = some (.slice A0_1 l0_1.length c0_1) ∧ w'.cell? ⟨gb660, 2, none⟩ = some (.int .i64 a0_2) ∧ w'.cell? ⟨gb660, 3, none⟩ = some (.int .i64 a0_3) ∧ w'.cell? ⟨gb660, 4, none⟩ = some (.slice (some ad664) l0_4.length c0_4) ∧ w'.cell? (ad664.add ((x5_1).toNat * 4)) = some (.slice A664_0 ((rd_T44 l0_4 x5_1).f0).length c664_0) ∧ w'.cell? ⟨(ad664.add ((x5_1).toNat * 4)).block, (ad664.add ((x5_1).toNat * 4)).off + 1, none⟩ = some (.int .i64 ((rd_T44 l0_4 x5_1).f1)) ∧ w'.cell? ⟨(ad664.add ((x5_1).toNat * 4)).block, (ad664.add ((x5_1).toNat * 4)).off + 2, none⟩ = some (.int .i64 ((rd_T44 l0_4 x5_1).f2)) ∧ w'.cell? ⟨(ad664.add ((x5_1).toNat * 4)).block, (ad664.add ((x5_1).toNat * 4)).off + 3, none⟩ = some (.string ((rd_T44 l0_4 x5_1).f3)) ∧ w'.cell? (ad664.add ((x5_1).toNat * 4)) = some (.slice A664_0 ((rd_T44 l0_4 x5_1).f0).length c664_0) ∧ w'.cell? ⟨(ad664.add ((x5_1).toNat * 4)).block, (ad664.add ((x5_1).toNat * 4)).off + 1, none⟩ = some (.int .i64 ((rd_T44 l0_4 x5_1).f1)) ∧ w'.cell? ⟨(ad664.add ((x5_1).toNat * 4)).block, (ad664.add ((x5_1).toNat * 4)).off + 2, none⟩ = some (.int .i64 ((rd_T44 l0_4 x5_1).f2)) ∧ w'.cell? ⟨(ad664.add ((x5_1).toNat * 4)).block, (ad664.add ((x5_1).toNat * 4)).off + 3, none⟩ = some (.string ((rd_T44 l0_4 x5_1).f3))) (ds := []) #[f_,f_,f_,f_,f_,f_,f_,f_,f_,f_,f_,f_,f_,f_,f_,f_,f_,f_,f_,f_,f_,f_,f_,f_,f_,f_,f_,f_,f_,f_,f_,f_,f_,f_,f_,f_,f_,f_,f_,f_,f_] (by kernel_rfl) rfl rfl ⟨(blk_cell BK660.out 0).trans rfl, (blk_cell BK660.out 1).trans rfl, (blk_cell BK660.out 2).trans rfl, (blk_cell BK660.out 3).trans rfl, (blk_cell BK660.out 4).trans rfl, ((HB.out.cell (World.block_lt_of_cell? w _ hw664_0)).trans hw664_0), ((HB.out.cell (World.block_lt_of_cell? w _ hw664_1)).trans hw664_1), ((HB.out.cell (World.block_lt_of_cell? w _ hw664_2)).trans hw664_2), ((HB.out.cell (World.block_lt_of_cell? w _ hw664_3)).trans hw664_3), ((HB.out.cell (World.block_lt_of_cell? w _ hw674_0)).trans hw674_0), ((HB.out.cell (World.block_lt_of_cell? w _ hw674_1)).trans hw674_1), ((HB.out.cell (World.block_lt_of_cell? w _ hw674_2)).trans hw674_2), ((HB.out.cell (World.block_lt_of_cell? w _ hw674_3)).trans hw674_3)⟩ (fun hHeld => ?_); refine with_tabW spec_GroupOk.tab4 spec_GroupOk.bits4 (fun HT_ HW_ => ?_)
      generalize wr.drew = w39 at BK660 HB HR664_0 HR674_0 hx664_0 hx664_1 hx664_2 hx664_3 hx674_0 hx674_1 hx674_2 hx674_3 hHeld ⊢
      refine pu_ 0 13 ?_ (b_ 1 40) rfl rfl HT_.out ?_ ?_ ?_ ?_; rotate_left; intro w'; go_simp; with_reducible rfl; rotate_left; simp only [fr_]; rfl
      refine pu_ 2 15 ?_ #[t_,f_,t_,f_,f_,f_,f_,f_,f_,f_,f_,f_,f_,f_,f_,f_,f_,f_,f_,f_,f_,f_,f_,f_,f_,f_,f_,f_,f_,f_,f_,f_,f_,f_,f_,f_,f_,f_,f_,f_,f_] rfl rfl HT_.out ?_ ?_ ?_ ?_; rotate_left; intro w'; go_simp; with_reducible rfl; rotate_left; simp only [fr_]; rfl
      refine take_ (i := 1) (N := some 14) (v := ?_) (a' := ?_) #[t_,t_,t_,f_,f_,f_,f_,f_,f_,f_,f_,f_,f_,f_,f_,f_,f_,f_,f_,f_,f_,f_,f_,f_,f_,f_,f_,f_,f_,f_,f_,f_,f_,f_,f_,f_,f_,f_,f_,f_,f_] rfl rfl (take_ofW HT_.out HW_.out (by kernel_rfl)) (fun _ _ _ h => h) (Or.inl ⟨by rfl, ?_⟩) hHeld ?_ ?_
      rotate_left
      ·
       rintro w' ⟨s0, s1, s2, s3, s4, s5, s6, s7, s8, s9, s10, s11, s12⟩
       go_simp
       with_reducible rfl
      rotate_left
      ·
       simp only [fr_]
       rfl
      refine pu_ 3 16 ?_ (b_ 4 37) rfl rfl HT_.out ?_ ?_ ?_ ?_; rotate_left; intro w'; go_simp; with_reducible rfl; rotate_left; simp only [fr_]; rfl
      refine take_ (i := 4) (N := some 17) (v := ?_) (a' := ?_) #[t_,t_,t_,t_,t_,f_,f_,f_,f_,f_,f_,f_,f_,f_,f_,f_,f_,f_,f_,f_,f_,f_,f_,f_,f_,f_,f_,f_,f_,f_,f_,f_,f_,f_,f_,f_,f_,f_,f_,f_,f_] rfl rfl (take_ofW HT_.out HW_.out (by kernel_rfl)) (fun _ _ _ h => h) (Or.inl ⟨by rfl, ?_⟩) hHeld ?_ ?_
      rotate_left
      ·
       rintro w' ⟨s0, s1, s2, s3, s4, s5, s6, s7, s8, s9, s10, s11, s12⟩
       go_simp
       with_reducible rfl
      rotate_left
      ·
       simp only [fr_]
       rfl
      refine one_ (i := 5) (N := some 18) #[t_,t_,t_,t_,t_,t_,f_,f_,f_,f_,f_,f_,f_,f_,f_,f_,f_,f_,f_,f_,f_,f_,f_,f_,f_,f_,f_,f_,f_,f_,f_,f_,f_,f_,f_,f_,f_,f_,f_,f_,f_] rfl rfl (one_of HT_.out (by kernel_rfl)) (by decide) (fun K hK => ?_)
      refine goes_ Try.func104 (by kernel_rfl) rfl #[.agg #[.slice A664_0 ((rd_T44 l0_4 x5_1).f0).length c664_0, .int .i64 ((rd_T44 l0_4 x5_1).f1), .int .i64 ((rd_T44 l0_4 x5_1).f2), .string ((rd_T44 l0_4 x5_1).f3)]] (by rfl) rfl rfl (by (try simp only [mp_]); first | done | rfl | (simp only [List.length_drop, List.length_take]; rfl)) ?_
      with_reducible refine (spec_AlarmOk.calls k1 _ _ ((rd_T44 l0_4 x5_1).f0) ((rd_T44 l0_4 x5_1).f1) ((rd_T44 l0_4 x5_1).f2) ((rd_T44 l0_4 x5_1).f3) true _ ?side1 ?side2 A6.out).mono ?_
      (case side1 => repeat (first | exact (Kd.C_below HR664_0.out HB.out) | (with_reducible first | refine ca_ ?_ _ | refine cn_ ?_ _ | refine cd_ ?_)))
      (case side2 => exact HC664_0.out)
      rintro e w40 ⟨rfl, hb⟩
      refine ⟨_, rfl, ?_⟩
      have n0_ := Aside0.mk (blk_below (g := gb660) (o := .cells #[.int .i64 a0_0, .slice A0_1 l0_1.length c0_1, .int .i64 a0_2, .int .i64 a0_3, .slice (some ad664) l0_4.length c0_4] 75 (0, 0)) (by (with_reducible repeat (first | refine kn_ ?_ _ | refine kd_ ?_ | refine ka_ ?_ _)); exact BK660.out) hb)
      have n1_ := Aside0.mk (below_step (by repeat (first | (with_reducible first | exact HB.out | apply ba_ | apply bn_ | apply bd_ | refine below_set ?_ GE660.out) | exact HB.out)) hb)
      clear BK660
      clear HB
      have BK660 := n0_
      have HB := n1_
      clear n0_ n1_
      (try clear hb)
      (try clear hb2)
      (try clear hk)
      (try clear hi)
      refine hK.out _ _ ⟨(blk_cell BK660.out 0).trans rfl, (blk_cell BK660.out 1).trans rfl, (blk_cell BK660.out 2).trans rfl, (blk_cell BK660.out 3).trans rfl, (blk_cell BK660.out 4).trans rfl, ((HB.out.cell (World.block_lt_of_cell? w _ hw664_0)).trans hw664_0), ((HB.out.cell (World.block_lt_of_cell? w _ hw664_1)).trans hw664_1), ((HB.out.cell (World.block_lt_of_cell? w _ hw664_2)).trans hw664_2), ((HB.out.cell (World.block_lt_of_cell? w _ hw664_3)).trans hw664_3), ((HB.out.cell (World.block_lt_of_cell? w _ hw674_0)).trans hw674_0), ((HB.out.cell (World.block_lt_of_cell? w _ hw674_1)).trans hw674_1), ((HB.out.cell (World.block_lt_of_cell? w _ hw674_2)).trans hw674_2), ((HB.out.cell (World.block_lt_of_cell? w _ hw674_3)).trans hw674_3)⟩ (fun hHeld => ?_)
      clear hK K
      refine norm_ (a' := ?_) ?_ ?_
      rotate_left
      ·
       show Act.put _ (some 18) _ = _
       simp only [fr_]
       rfl
      refine pu_ 6 19 ?_ (b_ 7 34) rfl rfl HT_.out ?_ ?_ ?_ ?_; rotate_left; intro w'; go_simp; with_reducible rfl; rotate_left; simp only [fr_]; rfl
      refine pu_ 7 20 ?_ (b_ 8 33) rfl rfl HT_.out ?_ ?_ ?_ ?_; rotate_left; intro w'; go_simp; with_reducible rfl; rotate_left; simp only [fr_]; rfl
      refine pu_ 8 21 ?_ (b_ 9 32) rfl rfl HT_.out ?_ ?_ ?_ ?_; rotate_left; intro w'; go_simp; with_reducible rfl; rotate_left; simp only [fr_]; rfl
      refine pu_ 9 22 ?_ (b_ 10 31) rfl rfl HT_.out ?_ ?_ ?_ ?_; rotate_left; intro w'; go_simp; with_reducible rfl; rotate_left; simp only [fr_]; rfl
      refine pu_ 10 23 ?_ (b_ 11 30) rfl rfl HT_.out ?_ ?_ ?_ ?_; rotate_left; intro w'; go_simp; with_reducible rfl; rotate_left; simp only [fr_]; rfl
      refine pv_ 11 24 ?_ (b_ 12 29) rfl rfl HT_.out ?_ ?_; rotate_left; simp only [fr_]; rfl
      refine pv_ 12 25 ?_ (b_ 13 28) rfl rfl HT_.out ?_ ?_; rotate_left; simp only [fr_]; rfl
      refine pv_ 13 26 ?_ (b_ 14 27) rfl rfl HT_.out ?_ ?_; rotate_left; simp only [fr_]; rfl
      refine pv_ 14 27 ?_ (b_ 15 26) rfl rfl HT_.out ?_ ?_; rotate_left; simp only [fr_]; rfl
      refine pv_ 15 28 ?_ (b_ 16 25) rfl rfl HT_.out ?_ ?_; rotate_left; simp only [fr_]; rfl
      refine pv_ 16 29 ?_ (b_ 17 24) rfl rfl HT_.out ?_ ?_; rotate_left; simp only [fr_]; rfl
      refine pv_ 17 30 ?_ (b_ 18 23) rfl rfl HT_.out ?_ ?_; rotate_left; simp only [fr_]; rfl
      refine pv_ 18 31 ?_ (b_ 19 22) rfl rfl HT_.out ?_ ?_; rotate_left; simp only [fr_]; rfl
      refine pv_ 19 32 ?_ (b_ 20 21) rfl rfl HT_.out ?_ ?_; rotate_left; simp only [fr_]; rfl
      refine pv_ 20 33 ?_ (b_ 21 20) rfl rfl HT_.out ?_ ?_; rotate_left; simp only [fr_]; rfl
      refine pv_ 21 34 ?_ (b_ 22 19) rfl rfl HT_.out ?_ ?_; rotate_left; simp only [fr_]; rfl
      refine pv_ 22 35 ?_ (b_ 23 18) rfl rfl HT_.out ?_ ?_; rotate_left; simp only [fr_]; rfl
      refine pv_ 23 36 ?_ (b_ 24 17) rfl rfl HT_.out ?_ ?_; rotate_left; simp only [fr_]; rfl
      refine pv_ 24 37 ?_ (b_ 25 16) rfl rfl HT_.out ?_ ?_; rotate_left; simp only [fr_]; rfl
      refine pv_ 25 38 ?_ (b_ 26 15) rfl rfl HT_.out ?_ ?_; rotate_left; simp only [fr_]; rfl
      refine pu_ 26 39 ?_ (b_ 27 14) rfl rfl HT_.out ?_ ?_ ?_ ?_; rotate_left; intro w'; go_simp; with_reducible rfl; rotate_left; simp only [fr_]; rfl
      refine pu_ 27 40 ?_ (b_ 28 13) rfl rfl HT_.out ?_ ?_ ?_ ?_; rotate_left; intro w'; go_simp; with_reducible rfl; rotate_left; simp only [fr_]; rfl
      refine pu_ 28 41 ?_ (b_ 29 12) rfl rfl HT_.out ?_ ?_ ?_ ?_; rotate_left; intro w'; go_simp; with_reducible rfl; rotate_left; simp only [fr_]; rfl
      refine pu_ 29 42 ?_ (b_ 30 11) rfl rfl HT_.out ?_ ?_ ?_ ?_; rotate_left; intro w'; go_simp; with_reducible rfl; rotate_left; simp only [fr_]; rfl
      refine pu_ 31 44 ?_ #[t_,t_,t_,t_,t_,t_,t_,t_,t_,t_,t_,t_,t_,t_,t_,t_,t_,t_,t_,t_,t_,t_,t_,t_,t_,t_,t_,t_,t_,t_,f_,t_,f_,f_,f_,f_,f_,f_,f_,f_,f_] rfl rfl HT_.out ?_ ?_ ?_ ?_; rotate_left; intro w'; go_simp; with_reducible rfl; rotate_left; simp only [fr_]; rfl
      refine pu_ 34 47 ?_ #[t_,t_,t_,t_,t_,t_,t_,t_,t_,t_,t_,t_,t_,t_,t_,t_,t_,t_,t_,t_,t_,t_,t_,t_,t_,t_,t_,t_,t_,t_,f_,t_,f_,f_,t_,f_,f_,f_,f_,f_,f_] rfl rfl HT_.out ?_ ?_ ?_ ?_; rotate_left; intro w'; go_simp; with_reducible rfl; rotate_left; simp only [fr_]; rfl
      refine pu_ 36 49 ?_ #[t_,t_,t_,t_,t_,t_,t_,t_,t_,t_,t_,t_,t_,t_,t_,t_,t_,t_,t_,t_,t_,t_,t_,t_,t_,t_,t_,t_,t_,t_,f_,t_,f_,f_,t_,f_,t_,f_,f_,f_,f_] rfl rfl HT_.out ?_ ?_ ?_ ?_; rotate_left; intro w'; go_simp; with_reducible rfl; rotate_left; simp only [fr_]; rfl
      refine take_ (i := 30) (N := some 43) (v := ?_) (a' := ?_) #[t_,t_,t_,t_,t_,t_,t_,t_,t_,t_,t_,t_,t_,t_,t_,t_,t_,t_,t_,t_,t_,t_,t_,t_,t_,t_,t_,t_,t_,t_,t_,t_,f_,f_,t_,f_,t_,f_,f_,f_,f_] rfl rfl (take_ofW HT_.out HW_.out (by kernel_rfl)) (fun _ _ _ h => h) (Or.inl ⟨by rfl, ?_⟩) hHeld ?_ ?_
      rotate_left
      ·
       rintro w' ⟨s0, s1, s2, s3, s4, s5, s6, s7, s8, s9, s10, s11, s12⟩
       go_simp
       with_reducible rfl
      rotate_left
      ·
       simp only [fr_]
       rfl
      refine pu_ 32 45 ?_ #[t_,t_,t_,t_,t_,t_,t_,t_,t_,t_,t_,t_,t_,t_,t_,t_,t_,t_,t_,t_,t_,t_,t_,t_,t_,t_,t_,t_,t_,t_,t_,t_,t_,f_,t_,f_,t_,f_,f_,f_,f_] rfl rfl HT_.out ?_ ?_ ?_ ?_; rotate_left; intro w'; go_simp; with_reducible rfl; rotate_left; simp only [fr_]; rfl
      refine take_ (i := 33) (N := some 46) (v := ?_) (a' := ?_) #[t_,t_,t_,t_,t_,t_,t_,t_,t_,t_,t_,t_,t_,t_,t_,t_,t_,t_,t_,t_,t_,t_,t_,t_,t_,t_,t_,t_,t_,t_,t_,t_,t_,t_,t_,f_,t_,f_,f_,f_,f_] rfl rfl (take_ofW HT_.out HW_.out (by kernel_rfl)) (fun _ _ _ h => h) (Or.inl ⟨by rfl, ?_⟩) hHeld ?_ ?_
      rotate_left
      ·
       rintro w' ⟨s0, s1, s2, s3, s4, s5, s6, s7, s8, s9, s10, s11, s12⟩
       go_simp
       with_reducible rfl
      rotate_left
      ·
       simp only [fr_]
       rfl
      refine take_ (i := 37) (N := some 50) (v := ?_) (a' := ?_) #[t_,t_,t_,t_,t_,t_,t_,t_,t_,t_,t_,t_,t_,t_,t_,t_,t_,t_,t_,t_,t_,t_,t_,t_,t_,t_,t_,t_,t_,t_,t_,t_,t_,t_,t_,f_,t_,t_,f_,f_,f_] rfl rfl (take_ofW HT_.out HW_.out (by kernel_rfl)) (fun _ _ _ h => h) (Or.inl ⟨by rfl, ?_⟩) hHeld ?_ ?_
      rotate_left
      ·
       rintro w' ⟨s0, s1, s2, s3, s4, s5, s6, s7, s8, s9, s10, s11, s12⟩
       go_simp
       with_reducible rfl
      rotate_left
      ·
       simp only [fr_]
       rfl
      refine one_ (i := 35) (N := some 48) #[t_,t_,t_,t_,t_,t_,t_,t_,t_,t_,t_,t_,t_,t_,t_,t_,t_,t_,t_,t_,t_,t_,t_,t_,t_,t_,t_,t_,t_,t_,t_,t_,t_,t_,t_,t_,t_,t_,f_,f_,f_] rfl rfl (one_of HT_.out (by kernel_rfl)) (by decide) (fun K hK => ?_)
      refine goes_ Try.func107 (by kernel_rfl) rfl #[.agg #[.slice A664_0 ((rd_T44 l0_4 x5_1).f0).length c664_0, .int .i64 ((rd_T44 l0_4 x5_1).f1), .int .i64 ((rd_T44 l0_4 x5_1).f2), .string ((rd_T44 l0_4 x5_1).f3)], .slice A1 l1.length c1] (by rfl) rfl rfl (by (try simp only [mp_]); first | done | rfl | (simp only [List.length_drop, List.length_take]; rfl)) ?_
      with_reducible refine (spec_KeyOf.calls k1 _ _ ((rd_T44 l0_4 x5_1).f0) ((rd_T44 l0_4 x5_1).f1) ((rd_T44 l0_4 x5_1).f2) ((rd_T44 l0_4 x5_1).f3) _ _ l1 t675 _ ?side1 ?side2 ?side3 ?side4 A30.out).mono ?_
      (case side1 => repeat (first | exact (Kd.C_below HR674_0.out HB.out) | (with_reducible first | refine ca_ ?_ _ | refine cn_ ?_ _ | refine cd_ ?_)))
      (case side2 => exact HC674_0.out)
      (case side3 => repeat (first | exact (Kd.C_below HR1.out HB.out) | (with_reducible first | refine ca_ ?_ _ | refine cn_ ?_ _ | refine cd_ ?_)))
      (case side4 => exact HC1.out)
      rintro e w41 ⟨v676, rfl, ho0, hb⟩
      refine ⟨_, rfl, ?_⟩
      have n0_ := Aside0.mk (Kd.R_lower ho0 (below_size (by repeat (first | (with_reducible first | exact HB.out | apply ba_ | apply bn_ | apply bd_ | refine below_set ?_ GE660.out) | exact HB.out))))
      have n1_ := Aside0.mk (blk_below (g := gb660) (o := .cells #[.int .i64 a0_0, .slice A0_1 l0_1.length c0_1, .int .i64 a0_2, .int .i64 a0_3, .slice (some ad664) l0_4.length c0_4] 75 (0, 0)) (by (with_reducible repeat (first | refine kn_ ?_ _ | refine kd_ ?_ | refine ka_ ?_ _)); exact BK660.out) hb)
      have n2_ := Aside0.mk (below_step (by repeat (first | (with_reducible first | exact HB.out | apply ba_ | apply bn_ | apply bd_ | refine below_set ?_ GE660.out) | exact HB.out)) hb)
      clear BK660
      clear HB
      have HO677 := n0_
      have BK660 := n1_
      have HB := n2_
      clear n0_ n1_ n2_
      (try clear hb)
      (try clear hb2)
      (try clear hk)
      (try clear hi)
      (try clear ho0)
      obtain ⟨Ao42, co42, eo42⟩ := Kd.R_slice HO677.out
      (first | subst eo42 | (injection eo42 with f1_ f2_ f3_; have f4_ := f1_.symm; have f5_ := f3_.symm; clear f1_ f2_ f3_; subst f4_; subst f5_))
      refine hK.out _ _ ⟨(blk_cell BK660.out 0).trans rfl, (blk_cell BK660.out 1).trans rfl, (blk_cell BK660.out 2).trans rfl, (blk_cell BK660.out 3).trans rfl, (blk_cell BK660.out 4).trans rfl, ((HB.out.cell (World.block_lt_of_cell? w _ hw664_0)).trans hw664_0), ((HB.out.cell (World.block_lt_of_cell? w _ hw664_1)).trans hw664_1), ((HB.out.cell (World.block_lt_of_cell? w _ hw664_2)).trans hw664_2), ((HB.out.cell (World.block_lt_of_cell? w _ hw664_3)).trans hw664_3), ((HB.out.cell (World.block_lt_of_cell? w _ hw674_0)).trans hw674_0), ((HB.out.cell (World.block_lt_of_cell? w _ hw674_1)).trans hw674_1), ((HB.out.cell (World.block_lt_of_cell? w _ hw674_2)).trans hw674_2), ((HB.out.cell (World.block_lt_of_cell? w _ hw674_3)).trans hw674_3)⟩ (fun hHeld => ?_)
      clear hK K
      refine norm_ (a' := ?_) ?_ ?_
      rotate_left
      ·
       show Act.put _ (some 48) _ = _
       simp only [fr_]
       rfl
      refine one_ (i := 38) (N := some 51) #[t_,t_,t_,t_,t_,t_,t_,t_,t_,t_,t_,t_,t_,t_,t_,t_,t_,t_,t_,t_,t_,t_,t_,t_,t_,t_,t_,t_,t_,t_,t_,t_,t_,t_,t_,t_,t_,t_,t_,f_,f_] rfl rfl (one_of HT_.out (by kernel_rfl)) (by decide) (fun K hK => ?_)
      refine goes_ Try.func106 (by kernel_rfl) rfl #[.slice Ao42 t675.length co42, .slice A0_1 l0_1.length c0_1] (by rfl) rfl rfl (by (try simp only [mp_]); first | done | rfl | (simp only [List.length_drop, List.length_take]; rfl)) ?_
      with_reducible refine (spec_SameSet.calls k1 _ _ t675 _ _ l0_1 false _ ?side1 ?side2 ?side3 ?side4 A31.out).mono ?_
      (case side1 => repeat (first | exact (Kd.R_reads' HO677.out).2.2 | (with_reducible first | refine ca_ ?_ _ | refine cn_ ?_ _ | refine cd_ ?_)))
      (case side2 => exact (Kd.R_reads' HO677.out).2.1)
      (case side3 => repeat (first | exact (Kd.C_below HR0_1.out HB.out) | (with_reducible first | refine ca_ ?_ _ | refine cn_ ?_ _ | refine cd_ ?_)))
      (case side4 => exact HC0_1.out)
      rintro e w' ⟨rfl, ⟨nd, rfl⟩⟩
      refine ⟨_, rfl, ?_⟩
      refine hK.out _ _ ⟨(blk_cell BK660.out 0).trans rfl, (blk_cell BK660.out 1).trans rfl, (blk_cell BK660.out 2).trans rfl, (blk_cell BK660.out 3).trans rfl, (blk_cell BK660.out 4).trans rfl, ((HB.out.cell (World.block_lt_of_cell? w _ hw664_0)).trans hw664_0), ((HB.out.cell (World.block_lt_of_cell? w _ hw664_1)).trans hw664_1), ((HB.out.cell (World.block_lt_of_cell? w _ hw664_2)).trans hw664_2), ((HB.out.cell (World.block_lt_of_cell? w _ hw664_3)).trans hw664_3), ((HB.out.cell (World.block_lt_of_cell? w _ hw674_0)).trans hw674_0), ((HB.out.cell (World.block_lt_of_cell? w _ hw674_1)).trans hw674_1), ((HB.out.cell (World.block_lt_of_cell? w _ hw674_2)).trans hw674_2), ((HB.out.cell (World.block_lt_of_cell? w _ hw674_3)).trans hw674_3)⟩ (fun hHeld => ?_)
      clear hK K
      refine norm_ (a' := ?_) ?_ ?_
      rotate_left
      ·
       show Act.put _ (some 51) _ = _
       simp only [fr_]
       rfl
      refine pu_ 39 52 ?_ (b_ 40 1) rfl rfl HT_.out ?_ ?_ ?_ ?_; rotate_left; intro w'; go_simp; with_reducible rfl; rotate_left; simp only [fr_]; rfl
      refine pu_ 40 53 ?_ (b_ 41 0) rfl rfl HT_.out ?_ ?_ ?_ ?_; rotate_left; intro w'; go_simp; with_reducible rfl; rotate_left; simp only [fr_]; rfl
      refine done_ (done_of HT_.out (by kernel_rfl)) ?_
      try go_wp2
      go_ret
      exact ⟨by first | rfl | (simp [errW_none, errW_some] <;> rfl) | (simp [*, errW_none, errW_some] <;> rfl), by repeat (first | (with_reducible first | exact HB.out | apply ba_ | apply bn_ | apply bd_ | refine below_set ?_ GE660.out) | exact HB.out)⟩
     replace c7 := Bool.eq_false_iff.mpr c7
     subst c7
     rw [if_neg (show ¬ (false = true) by decide)] at H
     obtain rfl := Option.some.inj H
     have hcz43_0 : wr.cell? ⟨gb660, 0, none⟩ = some (.int .i64 a0_0) := (blk_cell BK660.out 0).trans rfl
     have hcz43_1 : wr.cell? ⟨gb660, 1, none⟩ = some (.slice A0_1 l0_1.length c0_1) := (blk_cell BK660.out 1).trans rfl
     have hcz43_2 : wr.cell? ⟨gb660, 2, none⟩ = some (.int .i64 a0_2) := (blk_cell BK660.out 2).trans rfl
     have hcz43_3 : wr.cell? ⟨gb660, 3, none⟩ = some (.int .i64 a0_3) := (blk_cell BK660.out 3).trans rfl
     have hcz43_4 : wr.cell? ⟨gb660, 4, none⟩ = some (.slice A0_4 l0_4.length c0_4) := (blk_cell BK660.out 4).trans rfl
     have hfz43_0 := blk_frozen BK660.out 0
     have hfz43_1 := blk_frozen BK660.out 1
     have hfz43_2 := blk_frozen BK660.out 2
     have hfz43_3 := blk_frozen BK660.out 3
     have hfz43_4 := blk_frozen BK660.out 4
     try go_wp2
     have n0_ := Aside0.mk (blk_drew BK660.out)
     have n1_ := Aside0.mk (bd_ HB.out)
     clear BK660
     clear HB
     have BK660 := n0_
     have HB := n1_
     clear n0_ n1_
     have p664 : 0 ≤ (x5_1 : Int) := of_decide_eq_true (by with_reducible assumption)
     have q664 : x5_1 < (l0_4.length : Int) := of_decide_eq_true (by with_reducible assumption)
     obtain ⟨ad664, A664_0, c664_0, e664, hx664_0, hx664_1, hx664_2, hx664_3, hl664_0, hi664_0⟩ := at_T44 HR0_4.out x5_1 p664 q664
     have hw664_3 := hx664_3
     have hw664_2 := hx664_2
     have hw664_1 := hx664_1
     have hw664_0 := hx664_0
     cases e664
     replace hx664_0 := cl_ HB.out hx664_0
     replace hx664_1 := cl_ HB.out hx664_1
     replace hx664_2 := cl_ HB.out hx664_2
     replace hx664_3 := cl_ HB.out hx664_3
     have HR664_0 := Aside0.mk hi664_0
     have HC664_0 := Aside0.mk hl664_0
     clear hi664_0 hl664_0
     replace p664 := eq_true p664
     replace q664 := eq_true q664
     refine start_ (n := 41) (S := fun w' => w'.cell? ⟨gb660, 0, none⟩ = some (.int .i64 a0_0) ∧ w'.cell? ⟨gb660, 1, none⟩ = some (.slice A0_1 l0_1.length c0_1) ∧ w'.cell? ⟨gb660, 2, none⟩ = some (.int .i64 a0_2) ∧ w'.cell? ⟨gb660, 3, none⟩ = some (.int .i64 a0_3) ∧ w'.cell? ⟨gb660, 4, none⟩ = some (.slice (some ad664) l0_4.length c0_4) ∧ w'.cell? (ad664.add ((x5_1).toNat * 4)) = some (.slice A664_0 ((rd_T44 l0_4 x5_1).f0).length c664_0) ∧ w'.cell? ⟨(ad664.add ((x5_1).toNat * 4)).block, (ad664.add ((x5_1).toNat * 4)).off + 1, none⟩ = some (.int .i64 ((rd_T44 l0_4 x5_1).f1)) ∧ w'.cell? ⟨(ad664.add ((x5_1).toNat * 4)).block, (ad664.add ((x5_1).toNat * 4)).off + 2, none⟩ = some (.int .i64 ((rd_T44 l0_4 x5_1).f2)) ∧ w'.cell? ⟨(ad664.add ((x5_1).toNat * 4)).block, (ad664.add ((x5_1).toNat * 4)).off + 3, none⟩ = some (.string ((rd_T44 l0_4 x5_1).f3))) (ds := []) #[f_,f_,f_,f_,f_,f_,f_,f_,f_,f_,f_,f_,f_,f_,f_,f_,f_,f_,f_,f_,f_,f_,f_,f_,f_,f_,f_,f_,f_,f_,f_,f_,f_,f_,f_,f_,f_,f_,f_,f_,f_] (by kernel_rfl) rfl rfl ⟨(blk_cell BK660.out 0).trans rfl, (blk_cell BK660.out 1).trans rfl, (blk_cell BK660.out 2).trans rfl, (blk_cell BK660.out 3).trans rfl, (blk_cell BK660.out 4).trans rfl, ((HB.out.cell (World.block_lt_of_cell? w _ hw664_0)).trans hw664_0), ((HB.out.cell (World.block_lt_of_cell? w _ hw664_1)).trans hw664_1), ((HB.out.cell (World.block_lt_of_cell? w _ hw664_2)).trans hw664_2), ((HB.out.cell (World.block_lt_of_cell? w _ hw664_3)).trans hw664_3)⟩ (fun hHeld => ?_); refine with_tabW spec_GroupOk.tab4 spec_GroupOk.bits4 (fun HT_ HW_ => ?_)
     generalize wr.drew = w44 at BK660 HB HR664_0 hx664_0 hx664_1 hx664_2 hx664_3 hHeld ⊢
     refine pu_ 0 13 ?_ (b_ 1 40) rfl rfl HT_.out ?_ ?_ ?_ ?_; rotate_left; intro w'; go_simp; with_reducible rfl; rotate_left; simp only [fr_]; rfl
     refine pu_ 2 15 ?_ #[t_,f_,t_,f_,f_,f_,f_,f_,f_,f_,f_,f_,f_,f_,f_,f_,f_,f_,f_,f_,f_,f_,f_,f_,f_,f_,f_,f_,f_,f_,f_,f_,f_,f_,f_,f_,f_,f_,f_,f_,f_] rfl rfl HT_.out ?_ ?_ ?_ ?_; rotate_left; intro w'; go_simp; with_reducible rfl; rotate_left; simp only [fr_]; rfl
     refine take_ (i := 1) (N := some 14) (v := ?_) (a' := ?_) #[t_,t_,t_,f_,f_,f_,f_,f_,f_,f_,f_,f_,f_,f_,f_,f_,f_,f_,f_,f_,f_,f_,f_,f_,f_,f_,f_,f_,f_,f_,f_,f_,f_,f_,f_,f_,f_,f_,f_,f_,f_] rfl rfl (take_ofW HT_.out HW_.out (by kernel_rfl)) (fun _ _ _ h => h) (Or.inl ⟨by rfl, ?_⟩) hHeld ?_ ?_
     rotate_left
     ·
      rintro w' ⟨s0, s1, s2, s3, s4, s5, s6, s7, s8⟩
      go_simp
      with_reducible rfl
     rotate_left
     ·
      simp only [fr_]
      rfl
     refine pu_ 3 16 ?_ (b_ 4 37) rfl rfl HT_.out ?_ ?_ ?_ ?_; rotate_left; intro w'; go_simp; with_reducible rfl; rotate_left; simp only [fr_]; rfl
     refine take_ (i := 4) (N := some 17) (v := ?_) (a' := ?_) #[t_,t_,t_,t_,t_,f_,f_,f_,f_,f_,f_,f_,f_,f_,f_,f_,f_,f_,f_,f_,f_,f_,f_,f_,f_,f_,f_,f_,f_,f_,f_,f_,f_,f_,f_,f_,f_,f_,f_,f_,f_] rfl rfl (take_ofW HT_.out HW_.out (by kernel_rfl)) (fun _ _ _ h => h) (Or.inl ⟨by rfl, ?_⟩) hHeld ?_ ?_
     rotate_left
     ·
      rintro w' ⟨s0, s1, s2, s3, s4, s5, s6, s7, s8⟩
      go_simp
      with_reducible rfl
     rotate_left
     ·
      simp only [fr_]
      rfl
     refine one_ (i := 5) (N := some 18) #[t_,t_,t_,t_,t_,t_,f_,f_,f_,f_,f_,f_,f_,f_,f_,f_,f_,f_,f_,f_,f_,f_,f_,f_,f_,f_,f_,f_,f_,f_,f_,f_,f_,f_,f_,f_,f_,f_,f_,f_,f_] rfl rfl (one_of HT_.out (by kernel_rfl)) (by decide) (fun K hK => ?_)
     refine goes_ Try.func104 (by kernel_rfl) rfl #[.agg #[.slice A664_0 ((rd_T44 l0_4 x5_1).f0).length c664_0, .int .i64 ((rd_T44 l0_4 x5_1).f1), .int .i64 ((rd_T44 l0_4 x5_1).f2), .string ((rd_T44 l0_4 x5_1).f3)]] (by rfl) rfl rfl (by (try simp only [mp_]); first | done | rfl | (simp only [List.length_drop, List.length_take]; rfl)) ?_
     with_reducible refine (spec_AlarmOk.calls k1 _ _ ((rd_T44 l0_4 x5_1).f0) ((rd_T44 l0_4 x5_1).f1) ((rd_T44 l0_4 x5_1).f2) ((rd_T44 l0_4 x5_1).f3) false _ ?side1 ?side2 A6.out).mono ?_
     (case side1 => repeat (first | exact (Kd.C_below HR664_0.out HB.out) | (with_reducible first | refine ca_ ?_ _ | refine cn_ ?_ _ | refine cd_ ?_)))
     (case side2 => exact HC664_0.out)
     rintro e w45 ⟨rfl, hb⟩
     refine ⟨_, rfl, ?_⟩
     have n0_ := Aside0.mk (blk_below (g := gb660) (o := .cells #[.int .i64 a0_0, .slice A0_1 l0_1.length c0_1, .int .i64 a0_2, .int .i64 a0_3, .slice (some ad664) l0_4.length c0_4] 75 (0, 0)) (by (with_reducible repeat (first | refine kn_ ?_ _ | refine kd_ ?_ | refine ka_ ?_ _)); exact BK660.out) hb)
     have n1_ := Aside0.mk (below_step (by repeat (first | (with_reducible first | exact HB.out | apply ba_ | apply bn_ | apply bd_ | refine below_set ?_ GE660.out) | exact HB.out)) hb)
     clear BK660
     clear HB
     have BK660 := n0_
     have HB := n1_
     clear n0_ n1_
     (try clear hb)
     (try clear hb2)
     (try clear hk)
     (try clear hi)
     refine hK.out _ _ ⟨(blk_cell BK660.out 0).trans rfl, (blk_cell BK660.out 1).trans rfl, (blk_cell BK660.out 2).trans rfl, (blk_cell BK660.out 3).trans rfl, (blk_cell BK660.out 4).trans rfl, ((HB.out.cell (World.block_lt_of_cell? w _ hw664_0)).trans hw664_0), ((HB.out.cell (World.block_lt_of_cell? w _ hw664_1)).trans hw664_1), ((HB.out.cell (World.block_lt_of_cell? w _ hw664_2)).trans hw664_2), ((HB.out.cell (World.block_lt_of_cell? w _ hw664_3)).trans hw664_3)⟩ (fun hHeld => ?_)
     clear hK K
     refine norm_ (a' := ?_) ?_ ?_
     rotate_left
     ·
      show Act.put _ (some 18) _ = _
      simp only [fr_]
      rfl
     refine pu_ 6 19 ?_ (b_ 7 34) rfl rfl HT_.out ?_ ?_ ?_ ?_; rotate_left; intro w'; go_simp; with_reducible rfl; rotate_left; simp only [fr_]; rfl
     refine pu_ 7 20 ?_ (b_ 8 33) rfl rfl HT_.out ?_ ?_ ?_ ?_; rotate_left; intro w'; go_simp; with_reducible rfl; rotate_left; simp only [fr_]; rfl
     refine pv_ 8 21 ?_ (b_ 9 32) rfl rfl HT_.out ?_ ?_; rotate_left; simp only [fr_]; rfl
     refine pv_ 9 22 ?_ (b_ 10 31) rfl rfl HT_.out ?_ ?_; rotate_left; simp only [fr_]; rfl
     refine pv_ 10 23 ?_ (b_ 11 30) rfl rfl HT_.out ?_ ?_; rotate_left; simp only [fr_]; rfl
     refine pv_ 11 24 ?_ (b_ 12 29) rfl rfl HT_.out ?_ ?_; rotate_left; simp only [fr_]; rfl
     refine pv_ 12 25 ?_ (b_ 13 28) rfl rfl HT_.out ?_ ?_; rotate_left; simp only [fr_]; rfl
     refine pv_ 13 26 ?_ (b_ 14 27) rfl rfl HT_.out ?_ ?_; rotate_left; simp only [fr_]; rfl
     refine pv_ 14 27 ?_ (b_ 15 26) rfl rfl HT_.out ?_ ?_; rotate_left; simp only [fr_]; rfl
     refine pv_ 15 28 ?_ (b_ 16 25) rfl rfl HT_.out ?_ ?_; rotate_left; simp only [fr_]; rfl
     refine pv_ 16 29 ?_ (b_ 17 24) rfl rfl HT_.out ?_ ?_; rotate_left; simp only [fr_]; rfl
     refine pv_ 17 30 ?_ (b_ 18 23) rfl rfl HT_.out ?_ ?_; rotate_left; simp only [fr_]; rfl
     refine pv_ 18 31 ?_ (b_ 19 22) rfl rfl HT_.out ?_ ?_; rotate_left; simp only [fr_]; rfl
     refine pv_ 19 32 ?_ (b_ 20 21) rfl rfl HT_.out ?_ ?_; rotate_left; simp only [fr_]; rfl
     refine pv_ 20 33 ?_ (b_ 21 20) rfl rfl HT_.out ?_ ?_; rotate_left; simp only [fr_]; rfl
     refine pv_ 21 34 ?_ (b_ 22 19) rfl rfl HT_.out ?_ ?_; rotate_left; simp only [fr_]; rfl
     refine pv_ 22 35 ?_ (b_ 23 18) rfl rfl HT_.out ?_ ?_; rotate_left; simp only [fr_]; rfl
     refine pv_ 23 36 ?_ (b_ 24 17) rfl rfl HT_.out ?_ ?_; rotate_left; simp only [fr_]; rfl
     refine pv_ 24 37 ?_ (b_ 25 16) rfl rfl HT_.out ?_ ?_; rotate_left; simp only [fr_]; rfl
     refine pv_ 25 38 ?_ (b_ 26 15) rfl rfl HT_.out ?_ ?_; rotate_left; simp only [fr_]; rfl
     refine pv_ 26 39 ?_ (b_ 27 14) rfl rfl HT_.out ?_ ?_; rotate_left; simp only [fr_]; rfl
     refine pu_ 27 40 ?_ (b_ 28 13) rfl rfl HT_.out ?_ ?_ ?_ ?_; rotate_left; intro w'; go_simp; with_reducible rfl; rotate_left; simp only [fr_]; rfl
     refine pu_ 28 41 ?_ (b_ 29 12) rfl rfl HT_.out ?_ ?_ ?_ ?_; rotate_left; intro w'; go_simp; with_reducible rfl; rotate_left; simp only [fr_]; rfl
     refine pv_ 29 42 ?_ (b_ 30 11) rfl rfl HT_.out ?_ ?_; rotate_left; simp only [fr_]; rfl
     refine pv_ 30 43 ?_ (b_ 31 10) rfl rfl HT_.out ?_ ?_; rotate_left; simp only [fr_]; rfl
     refine pv_ 31 44 ?_ (b_ 32 9) rfl rfl HT_.out ?_ ?_; rotate_left; simp only [fr_]; rfl
     refine pv_ 32 45 ?_ (b_ 33 8) rfl rfl HT_.out ?_ ?_; rotate_left; simp only [fr_]; rfl
     refine pv_ 33 46 ?_ (b_ 34 7) rfl rfl HT_.out ?_ ?_; rotate_left; simp only [fr_]; rfl
     refine pv_ 34 47 ?_ (b_ 35 6) rfl rfl HT_.out ?_ ?_; rotate_left; simp only [fr_]; rfl
     refine pv_ 35 48 ?_ (b_ 36 5) rfl rfl HT_.out ?_ ?_; rotate_left; simp only [fr_]; rfl
     refine pv_ 36 49 ?_ (b_ 37 4) rfl rfl HT_.out ?_ ?_; rotate_left; simp only [fr_]; rfl
     refine pv_ 37 50 ?_ (b_ 38 3) rfl rfl HT_.out ?_ ?_; rotate_left; simp only [fr_]; rfl
     refine pv_ 38 51 ?_ (b_ 39 2) rfl rfl HT_.out ?_ ?_; rotate_left; simp only [fr_]; rfl
     refine pv_ 39 52 ?_ (b_ 40 1) rfl rfl HT_.out ?_ ?_; rotate_left; simp only [fr_]; rfl
     refine pu_ 40 53 ?_ (b_ 41 0) rfl rfl HT_.out ?_ ?_ ?_ ?_; rotate_left; intro w'; go_simp; with_reducible rfl; rotate_left; simp only [fr_]; rfl
     refine done_ (done_of HT_.out (by kernel_rfl)) ?_
     try go_wp2
     go_ret
     exact ⟨by first | rfl | (simp [errW_none, errW_some] <;> rfl) | (simp [*, errW_none, errW_some] <;> rfl), by repeat (first | (with_reducible first | exact HB.out | apply ba_ | apply bn_ | apply bd_ | refine below_set ?_ GE660.out) | exact HB.out)⟩
    rw [if_neg c5] at H
    exact absurd H (by simp)
   rw [if_neg c4] at H
   have c4b0 : decide (x5_1 < (l0_4.length : Int)) = false := decide_eq_false c4
   clear c4
   by_cases c46 : a0_0 ≥ 0
   ·
    rw [if_pos c46] at H
    have c46b0 : decide (0 ≤ a0_0) = true := decide_eq_true c46
    clear c46
    replace H := Option.bind_eq_some_iff.mp H
    obtain ⟨t661, A470, H⟩ := H
    have A47 := Aside0.mk A470
    clear A470
    by_cases c48 : t661 = true
    ·
     subst c48
     rw [if_pos rfl] at H
     replace H := Option.bind_eq_some_iff.mp H
     obtain ⟨t662, A490, H⟩ := H
     have A49 := Aside0.mk A490
     clear A490
     by_cases c50 : t662 = true
     ·
      subst c50
      rw [if_pos rfl] at H
      by_cases c51 : a0_3 = (-1)
      ·
       rw [if_pos c51] at H
       have c51b0 : (a0_3 == (-1)) = true := beq_iff_eq.mpr c51
       have c51b1 : (a0_3 != (-1)) = false := bne_eq_false_iff_eq.mpr c51
       clear c51
       obtain rfl := Option.some.inj H
       have hcz52_0 : wr.cell? ⟨gb660, 0, none⟩ = some (.int .i64 a0_0) := (blk_cell BK660.out 0).trans rfl
       have hcz52_1 : wr.cell? ⟨gb660, 1, none⟩ = some (.slice A0_1 l0_1.length c0_1) := (blk_cell BK660.out 1).trans rfl
       have hcz52_2 : wr.cell? ⟨gb660, 2, none⟩ = some (.int .i64 a0_2) := (blk_cell BK660.out 2).trans rfl
       have hcz52_3 : wr.cell? ⟨gb660, 3, none⟩ = some (.int .i64 a0_3) := (blk_cell BK660.out 3).trans rfl
       have hcz52_4 : wr.cell? ⟨gb660, 4, none⟩ = some (.slice A0_4 l0_4.length c0_4) := (blk_cell BK660.out 4).trans rfl
       have hfz52_0 := blk_frozen BK660.out 0
       have hfz52_1 := blk_frozen BK660.out 1
       have hfz52_2 := blk_frozen BK660.out 2
       have hfz52_3 := blk_frozen BK660.out 3
       have hfz52_4 := blk_frozen BK660.out 4
       go_wp2_with (first | (go_at_call 108; (with_reducible refine (spec_SetOk.calls k1 _ _ l0_1 true _ ?side1 ?side2 A47.out).mono ?_); (case side1 => repeat (first | exact (Kd.C_below HR0_1.out HB.out) | (with_reducible first | refine ca_ ?_ _ | refine cn_ ?_ _ | refine cd_ ?_))); (case side2 => exact HC0_1.out); rintro e w53 ⟨rfl, hb⟩; have n0_ := Aside0.mk (blk_below (g := gb660) (o := .cells #[.int .i64 a0_0, .slice A0_1 l0_1.length c0_1, .int .i64 a0_2, .int .i64 a0_3, .slice A0_4 l0_4.length c0_4] 75 (0, 0)) (by (with_reducible repeat (first | refine kn_ ?_ _ | refine kd_ ?_ | refine ka_ ?_ _)); exact BK660.out) hb); have n1_ := Aside0.mk (below_step (by repeat (first | (with_reducible first | exact HB.out | apply ba_ | apply bn_ | apply bd_ | refine below_set ?_ GE660.out) | exact HB.out)) hb); clear BK660; clear HB; have BK660 := n0_; have HB := n1_; clear n0_ n1_; (try clear hb); (try clear hb2); (try clear hk); (try clear hi); have hcz54_0 : w53.cell? ⟨gb660, 0, none⟩ = some (.int .i64 a0_0) := (blk_cell BK660.out 0).trans rfl; have hcz54_1 : w53.cell? ⟨gb660, 1, none⟩ = some (.slice A0_1 l0_1.length c0_1) := (blk_cell BK660.out 1).trans rfl; have hcz54_2 : w53.cell? ⟨gb660, 2, none⟩ = some (.int .i64 a0_2) := (blk_cell BK660.out 2).trans rfl; have hcz54_3 : w53.cell? ⟨gb660, 3, none⟩ = some (.int .i64 a0_3) := (blk_cell BK660.out 3).trans rfl; have hcz54_4 : w53.cell? ⟨gb660, 4, none⟩ = some (.slice A0_4 l0_4.length c0_4) := (blk_cell BK660.out 4).trans rfl; have hfz54_0 := blk_frozen BK660.out 0; have hfz54_1 := blk_frozen BK660.out 1; have hfz54_2 := blk_frozen BK660.out 2; have hfz54_3 := blk_frozen BK660.out 3; have hfz54_4 := blk_frozen BK660.out 4) | (go_at_call 109; (with_reducible refine (spec_l1In.calls a0_2 0 99999 true _ A49.out).mono ?_); rintro e w' ⟨rfl, ⟨nd, rfl⟩⟩))
       go_ret
       exact ⟨by first | rfl | (simp [errW_none, errW_some] <;> rfl) | (simp [*, errW_none, errW_some] <;> rfl), by repeat (first | (with_reducible first | exact HB.out | apply ba_ | apply bn_ | apply bd_ | refine below_set ?_ GE660.out) | exact HB.out)⟩
      rw [if_neg c51] at H
      have c51b0 : (a0_3 == (-1)) = false := beq_eq_false_iff_ne.mpr c51
      have c51b1 : (a0_3 != (-1)) = true := bne_iff_ne.mpr c51
      replace H := Option.bind_eq_some_iff.mp H
      obtain ⟨t663, A550, H⟩ := H
      have A55 := Aside0.mk A550
      clear A550
      by_cases c56 : t663 = true
      ·
       subst c56
       rw [if_pos rfl] at H
       obtain rfl := Option.some.inj H
       have hcz57_0 : wr.cell? ⟨gb660, 0, none⟩ = some (.int .i64 a0_0) := (blk_cell BK660.out 0).trans rfl
       have hcz57_1 : wr.cell? ⟨gb660, 1, none⟩ = some (.slice A0_1 l0_1.length c0_1) := (blk_cell BK660.out 1).trans rfl
       have hcz57_2 : wr.cell? ⟨gb660, 2, none⟩ = some (.int .i64 a0_2) := (blk_cell BK660.out 2).trans rfl
       have hcz57_3 : wr.cell? ⟨gb660, 3, none⟩ = some (.int .i64 a0_3) := (blk_cell BK660.out 3).trans rfl
       have hcz57_4 : wr.cell? ⟨gb660, 4, none⟩ = some (.slice A0_4 l0_4.length c0_4) := (blk_cell BK660.out 4).trans rfl
       have hfz57_0 := blk_frozen BK660.out 0
       have hfz57_1 := blk_frozen BK660.out 1
       have hfz57_2 := blk_frozen BK660.out 2
       have hfz57_3 := blk_frozen BK660.out 3
       have hfz57_4 := blk_frozen BK660.out 4
       go_wp2_with (first | (go_at_call 108; (with_reducible refine (spec_SetOk.calls k1 _ _ l0_1 true _ ?side1 ?side2 A47.out).mono ?_); (case side1 => repeat (first | exact (Kd.C_below HR0_1.out HB.out) | (with_reducible first | refine ca_ ?_ _ | refine cn_ ?_ _ | refine cd_ ?_))); (case side2 => exact HC0_1.out); rintro e w58 ⟨rfl, hb⟩; have n0_ := Aside0.mk (blk_below (g := gb660) (o := .cells #[.int .i64 a0_0, .slice A0_1 l0_1.length c0_1, .int .i64 a0_2, .int .i64 a0_3, .slice A0_4 l0_4.length c0_4] 75 (0, 0)) (by (with_reducible repeat (first | refine kn_ ?_ _ | refine kd_ ?_ | refine ka_ ?_ _)); exact BK660.out) hb); have n1_ := Aside0.mk (below_step (by repeat (first | (with_reducible first | exact HB.out | apply ba_ | apply bn_ | apply bd_ | refine below_set ?_ GE660.out) | exact HB.out)) hb); clear BK660; clear HB; have BK660 := n0_; have HB := n1_; clear n0_ n1_; (try clear hb); (try clear hb2); (try clear hk); (try clear hi); have hcz59_0 : w58.cell? ⟨gb660, 0, none⟩ = some (.int .i64 a0_0) := (blk_cell BK660.out 0).trans rfl; have hcz59_1 : w58.cell? ⟨gb660, 1, none⟩ = some (.slice A0_1 l0_1.length c0_1) := (blk_cell BK660.out 1).trans rfl; have hcz59_2 : w58.cell? ⟨gb660, 2, none⟩ = some (.int .i64 a0_2) := (blk_cell BK660.out 2).trans rfl; have hcz59_3 : w58.cell? ⟨gb660, 3, none⟩ = some (.int .i64 a0_3) := (blk_cell BK660.out 3).trans rfl; have hcz59_4 : w58.cell? ⟨gb660, 4, none⟩ = some (.slice A0_4 l0_4.length c0_4) := (blk_cell BK660.out 4).trans rfl; have hfz59_0 := blk_frozen BK660.out 0; have hfz59_1 := blk_frozen BK660.out 1; have hfz59_2 := blk_frozen BK660.out 2; have hfz59_3 := blk_frozen BK660.out 3; have hfz59_4 := blk_frozen BK660.out 4) | (go_at_call 109; (with_reducible refine (spec_l1In.calls a0_2 0 99999 true _ A49.out).mono ?_); rintro e w' ⟨rfl, ⟨nd, rfl⟩⟩) | (go_at_call 109; (with_reducible refine (spec_l1In.calls a0_3 a0_2 99999 true _ A55.out).mono ?_); rintro e w' ⟨rfl, ⟨nd, rfl⟩⟩))
       go_ret
       exact ⟨by first | rfl | (simp [errW_none, errW_some] <;> rfl) | (simp [*, errW_none, errW_some] <;> rfl), by repeat (first | (with_reducible first | exact HB.out | apply ba_ | apply bn_ | apply bd_ | refine below_set ?_ GE660.out) | exact HB.out)⟩
      replace c56 := Bool.eq_false_iff.mpr c56
      subst c56
      rw [if_neg (show ¬ (false = true) by decide)] at H
      obtain rfl := Option.some.inj H
      have hcz60_0 : wr.cell? ⟨gb660, 0, none⟩ = some (.int .i64 a0_0) := (blk_cell BK660.out 0).trans rfl
      have hcz60_1 : wr.cell? ⟨gb660, 1, none⟩ = some (.slice A0_1 l0_1.length c0_1) := (blk_cell BK660.out 1).trans rfl
      have hcz60_2 : wr.cell? ⟨gb660, 2, none⟩ = some (.int .i64 a0_2) := (blk_cell BK660.out 2).trans rfl
      have hcz60_3 : wr.cell? ⟨gb660, 3, none⟩ = some (.int .i64 a0_3) := (blk_cell BK660.out 3).trans rfl
      have hcz60_4 : wr.cell? ⟨gb660, 4, none⟩ = some (.slice A0_4 l0_4.length c0_4) := (blk_cell BK660.out 4).trans rfl
      have hfz60_0 := blk_frozen BK660.out 0
      have hfz60_1 := blk_frozen BK660.out 1
      have hfz60_2 := blk_frozen BK660.out 2
      have hfz60_3 := blk_frozen BK660.out 3
      have hfz60_4 := blk_frozen BK660.out 4
      go_wp2_with (first | (go_at_call 108; (with_reducible refine (spec_SetOk.calls k1 _ _ l0_1 true _ ?side1 ?side2 A47.out).mono ?_); (case side1 => repeat (first | exact (Kd.C_below HR0_1.out HB.out) | (with_reducible first | refine ca_ ?_ _ | refine cn_ ?_ _ | refine cd_ ?_))); (case side2 => exact HC0_1.out); rintro e w61 ⟨rfl, hb⟩; have n0_ := Aside0.mk (blk_below (g := gb660) (o := .cells #[.int .i64 a0_0, .slice A0_1 l0_1.length c0_1, .int .i64 a0_2, .int .i64 a0_3, .slice A0_4 l0_4.length c0_4] 75 (0, 0)) (by (with_reducible repeat (first | refine kn_ ?_ _ | refine kd_ ?_ | refine ka_ ?_ _)); exact BK660.out) hb); have n1_ := Aside0.mk (below_step (by repeat (first | (with_reducible first | exact HB.out | apply ba_ | apply bn_ | apply bd_ | refine below_set ?_ GE660.out) | exact HB.out)) hb); clear BK660; clear HB; have BK660 := n0_; have HB := n1_; clear n0_ n1_; (try clear hb); (try clear hb2); (try clear hk); (try clear hi); have hcz62_0 : w61.cell? ⟨gb660, 0, none⟩ = some (.int .i64 a0_0) := (blk_cell BK660.out 0).trans rfl; have hcz62_1 : w61.cell? ⟨gb660, 1, none⟩ = some (.slice A0_1 l0_1.length c0_1) := (blk_cell BK660.out 1).trans rfl; have hcz62_2 : w61.cell? ⟨gb660, 2, none⟩ = some (.int .i64 a0_2) := (blk_cell BK660.out 2).trans rfl; have hcz62_3 : w61.cell? ⟨gb660, 3, none⟩ = some (.int .i64 a0_3) := (blk_cell BK660.out 3).trans rfl; have hcz62_4 : w61.cell? ⟨gb660, 4, none⟩ = some (.slice A0_4 l0_4.length c0_4) := (blk_cell BK660.out 4).trans rfl; have hfz62_0 := blk_frozen BK660.out 0; have hfz62_1 := blk_frozen BK660.out 1; have hfz62_2 := blk_frozen BK660.out 2; have hfz62_3 := blk_frozen BK660.out 3; have hfz62_4 := blk_frozen BK660.out 4) | (go_at_call 109; (with_reducible refine (spec_l1In.calls a0_2 0 99999 true _ A49.out).mono ?_); rintro e w' ⟨rfl, ⟨nd, rfl⟩⟩) | (go_at_call 109; (with_reducible refine (spec_l1In.calls a0_3 a0_2 99999 false _ A55.out).mono ?_); rintro e w' ⟨rfl, ⟨nd, rfl⟩⟩))
      go_ret
      exact ⟨by first | rfl | (simp [errW_none, errW_some] <;> rfl) | (simp [*, errW_none, errW_some] <;> rfl), by repeat (first | (with_reducible first | exact HB.out | apply ba_ | apply bn_ | apply bd_ | refine below_set ?_ GE660.out) | exact HB.out)⟩
     replace c50 := Bool.eq_false_iff.mpr c50
     subst c50
     rw [if_neg (show ¬ (false = true) by decide)] at H
     obtain rfl := Option.some.inj H
     have hcz63_0 : wr.cell? ⟨gb660, 0, none⟩ = some (.int .i64 a0_0) := (blk_cell BK660.out 0).trans rfl
     have hcz63_1 : wr.cell? ⟨gb660, 1, none⟩ = some (.slice A0_1 l0_1.length c0_1) := (blk_cell BK660.out 1).trans rfl
     have hcz63_2 : wr.cell? ⟨gb660, 2, none⟩ = some (.int .i64 a0_2) := (blk_cell BK660.out 2).trans rfl
     have hcz63_3 : wr.cell? ⟨gb660, 3, none⟩ = some (.int .i64 a0_3) := (blk_cell BK660.out 3).trans rfl
     have hcz63_4 : wr.cell? ⟨gb660, 4, none⟩ = some (.slice A0_4 l0_4.length c0_4) := (blk_cell BK660.out 4).trans rfl
     have hfz63_0 := blk_frozen BK660.out 0
     have hfz63_1 := blk_frozen BK660.out 1
     have hfz63_2 := blk_frozen BK660.out 2
     have hfz63_3 := blk_frozen BK660.out 3
     have hfz63_4 := blk_frozen BK660.out 4
     go_wp2_with (first | (go_at_call 108; (with_reducible refine (spec_SetOk.calls k1 _ _ l0_1 true _ ?side1 ?side2 A47.out).mono ?_); (case side1 => repeat (first | exact (Kd.C_below HR0_1.out HB.out) | (with_reducible first | refine ca_ ?_ _ | refine cn_ ?_ _ | refine cd_ ?_))); (case side2 => exact HC0_1.out); rintro e w64 ⟨rfl, hb⟩; have n0_ := Aside0.mk (blk_below (g := gb660) (o := .cells #[.int .i64 a0_0, .slice A0_1 l0_1.length c0_1, .int .i64 a0_2, .int .i64 a0_3, .slice A0_4 l0_4.length c0_4] 75 (0, 0)) (by (with_reducible repeat (first | refine kn_ ?_ _ | refine kd_ ?_ | refine ka_ ?_ _)); exact BK660.out) hb); have n1_ := Aside0.mk (below_step (by repeat (first | (with_reducible first | exact HB.out | apply ba_ | apply bn_ | apply bd_ | refine below_set ?_ GE660.out) | exact HB.out)) hb); clear BK660; clear HB; have BK660 := n0_; have HB := n1_; clear n0_ n1_; (try clear hb); (try clear hb2); (try clear hk); (try clear hi); have hcz65_0 : w64.cell? ⟨gb660, 0, none⟩ = some (.int .i64 a0_0) := (blk_cell BK660.out 0).trans rfl; have hcz65_1 : w64.cell? ⟨gb660, 1, none⟩ = some (.slice A0_1 l0_1.length c0_1) := (blk_cell BK660.out 1).trans rfl; have hcz65_2 : w64.cell? ⟨gb660, 2, none⟩ = some (.int .i64 a0_2) := (blk_cell BK660.out 2).trans rfl; have hcz65_3 : w64.cell? ⟨gb660, 3, none⟩ = some (.int .i64 a0_3) := (blk_cell BK660.out 3).trans rfl; have hcz65_4 : w64.cell? ⟨gb660, 4, none⟩ = some (.slice A0_4 l0_4.length c0_4) := (blk_cell BK660.out 4).trans rfl; have hfz65_0 := blk_frozen BK660.out 0; have hfz65_1 := blk_frozen BK660.out 1; have hfz65_2 := blk_frozen BK660.out 2; have hfz65_3 := blk_frozen BK660.out 3; have hfz65_4 := blk_frozen BK660.out 4) | (go_at_call 109; (with_reducible refine (spec_l1In.calls a0_2 0 99999 false _ A49.out).mono ?_); rintro e w' ⟨rfl, ⟨nd, rfl⟩⟩))
     go_ret
     exact ⟨by first | rfl | (simp [errW_none, errW_some] <;> rfl) | (simp [*, errW_none, errW_some] <;> rfl), by repeat (first | (with_reducible first | exact HB.out | apply ba_ | apply bn_ | apply bd_ | refine below_set ?_ GE660.out) | exact HB.out)⟩
    replace c48 := Bool.eq_false_iff.mpr c48
    subst c48
    rw [if_neg (show ¬ (false = true) by decide)] at H
    obtain rfl := Option.some.inj H
    have hcz66_0 : wr.cell? ⟨gb660, 0, none⟩ = some (.int .i64 a0_0) := (blk_cell BK660.out 0).trans rfl
    have hcz66_1 : wr.cell? ⟨gb660, 1, none⟩ = some (.slice A0_1 l0_1.length c0_1) := (blk_cell BK660.out 1).trans rfl
    have hcz66_2 : wr.cell? ⟨gb660, 2, none⟩ = some (.int .i64 a0_2) := (blk_cell BK660.out 2).trans rfl
    have hcz66_3 : wr.cell? ⟨gb660, 3, none⟩ = some (.int .i64 a0_3) := (blk_cell BK660.out 3).trans rfl
    have hcz66_4 : wr.cell? ⟨gb660, 4, none⟩ = some (.slice A0_4 l0_4.length c0_4) := (blk_cell BK660.out 4).trans rfl
    have hfz66_0 := blk_frozen BK660.out 0
    have hfz66_1 := blk_frozen BK660.out 1
    have hfz66_2 := blk_frozen BK660.out 2
    have hfz66_3 := blk_frozen BK660.out 3
    have hfz66_4 := blk_frozen BK660.out 4
    go_wp2_with (first | (go_at_call 108; (with_reducible refine (spec_SetOk.calls k1 _ _ l0_1 false _ ?side1 ?side2 A47.out).mono ?_); (case side1 => repeat (first | exact (Kd.C_below HR0_1.out HB.out) | (with_reducible first | refine ca_ ?_ _ | refine cn_ ?_ _ | refine cd_ ?_))); (case side2 => exact HC0_1.out); rintro e w67 ⟨rfl, hb⟩; have n0_ := Aside0.mk (blk_below (g := gb660) (o := .cells #[.int .i64 a0_0, .slice A0_1 l0_1.length c0_1, .int .i64 a0_2, .int .i64 a0_3, .slice A0_4 l0_4.length c0_4] 75 (0, 0)) (by (with_reducible repeat (first | refine kn_ ?_ _ | refine kd_ ?_ | refine ka_ ?_ _)); exact BK660.out) hb); have n1_ := Aside0.mk (below_step (by repeat (first | (with_reducible first | exact HB.out | apply ba_ | apply bn_ | apply bd_ | refine below_set ?_ GE660.out) | exact HB.out)) hb); clear BK660; clear HB; have BK660 := n0_; have HB := n1_; clear n0_ n1_; (try clear hb); (try clear hb2); (try clear hk); (try clear hi)))
    go_ret
    exact ⟨by first | rfl | (simp [errW_none, errW_some] <;> rfl) | (simp [*, errW_none, errW_some] <;> rfl), by repeat (first | (with_reducible first | exact HB.out | apply ba_ | apply bn_ | apply bd_ | refine below_set ?_ GE660.out) | exact HB.out)⟩
   rw [if_neg c46] at H
   have c46b0 : decide (0 ≤ a0_0) = false := decide_eq_false c46
   clear c46
   obtain rfl := Option.some.inj H
   have hcz68_0 : wr.cell? ⟨gb660, 0, none⟩ = some (.int .i64 a0_0) := (blk_cell BK660.out 0).trans rfl
   have hcz68_1 : wr.cell? ⟨gb660, 1, none⟩ = some (.slice A0_1 l0_1.length c0_1) := (blk_cell BK660.out 1).trans rfl
   have hcz68_2 : wr.cell? ⟨gb660, 2, none⟩ = some (.int .i64 a0_2) := (blk_cell BK660.out 2).trans rfl
   have hcz68_3 : wr.cell? ⟨gb660, 3, none⟩ = some (.int .i64 a0_3) := (blk_cell BK660.out 3).trans rfl
   have hcz68_4 : wr.cell? ⟨gb660, 4, none⟩ = some (.slice A0_4 l0_4.length c0_4) := (blk_cell BK660.out 4).trans rfl
   have hfz68_0 := blk_frozen BK660.out 0
   have hfz68_1 := blk_frozen BK660.out 1
   have hfz68_2 := blk_frozen BK660.out 2
   have hfz68_3 := blk_frozen BK660.out 3
   have hfz68_4 := blk_frozen BK660.out 4
   go_wp2
   go_ret
   exact ⟨by first | rfl | (simp [errW_none, errW_some] <;> rfl) | (simp [*, errW_none, errW_some] <;> rfl), by repeat (first | (with_reducible first | exact HB.out | apply ba_ | apply bn_ | apply bd_ | refine below_set ?_ GE660.out) | exact HB.out)⟩
mutual
def spec_GroupsOk.l0 : Nat → List (S75) → List ByteArray → Int → Option (Bool)
 | 0, _, _, _ => none
 | k + 1, x0, x1, x5 => if x5 < (x0.length : Int) then (if 0 ≤ x5 then ((spec_GroupOk.f k ((rd_T75 x0 x5).f0) ((rd_T75 x0 x5).f1) ((rd_T75 x0 x5).f2) ((rd_T75 x0 x5).f3) ((rd_T75 x0 x5).f4) x1).bind fun t1047 => (if t1047 = true then (if x5 > 0 then (if 0 ≤ (wrap64 (x5 - 1)) then (if (wrap64 (x5 - 1)) < (x0.length : Int) then (spec_GroupsOk.j1 k x0 x1 x5 (decide (((rd_T75 x0 (wrap64 (x5 - 1))).f0) ≥ ((rd_T75 x0 x5).f0)))) else (none)) else (none)) else (spec_GroupsOk.j1 k x0 x1 x5 false)) else (spec_GroupsOk.j1 k x0 x1 x5 true))) else (none)) else (some (decide ((x0.length : Int) ≤ 12)))
def spec_GroupsOk.j1 : Nat → List (S75) → List ByteArray → Int → Bool → Option (Bool)
 | 0, _, _, _, _ => none
 | k + 1, x0, x1, x5, x37 => if x37 = true then (some false) else (spec_GroupsOk.l1 k x0 x1 x5 0)
def spec_GroupsOk.l1 : Nat → List (S75) → List ByteArray → Int → Int → Option (Bool)
 | 0, _, _, _, _ => none
 | k + 1, x0, x1, x5, x6 => if x6 < x5 then (if 0 ≤ x6 then (if x6 < (x0.length : Int) then (if 0 ≤ x5 then (if x5 < (x0.length : Int) then ((spec_SameSet.f k ((rd_T75 x0 x6).f1) ((rd_T75 x0 x5).f1)).bind fun t1052 => (if t1052 = true then (some false) else (spec_GroupsOk.l1 k x0 x1 x5 (wrap64 (x6 + 1))))) else (none)) else (none)) else (none)) else (none)) else (spec_GroupsOk.l0 k x0 x1 (wrap64 (x5 + 1)))
end
def spec_GroupsOk.f (k : Nat) (l0 : List (S75)) (l1 : List ByteArray) : Option (Bool) := spec_GroupsOk.l0 k l0 l1 0
theorem spec_GroupsOk.mono_l : ∀ k, (∀ y0 y1 y2, LeO (spec_GroupsOk.l0 k y0 y1 y2) (spec_GroupsOk.l0 (k + 1) y0 y1 y2)) ∧ (∀ y0 y1 y2 y3, LeO (spec_GroupsOk.j1 k y0 y1 y2 y3) (spec_GroupsOk.j1 (k + 1) y0 y1 y2 y3)) ∧ (∀ y0 y1 y2 y3, LeO (spec_GroupsOk.l1 k y0 y1 y2 y3) (spec_GroupsOk.l1 (k + 1) y0 y1 y2 y3))
 | 0 => ⟨fun _ _ _ r h => by simp [spec_GroupsOk.l0] at h, fun _ _ _ _ r h => by simp [spec_GroupsOk.j1] at h, fun _ _ _ _ r h => by simp [spec_GroupsOk.l1] at h⟩
 | k + 1 => by
  obtain ⟨ih0, ih1, ih2⟩ := spec_GroupsOk.mono_l k
  refine ⟨?_, ?_, ?_⟩
  ·
   intro y0 y1 y2
   unfold spec_GroupsOk.l0
   repeat' first
   | (with_reducible exact ih0 _ _ _)
   | (with_reducible exact ih1 _ _ _ _)
   | (with_reducible exact ih2 _ _ _ _)
   | (with_reducible exact spec_GroupOk.mono _ _ _ _ _ _ _)
   | (with_reducible exact spec_SameSet.mono _ _ _)
   | (with_reducible exact LeO.refl _)
   | (with_reducible exact LeO.none _)
   | (with_reducible refine LeO.ite ?_ ?_)
   | (with_reducible refine LeO.bind ?_ (fun _ => ?_))
   | exact ih0 _ _ _
   | exact ih1 _ _ _ _
   | exact ih2 _ _ _ _
   | exact spec_GroupOk.mono _ _ _ _ _ _ _
   | exact spec_SameSet.mono _ _ _
  ·
   intro y0 y1 y2 y3
   unfold spec_GroupsOk.j1
   repeat' first
   | (with_reducible exact ih0 _ _ _)
   | (with_reducible exact ih1 _ _ _ _)
   | (with_reducible exact ih2 _ _ _ _)
   | (with_reducible exact spec_GroupOk.mono _ _ _ _ _ _ _)
   | (with_reducible exact spec_SameSet.mono _ _ _)
   | (with_reducible exact LeO.refl _)
   | (with_reducible exact LeO.none _)
   | (with_reducible refine LeO.ite ?_ ?_)
   | (with_reducible refine LeO.bind ?_ (fun _ => ?_))
   | exact ih0 _ _ _
   | exact ih1 _ _ _ _
   | exact ih2 _ _ _ _
   | exact spec_GroupOk.mono _ _ _ _ _ _ _
   | exact spec_SameSet.mono _ _ _
  intro y0 y1 y2 y3
  unfold spec_GroupsOk.l1
  repeat' first
  | (with_reducible exact ih0 _ _ _)
  | (with_reducible exact ih1 _ _ _ _)
  | (with_reducible exact ih2 _ _ _ _)
  | (with_reducible exact spec_GroupOk.mono _ _ _ _ _ _ _)
  | (with_reducible exact spec_SameSet.mono _ _ _)
  | (with_reducible exact LeO.refl _)
  | (with_reducible exact LeO.none _)
  | (with_reducible refine LeO.ite ?_ ?_)
  | (with_reducible refine LeO.bind ?_ (fun _ => ?_))
  | exact ih0 _ _ _
  | exact ih1 _ _ _ _
  | exact ih2 _ _ _ _
  | exact spec_GroupOk.mono _ _ _ _ _ _ _
  | exact spec_SameSet.mono _ _ _
theorem spec_GroupsOk.mono : ∀ a0 a1 k, LeO (spec_GroupsOk.f k a0 a1) (spec_GroupsOk.f (k + 1) a0 a1) := by
 intro a0 a1 k
 obtain ⟨ih0, ih1, ih2⟩ := spec_GroupsOk.mono_l k
 unfold spec_GroupsOk.f
 repeat' first
   | (with_reducible exact ih0 _ _ _)
   | (with_reducible exact ih1 _ _ _ _)
   | (with_reducible exact ih2 _ _ _ _)
   | (with_reducible exact spec_GroupOk.mono _ _ _ _ _ _ _)
   | (with_reducible exact spec_SameSet.mono _ _ _)
   | (with_reducible exact LeO.refl _)
   | (with_reducible exact LeO.none _)
   | (with_reducible refine LeO.ite ?_ ?_)
   | (with_reducible refine LeO.bind ?_ (fun _ => ?_))
   | exact ih0 _ _ _
   | exact ih1 _ _ _ _
   | exact ih2 _ _ _ _
   | exact spec_GroupOk.mono _ _ _ _ _ _ _
   | exact spec_SameSet.mono _ _ _
def spec_GroupsOk.T4 : Bool × List (List Nat × List Nat) := (true, [([], []), ([], []), ([0, 1], [0, 1]), ([2], [2]), ([], []), ([3, 4], [3, 4]), ([5], [5]), ([6, 5], [6]), ([7], [7]), ([8, 7], [7, 8]), ([9, 7, 7], [7, 9]), ([10], [10]), ([10], [10]), ([12, 10], [10, 12]), ([11, 13, 10], [10, 11, 13]), ([14, 10], [10, 14]), ([15, 10], [10, 15]), ([10], [10]), ([10], [10]), ([17, 18, 10], [10, 17, 18]), ([19, 10], [10, 19]), ([20, 10], [10, 20]), ([16, 21, 10], [10, 16, 21]), ([10, 22, 7], [7, 10, 22]), ([7, 23], [7, 23])])
def spec_GroupsOk.B4 : List Nat := [0, 0, 3, 7, 0, 31, 63, 127, 255, 511, 1023, 2047, 2047, 6143, 16383, 32767, 65535, 2047, 2047, 395263, 919551, 1968127, 4194303, 8388607, 16777215]
theorem spec_GroupsOk.tab4 : rtab .any (opsOf Try.f61 4) = spec_GroupsOk.T4 := by kernel_rfl
theorem spec_GroupsOk.bits4 : waitsOk spec_GroupsOk.T4.2 spec_GroupsOk.B4 = true := by kernel_rfl
def spec_GroupsOk.T9 : Bool × List (List Nat × List Nat) := (true, [([], []), ([], []), ([0, 1], [0, 1]), ([2], [2]), ([3], [3]), ([], []), ([], []), ([5, 6], [5, 6]), ([7], [7]), ([8], [8]), ([4, 9], [4, 9])])
def spec_GroupsOk.B9 : List Nat := [0, 0, 3, 7, 15, 0, 0, 96, 224, 480, 1023]
theorem spec_GroupsOk.tab9 : rtab .any (opsOf Try.f61 9) = spec_GroupsOk.T9 := by kernel_rfl
theorem spec_GroupsOk.bits9 : waitsOk spec_GroupsOk.T9.2 spec_GroupsOk.B9 = true := by kernel_rfl
theorem spec_GroupsOk.calls (k : Nat) (A0 : Option Addr) (c0 : Nat) (l0 : List (S75)) (A1 : Option Addr) (c1 : Nat) (l1 : List ByteArray) (r : Bool) (w : World) (hr0 : Kd.C k75 w A0 l0.length l0) (hc0 : l0.length ≤ c0) (hr1 : Kd.C Kd.string w A1 l1.length l1) (hc1 : l1.length ≤ c1) (h : spec_GroupsOk.f k l0 l1 = some r) :
  Calls Try.prog 61 #[.slice A0 l0.length c0, .slice A1 l1.length c1] w fun e w' => e = .returned (.bool r) ∧ Below w.heap.size w w' := by
 have hu75 := Try.underlying75
 have HR0 := Aside0.mk hr0
 have HC0 := Aside0.mk hc0
 clear hr0 hc0
 have HR1 := Aside0.mk hr1
 have HC1 := Aside0.mk hc1
 clear hr1 hc1
 have HB := Aside0.mk (Below.refl w.heap.size w)
 have H : (spec_GroupsOk.l0 k l0 l1 0) = some r := h
 clear h
 have H' := Aside0.mk H
 clear H
 go_enter Try.func61, Try.ntmps61
 go_wp2
 go_loopg [5] k (fun kq v5 w' => ∃ (x5_1 : Int), v5 = .int .i64 x5_1 ∧ Aside0 (spec_GroupsOk.l0 kq l0 l1 x5_1 = some r) ∧ Aside0 (kq ≤ k) ∧ Aside0 (Below w.heap.size w w'))
 case atStart => exact ⟨(0), (by first | rfl | (simp; done) | (simp [*]; done)), H', ⟨Nat.le_refl _⟩, ⟨by repeat (first | (with_reducible first | exact HB.out | apply ba_ | apply bn_ | apply bd_) | exact HB.out)⟩⟩
 case round =>
  clear H'
  try clear c1
  try clear p2
  obtain ⟨x5_1, rfl, HA, HK1, HB⟩ := hrel
  cases gk with
  | zero => exact absurd HA.out (by simp [spec_GroupsOk.l0])
  | succ k1 =>
   have H := HA.out
   clear HA
   simp only [spec_GroupsOk.l0] at H
   by_cases c3 : x5_1 < (l0.length : Int)
   ·
    rw [if_pos c3] at H
    have c3b0 := decide_eq_true c3
    clear c3
    have HC4 := Aside0.mk H
    clear H
    go_upto_region 4 with (fail)
    go_cut [37] (fun v37 wc => ∃ (kq : Nat) (x37_3 : Bool), v37 = .bool x37_3 ∧ Aside0 (spec_GroupsOk.j1 kq l0 l1 x5_1 x37_3 = some r) ∧ Aside0 (kq ≤ k1) ∧ Aside0 (Below w.heap.size w wc))
    case first =>
     have H := HC4.out
     clear HC4
     by_cases c5 : 0 ≤ x5_1
     ·
      rw [if_pos c5] at H
      have c5b0 := decide_eq_true c5
      clear c5
      (first | rw [c5b0] | (simp only [i64_w, i32_w]; rw [c5b0]) | skip)
      replace H := Option.bind_eq_some_iff.mp H
      obtain ⟨t1047, A60, H⟩ := H
      have A6 := Aside0.mk A60
      clear A60
      by_cases c7 : t1047 = true
      ·
       subst c7
       rw [if_pos rfl] at H
       by_cases c8 : x5_1 > 0
       ·
        rw [if_pos c8] at H
        have c8b0 : decide (0 < x5_1) = true := decide_eq_true c8
        clear c8
        obtain ⟨ji9, hji9⟩ : ∃ j_ : Int, (wrap64 (x5_1 - 1)) = j_ := ⟨_, rfl⟩
        replace H : (if 0 ≤ (ji9) then (if (ji9) < (l0.length : Int) then (spec_GroupsOk.j1 k1 l0 l1 x5_1 (decide (((rd_T75 l0 (ji9)).f0) ≥ ((rd_T75 l0 x5_1).f0)))) else (none)) else (none)) = some r := by first | (rw [hji9] at H; exact H) | (simp only [hji9] at H ⊢; exact H)
        (try rw [hji9] at A6)
        have hji9w : (IntKind.i64.wrap (x5_1 - 1)) = ji9 := (i64_w _).trans hji9
        by_cases c10 : 0 ≤ (ji9)
        ·
         rw [if_pos c10] at H
         have c10b0 := decide_eq_true c10
         clear c10
         by_cases c11 : (ji9) < (l0.length : Int)
         ·
          rw [if_pos c11] at H
          have c11b0 := decide_eq_true c11
          clear c11
          have H' := Aside0.mk H
          clear H
          try go_wp2
          have n0_ := Aside0.mk (bd_ HB.out)
          clear HB
          have HB := n0_
          clear n0_
          have p1046 : 0 ≤ (x5_1 : Int) := of_decide_eq_true (by with_reducible assumption)
          have q1046 : x5_1 < (l0.length : Int) := of_decide_eq_true (by with_reducible assumption)
          obtain ⟨ad1046, A1046_1, c1046_1, A1046_4, c1046_4, e1046, hx1046_0, hx1046_1, hx1046_2, hx1046_3, hx1046_4, hl1046_1, hi1046_1, hl1046_4, hi1046_4⟩ := at_T75 HR0.out x5_1 p1046 q1046
          have hw1046_4 := hx1046_4
          have hw1046_3 := hx1046_3
          have hw1046_2 := hx1046_2
          have hw1046_1 := hx1046_1
          have hw1046_0 := hx1046_0
          cases e1046
          replace hx1046_0 := cl_ HB.out hx1046_0
          replace hx1046_1 := cl_ HB.out hx1046_1
          replace hx1046_2 := cl_ HB.out hx1046_2
          replace hx1046_3 := cl_ HB.out hx1046_3
          replace hx1046_4 := cl_ HB.out hx1046_4
          have HR1046_1 := Aside0.mk hi1046_1
          have HC1046_1 := Aside0.mk hl1046_1
          clear hi1046_1 hl1046_1
          have HR1046_4 := Aside0.mk hi1046_4
          have HC1046_4 := Aside0.mk hl1046_4
          clear hi1046_4 hl1046_4
          replace p1046 := eq_true p1046
          replace q1046 := eq_true q1046
          have p1048 : 0 ≤ ((ji9) : Int) := of_decide_eq_true (by with_reducible assumption)
          have q1048 : (ji9) < (l0.length : Int) := of_decide_eq_true (by with_reducible assumption)
          obtain ⟨ad1048, A1048_1, c1048_1, A1048_4, c1048_4, e1048, hx1048_0, hx1048_1, hx1048_2, hx1048_3, hx1048_4, hl1048_1, hi1048_1, hl1048_4, hi1048_4⟩ := at_T75 HR0.out (ji9) p1048 q1048
          have hw1048_4 := hx1048_4
          have hw1048_3 := hx1048_3
          have hw1048_2 := hx1048_2
          have hw1048_1 := hx1048_1
          have hw1048_0 := hx1048_0
          obtain rfl : ad1046 = ad1048 := (by injection e1048)
          replace hx1048_0 := cl_ HB.out hx1048_0
          replace hx1048_1 := cl_ HB.out hx1048_1
          replace hx1048_2 := cl_ HB.out hx1048_2
          replace hx1048_3 := cl_ HB.out hx1048_3
          replace hx1048_4 := cl_ HB.out hx1048_4
          have HR1048_1 := Aside0.mk hi1048_1
          have HC1048_1 := Aside0.mk hl1048_1
          clear hi1048_1 hl1048_1
          have HR1048_4 := Aside0.mk hi1048_4
          have HC1048_4 := Aside0.mk hl1048_4
          clear hi1048_4 hl1048_4
          replace p1048 := eq_true p1048
          replace q1048 := eq_true q1048
          have p1049 : 0 ≤ (x5_1 : Int) := of_decide_eq_true (by with_reducible assumption)
          have q1049 : x5_1 < (l0.length : Int) := of_decide_eq_true (by with_reducible assumption)
          obtain ⟨ad1049, A1049_1, c1049_1, A1049_4, c1049_4, e1049, hx1049_0, hx1049_1, hx1049_2, hx1049_3, hx1049_4, hl1049_1, hi1049_1, hl1049_4, hi1049_4⟩ := at_T75 HR0.out x5_1 p1049 q1049
          have hw1049_4 := hx1049_4
          have hw1049_3 := hx1049_3
          have hw1049_2 := hx1049_2
          have hw1049_1 := hx1049_1
          have hw1049_0 := hx1049_0
          obtain rfl : ad1046 = ad1049 := (by injection e1049)
          replace hx1049_0 := cl_ HB.out hx1049_0
          replace hx1049_1 := cl_ HB.out hx1049_1
          replace hx1049_2 := cl_ HB.out hx1049_2
          replace hx1049_3 := cl_ HB.out hx1049_3
          replace hx1049_4 := cl_ HB.out hx1049_4
          have HR1049_1 := Aside0.mk hi1049_1
          have HC1049_1 := Aside0.mk hl1049_1
          clear hi1049_1 hl1049_1
          have HR1049_4 := Aside0.mk hi1049_4
          have HC1049_4 := Aside0.mk hl1049_4
          clear hi1049_4 hl1049_4
          replace p1049 := eq_true p1049
          replace q1049 := eq_true q1049
          refine start_ (n := 25) (S := fun w' => w'.cell? (ad1046.add ((x5_1).toNat * 5)) = some (.int .i64 ((rd_T75 l0 x5_1).f0)) ∧ w'.cell? ⟨(ad1046.add ((x5_1).toNat * 5)).block, (ad1046.add ((x5_1).toNat * 5)).off + 1, none⟩ = some (.slice A1046_1 ((rd_T75 l0 x5_1).f1).length c1046_1) ∧ w'.cell? ⟨(ad1046.add ((x5_1).toNat * 5)).block, (ad1046.add ((x5_1).toNat * 5)).off + 2, none⟩ = some (.int .i64 ((rd_T75 l0 x5_1).f2)) ∧ w'.cell? ⟨(ad1046.add ((x5_1).toNat * 5)).block, (ad1046.add ((x5_1).toNat * 5)).off + 3, none⟩ = some (.int .i64 ((rd_T75 l0 x5_1).f3)) ∧ w'.cell? ⟨(ad1046.add ((x5_1).toNat * 5)).block, (ad1046.add ((x5_1).toNat * 5)).off + 4, none⟩ = some (.slice A1046_4 ((rd_T75 l0 x5_1).f4).length c1046_4) ∧ w'.cell? (ad1046.add (((ji9)).toNat * 5)) = some (.int .i64 ((rd_T75 l0 (ji9)).f0)) ∧ w'.cell? ⟨(ad1046.add (((ji9)).toNat * 5)).block, (ad1046.add (((ji9)).toNat * 5)).off + 1, none⟩ = some (.slice A1048_1 ((rd_T75 l0 (ji9)).f1).length c1048_1) ∧ w'.cell? ⟨(ad1046.add (((ji9)).toNat * 5)).block, (ad1046.add (((ji9)).toNat * 5)).off + 2, none⟩ = some (.int .i64 ((rd_T75 l0 (ji9)).f2)) ∧ w'.cell? ⟨(ad1046.add (((ji9)).toNat * 5)).block, (ad1046.add (((ji9)).toNat * 5)).off + 3, none⟩ = some (.int .i64 ((rd_T75 l0 (ji9)).f3)) ∧ w'.cell? ⟨(ad1046.add (((ji9)).toNat * 5)).block, (ad1046.add (((ji9)).toNat * 5)).off + 4, none⟩ = some (.slice A1048_4 ((rd_T75 l0 (ji9)).f4).length c1048_4) ∧ w'.cell? (ad1046.add ((x5_1).toNat * 5)) = some (.int .i64 ((rd_T75 l0 x5_1).f0)) ∧ w'.cell? ⟨(ad1046.add ((x5_1).toNat * 5)).block, (ad1046.add ((x5_1).toNat * 5)).off + 1, none⟩ = some (.slice A1049_1 ((rd_T75 l0 x5_1).f1).length c1049_1) ∧ w'.cell? ⟨(ad1046.add ((x5_1).toNat * 5)).block, (ad1046.add ((x5_1).toNat * 5)).off + 2, none⟩ = some (.int .i64 ((rd_T75 l0 x5_1).f2)) ∧ w'.cell? ⟨(ad1046.add ((x5_1).toNat * 5)).block, (ad1046.add ((x5_1).toNat * 5)).off + 3, none⟩ = some (.int .i64 ((rd_T75 l0 x5_1).f3)) ∧ w'.cell? ⟨(ad1046.add ((x5_1).toNat * 5)).block, (ad1046.add ((x5_1).toNat * 5)).off + 4, none⟩ = some (.slice A1049_4 ((rd_T75 l0 x5_1).f4).length c1049_4)) (ds := []) #[f_,f_,f_,f_,f_,f_,f_,f_,f_,f_,f_,f_,f_,f_,f_,f_,f_,f_,f_,f_,f_,f_,f_,f_,f_] (by kernel_rfl) rfl rfl ⟨((HB.out.cell (World.block_lt_of_cell? w _ hw1046_0)).trans hw1046_0), ((HB.out.cell (World.block_lt_of_cell? w _ hw1046_1)).trans hw1046_1), ((HB.out.cell (World.block_lt_of_cell? w _ hw1046_2)).trans hw1046_2), ((HB.out.cell (World.block_lt_of_cell? w _ hw1046_3)).trans hw1046_3), ((HB.out.cell (World.block_lt_of_cell? w _ hw1046_4)).trans hw1046_4), ((HB.out.cell (World.block_lt_of_cell? w _ hw1048_0)).trans hw1048_0), ((HB.out.cell (World.block_lt_of_cell? w _ hw1048_1)).trans hw1048_1), ((HB.out.cell (World.block_lt_of_cell? w _ hw1048_2)).trans hw1048_2), ((HB.out.cell (World.block_lt_of_cell? w _ hw1048_3)).trans hw1048_3), ((HB.out.cell (World.block_lt_of_cell? w _ hw1048_4)).trans hw1048_4), ((HB.out.cell (World.block_lt_of_cell? w _ hw1049_0)).trans hw1049_0), ((HB.out.cell (World.block_lt_of_cell? w _ hw1049_1)).trans hw1049_1), ((HB.out.cell (World.block_lt_of_cell? w _ hw1049_2)).trans hw1049_2), ((HB.out.cell (World.block_lt_of_cell? w _ hw1049_3)).trans hw1049_3), ((HB.out.cell (World.block_lt_of_cell? w _ hw1049_4)).trans hw1049_4)⟩ (fun hHeld => ?_); refine with_tabW spec_GroupsOk.tab4 spec_GroupsOk.bits4 (fun HT_ HW_ => ?_)
          generalize wr.drew = w12 at HB HR1046_1 HR1046_4 HR1048_1 HR1048_4 HR1049_1 HR1049_4 hx1046_0 hx1046_1 hx1046_2 hx1046_3 hx1046_4 hx1048_0 hx1048_1 hx1048_2 hx1048_3 hx1048_4 hx1049_0 hx1049_1 hx1049_2 hx1049_3 hx1049_4 hHeld ⊢
          refine pu_ 0 13 ?_ (b_ 1 24) rfl rfl HT_.out ?_ ?_ ?_ ?_; rotate_left; intro w'; go_simp; with_reducible rfl; rotate_left; simp only [fr_]; rfl
          refine pu_ 1 14 ?_ (b_ 2 23) rfl rfl HT_.out ?_ ?_ ?_ ?_; rotate_left; intro w'; go_simp; with_reducible rfl; rotate_left; simp only [fr_]; rfl
          refine pu_ 2 15 ?_ (b_ 3 22) rfl rfl HT_.out ?_ ?_ ?_ ?_; rotate_left; intro w'; go_simp; with_reducible rfl; rotate_left; simp only [fr_]; rfl
          refine pu_ 4 17 ?_ #[t_,t_,t_,f_,t_,f_,f_,f_,f_,f_,f_,f_,f_,f_,f_,f_,f_,f_,f_,f_,f_,f_,f_,f_,f_] rfl rfl HT_.out ?_ ?_ ?_ ?_; rotate_left; intro w'; go_simp; with_reducible rfl; rotate_left; simp only [fr_]; rfl
          refine take_ (i := 3) (N := some 16) (v := ?_) (a' := ?_) #[t_,t_,t_,t_,t_,f_,f_,f_,f_,f_,f_,f_,f_,f_,f_,f_,f_,f_,f_,f_,f_,f_,f_,f_,f_] rfl rfl (take_ofW HT_.out HW_.out (by kernel_rfl)) (fun _ _ _ h => h) (Or.inl ⟨by rfl, ?_⟩) hHeld ?_ ?_
          rotate_left
          ·
           rintro w' ⟨s0, s1, s2, s3, s4, s5, s6, s7, s8, s9, s10, s11, s12, s13, s14⟩
           go_simp
           with_reducible rfl
          rotate_left
          ·
           simp only [fr_]
           rfl
          refine one_ (i := 5) (N := some 18) #[t_,t_,t_,t_,t_,t_,f_,f_,f_,f_,f_,f_,f_,f_,f_,f_,f_,f_,f_,f_,f_,f_,f_,f_,f_] rfl rfl (one_of HT_.out (by kernel_rfl)) (by decide) (fun K hK => ?_)
          refine goes_ Try.func50 (by kernel_rfl) rfl #[.agg #[.int .i64 ((rd_T75 l0 x5_1).f0), .slice A1046_1 ((rd_T75 l0 x5_1).f1).length c1046_1, .int .i64 ((rd_T75 l0 x5_1).f2), .int .i64 ((rd_T75 l0 x5_1).f3), .slice A1046_4 ((rd_T75 l0 x5_1).f4).length c1046_4], .slice A1 l1.length c1] (by rfl) rfl rfl (by (try simp only [mp_]); first | done | rfl | (simp only [List.length_drop, List.length_take]; rfl)) ?_
          with_reducible refine (spec_GroupOk.calls k1 ((rd_T75 l0 x5_1).f0) _ _ ((rd_T75 l0 x5_1).f1) ((rd_T75 l0 x5_1).f2) ((rd_T75 l0 x5_1).f3) _ _ ((rd_T75 l0 x5_1).f4) _ _ l1 true _ ?side1 ?side2 ?side3 ?side4 ?side5 ?side6 A6.out).mono ?_
          (case side1 => repeat (first | exact (Kd.C_below HR1046_1.out HB.out) | (with_reducible first | refine ca_ ?_ _ | refine cn_ ?_ _ | refine cd_ ?_)))
          (case side2 => exact HC1046_1.out)
          (case side3 => repeat (first | exact (Kd.C_below HR1046_4.out HB.out) | (with_reducible first | refine ca_ ?_ _ | refine cn_ ?_ _ | refine cd_ ?_)))
          (case side4 => exact HC1046_4.out)
          (case side5 => repeat (first | exact (Kd.C_below HR1.out HB.out) | (with_reducible first | refine ca_ ?_ _ | refine cn_ ?_ _ | refine cd_ ?_)))
          (case side6 => exact HC1.out)
          rintro e w13 ⟨rfl, hb⟩
          refine ⟨_, rfl, ?_⟩
          have n0_ := Aside0.mk (below_step (by repeat (first | (with_reducible first | exact HB.out | apply ba_ | apply bn_ | apply bd_) | exact HB.out)) hb)
          clear HB
          have HB := n0_
          clear n0_
          (try clear hb)
          (try clear hb2)
          (try clear hk)
          (try clear hi)
          refine hK.out _ _ ⟨((HB.out.cell (World.block_lt_of_cell? w _ hw1046_0)).trans hw1046_0), ((HB.out.cell (World.block_lt_of_cell? w _ hw1046_1)).trans hw1046_1), ((HB.out.cell (World.block_lt_of_cell? w _ hw1046_2)).trans hw1046_2), ((HB.out.cell (World.block_lt_of_cell? w _ hw1046_3)).trans hw1046_3), ((HB.out.cell (World.block_lt_of_cell? w _ hw1046_4)).trans hw1046_4), ((HB.out.cell (World.block_lt_of_cell? w _ hw1048_0)).trans hw1048_0), ((HB.out.cell (World.block_lt_of_cell? w _ hw1048_1)).trans hw1048_1), ((HB.out.cell (World.block_lt_of_cell? w _ hw1048_2)).trans hw1048_2), ((HB.out.cell (World.block_lt_of_cell? w _ hw1048_3)).trans hw1048_3), ((HB.out.cell (World.block_lt_of_cell? w _ hw1048_4)).trans hw1048_4), ((HB.out.cell (World.block_lt_of_cell? w _ hw1049_0)).trans hw1049_0), ((HB.out.cell (World.block_lt_of_cell? w _ hw1049_1)).trans hw1049_1), ((HB.out.cell (World.block_lt_of_cell? w _ hw1049_2)).trans hw1049_2), ((HB.out.cell (World.block_lt_of_cell? w _ hw1049_3)).trans hw1049_3), ((HB.out.cell (World.block_lt_of_cell? w _ hw1049_4)).trans hw1049_4)⟩ (fun hHeld => ?_)
          clear hK K
          refine norm_ (a' := ?_) ?_ ?_
          rotate_left
          ·
           show Act.put _ (some 18) _ = _
           simp only [fr_]
           rfl
          refine pu_ 6 19 ?_ (b_ 7 18) rfl rfl HT_.out ?_ ?_ ?_ ?_; rotate_left; intro w'; go_simp; with_reducible rfl; rotate_left; simp only [fr_]; rfl
          refine pu_ 7 20 ?_ (b_ 8 17) rfl rfl HT_.out ?_ ?_ ?_ ?_; rotate_left; intro w'; go_simp; with_reducible rfl; rotate_left; simp only [fr_]; rfl
          refine pu_ 8 21 ?_ (b_ 9 16) rfl rfl HT_.out ?_ ?_ ?_ ?_; rotate_left; intro w'; go_simp; with_reducible rfl; rotate_left; simp only [fr_]; rfl
          refine pu_ 9 22 ?_ (b_ 10 15) rfl rfl HT_.out ?_ ?_ ?_ ?_; rotate_left; intro w'; go_simp; with_reducible rfl; rotate_left; simp only [fr_]; rfl
          refine pu_ 10 23 ?_ (b_ 11 14) rfl rfl HT_.out ?_ ?_ ?_ ?_; rotate_left; intro w'; go_simp; with_reducible rfl; rotate_left; simp only [fr_]; rfl
          refine pu_ 11 24 ?_ (b_ 12 13) rfl rfl HT_.out ?_ ?_ ?_ ?_; rotate_left; intro w'; go_simp; with_reducible rfl; rotate_left; simp only [fr_]; rfl
          refine pu_ 12 25 ?_ (b_ 13 12) rfl rfl HT_.out ?_ ?_ ?_ ?_; rotate_left; intro w'; go_simp; with_reducible rfl; rotate_left; simp only [fr_]; rfl
          refine pu_ 13 26 ?_ (b_ 14 11) rfl rfl HT_.out ?_ ?_ ?_ ?_; rotate_left; intro w'; go_simp; with_reducible rfl; rotate_left; simp only [fr_]; rfl
          refine pu_ 14 27 ?_ (b_ 15 10) rfl rfl HT_.out ?_ ?_ ?_ ?_; rotate_left; intro w'; go_simp; with_reducible rfl; rotate_left; simp only [fr_]; rfl
          refine pu_ 15 28 ?_ (b_ 16 9) rfl rfl HT_.out ?_ ?_ ?_ ?_; rotate_left; intro w'; go_simp; with_reducible rfl; rotate_left; simp only [fr_]; rfl
          refine pu_ 17 30 ?_ #[t_,t_,t_,t_,t_,t_,t_,t_,t_,t_,t_,t_,t_,t_,t_,t_,f_,t_,f_,f_,f_,f_,f_,f_,f_] rfl rfl HT_.out ?_ ?_ ?_ ?_; rotate_left; intro w'; go_simp; with_reducible rfl; rotate_left; simp only [fr_]; rfl
          refine pu_ 18 31 ?_ #[t_,t_,t_,t_,t_,t_,t_,t_,t_,t_,t_,t_,t_,t_,t_,t_,f_,t_,t_,f_,f_,f_,f_,f_,f_] rfl rfl HT_.out ?_ ?_ ?_ ?_; rotate_left; intro w'; go_simp; with_reducible rfl; rotate_left; simp only [fr_]; rfl
          refine pu_ 19 32 ?_ #[t_,t_,t_,t_,t_,t_,t_,t_,t_,t_,t_,t_,t_,t_,t_,t_,f_,t_,t_,t_,f_,f_,f_,f_,f_] rfl rfl HT_.out ?_ ?_ ?_ ?_; rotate_left; intro w'; go_simp; with_reducible rfl; rotate_left; simp only [fr_]; rfl
          refine pu_ 20 33 ?_ #[t_,t_,t_,t_,t_,t_,t_,t_,t_,t_,t_,t_,t_,t_,t_,t_,f_,t_,t_,t_,t_,f_,f_,f_,f_] rfl rfl HT_.out ?_ ?_ ?_ ?_; rotate_left; intro w'; go_simp; with_reducible rfl; rotate_left; simp only [fr_]; rfl
          refine take_ (i := 16) (N := some 29) (v := ?_) (a' := ?_) #[t_,t_,t_,t_,t_,t_,t_,t_,t_,t_,t_,t_,t_,t_,t_,t_,t_,t_,t_,t_,t_,f_,f_,f_,f_] rfl rfl (take_ofW HT_.out HW_.out (by kernel_rfl)) (fun _ _ _ h => h) (Or.inl ⟨by rfl, ?_⟩) hHeld ?_ ?_
          rotate_left
          ·
           rintro w' ⟨s0, s1, s2, s3, s4, s5, s6, s7, s8, s9, s10, s11, s12, s13, s14⟩
           go_simp
           with_reducible rfl
          rotate_left
          ·
           simp only [fr_]
           rfl
          refine take_ (i := 21) (N := some 34) (v := ?_) (a' := ?_) #[t_,t_,t_,t_,t_,t_,t_,t_,t_,t_,t_,t_,t_,t_,t_,t_,t_,t_,t_,t_,t_,t_,f_,f_,f_] rfl rfl (take_ofW HT_.out HW_.out (by kernel_rfl)) (fun _ _ _ h => h) (Or.inl ⟨by rfl, ?_⟩) hHeld ?_ ?_
          rotate_left
          ·
           rintro w' ⟨s0, s1, s2, s3, s4, s5, s6, s7, s8, s9, s10, s11, s12, s13, s14⟩
           go_simp
           with_reducible rfl
          rotate_left
          ·
           simp only [fr_]
           rfl
          refine pu_ 22 35 ?_ (b_ 23 2) rfl rfl HT_.out ?_ ?_ ?_ ?_; rotate_left; intro w'; go_simp; with_reducible rfl; rotate_left; simp only [fr_]; rfl
          refine pu_ 23 36 ?_ (b_ 24 1) rfl rfl HT_.out ?_ ?_ ?_ ?_; rotate_left; intro w'; go_simp; with_reducible rfl; rotate_left; simp only [fr_]; rfl
          refine pu_ 24 37 ?_ (b_ 25 0) rfl rfl HT_.out ?_ ?_ ?_ ?_; rotate_left; intro w'; go_simp; with_reducible rfl; rotate_left; simp only [fr_]; rfl
          refine done_ (done_of HT_.out (by kernel_rfl)) ?_
          try go_wp2
          go_meet
          case rel => exact ⟨_, (decide (((rd_T75 l0 (ji9)).f0) ≥ ((rd_T75 l0 x5_1).f0))), (by first | rfl | (simp; done) | (simp only [← hji9] <;> (first | rfl | simp)) | (simp [*]; done)), H', ⟨by have := HK1.out; first | omega | exact Nat.le_refl _⟩, ⟨by repeat (first | (with_reducible first | exact HB.out | apply ba_ | apply bn_ | apply bd_) | exact HB.out)⟩⟩
         rw [if_neg c11] at H
         exact absurd H (by simp)
        rw [if_neg c10] at H
        exact absurd H (by simp)
       rw [if_neg c8] at H
       have c8b0 : decide (0 < x5_1) = false := decide_eq_false c8
       clear c8
       have H' := Aside0.mk H
       clear H
       try go_wp2
       have n0_ := Aside0.mk (bd_ HB.out)
       clear HB
       have HB := n0_
       clear n0_
       have p1046 : 0 ≤ (x5_1 : Int) := of_decide_eq_true (by with_reducible assumption)
       have q1046 : x5_1 < (l0.length : Int) := of_decide_eq_true (by with_reducible assumption)
       obtain ⟨ad1046, A1046_1, c1046_1, A1046_4, c1046_4, e1046, hx1046_0, hx1046_1, hx1046_2, hx1046_3, hx1046_4, hl1046_1, hi1046_1, hl1046_4, hi1046_4⟩ := at_T75 HR0.out x5_1 p1046 q1046
       have hw1046_4 := hx1046_4
       have hw1046_3 := hx1046_3
       have hw1046_2 := hx1046_2
       have hw1046_1 := hx1046_1
       have hw1046_0 := hx1046_0
       cases e1046
       replace hx1046_0 := cl_ HB.out hx1046_0
       replace hx1046_1 := cl_ HB.out hx1046_1
       replace hx1046_2 := cl_ HB.out hx1046_2
       replace hx1046_3 := cl_ HB.out hx1046_3
       replace hx1046_4 := cl_ HB.out hx1046_4
       have HR1046_1 := Aside0.mk hi1046_1
       have HC1046_1 := Aside0.mk hl1046_1
       clear hi1046_1 hl1046_1
       have HR1046_4 := Aside0.mk hi1046_4
       have HC1046_4 := Aside0.mk hl1046_4
       clear hi1046_4 hl1046_4
       replace p1046 := eq_true p1046
       replace q1046 := eq_true q1046
       refine start_ (n := 25) (S := fun w' => w'.cell? (ad1046.add ((x5_1).toNat * 5)) = some (.int .i64 ((rd_T75 l0 x5_1).f0)) ∧ w'.cell? ⟨(ad1046.add ((x5_1).toNat * 5)).block, (ad1046.add ((x5_1).toNat * 5)).off + 1, none⟩ = some (.slice A1046_1 ((rd_T75 l0 x5_1).f1).length c1046_1) ∧ w'.cell? ⟨(ad1046.add ((x5_1).toNat * 5)).block, (ad1046.add ((x5_1).toNat * 5)).off + 2, none⟩ = some (.int .i64 ((rd_T75 l0 x5_1).f2)) ∧ w'.cell? ⟨(ad1046.add ((x5_1).toNat * 5)).block, (ad1046.add ((x5_1).toNat * 5)).off + 3, none⟩ = some (.int .i64 ((rd_T75 l0 x5_1).f3)) ∧ w'.cell? ⟨(ad1046.add ((x5_1).toNat * 5)).block, (ad1046.add ((x5_1).toNat * 5)).off + 4, none⟩ = some (.slice A1046_4 ((rd_T75 l0 x5_1).f4).length c1046_4)) (ds := []) #[f_,f_,f_,f_,f_,f_,f_,f_,f_,f_,f_,f_,f_,f_,f_,f_,f_,f_,f_,f_,f_,f_,f_,f_,f_] (by kernel_rfl) rfl rfl ⟨((HB.out.cell (World.block_lt_of_cell? w _ hw1046_0)).trans hw1046_0), ((HB.out.cell (World.block_lt_of_cell? w _ hw1046_1)).trans hw1046_1), ((HB.out.cell (World.block_lt_of_cell? w _ hw1046_2)).trans hw1046_2), ((HB.out.cell (World.block_lt_of_cell? w _ hw1046_3)).trans hw1046_3), ((HB.out.cell (World.block_lt_of_cell? w _ hw1046_4)).trans hw1046_4)⟩ (fun hHeld => ?_); refine with_tabW spec_GroupsOk.tab4 spec_GroupsOk.bits4 (fun HT_ HW_ => ?_)
       generalize wr.drew = w14 at HB HR1046_1 HR1046_4 hx1046_0 hx1046_1 hx1046_2 hx1046_3 hx1046_4 hHeld ⊢
       refine pu_ 0 13 ?_ (b_ 1 24) rfl rfl HT_.out ?_ ?_ ?_ ?_; rotate_left; intro w'; go_simp; with_reducible rfl; rotate_left; simp only [fr_]; rfl
       refine pu_ 1 14 ?_ (b_ 2 23) rfl rfl HT_.out ?_ ?_ ?_ ?_; rotate_left; intro w'; go_simp; with_reducible rfl; rotate_left; simp only [fr_]; rfl
       refine pu_ 2 15 ?_ (b_ 3 22) rfl rfl HT_.out ?_ ?_ ?_ ?_; rotate_left; intro w'; go_simp; with_reducible rfl; rotate_left; simp only [fr_]; rfl
       refine pu_ 4 17 ?_ #[t_,t_,t_,f_,t_,f_,f_,f_,f_,f_,f_,f_,f_,f_,f_,f_,f_,f_,f_,f_,f_,f_,f_,f_,f_] rfl rfl HT_.out ?_ ?_ ?_ ?_; rotate_left; intro w'; go_simp; with_reducible rfl; rotate_left; simp only [fr_]; rfl
       refine take_ (i := 3) (N := some 16) (v := ?_) (a' := ?_) #[t_,t_,t_,t_,t_,f_,f_,f_,f_,f_,f_,f_,f_,f_,f_,f_,f_,f_,f_,f_,f_,f_,f_,f_,f_] rfl rfl (take_ofW HT_.out HW_.out (by kernel_rfl)) (fun _ _ _ h => h) (Or.inl ⟨by rfl, ?_⟩) hHeld ?_ ?_
       rotate_left
       ·
        rintro w' ⟨s0, s1, s2, s3, s4⟩
        go_simp
        with_reducible rfl
       rotate_left
       ·
        simp only [fr_]
        rfl
       refine one_ (i := 5) (N := some 18) #[t_,t_,t_,t_,t_,t_,f_,f_,f_,f_,f_,f_,f_,f_,f_,f_,f_,f_,f_,f_,f_,f_,f_,f_,f_] rfl rfl (one_of HT_.out (by kernel_rfl)) (by decide) (fun K hK => ?_)
       refine goes_ Try.func50 (by kernel_rfl) rfl #[.agg #[.int .i64 ((rd_T75 l0 x5_1).f0), .slice A1046_1 ((rd_T75 l0 x5_1).f1).length c1046_1, .int .i64 ((rd_T75 l0 x5_1).f2), .int .i64 ((rd_T75 l0 x5_1).f3), .slice A1046_4 ((rd_T75 l0 x5_1).f4).length c1046_4], .slice A1 l1.length c1] (by rfl) rfl rfl (by (try simp only [mp_]); first | done | rfl | (simp only [List.length_drop, List.length_take]; rfl)) ?_
       with_reducible refine (spec_GroupOk.calls k1 ((rd_T75 l0 x5_1).f0) _ _ ((rd_T75 l0 x5_1).f1) ((rd_T75 l0 x5_1).f2) ((rd_T75 l0 x5_1).f3) _ _ ((rd_T75 l0 x5_1).f4) _ _ l1 true _ ?side1 ?side2 ?side3 ?side4 ?side5 ?side6 A6.out).mono ?_
       (case side1 => repeat (first | exact (Kd.C_below HR1046_1.out HB.out) | (with_reducible first | refine ca_ ?_ _ | refine cn_ ?_ _ | refine cd_ ?_)))
       (case side2 => exact HC1046_1.out)
       (case side3 => repeat (first | exact (Kd.C_below HR1046_4.out HB.out) | (with_reducible first | refine ca_ ?_ _ | refine cn_ ?_ _ | refine cd_ ?_)))
       (case side4 => exact HC1046_4.out)
       (case side5 => repeat (first | exact (Kd.C_below HR1.out HB.out) | (with_reducible first | refine ca_ ?_ _ | refine cn_ ?_ _ | refine cd_ ?_)))
       (case side6 => exact HC1.out)
       rintro e w15 ⟨rfl, hb⟩
       refine ⟨_, rfl, ?_⟩
       have n0_ := Aside0.mk (below_step (by repeat (first | (with_reducible first | exact HB.out | apply ba_ | apply bn_ | apply bd_) | exact HB.out)) hb)
       clear HB
       have HB := n0_
       clear n0_
       (try clear hb)
       (try clear hb2)
       (try clear hk)
       (try clear hi)
       refine hK.out _ _ ⟨((HB.out.cell (World.block_lt_of_cell? w _ hw1046_0)).trans hw1046_0), ((HB.out.cell (World.block_lt_of_cell? w _ hw1046_1)).trans hw1046_1), ((HB.out.cell (World.block_lt_of_cell? w _ hw1046_2)).trans hw1046_2), ((HB.out.cell (World.block_lt_of_cell? w _ hw1046_3)).trans hw1046_3), ((HB.out.cell (World.block_lt_of_cell? w _ hw1046_4)).trans hw1046_4)⟩ (fun hHeld => ?_)
       clear hK K
       refine norm_ (a' := ?_) ?_ ?_
       rotate_left
       ·
        show Act.put _ (some 18) _ = _
        simp only [fr_]
        rfl
       refine pu_ 6 19 ?_ (b_ 7 18) rfl rfl HT_.out ?_ ?_ ?_ ?_; rotate_left; intro w'; go_simp; with_reducible rfl; rotate_left; simp only [fr_]; rfl
       refine pu_ 7 20 ?_ (b_ 8 17) rfl rfl HT_.out ?_ ?_ ?_ ?_; rotate_left; intro w'; go_simp; with_reducible rfl; rotate_left; simp only [fr_]; rfl
       refine pu_ 8 21 ?_ (b_ 9 16) rfl rfl HT_.out ?_ ?_ ?_ ?_; rotate_left; intro w'; go_simp; with_reducible rfl; rotate_left; simp only [fr_]; rfl
       refine pu_ 9 22 ?_ (b_ 10 15) rfl rfl HT_.out ?_ ?_ ?_ ?_; rotate_left; intro w'; go_simp; with_reducible rfl; rotate_left; simp only [fr_]; rfl
       refine pu_ 10 23 ?_ (b_ 11 14) rfl rfl HT_.out ?_ ?_ ?_ ?_; rotate_left; intro w'; go_simp; with_reducible rfl; rotate_left; simp only [fr_]; rfl
       refine pv_ 11 24 ?_ (b_ 12 13) rfl rfl HT_.out ?_ ?_; rotate_left; simp only [fr_]; rfl
       refine pv_ 12 25 ?_ (b_ 13 12) rfl rfl HT_.out ?_ ?_; rotate_left; simp only [fr_]; rfl
       refine pv_ 13 26 ?_ (b_ 14 11) rfl rfl HT_.out ?_ ?_; rotate_left; simp only [fr_]; rfl
       refine pv_ 14 27 ?_ (b_ 15 10) rfl rfl HT_.out ?_ ?_; rotate_left; simp only [fr_]; rfl
       refine pv_ 15 28 ?_ (b_ 16 9) rfl rfl HT_.out ?_ ?_; rotate_left; simp only [fr_]; rfl
       refine pv_ 16 29 ?_ (b_ 17 8) rfl rfl HT_.out ?_ ?_; rotate_left; simp only [fr_]; rfl
       refine pv_ 17 30 ?_ (b_ 18 7) rfl rfl HT_.out ?_ ?_; rotate_left; simp only [fr_]; rfl
       refine pv_ 18 31 ?_ (b_ 19 6) rfl rfl HT_.out ?_ ?_; rotate_left; simp only [fr_]; rfl
       refine pv_ 19 32 ?_ (b_ 20 5) rfl rfl HT_.out ?_ ?_; rotate_left; simp only [fr_]; rfl
       refine pv_ 20 33 ?_ (b_ 21 4) rfl rfl HT_.out ?_ ?_; rotate_left; simp only [fr_]; rfl
       refine pv_ 21 34 ?_ (b_ 22 3) rfl rfl HT_.out ?_ ?_; rotate_left; simp only [fr_]; rfl
       refine pv_ 22 35 ?_ (b_ 23 2) rfl rfl HT_.out ?_ ?_; rotate_left; simp only [fr_]; rfl
       refine pu_ 23 36 ?_ (b_ 24 1) rfl rfl HT_.out ?_ ?_ ?_ ?_; rotate_left; intro w'; go_simp; with_reducible rfl; rotate_left; simp only [fr_]; rfl
       refine pu_ 24 37 ?_ (b_ 25 0) rfl rfl HT_.out ?_ ?_ ?_ ?_; rotate_left; intro w'; go_simp; with_reducible rfl; rotate_left; simp only [fr_]; rfl
       refine done_ (done_of HT_.out (by kernel_rfl)) ?_
       try go_wp2
       go_meet
       case rel => exact ⟨_, (false), (by first | rfl | (simp; done) | (simp [*]; done)), H', ⟨by have := HK1.out; first | omega | exact Nat.le_refl _⟩, ⟨by repeat (first | (with_reducible first | exact HB.out | apply ba_ | apply bn_ | apply bd_) | exact HB.out)⟩⟩
      replace c7 := Bool.eq_false_iff.mpr c7
      subst c7
      rw [if_neg (show ¬ (false = true) by decide)] at H
      have H' := Aside0.mk H
      clear H
      try go_wp2
      have n0_ := Aside0.mk (bd_ HB.out)
      clear HB
      have HB := n0_
      clear n0_
      have p1046 : 0 ≤ (x5_1 : Int) := of_decide_eq_true (by with_reducible assumption)
      have q1046 : x5_1 < (l0.length : Int) := of_decide_eq_true (by with_reducible assumption)
      obtain ⟨ad1046, A1046_1, c1046_1, A1046_4, c1046_4, e1046, hx1046_0, hx1046_1, hx1046_2, hx1046_3, hx1046_4, hl1046_1, hi1046_1, hl1046_4, hi1046_4⟩ := at_T75 HR0.out x5_1 p1046 q1046
      have hw1046_4 := hx1046_4
      have hw1046_3 := hx1046_3
      have hw1046_2 := hx1046_2
      have hw1046_1 := hx1046_1
      have hw1046_0 := hx1046_0
      cases e1046
      replace hx1046_0 := cl_ HB.out hx1046_0
      replace hx1046_1 := cl_ HB.out hx1046_1
      replace hx1046_2 := cl_ HB.out hx1046_2
      replace hx1046_3 := cl_ HB.out hx1046_3
      replace hx1046_4 := cl_ HB.out hx1046_4
      have HR1046_1 := Aside0.mk hi1046_1
      have HC1046_1 := Aside0.mk hl1046_1
      clear hi1046_1 hl1046_1
      have HR1046_4 := Aside0.mk hi1046_4
      have HC1046_4 := Aside0.mk hl1046_4
      clear hi1046_4 hl1046_4
      replace p1046 := eq_true p1046
      replace q1046 := eq_true q1046
      refine start_ (n := 25) (S := fun w' => w'.cell? (ad1046.add ((x5_1).toNat * 5)) = some (.int .i64 ((rd_T75 l0 x5_1).f0)) ∧ w'.cell? ⟨(ad1046.add ((x5_1).toNat * 5)).block, (ad1046.add ((x5_1).toNat * 5)).off + 1, none⟩ = some (.slice A1046_1 ((rd_T75 l0 x5_1).f1).length c1046_1) ∧ w'.cell? ⟨(ad1046.add ((x5_1).toNat * 5)).block, (ad1046.add ((x5_1).toNat * 5)).off + 2, none⟩ = some (.int .i64 ((rd_T75 l0 x5_1).f2)) ∧ w'.cell? ⟨(ad1046.add ((x5_1).toNat * 5)).block, (ad1046.add ((x5_1).toNat * 5)).off + 3, none⟩ = some (.int .i64 ((rd_T75 l0 x5_1).f3)) ∧ w'.cell? ⟨(ad1046.add ((x5_1).toNat * 5)).block, (ad1046.add ((x5_1).toNat * 5)).off + 4, none⟩ = some (.slice A1046_4 ((rd_T75 l0 x5_1).f4).length c1046_4)) (ds := []) #[f_,f_,f_,f_,f_,f_,f_,f_,f_,f_,f_,f_,f_,f_,f_,f_,f_,f_,f_,f_,f_,f_,f_,f_,f_] (by kernel_rfl) rfl rfl ⟨((HB.out.cell (World.block_lt_of_cell? w _ hw1046_0)).trans hw1046_0), ((HB.out.cell (World.block_lt_of_cell? w _ hw1046_1)).trans hw1046_1), ((HB.out.cell (World.block_lt_of_cell? w _ hw1046_2)).trans hw1046_2), ((HB.out.cell (World.block_lt_of_cell? w _ hw1046_3)).trans hw1046_3), ((HB.out.cell (World.block_lt_of_cell? w _ hw1046_4)).trans hw1046_4)⟩ (fun hHeld => ?_); refine with_tabW spec_GroupsOk.tab4 spec_GroupsOk.bits4 (fun HT_ HW_ => ?_)
      generalize wr.drew = w16 at HB HR1046_1 HR1046_4 hx1046_0 hx1046_1 hx1046_2 hx1046_3 hx1046_4 hHeld ⊢
      refine pu_ 0 13 ?_ (b_ 1 24) rfl rfl HT_.out ?_ ?_ ?_ ?_; rotate_left; intro w'; go_simp; with_reducible rfl; rotate_left; simp only [fr_]; rfl
      refine pu_ 1 14 ?_ (b_ 2 23) rfl rfl HT_.out ?_ ?_ ?_ ?_; rotate_left; intro w'; go_simp; with_reducible rfl; rotate_left; simp only [fr_]; rfl
      refine pu_ 2 15 ?_ (b_ 3 22) rfl rfl HT_.out ?_ ?_ ?_ ?_; rotate_left; intro w'; go_simp; with_reducible rfl; rotate_left; simp only [fr_]; rfl
      refine pu_ 4 17 ?_ #[t_,t_,t_,f_,t_,f_,f_,f_,f_,f_,f_,f_,f_,f_,f_,f_,f_,f_,f_,f_,f_,f_,f_,f_,f_] rfl rfl HT_.out ?_ ?_ ?_ ?_; rotate_left; intro w'; go_simp; with_reducible rfl; rotate_left; simp only [fr_]; rfl
      refine take_ (i := 3) (N := some 16) (v := ?_) (a' := ?_) #[t_,t_,t_,t_,t_,f_,f_,f_,f_,f_,f_,f_,f_,f_,f_,f_,f_,f_,f_,f_,f_,f_,f_,f_,f_] rfl rfl (take_ofW HT_.out HW_.out (by kernel_rfl)) (fun _ _ _ h => h) (Or.inl ⟨by rfl, ?_⟩) hHeld ?_ ?_
      rotate_left
      ·
       rintro w' ⟨s0, s1, s2, s3, s4⟩
       go_simp
       with_reducible rfl
      rotate_left
      ·
       simp only [fr_]
       rfl
      refine one_ (i := 5) (N := some 18) #[t_,t_,t_,t_,t_,t_,f_,f_,f_,f_,f_,f_,f_,f_,f_,f_,f_,f_,f_,f_,f_,f_,f_,f_,f_] rfl rfl (one_of HT_.out (by kernel_rfl)) (by decide) (fun K hK => ?_)
      refine goes_ Try.func50 (by kernel_rfl) rfl #[.agg #[.int .i64 ((rd_T75 l0 x5_1).f0), .slice A1046_1 ((rd_T75 l0 x5_1).f1).length c1046_1, .int .i64 ((rd_T75 l0 x5_1).f2), .int .i64 ((rd_T75 l0 x5_1).f3), .slice A1046_4 ((rd_T75 l0 x5_1).f4).length c1046_4], .slice A1 l1.length c1] (by rfl) rfl rfl (by (try simp only [mp_]); first | done | rfl | (simp only [List.length_drop, List.length_take]; rfl)) ?_
      with_reducible refine (spec_GroupOk.calls k1 ((rd_T75 l0 x5_1).f0) _ _ ((rd_T75 l0 x5_1).f1) ((rd_T75 l0 x5_1).f2) ((rd_T75 l0 x5_1).f3) _ _ ((rd_T75 l0 x5_1).f4) _ _ l1 false _ ?side1 ?side2 ?side3 ?side4 ?side5 ?side6 A6.out).mono ?_
      (case side1 => repeat (first | exact (Kd.C_below HR1046_1.out HB.out) | (with_reducible first | refine ca_ ?_ _ | refine cn_ ?_ _ | refine cd_ ?_)))
      (case side2 => exact HC1046_1.out)
      (case side3 => repeat (first | exact (Kd.C_below HR1046_4.out HB.out) | (with_reducible first | refine ca_ ?_ _ | refine cn_ ?_ _ | refine cd_ ?_)))
      (case side4 => exact HC1046_4.out)
      (case side5 => repeat (first | exact (Kd.C_below HR1.out HB.out) | (with_reducible first | refine ca_ ?_ _ | refine cn_ ?_ _ | refine cd_ ?_)))
      (case side6 => exact HC1.out)
      rintro e w17 ⟨rfl, hb⟩
      refine ⟨_, rfl, ?_⟩
      have n0_ := Aside0.mk (below_step (by repeat (first | (with_reducible first | exact HB.out | apply ba_ | apply bn_ | apply bd_) | exact HB.out)) hb)
      clear HB
      have HB := n0_
      clear n0_
      (try clear hb)
      (try clear hb2)
      (try clear hk)
      (try clear hi)
      refine hK.out _ _ ⟨((HB.out.cell (World.block_lt_of_cell? w _ hw1046_0)).trans hw1046_0), ((HB.out.cell (World.block_lt_of_cell? w _ hw1046_1)).trans hw1046_1), ((HB.out.cell (World.block_lt_of_cell? w _ hw1046_2)).trans hw1046_2), ((HB.out.cell (World.block_lt_of_cell? w _ hw1046_3)).trans hw1046_3), ((HB.out.cell (World.block_lt_of_cell? w _ hw1046_4)).trans hw1046_4)⟩ (fun hHeld => ?_)
      clear hK K
      refine norm_ (a' := ?_) ?_ ?_
      rotate_left
      ·
       show Act.put _ (some 18) _ = _
       simp only [fr_]
       rfl
      refine pu_ 6 19 ?_ (b_ 7 18) rfl rfl HT_.out ?_ ?_ ?_ ?_; rotate_left; intro w'; go_simp; with_reducible rfl; rotate_left; simp only [fr_]; rfl
      refine pu_ 7 20 ?_ (b_ 8 17) rfl rfl HT_.out ?_ ?_ ?_ ?_; rotate_left; intro w'; go_simp; with_reducible rfl; rotate_left; simp only [fr_]; rfl
      refine pv_ 8 21 ?_ (b_ 9 16) rfl rfl HT_.out ?_ ?_; rotate_left; simp only [fr_]; rfl
      refine pv_ 9 22 ?_ (b_ 10 15) rfl rfl HT_.out ?_ ?_; rotate_left; simp only [fr_]; rfl
      refine pv_ 10 23 ?_ (b_ 11 14) rfl rfl HT_.out ?_ ?_; rotate_left; simp only [fr_]; rfl
      refine pv_ 11 24 ?_ (b_ 12 13) rfl rfl HT_.out ?_ ?_; rotate_left; simp only [fr_]; rfl
      refine pv_ 12 25 ?_ (b_ 13 12) rfl rfl HT_.out ?_ ?_; rotate_left; simp only [fr_]; rfl
      refine pv_ 13 26 ?_ (b_ 14 11) rfl rfl HT_.out ?_ ?_; rotate_left; simp only [fr_]; rfl
      refine pv_ 14 27 ?_ (b_ 15 10) rfl rfl HT_.out ?_ ?_; rotate_left; simp only [fr_]; rfl
      refine pv_ 15 28 ?_ (b_ 16 9) rfl rfl HT_.out ?_ ?_; rotate_left; simp only [fr_]; rfl
      refine pv_ 16 29 ?_ (b_ 17 8) rfl rfl HT_.out ?_ ?_; rotate_left; simp only [fr_]; rfl
      refine pv_ 17 30 ?_ (b_ 18 7) rfl rfl HT_.out ?_ ?_; rotate_left; simp only [fr_]; rfl
      refine pv_ 18 31 ?_ (b_ 19 6) rfl rfl HT_.out ?_ ?_; rotate_left; simp only [fr_]; rfl
      refine pv_ 19 32 ?_ (b_ 20 5) rfl rfl HT_.out ?_ ?_; rotate_left; simp only [fr_]; rfl
      refine pv_ 20 33 ?_ (b_ 21 4) rfl rfl HT_.out ?_ ?_; rotate_left; simp only [fr_]; rfl
      refine pv_ 21 34 ?_ (b_ 22 3) rfl rfl HT_.out ?_ ?_; rotate_left; simp only [fr_]; rfl
      refine pv_ 22 35 ?_ (b_ 23 2) rfl rfl HT_.out ?_ ?_; rotate_left; simp only [fr_]; rfl
      refine pv_ 23 36 ?_ (b_ 24 1) rfl rfl HT_.out ?_ ?_; rotate_left; simp only [fr_]; rfl
      refine pu_ 24 37 ?_ (b_ 25 0) rfl rfl HT_.out ?_ ?_ ?_ ?_; rotate_left; intro w'; go_simp; with_reducible rfl; rotate_left; simp only [fr_]; rfl
      refine done_ (done_of HT_.out (by kernel_rfl)) ?_
      try go_wp2
      go_meet
      case rel => exact ⟨_, (true), (by first | rfl | (simp; done) | (simp [*]; done)), H', ⟨by have := HK1.out; first | omega | exact Nat.le_refl _⟩, ⟨by repeat (first | (with_reducible first | exact HB.out | apply ba_ | apply bn_ | apply bd_) | exact HB.out)⟩⟩
     rw [if_neg c5] at H
     exact absurd H (by simp)
    case rest =>
     clear HC4
     try clear c1
     try clear p1
     try clear q1
     try clear hx1
     try clear p2
     try clear c5
     try clear c7
     try clear c8
     try clear c8b0
     try clear c10
     try clear p10
     try clear q10
     try clear hx10
     try clear c11
     try clear hx1046_0
     try clear hx1046_1
     try clear hx1046_2
     try clear hx1046_3
     try clear hx1046_4
     try clear p1046
     try clear q1046
     obtain ⟨kq, x37_3, rfl, HA, HJ3, HB⟩ := hcut
     cases kq with
     | zero => exact absurd HA.out (by simp [spec_GroupsOk.j1])
     | succ kj3 =>
      have H := HA.out
      clear HA
      simp only [spec_GroupsOk.j1] at H
      by_cases c18 : x37_3 = true
      ·
       subst c18
       rw [if_pos rfl] at H
       obtain rfl := Option.some.inj H
       go_wp2
       go_ret
       exact ⟨by first | rfl | (simp [errW_none, errW_some] <;> rfl) | (simp [*, errW_none, errW_some] <;> rfl), by repeat (first | (with_reducible first | exact HB.out | apply ba_ | apply bn_ | apply bd_) | exact HB.out)⟩
      replace c18 := Bool.eq_false_iff.mpr c18
      subst c18
      rw [if_neg (show ¬ (false = true) by decide)] at H
      have H' := Aside0.mk H
      clear H
      go_wp2
      go_loopg [6] kj3 (fun kq v6 w' => ∃ (x6_3 : Int), v6 = .int .i64 x6_3 ∧ Aside0 (spec_GroupsOk.l1 kq l0 l1 x5_1 x6_3 = some r) ∧ Aside0 (kq ≤ kj3) ∧ Aside0 (Below w.heap.size w w'))
      case atStart => exact ⟨(0), (by first | rfl | (simp; done) | (simp [*]; done)), H', ⟨Nat.le_refl _⟩, ⟨by repeat (first | (with_reducible first | exact HB.out | apply ba_ | apply bn_ | apply bd_) | exact HB.out)⟩⟩
      case round =>
       clear H'
       try clear c1
       try clear p1
       try clear q1
       try clear hx1
       try clear p2
       try clear c5
       try clear c7
       try clear c8
       try clear c8b0
       try clear c10
       try clear p10
       try clear q10
       try clear hx10
       try clear c11
       try clear c18
       try clear hx1046_0
       try clear hx1046_1
       try clear hx1046_2
       try clear hx1046_3
       try clear hx1046_4
       try clear p1
       try clear p10
       try clear p1046
       try clear p2
       try clear q1
       try clear q10
       try clear q1046
       obtain ⟨x6_3, rfl, HA, HK3, HB⟩ := hrel
       cases gk with
       | zero => exact absurd HA.out (by simp [spec_GroupsOk.l1])
       | succ k3 =>
        have H := HA.out
        clear HA
        simp only [spec_GroupsOk.l1] at H
        by_cases c19 : x6_3 < x5_1
        ·
         rw [if_pos c19] at H
         have c19b0 := decide_eq_true c19
         clear c19
         by_cases c20 : 0 ≤ x6_3
         ·
          rw [if_pos c20] at H
          have c20b0 := decide_eq_true c20
          clear c20
          by_cases c21 : x6_3 < (l0.length : Int)
          ·
           rw [if_pos c21] at H
           have c21b0 := decide_eq_true c21
           clear c21
           by_cases c22 : 0 ≤ x5_1
           ·
            rw [if_pos c22] at H
            have c22b0 := decide_eq_true c22
            clear c22
            by_cases c23 : x5_1 < (l0.length : Int)
            ·
             rw [if_pos c23] at H
             have c23b0 := decide_eq_true c23
             clear c23
             replace H := Option.bind_eq_some_iff.mp H
             obtain ⟨t1052, A240, H⟩ := H
             have A24 := Aside0.mk A240
             clear A240
             by_cases c25 : t1052 = true
             ·
              subst c25
              rw [if_pos rfl] at H
              obtain rfl := Option.some.inj H
              try go_wp2
              have n0_ := Aside0.mk (bd_ HB.out)
              clear HB
              have HB := n0_
              clear n0_
              have p1050 : 0 ≤ (x6_3 : Int) := of_decide_eq_true (by with_reducible assumption)
              have q1050 : x6_3 < (l0.length : Int) := of_decide_eq_true (by with_reducible assumption)
              obtain ⟨ad1050, A1050_1, c1050_1, A1050_4, c1050_4, e1050, hx1050_0, hx1050_1, hx1050_2, hx1050_3, hx1050_4, hl1050_1, hi1050_1, hl1050_4, hi1050_4⟩ := at_T75 HR0.out x6_3 p1050 q1050
              have hw1050_4 := hx1050_4
              have hw1050_3 := hx1050_3
              have hw1050_2 := hx1050_2
              have hw1050_1 := hx1050_1
              have hw1050_0 := hx1050_0
              cases e1050
              replace hx1050_0 := cl_ HB.out hx1050_0
              replace hx1050_1 := cl_ HB.out hx1050_1
              replace hx1050_2 := cl_ HB.out hx1050_2
              replace hx1050_3 := cl_ HB.out hx1050_3
              replace hx1050_4 := cl_ HB.out hx1050_4
              have HR1050_1 := Aside0.mk hi1050_1
              have HC1050_1 := Aside0.mk hl1050_1
              clear hi1050_1 hl1050_1
              have HR1050_4 := Aside0.mk hi1050_4
              have HC1050_4 := Aside0.mk hl1050_4
              clear hi1050_4 hl1050_4
              replace p1050 := eq_true p1050
              replace q1050 := eq_true q1050
              have p1051 : 0 ≤ (x5_1 : Int) := of_decide_eq_true (by with_reducible assumption)
              have q1051 : x5_1 < (l0.length : Int) := of_decide_eq_true (by with_reducible assumption)
              obtain ⟨ad1051, A1051_1, c1051_1, A1051_4, c1051_4, e1051, hx1051_0, hx1051_1, hx1051_2, hx1051_3, hx1051_4, hl1051_1, hi1051_1, hl1051_4, hi1051_4⟩ := at_T75 HR0.out x5_1 p1051 q1051
              have hw1051_4 := hx1051_4
              have hw1051_3 := hx1051_3
              have hw1051_2 := hx1051_2
              have hw1051_1 := hx1051_1
              have hw1051_0 := hx1051_0
              obtain rfl : ad1050 = ad1051 := (by injection e1051)
              replace hx1051_0 := cl_ HB.out hx1051_0
              replace hx1051_1 := cl_ HB.out hx1051_1
              replace hx1051_2 := cl_ HB.out hx1051_2
              replace hx1051_3 := cl_ HB.out hx1051_3
              replace hx1051_4 := cl_ HB.out hx1051_4
              have HR1051_1 := Aside0.mk hi1051_1
              have HC1051_1 := Aside0.mk hl1051_1
              clear hi1051_1 hl1051_1
              have HR1051_4 := Aside0.mk hi1051_4
              have HC1051_4 := Aside0.mk hl1051_4
              clear hi1051_4 hl1051_4
              replace p1051 := eq_true p1051
              replace q1051 := eq_true q1051
              refine start_ (n := 11) (S := fun w' => w'.cell? (ad1050.add ((x6_3).toNat * 5)) = some (.int .i64 ((rd_T75 l0 x6_3).f0)) ∧ w'.cell? ⟨(ad1050.add ((x6_3).toNat * 5)).block, (ad1050.add ((x6_3).toNat * 5)).off + 1, none⟩ = some (.slice A1050_1 ((rd_T75 l0 x6_3).f1).length c1050_1) ∧ w'.cell? ⟨(ad1050.add ((x6_3).toNat * 5)).block, (ad1050.add ((x6_3).toNat * 5)).off + 2, none⟩ = some (.int .i64 ((rd_T75 l0 x6_3).f2)) ∧ w'.cell? ⟨(ad1050.add ((x6_3).toNat * 5)).block, (ad1050.add ((x6_3).toNat * 5)).off + 3, none⟩ = some (.int .i64 ((rd_T75 l0 x6_3).f3)) ∧ w'.cell? ⟨(ad1050.add ((x6_3).toNat * 5)).block, (ad1050.add ((x6_3).toNat * 5)).off + 4, none⟩ = some (.slice A1050_4 ((rd_T75 l0 x6_3).f4).length c1050_4) ∧ w'.cell? (ad1050.add ((x5_1).toNat * 5)) = some (.int .i64 ((rd_T75 l0 x5_1).f0)) ∧ w'.cell? ⟨(ad1050.add ((x5_1).toNat * 5)).block, (ad1050.add ((x5_1).toNat * 5)).off + 1, none⟩ = some (.slice A1051_1 ((rd_T75 l0 x5_1).f1).length c1051_1) ∧ w'.cell? ⟨(ad1050.add ((x5_1).toNat * 5)).block, (ad1050.add ((x5_1).toNat * 5)).off + 2, none⟩ = some (.int .i64 ((rd_T75 l0 x5_1).f2)) ∧ w'.cell? ⟨(ad1050.add ((x5_1).toNat * 5)).block, (ad1050.add ((x5_1).toNat * 5)).off + 3, none⟩ = some (.int .i64 ((rd_T75 l0 x5_1).f3)) ∧ w'.cell? ⟨(ad1050.add ((x5_1).toNat * 5)).block, (ad1050.add ((x5_1).toNat * 5)).off + 4, none⟩ = some (.slice A1051_4 ((rd_T75 l0 x5_1).f4).length c1051_4)) (ds := []) #[f_,f_,f_,f_,f_,f_,f_,f_,f_,f_,f_] (by kernel_rfl) rfl rfl ⟨((HB.out.cell (World.block_lt_of_cell? w _ hw1050_0)).trans hw1050_0), ((HB.out.cell (World.block_lt_of_cell? w _ hw1050_1)).trans hw1050_1), ((HB.out.cell (World.block_lt_of_cell? w _ hw1050_2)).trans hw1050_2), ((HB.out.cell (World.block_lt_of_cell? w _ hw1050_3)).trans hw1050_3), ((HB.out.cell (World.block_lt_of_cell? w _ hw1050_4)).trans hw1050_4), ((HB.out.cell (World.block_lt_of_cell? w _ hw1051_0)).trans hw1051_0), ((HB.out.cell (World.block_lt_of_cell? w _ hw1051_1)).trans hw1051_1), ((HB.out.cell (World.block_lt_of_cell? w _ hw1051_2)).trans hw1051_2), ((HB.out.cell (World.block_lt_of_cell? w _ hw1051_3)).trans hw1051_3), ((HB.out.cell (World.block_lt_of_cell? w _ hw1051_4)).trans hw1051_4)⟩ (fun hHeld => ?_); refine with_tabW spec_GroupsOk.tab9 spec_GroupsOk.bits9 (fun HT_ HW_ => ?_)
              generalize wr.drew = w26 at HB HR1050_1 HR1050_4 HR1051_1 HR1051_4 hx1050_0 hx1050_1 hx1050_2 hx1050_3 hx1050_4 hx1051_0 hx1051_1 hx1051_2 hx1051_3 hx1051_4 hHeld ⊢
              refine pu_ 0 43 ?_ (b_ 1 10) rfl rfl HT_.out ?_ ?_ ?_ ?_; rotate_left; intro w'; go_simp; with_reducible rfl; rotate_left; simp only [fr_]; rfl
              refine pu_ 1 44 ?_ (b_ 2 9) rfl rfl HT_.out ?_ ?_ ?_ ?_; rotate_left; intro w'; go_simp; with_reducible rfl; rotate_left; simp only [fr_]; rfl
              refine pu_ 2 45 ?_ (b_ 3 8) rfl rfl HT_.out ?_ ?_ ?_ ?_; rotate_left; intro w'; go_simp; with_reducible rfl; rotate_left; simp only [fr_]; rfl
              refine pu_ 3 46 ?_ (b_ 4 7) rfl rfl HT_.out ?_ ?_ ?_ ?_; rotate_left; intro w'; go_simp; with_reducible rfl; rotate_left; simp only [fr_]; rfl
              refine pu_ 5 48 ?_ #[t_,t_,t_,t_,f_,t_,f_,f_,f_,f_,f_] rfl rfl HT_.out ?_ ?_ ?_ ?_; rotate_left; intro w'; go_simp; with_reducible rfl; rotate_left; simp only [fr_]; rfl
              refine pu_ 6 49 ?_ #[t_,t_,t_,t_,f_,t_,t_,f_,f_,f_,f_] rfl rfl HT_.out ?_ ?_ ?_ ?_; rotate_left; intro w'; go_simp; with_reducible rfl; rotate_left; simp only [fr_]; rfl
              refine pu_ 7 50 ?_ #[t_,t_,t_,t_,f_,t_,t_,t_,f_,f_,f_] rfl rfl HT_.out ?_ ?_ ?_ ?_; rotate_left; intro w'; go_simp; with_reducible rfl; rotate_left; simp only [fr_]; rfl
              refine pu_ 8 51 ?_ #[t_,t_,t_,t_,f_,t_,t_,t_,t_,f_,f_] rfl rfl HT_.out ?_ ?_ ?_ ?_; rotate_left; intro w'; go_simp; with_reducible rfl; rotate_left; simp only [fr_]; rfl
              refine take_ (i := 4) (N := some 47) (v := ?_) (a' := ?_) #[t_,t_,t_,t_,t_,t_,t_,t_,t_,f_,f_] rfl rfl (take_ofW HT_.out HW_.out (by kernel_rfl)) (fun _ _ _ h => h) (Or.inl ⟨by rfl, ?_⟩) hHeld ?_ ?_
              rotate_left
              ·
               rintro w' ⟨s0, s1, s2, s3, s4, s5, s6, s7, s8, s9⟩
               go_simp
               with_reducible rfl
              rotate_left
              ·
               simp only [fr_]
               rfl
              refine take_ (i := 9) (N := some 52) (v := ?_) (a' := ?_) #[t_,t_,t_,t_,t_,t_,t_,t_,t_,t_,f_] rfl rfl (take_ofW HT_.out HW_.out (by kernel_rfl)) (fun _ _ _ h => h) (Or.inl ⟨by rfl, ?_⟩) hHeld ?_ ?_
              rotate_left
              ·
               rintro w' ⟨s0, s1, s2, s3, s4, s5, s6, s7, s8, s9⟩
               go_simp
               with_reducible rfl
              rotate_left
              ·
               simp only [fr_]
               rfl
              refine one_ (i := 10) (N := some 53) #[t_,t_,t_,t_,t_,t_,t_,t_,t_,t_,t_] rfl rfl (one_of HT_.out (by kernel_rfl)) (by decide) (fun K hK => ?_)
              refine goes_ Try.func106 (by kernel_rfl) rfl #[.slice A1050_1 ((rd_T75 l0 x6_3).f1).length c1050_1, .slice A1051_1 ((rd_T75 l0 x5_1).f1).length c1051_1] (by rfl) rfl rfl (by (try simp only [mp_]); first | done | rfl | (simp only [List.length_drop, List.length_take]; rfl)) ?_
              with_reducible refine (spec_SameSet.calls k3 _ _ ((rd_T75 l0 x6_3).f1) _ _ ((rd_T75 l0 x5_1).f1) true _ ?side1 ?side2 ?side3 ?side4 A24.out).mono ?_
              (case side1 => repeat (first | exact (Kd.C_below HR1050_1.out HB.out) | (with_reducible first | refine ca_ ?_ _ | refine cn_ ?_ _ | refine cd_ ?_)))
              (case side2 => exact HC1050_1.out)
              (case side3 => repeat (first | exact (Kd.C_below HR1051_1.out HB.out) | (with_reducible first | refine ca_ ?_ _ | refine cn_ ?_ _ | refine cd_ ?_)))
              (case side4 => exact HC1051_1.out)
              rintro e w' ⟨rfl, ⟨nd, rfl⟩⟩
              refine ⟨_, rfl, ?_⟩
              refine hK.out _ _ ⟨((HB.out.cell (World.block_lt_of_cell? w _ hw1050_0)).trans hw1050_0), ((HB.out.cell (World.block_lt_of_cell? w _ hw1050_1)).trans hw1050_1), ((HB.out.cell (World.block_lt_of_cell? w _ hw1050_2)).trans hw1050_2), ((HB.out.cell (World.block_lt_of_cell? w _ hw1050_3)).trans hw1050_3), ((HB.out.cell (World.block_lt_of_cell? w _ hw1050_4)).trans hw1050_4), ((HB.out.cell (World.block_lt_of_cell? w _ hw1051_0)).trans hw1051_0), ((HB.out.cell (World.block_lt_of_cell? w _ hw1051_1)).trans hw1051_1), ((HB.out.cell (World.block_lt_of_cell? w _ hw1051_2)).trans hw1051_2), ((HB.out.cell (World.block_lt_of_cell? w _ hw1051_3)).trans hw1051_3), ((HB.out.cell (World.block_lt_of_cell? w _ hw1051_4)).trans hw1051_4)⟩ (fun hHeld => ?_)
              clear hK K
              refine norm_ (a' := ?_) ?_ ?_
              rotate_left
              ·
               show Act.put _ (some 53) _ = _
               simp only [fr_]
               rfl
              refine done_ (done_of HT_.out (by kernel_rfl)) ?_
              try go_wp2
              go_ret
              exact ⟨by first | rfl | (simp [errW_none, errW_some] <;> rfl) | (simp [*, errW_none, errW_some] <;> rfl), by repeat (first | (with_reducible first | exact HB.out | apply ba_ | apply bn_ | apply bd_) | exact HB.out)⟩
             replace c25 := Bool.eq_false_iff.mpr c25
             subst c25
             rw [if_neg (show ¬ (false = true) by decide)] at H
             have H' := Aside0.mk H
             clear H
             try go_wp2
             have n0_ := Aside0.mk (bd_ HB.out)
             clear HB
             have HB := n0_
             clear n0_
             have p1050 : 0 ≤ (x6_3 : Int) := of_decide_eq_true (by with_reducible assumption)
             have q1050 : x6_3 < (l0.length : Int) := of_decide_eq_true (by with_reducible assumption)
             obtain ⟨ad1050, A1050_1, c1050_1, A1050_4, c1050_4, e1050, hx1050_0, hx1050_1, hx1050_2, hx1050_3, hx1050_4, hl1050_1, hi1050_1, hl1050_4, hi1050_4⟩ := at_T75 HR0.out x6_3 p1050 q1050
             have hw1050_4 := hx1050_4
             have hw1050_3 := hx1050_3
             have hw1050_2 := hx1050_2
             have hw1050_1 := hx1050_1
             have hw1050_0 := hx1050_0
             cases e1050
             replace hx1050_0 := cl_ HB.out hx1050_0
             replace hx1050_1 := cl_ HB.out hx1050_1
             replace hx1050_2 := cl_ HB.out hx1050_2
             replace hx1050_3 := cl_ HB.out hx1050_3
             replace hx1050_4 := cl_ HB.out hx1050_4
             have HR1050_1 := Aside0.mk hi1050_1
             have HC1050_1 := Aside0.mk hl1050_1
             clear hi1050_1 hl1050_1
             have HR1050_4 := Aside0.mk hi1050_4
             have HC1050_4 := Aside0.mk hl1050_4
             clear hi1050_4 hl1050_4
             replace p1050 := eq_true p1050
             replace q1050 := eq_true q1050
             have p1051 : 0 ≤ (x5_1 : Int) := of_decide_eq_true (by with_reducible assumption)
             have q1051 : x5_1 < (l0.length : Int) := of_decide_eq_true (by with_reducible assumption)
             obtain ⟨ad1051, A1051_1, c1051_1, A1051_4, c1051_4, e1051, hx1051_0, hx1051_1, hx1051_2, hx1051_3, hx1051_4, hl1051_1, hi1051_1, hl1051_4, hi1051_4⟩ := at_T75 HR0.out x5_1 p1051 q1051
             have hw1051_4 := hx1051_4
             have hw1051_3 := hx1051_3
             have hw1051_2 := hx1051_2
             have hw1051_1 := hx1051_1
             have hw1051_0 := hx1051_0
             obtain rfl : ad1050 = ad1051 := (by injection e1051)
             replace hx1051_0 := cl_ HB.out hx1051_0
             replace hx1051_1 := cl_ HB.out hx1051_1
             replace hx1051_2 := cl_ HB.out hx1051_2
             replace hx1051_3 := cl_ HB.out hx1051_3
             replace hx1051_4 := cl_ HB.out hx1051_4
             have HR1051_1 := Aside0.mk hi1051_1
             have HC1051_1 := Aside0.mk hl1051_1
             clear hi1051_1 hl1051_1
             have HR1051_4 := Aside0.mk hi1051_4
             have HC1051_4 := Aside0.mk hl1051_4
             clear hi1051_4 hl1051_4
             replace p1051 := eq_true p1051
             replace q1051 := eq_true q1051
             refine start_ (n := 11) (S := fun w' => w'.cell? (ad1050.add ((x6_3).toNat * 5)) = some (.int .i64 ((rd_T75 l0 x6_3).f0)) ∧ w'.cell? ⟨(ad1050.add ((x6_3).toNat * 5)).block, (ad1050.add ((x6_3).toNat * 5)).off + 1, none⟩ = some (.slice A1050_1 ((rd_T75 l0 x6_3).f1).length c1050_1) ∧ w'.cell? ⟨(ad1050.add ((x6_3).toNat * 5)).block, (ad1050.add ((x6_3).toNat * 5)).off + 2, none⟩ = some (.int .i64 ((rd_T75 l0 x6_3).f2)) ∧ w'.cell? ⟨(ad1050.add ((x6_3).toNat * 5)).block, (ad1050.add ((x6_3).toNat * 5)).off + 3, none⟩ = some (.int .i64 ((rd_T75 l0 x6_3).f3)) ∧ w'.cell? ⟨(ad1050.add ((x6_3).toNat * 5)).block, (ad1050.add ((x6_3).toNat * 5)).off + 4, none⟩ = some (.slice A1050_4 ((rd_T75 l0 x6_3).f4).length c1050_4) ∧ w'.cell? (ad1050.add ((x5_1).toNat * 5)) = some (.int .i64 ((rd_T75 l0 x5_1).f0)) ∧ w'.cell? ⟨(ad1050.add ((x5_1).toNat * 5)).block, (ad1050.add ((x5_1).toNat * 5)).off + 1, none⟩ = some (.slice A1051_1 ((rd_T75 l0 x5_1).f1).length c1051_1) ∧ w'.cell? ⟨(ad1050.add ((x5_1).toNat * 5)).block, (ad1050.add ((x5_1).toNat * 5)).off + 2, none⟩ = some (.int .i64 ((rd_T75 l0 x5_1).f2)) ∧ w'.cell? ⟨(ad1050.add ((x5_1).toNat * 5)).block, (ad1050.add ((x5_1).toNat * 5)).off + 3, none⟩ = some (.int .i64 ((rd_T75 l0 x5_1).f3)) ∧ w'.cell? ⟨(ad1050.add ((x5_1).toNat * 5)).block, (ad1050.add ((x5_1).toNat * 5)).off + 4, none⟩ = some (.slice A1051_4 ((rd_T75 l0 x5_1).f4).length c1051_4)) (ds := []) #[f_,f_,f_,f_,f_,f_,f_,f_,f_,f_,f_] (by kernel_rfl) rfl rfl ⟨((HB.out.cell (World.block_lt_of_cell? w _ hw1050_0)).trans hw1050_0), ((HB.out.cell (World.block_lt_of_cell? w _ hw1050_1)).trans hw1050_1), ((HB.out.cell (World.block_lt_of_cell? w _ hw1050_2)).trans hw1050_2), ((HB.out.cell (World.block_lt_of_cell? w _ hw1050_3)).trans hw1050_3), ((HB.out.cell (World.block_lt_of_cell? w _ hw1050_4)).trans hw1050_4), ((HB.out.cell (World.block_lt_of_cell? w _ hw1051_0)).trans hw1051_0), ((HB.out.cell (World.block_lt_of_cell? w _ hw1051_1)).trans hw1051_1), ((HB.out.cell (World.block_lt_of_cell? w _ hw1051_2)).trans hw1051_2), ((HB.out.cell (World.block_lt_of_cell? w _ hw1051_3)).trans hw1051_3), ((HB.out.cell (World.block_lt_of_cell? w _ hw1051_4)).trans hw1051_4)⟩ (fun hHeld => ?_); refine with_tabW spec_GroupsOk.tab9 spec_GroupsOk.bits9 (fun HT_ HW_ => ?_)
             generalize wr.drew = w27 at HB HR1050_1 HR1050_4 HR1051_1 HR1051_4 hx1050_0 hx1050_1 hx1050_2 hx1050_3 hx1050_4 hx1051_0 hx1051_1 hx1051_2 hx1051_3 hx1051_4 hHeld ⊢
             refine pu_ 0 43 ?_ (b_ 1 10) rfl rfl HT_.out ?_ ?_ ?_ ?_; rotate_left; intro w'; go_simp; with_reducible rfl; rotate_left; simp only [fr_]; rfl
             refine pu_ 1 44 ?_ (b_ 2 9) rfl rfl HT_.out ?_ ?_ ?_ ?_; rotate_left; intro w'; go_simp; with_reducible rfl; rotate_left; simp only [fr_]; rfl
             refine pu_ 2 45 ?_ (b_ 3 8) rfl rfl HT_.out ?_ ?_ ?_ ?_; rotate_left; intro w'; go_simp; with_reducible rfl; rotate_left; simp only [fr_]; rfl
             refine pu_ 3 46 ?_ (b_ 4 7) rfl rfl HT_.out ?_ ?_ ?_ ?_; rotate_left; intro w'; go_simp; with_reducible rfl; rotate_left; simp only [fr_]; rfl
             refine pu_ 5 48 ?_ #[t_,t_,t_,t_,f_,t_,f_,f_,f_,f_,f_] rfl rfl HT_.out ?_ ?_ ?_ ?_; rotate_left; intro w'; go_simp; with_reducible rfl; rotate_left; simp only [fr_]; rfl
             refine pu_ 6 49 ?_ #[t_,t_,t_,t_,f_,t_,t_,f_,f_,f_,f_] rfl rfl HT_.out ?_ ?_ ?_ ?_; rotate_left; intro w'; go_simp; with_reducible rfl; rotate_left; simp only [fr_]; rfl
             refine pu_ 7 50 ?_ #[t_,t_,t_,t_,f_,t_,t_,t_,f_,f_,f_] rfl rfl HT_.out ?_ ?_ ?_ ?_; rotate_left; intro w'; go_simp; with_reducible rfl; rotate_left; simp only [fr_]; rfl
             refine pu_ 8 51 ?_ #[t_,t_,t_,t_,f_,t_,t_,t_,t_,f_,f_] rfl rfl HT_.out ?_ ?_ ?_ ?_; rotate_left; intro w'; go_simp; with_reducible rfl; rotate_left; simp only [fr_]; rfl
             refine take_ (i := 4) (N := some 47) (v := ?_) (a' := ?_) #[t_,t_,t_,t_,t_,t_,t_,t_,t_,f_,f_] rfl rfl (take_ofW HT_.out HW_.out (by kernel_rfl)) (fun _ _ _ h => h) (Or.inl ⟨by rfl, ?_⟩) hHeld ?_ ?_
             rotate_left
             ·
              rintro w' ⟨s0, s1, s2, s3, s4, s5, s6, s7, s8, s9⟩
              go_simp
              with_reducible rfl
             rotate_left
             ·
              simp only [fr_]
              rfl
             refine take_ (i := 9) (N := some 52) (v := ?_) (a' := ?_) #[t_,t_,t_,t_,t_,t_,t_,t_,t_,t_,f_] rfl rfl (take_ofW HT_.out HW_.out (by kernel_rfl)) (fun _ _ _ h => h) (Or.inl ⟨by rfl, ?_⟩) hHeld ?_ ?_
             rotate_left
             ·
              rintro w' ⟨s0, s1, s2, s3, s4, s5, s6, s7, s8, s9⟩
              go_simp
              with_reducible rfl
             rotate_left
             ·
              simp only [fr_]
              rfl
             refine one_ (i := 10) (N := some 53) #[t_,t_,t_,t_,t_,t_,t_,t_,t_,t_,t_] rfl rfl (one_of HT_.out (by kernel_rfl)) (by decide) (fun K hK => ?_)
             refine goes_ Try.func106 (by kernel_rfl) rfl #[.slice A1050_1 ((rd_T75 l0 x6_3).f1).length c1050_1, .slice A1051_1 ((rd_T75 l0 x5_1).f1).length c1051_1] (by rfl) rfl rfl (by (try simp only [mp_]); first | done | rfl | (simp only [List.length_drop, List.length_take]; rfl)) ?_
             with_reducible refine (spec_SameSet.calls k3 _ _ ((rd_T75 l0 x6_3).f1) _ _ ((rd_T75 l0 x5_1).f1) false _ ?side1 ?side2 ?side3 ?side4 A24.out).mono ?_
             (case side1 => repeat (first | exact (Kd.C_below HR1050_1.out HB.out) | (with_reducible first | refine ca_ ?_ _ | refine cn_ ?_ _ | refine cd_ ?_)))
             (case side2 => exact HC1050_1.out)
             (case side3 => repeat (first | exact (Kd.C_below HR1051_1.out HB.out) | (with_reducible first | refine ca_ ?_ _ | refine cn_ ?_ _ | refine cd_ ?_)))
             (case side4 => exact HC1051_1.out)
             rintro e w' ⟨rfl, ⟨nd, rfl⟩⟩
             refine ⟨_, rfl, ?_⟩
             refine hK.out _ _ ⟨((HB.out.cell (World.block_lt_of_cell? w _ hw1050_0)).trans hw1050_0), ((HB.out.cell (World.block_lt_of_cell? w _ hw1050_1)).trans hw1050_1), ((HB.out.cell (World.block_lt_of_cell? w _ hw1050_2)).trans hw1050_2), ((HB.out.cell (World.block_lt_of_cell? w _ hw1050_3)).trans hw1050_3), ((HB.out.cell (World.block_lt_of_cell? w _ hw1050_4)).trans hw1050_4), ((HB.out.cell (World.block_lt_of_cell? w _ hw1051_0)).trans hw1051_0), ((HB.out.cell (World.block_lt_of_cell? w _ hw1051_1)).trans hw1051_1), ((HB.out.cell (World.block_lt_of_cell? w _ hw1051_2)).trans hw1051_2), ((HB.out.cell (World.block_lt_of_cell? w _ hw1051_3)).trans hw1051_3), ((HB.out.cell (World.block_lt_of_cell? w _ hw1051_4)).trans hw1051_4)⟩ (fun hHeld => ?_)
             clear hK K
             refine norm_ (a' := ?_) ?_ ?_
             rotate_left
             ·
              show Act.put _ (some 53) _ = _
              simp only [fr_]
              rfl
             refine done_ (done_of HT_.out (by kernel_rfl)) ?_
             try go_wp2
             go_roundg k3
             case measure => have := HK1.out; have := HJ3.out; have := HK3.out; omega
             case rel => exact ⟨(wrap64 (x6_3 + 1)), (by first | rfl | (simp; done) | (simp [*]; done)), H', ⟨by have := HK1.out; have := HJ3.out; have := HK3.out; omega⟩, ⟨by repeat (first | (with_reducible first | exact HB.out | apply ba_ | apply bn_ | apply bd_) | exact HB.out)⟩⟩
            rw [if_neg c23] at H
            exact absurd H (by simp)
           rw [if_neg c22] at H
           exact absurd H (by simp)
          rw [if_neg c21] at H
          exact absurd H (by simp)
         rw [if_neg c20] at H
         exact absurd H (by simp)
        rw [if_neg c19] at H
        have c19b0 : decide (x6_3 < x5_1) = false := decide_eq_false c19
        clear c19
        have H' := Aside0.mk H
        clear H
        go_wp2
        go_roundg k3
        case measure => have := HK1.out; have := HJ3.out; have := HK3.out; omega
        case rel => exact ⟨(wrap64 (x5_1 + 1)), (by first | rfl | (simp; done) | (simp [*]; done)), H', ⟨by have := HK1.out; have := HJ3.out; have := HK3.out; omega⟩, ⟨by repeat (first | (with_reducible first | exact HB.out | apply ba_ | apply bn_ | apply bd_) | exact HB.out)⟩⟩
   rw [if_neg c3] at H
   have c3b0 : decide (x5_1 < (l0.length : Int)) = false := decide_eq_false c3
   clear c3
   obtain rfl := Option.some.inj H
   go_wp2
   go_ret
   exact ⟨by first | rfl | (simp [errW_none, errW_some] <;> rfl) | (simp [*, errW_none, errW_some] <;> rfl), by repeat (first | (with_reducible first | exact HB.out | apply ba_ | apply bn_ | apply bd_) | exact HB.out)⟩
def laws_toLabel.f (a0_0 : ByteArray) (a0_1 : ByteArray) : Option (ByteArray × ByteArray) := some (a0_0, a0_1)
theorem laws_toLabel.calls (a0_0 : ByteArray) (a0_1 : ByteArray) (r1 : ByteArray) (r2 : ByteArray) (w : World) (h : laws_toLabel.f a0_0 a0_1 = some (r1, r2)) :
  Calls Try.prog 145 #[.agg #[.string a0_0, .string a0_1]] w fun e w' => e = .returned (.agg #[.string r1, .string r2]) ∧ Below w.heap.size w w' := by
 have hu163 := Try.underlying163
 have hu164 := Try.underlying164
 have HB := Aside0.mk (Below.refl w.heap.size w)
 have H : (some (a0_0, a0_1)) = some (r1, r2) := h
 clear h
 simp only [Option.some.injEq, Prod.mk.injEq] at H
 obtain ⟨rfl, rfl⟩ := H
 go_enter Try.func145, Try.ntmps145
 go_wp2_with (first | ((with_reducible refine gate_dst (N := 1) rfl ?_); refine box_event ?hg (N := 1) ?hd (cs := #[.string a0_0, .string a0_1]) (t := 163) ?hr ?_; (case hd => rfl); (case hg => rfl); (case hr => first | (go_simp; done) | (go_simp; rfl)); intro gb119 hg w2 hbox hb; have n0_ := Aside0.mk (below_step (by repeat (first | (with_reducible first | exact HB.out | apply ba_ | apply bn_ | apply bd_) | exact HB.out)) hb); have BK119 := Aside0.mk (hbox); have GW119 := Aside0.mk ((by rw [hg]; exact (below_size (by repeat (first | (with_reducible first | exact HB.out | apply ba_ | apply bn_ | apply bd_) | exact HB.out))) : w.heap.size ≤ gb119)); have GE119 := GW119; clear HB; have HB := n0_; clear n0_; clear hb hbox hg) | ((with_reducible refine gate_dst (N := 2) rfl ?_); refine box_event ?hg (N := 2) ?hd (cs := #[.string (⟨#[]⟩ : ByteArray), .string (⟨#[]⟩ : ByteArray)]) (t := 164) ?hr ?_; (case hd => rfl); (case hg => rfl); (case hr => first | (go_simp; done) | (go_simp; rfl)); intro gb120 hg w3 hbox hb; have n0_ := Aside0.mk (blk_below (g := gb119) (o := .cells #[.string a0_0, .string a0_1] 163 (0, 0)) (by (with_reducible repeat (first | refine kn_ ?_ _ | refine kd_ ?_ | refine ka_ ?_ _)); exact BK119.out) hb); have n1_ := Aside0.mk (below_step (by repeat (first | (with_reducible first | exact HB.out | apply ba_ | apply bn_ | apply bd_ | refine below_set ?_ GE119.out) | exact HB.out)) hb); have n2_ := Aside0.mk (hbox); have n3_ := Aside0.mk ((by rw [hg]; exact (below_size (by repeat (first | (with_reducible first | exact HB.out | apply ba_ | apply bn_ | apply bd_ | refine below_set ?_ GE119.out) | exact HB.out))) : w.heap.size ≤ gb120)); have n4_ := n3_; have n5_ := Aside0.mk ((by rw [hg]; exact Nat.ne_of_lt (blk_lt (g := gb119) (o := .cells #[.string a0_0, .string a0_1] 163 (0, 0)) (by (with_reducible repeat (first | refine kn_ ?_ _ | refine kd_ ?_ | refine ka_ ?_ _)); exact BK119.out)) : gb119 ≠ gb120)); have n6_ := Aside0.mk ((by rw [hg]; exact Nat.ne_of_gt (blk_lt (g := gb119) (o := .cells #[.string a0_0, .string a0_1] 163 (0, 0)) (by (with_reducible repeat (first | refine kn_ ?_ _ | refine kd_ ?_ | refine ka_ ?_ _)); exact BK119.out)) : gb120 ≠ gb119)); clear BK119; clear HB; have BK119 := n0_; have HB := n1_; have BK120 := n2_; have GW120 := n3_; have GE120 := n4_; have NB119_120 := n5_; have NB120_119 := n6_; clear n0_ n1_ n2_ n3_ n4_ n5_ n6_; clear hb hbox hg) | ((with_reducible refine gate_dst (N := 3) rfl ?_); refine box_event ?hg (N := 3) ?hd (cs := #[.string (⟨#[]⟩ : ByteArray), .string (⟨#[]⟩ : ByteArray)]) (t := 164) ?hr ?_; (case hd => rfl); (case hg => rfl); (case hr => first | (go_simp; done) | (go_simp; rfl)); intro gb121 hg w4 hbox hb; have n0_ := Aside0.mk (blk_below (g := gb119) (o := .cells #[.string a0_0, .string a0_1] 163 (0, 0)) (by (with_reducible repeat (first | refine kn_ ?_ _ | refine kd_ ?_ | refine ka_ ?_ _)); exact BK119.out) hb); have n1_ := Aside0.mk (blk_below (g := gb120) (o := .cells #[.string (⟨#[]⟩ : ByteArray), .string (⟨#[]⟩ : ByteArray)] 164 (0, 0)) (by (with_reducible repeat (first | refine kn_ ?_ _ | refine kd_ ?_ | refine ka_ ?_ _)); exact BK120.out) hb); have n2_ := Aside0.mk (below_step (by repeat (first | (with_reducible first | exact HB.out | apply ba_ | apply bn_ | apply bd_ | refine below_set ?_ GE119.out | refine below_set ?_ GE120.out) | exact HB.out)) hb); have n3_ := Aside0.mk (hbox); have n4_ := Aside0.mk ((by rw [hg]; exact (below_size (by repeat (first | (with_reducible first | exact HB.out | apply ba_ | apply bn_ | apply bd_ | refine below_set ?_ GE119.out | refine below_set ?_ GE120.out) | exact HB.out))) : w.heap.size ≤ gb121)); have n5_ := n4_; have n6_ := Aside0.mk ((by rw [hg]; exact Nat.ne_of_lt (blk_lt (g := gb119) (o := .cells #[.string a0_0, .string a0_1] 163 (0, 0)) (by (with_reducible repeat (first | refine kn_ ?_ _ | refine kd_ ?_ | refine ka_ ?_ _)); exact BK119.out)) : gb119 ≠ gb121)); have n7_ := Aside0.mk ((by rw [hg]; exact Nat.ne_of_gt (blk_lt (g := gb119) (o := .cells #[.string a0_0, .string a0_1] 163 (0, 0)) (by (with_reducible repeat (first | refine kn_ ?_ _ | refine kd_ ?_ | refine ka_ ?_ _)); exact BK119.out)) : gb121 ≠ gb119)); have n8_ := Aside0.mk ((by rw [hg]; exact Nat.ne_of_lt (blk_lt (g := gb120) (o := .cells #[.string (⟨#[]⟩ : ByteArray), .string (⟨#[]⟩ : ByteArray)] 164 (0, 0)) (by (with_reducible repeat (first | refine kn_ ?_ _ | refine kd_ ?_ | refine ka_ ?_ _)); exact BK120.out)) : gb120 ≠ gb121)); have n9_ := Aside0.mk ((by rw [hg]; exact Nat.ne_of_gt (blk_lt (g := gb120) (o := .cells #[.string (⟨#[]⟩ : ByteArray), .string (⟨#[]⟩ : ByteArray)] 164 (0, 0)) (by (with_reducible repeat (first | refine kn_ ?_ _ | refine kd_ ?_ | refine ka_ ?_ _)); exact BK120.out)) : gb121 ≠ gb120)); clear BK119; clear BK120; clear HB; have BK119 := n0_; have BK120 := n1_; have HB := n2_; have BK121 := n3_; have GW121 := n4_; have GE121 := n5_; have NB119_121 := n6_; have NB121_119 := n7_; have NB120_121 := n8_; have NB121_120 := n9_; clear n0_ n1_ n2_ n3_ n4_ n5_ n6_ n7_ n8_ n9_; clear hb hbox hg; have hnb5 := NB119_120.out; have hnc5 := NB120_119.out; have hnb6 := NB119_121.out; have hnc6 := NB121_119.out; have hcz7_0 : w4.cell? ⟨gb119, 0, none⟩ = some (.string a0_0) := (blk_cell BK119.out 0).trans rfl; have hcz7_1 : w4.cell? ⟨gb119, 1, none⟩ = some (.string a0_1) := (blk_cell BK119.out 1).trans rfl; have hfz7_0 := blk_frozen BK119.out 0; have hfz7_1 := blk_frozen BK119.out 1; have hnb8 := NB121_120.out; have hnc8 := NB120_121.out; have hcz9_0 : w4.cell? ⟨gb121, 0, none⟩ = some (.string (⟨#[]⟩ : ByteArray)) := (blk_cell BK121.out 0).trans rfl; have hcz9_1 : w4.cell? ⟨gb121, 1, none⟩ = some (.string (⟨#[]⟩ : ByteArray)) := (blk_cell BK121.out 1).trans rfl; have hfz9_0 := blk_frozen BK121.out 0; have hfz9_1 := blk_frozen BK121.out 1; have hcz10_0 : w4.cell? ⟨gb120, 0, none⟩ = some (.string (⟨#[]⟩ : ByteArray)) := (blk_cell BK120.out 0).trans rfl; have hcz10_1 : w4.cell? ⟨gb120, 1, none⟩ = some (.string (⟨#[]⟩ : ByteArray)) := (blk_cell BK120.out 1).trans rfl; have hfz10_0 := blk_frozen BK120.out 0; have hfz10_1 := blk_frozen BK120.out 1))
 refine bodyPost_ret (results_cell_row rfl _ _ gb120 164 #[.string a0_0, .string a0_1] (0, 0) _ rfl (by (with_reducible repeat (first | refine kn_ ?_ _ | refine kd_ ?_ | refine ka_ ?_ _)); refine blk_put (cs := #[.string a0_0, .string (⟨#[]⟩ : ByteArray)]) ?_ 1 _ rfl; (with_reducible repeat (first | refine kn_ ?_ _ | refine kd_ ?_ | refine ka_ ?_ _)); refine blk_put (cs := #[.string (⟨#[]⟩ : ByteArray), .string (⟨#[]⟩ : ByteArray)]) ?_ 0 _ rfl; (with_reducible repeat (first | refine kn_ ?_ _ | refine kd_ ?_ | refine ka_ ?_ _)); refine blk_far ?_ NB120_121.out _; (with_reducible repeat (first | refine kn_ ?_ _ | refine kd_ ?_ | refine ka_ ?_ _)); refine blk_far ?_ NB120_121.out _; (with_reducible repeat (first | refine kn_ ?_ _ | refine kd_ ?_ | refine ka_ ?_ _)); exact BK120.out) Try.underlying164 rfl (by kernel_rfl)) rfl ?_
 exact ⟨by first | rfl | (simp [errW_none, errW_some] <;> rfl) | (simp [*, errW_none, errW_some] <;> rfl), by repeat (first | (with_reducible first | exact HB.out | apply ba_ | apply bn_ | apply bd_ | refine below_set ?_ GE119.out | refine below_set ?_ GE120.out | refine below_set ?_ GE121.out) | exact HB.out)⟩
end Go.Proofs.Ytfholjcelnkleaa.Print
end
