import Derived.Test.YticgekgojgkbgaaMFnExactStoreOk1
import Derived.Test.YticgekgojgkbgaaMFnExactStoreOk3
import Derived.Test.YticgekgojgkbgaaMFnExactStoreOk2
section
namespace Go.Proofs.Yticgekgojgkbgaa.Print
open Go.RowKit Go.Proofs.YticgekgojgkbgaaV.PrintWords Go.Proofs.YticgekgojgkbgaaV.PrintLast Go.Proofs.YticgekgojgkbgaaV.PrintMore
attribute [local go_sem] max2_int min2_int max_two min_two max_three min_three max_four min_four
set_option linter.unusedVariables false
set_option linter.unusedSimpArgs false
set_option maxHeartbeats 8000000
set_option maxRecDepth 100000
def impl_labelsApart.l0 : Nat → List (S43) → List (S43) → Int → Int → Option (Bool)
 | 0, _, _, _, _ => none
 | k + 1, x0, x5, x6, x7 => if x7 < x6 then (if 0 ≤ x7 then (if x7 < (x5.length : Int) then (if x7 ≤ (x0.length : Int) then ((impl_labelsAt.f k (x0.take (x7 : Int).toNat) ((rd_T43 x5 x7).f0)).bind fun t415 => (if t415 ≥ 0 then (some false) else (impl_labelsApart.l0 k x0 x5 x6 (wrap64 (x7 + 1))))) else (none)) else (none)) else (none)) else (some true)
def impl_labelsApart.f (k : Nat) (l0 : List (S43)) : Option (Bool) := impl_labelsApart.l0 k l0 l0 (l0.length : Int) 0
theorem impl_labelsApart.mono_l : ∀ k, (∀ y0 y1 y2 y3, LeO (impl_labelsApart.l0 k y0 y1 y2 y3) (impl_labelsApart.l0 (k + 1) y0 y1 y2 y3))
 | 0 => fun _ _ _ _ r h => by simp [impl_labelsApart.l0] at h
 | k + 1 => by
  have ih0 := impl_labelsApart.mono_l k
  intro y0 y1 y2 y3
  unfold impl_labelsApart.l0
  repeat' first
  | (with_reducible exact ih0 _ _ _ _)
  | (with_reducible exact impl_labelsAt.mono _ _ _)
  | (with_reducible exact LeO.refl _)
  | (with_reducible exact LeO.none _)
  | (with_reducible refine LeO.ite ?_ ?_)
  | (with_reducible refine LeO.bind ?_ (fun _ => ?_))
  | exact ih0 _ _ _ _
  | exact impl_labelsAt.mono _ _ _
theorem impl_labelsApart.mono : ∀ a0 k, LeO (impl_labelsApart.f k a0) (impl_labelsApart.f (k + 1) a0) := by
 intro a0 k
 have ih0 := impl_labelsApart.mono_l k
 unfold impl_labelsApart.f
 repeat' first
   | (with_reducible exact ih0 _ _ _ _)
   | (with_reducible exact impl_labelsAt.mono _ _ _)
   | (with_reducible exact LeO.refl _)
   | (with_reducible exact LeO.none _)
   | (with_reducible refine LeO.ite ?_ ?_)
   | (with_reducible refine LeO.bind ?_ (fun _ => ?_))
   | exact ih0 _ _ _ _
   | exact impl_labelsAt.mono _ _ _
theorem impl_labelsApart.calls (k : Nat) (A0 : Option Addr) (c0 : Nat) (l0 : List (S43)) (r : Bool) (w : World) (hr0 : Kd.C k43 w A0 l0.length l0) (hc0 : l0.length ≤ c0) (h : impl_labelsApart.f k l0 = some r) :
  Calls Try.prog 104 #[.slice A0 l0.length c0] w fun e w' => e = .returned (.bool r) ∧ Below w.heap.size w w' := by
 have hu43 := Try.underlying43
 have HR0 := Aside0.mk hr0
 have HC0 := Aside0.mk hc0
 clear hr0 hc0
 have HB := Aside0.mk (Below.refl w.heap.size w)
 have H : (impl_labelsApart.l0 k l0 l0 (l0.length : Int) 0) = some r := h
 clear h
 have H' := Aside0.mk H
 clear H
 go_enter Try.func104, Try.ntmps104
 go_wp2
 go_loopg [7] k (fun kq v7 w' => ∃ (x7_1 : Int), v7 = .int .i64 x7_1 ∧ Aside0 (impl_labelsApart.l0 kq l0 l0 (l0.length : Int) x7_1 = some r) ∧ Aside0 (kq ≤ k) ∧ Aside0 (Below w.heap.size w w'))
 case atStart => exact ⟨(0), (by first | rfl | (simp; done) | (simp [*]; done)), H', ⟨Nat.le_refl _⟩, ⟨by repeat (first | (with_reducible first | exact HB.out | apply ba_ | apply bn_ | apply bd_) | exact HB.out)⟩⟩
 case round =>
  clear H'
  try clear c1
  obtain ⟨x7_1, rfl, HA, HK1, HB⟩ := hrel
  cases gk with
  | zero => exact absurd HA.out (by simp [impl_labelsApart.l0])
  | succ k1 =>
   have H := HA.out
   clear HA
   simp only [impl_labelsApart.l0] at H
   by_cases c2 : x7_1 < (l0.length : Int)
   ·
    rw [if_pos c2] at H
    have c2b0 := decide_eq_true c2
    clear c2
    by_cases c3 : 0 ≤ x7_1
    ·
     rw [if_pos c3] at H
     have c3b0 := decide_eq_true c3
     clear c3
     by_cases c4 : x7_1 < (l0.length : Int)
     ·
      rw [if_pos c4] at H
      have c4b0 := decide_eq_true c4
      clear c4
      have c5b0 := eq_true (of_decide_eq_true (by with_reducible assumption) : 0 ≤ x7_1)
      by_cases c6 : x7_1 ≤ (l0.length : Int)
      ·
       rw [if_pos c6] at H
       have c6b0 := eq_true c6
       have c6b1 := decide_eq_true c6
       clear c6
       obtain ⟨y411, hy411⟩ : ∃ y_ : List (S43), y_ = (l0.take (x7_1 : Int).toNat) := ⟨_, rfl⟩
       replace H : ((impl_labelsAt.f k1 y411 ((rd_T43 l0 x7_1).f0)).bind fun t415 => (if t415 ≥ 0 then (some false) else (impl_labelsApart.l0 k1 l0 l0 (l0.length : Int) (wrap64 (x7_1 + 1))))) = some r := by first | (rw [hy411]; with_reducible exact H) | (have H2_ := (Option.bind_some _ _).symm.trans H; rw [hy411]; with_reducible exact H2_) | (have H2_ := (Option.bind_some _ _).symm.trans H; with_reducible exact H2_) | with_reducible exact H | (rw [hy411]; exact H) | exact H
       have Ny411 := Aside0.mk hy411
       clear hy411
       replace H := Option.bind_eq_some_iff.mp H
       obtain ⟨t415, A70, H⟩ := H
       have A7 := Aside0.mk A70
       clear A70
       by_cases c8 : t415 ≥ 0
       ·
        rw [if_pos c8] at H
        have c8b0 : decide (0 ≤ t415) = true := decide_eq_true c8
        clear c8
        obtain rfl := Option.some.inj H
        have p409 : 0 ≤ (x7_1 : Int) := of_decide_eq_true (by with_reducible assumption)
        have q409 : x7_1 < (l0.length : Int) := of_decide_eq_true (by with_reducible assumption)
        obtain ⟨ad409, A409_0, c409_0, e409, hx409_0, hx409_1, hx409_2, hx409_3, hl409_0, hi409_0⟩ := at_T43 HR0.out x7_1 p409 q409
        cases e409
        replace hx409_0 := cl_ HB.out hx409_0
        replace hx409_1 := cl_ HB.out hx409_1
        replace hx409_2 := cl_ HB.out hx409_2
        replace hx409_3 := cl_ HB.out hx409_3
        have HR409_0 := Aside0.mk hi409_0
        have HC409_0 := Aside0.mk hl409_0
        clear hi409_0 hl409_0
        replace p409 := eq_true p409
        replace q409 := eq_true q409
        try go_wp2_with (first | ((with_reducible refine gate_dst (N := 4) rfl ?_); refine box_event ?hg (N := 4) ?hd (cs := #[.slice none 0 0, .int .i64 0, .int .i64 0, .string (⟨#[]⟩ : ByteArray)]) (t := 43) ?hr ?_; (case hd => rfl); (case hg => rfl); (case hr => first | (go_simp; done) | (go_simp; rfl)); intro gb410 hg w9 hbox hb; have n0_ := Aside0.mk (below_step (by repeat (first | (with_reducible first | exact HB.out | apply ba_ | apply bn_ | apply bd_) | exact HB.out)) hb); have BK410 := Aside0.mk (hbox); have GW410 := Aside0.mk ((by rw [hg]; exact (below_size (by repeat (first | (with_reducible first | exact HB.out | apply ba_ | apply bn_ | apply bd_) | exact HB.out))) : w.heap.size ≤ gb410)); have GE410 := GW410; clear HB; have HB := n0_; clear n0_; clear hb hbox hg; have hcz10_0 : w9.cell? ⟨gb410, 0, none⟩ = some (.slice none 0 0) := (blk_cell BK410.out 0).trans rfl; have hcz10_1 : w9.cell? ⟨gb410, 1, none⟩ = some (.int .i64 0) := (blk_cell BK410.out 1).trans rfl; have hcz10_2 : w9.cell? ⟨gb410, 2, none⟩ = some (.int .i64 0) := (blk_cell BK410.out 2).trans rfl; have hcz10_3 : w9.cell? ⟨gb410, 3, none⟩ = some (.string (⟨#[]⟩ : ByteArray)) := (blk_cell BK410.out 3).trans rfl; have hfz10_0 := blk_frozen BK410.out 0; have hfz10_1 := blk_frozen BK410.out 1; have hfz10_2 := blk_frozen BK410.out 2; have hfz10_3 := blk_frozen BK410.out 3))
        have n0_ : Aside0 (((((w9.setCell ⟨gb410, 0, none⟩ (.slice A409_0 ((rd_T43 l0 x7_1).f0).length c409_0)).setCell ⟨gb410, 1, none⟩ (.int .i64 ((rd_T43 l0 x7_1).f1))).setCell ⟨gb410, 2, none⟩ (.int .i64 ((rd_T43 l0 x7_1).f2))).setCell ⟨gb410, 3, none⟩ (.string ((rd_T43 l0 x7_1).f3))).heap[gb410]? = some (.cells #[.slice A409_0 ((rd_T43 l0 x7_1).f0).length c409_0, .int .i64 ((rd_T43 l0 x7_1).f1), .int .i64 ((rd_T43 l0 x7_1).f2), .string ((rd_T43 l0 x7_1).f3)] 43 (0, 0))) := ⟨by (with_reducible repeat (first | refine kn_ ?_ _ | refine kd_ ?_ | refine ka_ ?_ _)); refine blk_put (cs := #[.slice A409_0 ((rd_T43 l0 x7_1).f0).length c409_0, .int .i64 ((rd_T43 l0 x7_1).f1), .int .i64 ((rd_T43 l0 x7_1).f2), .string (⟨#[]⟩ : ByteArray)]) ?_ 3 _ rfl; (with_reducible repeat (first | refine kn_ ?_ _ | refine kd_ ?_ | refine ka_ ?_ _)); refine blk_put (cs := #[.slice A409_0 ((rd_T43 l0 x7_1).f0).length c409_0, .int .i64 ((rd_T43 l0 x7_1).f1), .int .i64 0, .string (⟨#[]⟩ : ByteArray)]) ?_ 2 _ rfl; (with_reducible repeat (first | refine kn_ ?_ _ | refine kd_ ?_ | refine ka_ ?_ _)); refine blk_put (cs := #[.slice A409_0 ((rd_T43 l0 x7_1).f0).length c409_0, .int .i64 0, .int .i64 0, .string (⟨#[]⟩ : ByteArray)]) ?_ 1 _ rfl; (with_reducible repeat (first | refine kn_ ?_ _ | refine kd_ ?_ | refine ka_ ?_ _)); refine blk_put (cs := #[.slice none 0 0, .int .i64 0, .int .i64 0, .string (⟨#[]⟩ : ByteArray)]) ?_ 0 _ rfl; (with_reducible repeat (first | refine kn_ ?_ _ | refine kd_ ?_ | refine ka_ ?_ _)); exact BK410.out⟩
        have n1_ : Aside0 (Below w.heap.size w ((((w9.setCell ⟨gb410, 0, none⟩ (.slice A409_0 ((rd_T43 l0 x7_1).f0).length c409_0)).setCell ⟨gb410, 1, none⟩ (.int .i64 ((rd_T43 l0 x7_1).f1))).setCell ⟨gb410, 2, none⟩ (.int .i64 ((rd_T43 l0 x7_1).f2))).setCell ⟨gb410, 3, none⟩ (.string ((rd_T43 l0 x7_1).f3)))) := ⟨by repeat (first | (with_reducible first | exact HB.out | apply ba_ | apply bn_ | apply bd_ | refine below_set ?_ GE410.out) | exact HB.out)⟩
        (try clear BK410)
        (try clear HB)
        generalize ((((w9.setCell ⟨gb410, 0, none⟩ (.slice A409_0 ((rd_T43 l0 x7_1).f0).length c409_0)).setCell ⟨gb410, 1, none⟩ (.int .i64 ((rd_T43 l0 x7_1).f1))).setCell ⟨gb410, 2, none⟩ (.int .i64 ((rd_T43 l0 x7_1).f2))).setCell ⟨gb410, 3, none⟩ (.string ((rd_T43 l0 x7_1).f3))) = w11 at n0_ n1_ ⊢
        have BK410 := n0_
        have HB := n1_
        clear n0_ n1_
        have n0_ := Aside0.mk (blk_drew BK410.out)
        have n1_ := Aside0.mk (bd_ HB.out)
        clear BK410
        clear HB
        have BK410 := n0_
        have HB := n1_
        clear n0_ n1_
        have q13 : (x7_1 : Int) ≤ ((l0.length : Int) : Int) := of_decide_eq_true (by with_reducible assumption)
        obtain ⟨i013, hi013, _, hsz13, _⟩ := info_parts info43
        have hroom13 : l0.length ≤ c0 := HC0.out
        have hC13 : Kd.C k43 _ (some ad409) l0.length l0 := HR0.out
        have hcut13 := cut_to (P := Try.prog) 44 43 .i64 Try.underlying44 hi013 (some ad409) l0.length c0 x7_1 (of_decide_eq_true (by with_reducible assumption)) q13 hroom13
        have hr13 := Kd.C_take (m := (x7_1 : Int).toNat) hC13 (by omega)
        have hy13 : y411.length = (x7_1 : Int).toNat := (by rw [Ny411.out, List.length_take]; omega)
        rw [← Ny411.out] at hr13
        rw [← hy13] at hcut13
        have HR414 := Aside0.mk hr13
        have HC414 := Aside0.mk (show y411.length ≤ c0 from by omega)
        clear hr13 hC13 hroom13 hi013 hsz13
        have KY13 := Aside0.mk hy13
        clear hy13
        replace q13 := eq_true q13
        refine start_ (n := 7) (S := fun w' => w'.cell? ⟨gb410, 0, none⟩ = some (.slice A409_0 ((rd_T43 l0 x7_1).f0).length c409_0) ∧ w'.cell? ⟨gb410, 1, none⟩ = some (.int .i64 ((rd_T43 l0 x7_1).f1)) ∧ w'.cell? ⟨gb410, 2, none⟩ = some (.int .i64 ((rd_T43 l0 x7_1).f2)) ∧ w'.cell? ⟨gb410, 3, none⟩ = some (.string ((rd_T43 l0 x7_1).f3))) (ds := []) #[f_,f_,f_,f_,f_,f_,f_] (by kernel_rfl) rfl rfl ⟨(blk_cell BK410.out 0).trans rfl, (blk_cell BK410.out 1).trans rfl, (blk_cell BK410.out 2).trans rfl, (blk_cell BK410.out 3).trans rfl⟩ (fun hHeld => ?_)
        generalize w11.drew = w12 at BK410 HB HR414 hHeld ⊢
        refine pure_ (i := 0) (N := some 12) (v := ?_) (a' := ?_) #[t_,f_,f_,f_,f_,f_,f_] rfl rfl (by kernel_rfl) (fun _ _ _ h => h) (Or.inl ⟨by rfl, ?_⟩) ?_ ?_
        rotate_left
        ·
         intro w'
         go_simp
         with_reducible rfl
        rotate_left
        ·
         simp only [fr_]
         rfl
        refine pure_ (i := 1) (N := some 13) (v := ?_) (a' := ?_) #[t_,t_,f_,f_,f_,f_,f_] rfl rfl (by kernel_rfl) (fun _ _ _ h => h) (Or.inl ⟨by rfl, ?_⟩) ?_ ?_
        rotate_left
        ·
         intro w'
         go_simp
         with_reducible rfl
        rotate_left
        ·
         simp only [fr_]
         rfl
        refine pure_ (i := 2) (N := some 14) (v := ?_) (a' := ?_) #[t_,t_,t_,f_,f_,f_,f_] rfl rfl (by kernel_rfl) (fun _ _ _ h => h) (Or.inl ⟨by rfl, ?_⟩) ?_ ?_
        rotate_left
        ·
         intro w'
         go_simp
         with_reducible rfl
        rotate_left
        ·
         simp only [fr_]
         rfl
        refine pure_ (i := 3) (N := some 15) (v := ?_) (a' := ?_) #[t_,t_,t_,t_,f_,f_,f_] rfl rfl (by kernel_rfl) (fun _ _ _ h => h) (Or.inl ⟨by rfl, ?_⟩) ?_ ?_
        rotate_left
        ·
         intro w'
         go_simp
         with_reducible rfl
        rotate_left
        ·
         simp only [fr_]
         rfl
        refine take_ (i := 4) (N := some 16) (v := ?_) (a' := ?_) #[t_,t_,t_,t_,t_,f_,f_] rfl rfl (by kernel_rfl) (fun _ _ _ h => h) (Or.inl ⟨by rfl, ?_⟩) hHeld ?_ ?_
        rotate_left
        ·
         rintro w' ⟨s0, s1, s2, s3⟩
         go_simp
         with_reducible rfl
        rotate_left
        ·
         simp only [fr_]
         rfl
        refine one_ (i := 5) (N := some 17) #[t_,t_,t_,t_,t_,t_,f_] rfl rfl (by kernel_rfl) (by decide) (fun K hK => ?_)
        refine goes_ Try.func106 (by kernel_rfl) rfl #[.slice (some ad409) y411.length c0, .slice A409_0 ((rd_T43 l0 x7_1).f0).length c409_0] (by rfl) rfl rfl (by (try simp only [mp_]); first | done | rfl | (simp only [List.length_drop, List.length_take]; rfl)) ?_
        with_reducible refine (impl_labelsAt.calls k1 _ _ y411 _ _ ((rd_T43 l0 x7_1).f0) t415 _ ?side1 ?side2 ?side3 ?side4 A7.out).mono ?_
        (case side1 => repeat (first | exact (Kd.C_below HR414.out HB.out) | (with_reducible first | refine ca_ ?_ _ | refine cn_ ?_ _ | refine cd_ ?_)))
        (case side2 => exact HC414.out)
        (case side3 => repeat (first | exact (Kd.C_below HR409_0.out HB.out) | (with_reducible first | refine ca_ ?_ _ | refine cn_ ?_ _ | refine cd_ ?_)))
        (case side4 => exact HC409_0.out)
        rintro e w14 ⟨rfl, hb⟩
        refine ⟨_, rfl, ?_⟩
        have n0_ := Aside0.mk (blk_below (g := gb410) (o := .cells #[.slice A409_0 ((rd_T43 l0 x7_1).f0).length c409_0, .int .i64 ((rd_T43 l0 x7_1).f1), .int .i64 ((rd_T43 l0 x7_1).f2), .string ((rd_T43 l0 x7_1).f3)] 43 (0, 0)) (by (with_reducible repeat (first | refine kn_ ?_ _ | refine kd_ ?_ | refine ka_ ?_ _)); exact BK410.out) hb)
        have n1_ := Aside0.mk (below_step (by repeat (first | (with_reducible first | exact HB.out | apply ba_ | apply bn_ | apply bd_ | refine below_set ?_ GE410.out) | exact HB.out)) hb)
        clear BK410
        clear HB
        have BK410 := n0_
        have HB := n1_
        clear n0_ n1_
        (try clear hb)
        (try clear hb2)
        (try clear hk)
        (try clear hi)
        refine hK.out _ _ ⟨(blk_cell BK410.out 0).trans rfl, (blk_cell BK410.out 1).trans rfl, (blk_cell BK410.out 2).trans rfl, (blk_cell BK410.out 3).trans rfl⟩ (fun hHeld => ?_)
        clear hK K
        refine norm_ (a' := ?_) ?_ ?_
        rotate_left
        ·
         show Act.put _ (some 17) _ = _
         simp only [fr_]
         rfl
        refine pure_ (i := 6) (N := some 18) (v := ?_) (a' := ?_) #[t_,t_,t_,t_,t_,t_,t_] rfl rfl (by kernel_rfl) (fun _ _ _ h => h) (Or.inl ⟨by rfl, ?_⟩) ?_ ?_
        rotate_left
        ·
         intro w'
         go_simp
         with_reducible rfl
        rotate_left
        ·
         simp only [fr_]
         rfl
        refine done_ (by kernel_rfl) ?_
        try go_wp2
        go_ret
        exact ⟨by first | rfl | (simp [errW_none, errW_some] <;> rfl) | (simp [*, errW_none, errW_some] <;> rfl), by repeat (first | (with_reducible first | exact HB.out | apply ba_ | apply bn_ | apply bd_ | refine below_set ?_ GE410.out) | exact HB.out)⟩
       rw [if_neg c8] at H
       have c8b0 : decide (0 ≤ t415) = false := decide_eq_false c8
       clear c8
       have H' := Aside0.mk H
       clear H
       have p409 : 0 ≤ (x7_1 : Int) := of_decide_eq_true (by with_reducible assumption)
       have q409 : x7_1 < (l0.length : Int) := of_decide_eq_true (by with_reducible assumption)
       obtain ⟨ad409, A409_0, c409_0, e409, hx409_0, hx409_1, hx409_2, hx409_3, hl409_0, hi409_0⟩ := at_T43 HR0.out x7_1 p409 q409
       cases e409
       replace hx409_0 := cl_ HB.out hx409_0
       replace hx409_1 := cl_ HB.out hx409_1
       replace hx409_2 := cl_ HB.out hx409_2
       replace hx409_3 := cl_ HB.out hx409_3
       have HR409_0 := Aside0.mk hi409_0
       have HC409_0 := Aside0.mk hl409_0
       clear hi409_0 hl409_0
       replace p409 := eq_true p409
       replace q409 := eq_true q409
       try go_wp2_with (first | ((with_reducible refine gate_dst (N := 4) rfl ?_); refine box_event ?hg (N := 4) ?hd (cs := #[.slice none 0 0, .int .i64 0, .int .i64 0, .string (⟨#[]⟩ : ByteArray)]) (t := 43) ?hr ?_; (case hd => rfl); (case hg => rfl); (case hr => first | (go_simp; done) | (go_simp; rfl)); intro gb410 hg w15 hbox hb; have n0_ := Aside0.mk (below_step (by repeat (first | (with_reducible first | exact HB.out | apply ba_ | apply bn_ | apply bd_) | exact HB.out)) hb); have BK410 := Aside0.mk (hbox); have GW410 := Aside0.mk ((by rw [hg]; exact (below_size (by repeat (first | (with_reducible first | exact HB.out | apply ba_ | apply bn_ | apply bd_) | exact HB.out))) : w.heap.size ≤ gb410)); have GE410 := GW410; clear HB; have HB := n0_; clear n0_; clear hb hbox hg; have hcz16_0 : w15.cell? ⟨gb410, 0, none⟩ = some (.slice none 0 0) := (blk_cell BK410.out 0).trans rfl; have hcz16_1 : w15.cell? ⟨gb410, 1, none⟩ = some (.int .i64 0) := (blk_cell BK410.out 1).trans rfl; have hcz16_2 : w15.cell? ⟨gb410, 2, none⟩ = some (.int .i64 0) := (blk_cell BK410.out 2).trans rfl; have hcz16_3 : w15.cell? ⟨gb410, 3, none⟩ = some (.string (⟨#[]⟩ : ByteArray)) := (blk_cell BK410.out 3).trans rfl; have hfz16_0 := blk_frozen BK410.out 0; have hfz16_1 := blk_frozen BK410.out 1; have hfz16_2 := blk_frozen BK410.out 2; have hfz16_3 := blk_frozen BK410.out 3))
       have n0_ : Aside0 (((((w15.setCell ⟨gb410, 0, none⟩ (.slice A409_0 ((rd_T43 l0 x7_1).f0).length c409_0)).setCell ⟨gb410, 1, none⟩ (.int .i64 ((rd_T43 l0 x7_1).f1))).setCell ⟨gb410, 2, none⟩ (.int .i64 ((rd_T43 l0 x7_1).f2))).setCell ⟨gb410, 3, none⟩ (.string ((rd_T43 l0 x7_1).f3))).heap[gb410]? = some (.cells #[.slice A409_0 ((rd_T43 l0 x7_1).f0).length c409_0, .int .i64 ((rd_T43 l0 x7_1).f1), .int .i64 ((rd_T43 l0 x7_1).f2), .string ((rd_T43 l0 x7_1).f3)] 43 (0, 0))) := ⟨by (with_reducible repeat (first | refine kn_ ?_ _ | refine kd_ ?_ | refine ka_ ?_ _)); refine blk_put (cs := #[.slice A409_0 ((rd_T43 l0 x7_1).f0).length c409_0, .int .i64 ((rd_T43 l0 x7_1).f1), .int .i64 ((rd_T43 l0 x7_1).f2), .string (⟨#[]⟩ : ByteArray)]) ?_ 3 _ rfl; (with_reducible repeat (first | refine kn_ ?_ _ | refine kd_ ?_ | refine ka_ ?_ _)); refine blk_put (cs := #[.slice A409_0 ((rd_T43 l0 x7_1).f0).length c409_0, .int .i64 ((rd_T43 l0 x7_1).f1), .int .i64 0, .string (⟨#[]⟩ : ByteArray)]) ?_ 2 _ rfl; (with_reducible repeat (first | refine kn_ ?_ _ | refine kd_ ?_ | refine ka_ ?_ _)); refine blk_put (cs := #[.slice A409_0 ((rd_T43 l0 x7_1).f0).length c409_0, .int .i64 0, .int .i64 0, .string (⟨#[]⟩ : ByteArray)]) ?_ 1 _ rfl; (with_reducible repeat (first | refine kn_ ?_ _ | refine kd_ ?_ | refine ka_ ?_ _)); refine blk_put (cs := #[.slice none 0 0, .int .i64 0, .int .i64 0, .string (⟨#[]⟩ : ByteArray)]) ?_ 0 _ rfl; (with_reducible repeat (first | refine kn_ ?_ _ | refine kd_ ?_ | refine ka_ ?_ _)); exact BK410.out⟩
       have n1_ : Aside0 (Below w.heap.size w ((((w15.setCell ⟨gb410, 0, none⟩ (.slice A409_0 ((rd_T43 l0 x7_1).f0).length c409_0)).setCell ⟨gb410, 1, none⟩ (.int .i64 ((rd_T43 l0 x7_1).f1))).setCell ⟨gb410, 2, none⟩ (.int .i64 ((rd_T43 l0 x7_1).f2))).setCell ⟨gb410, 3, none⟩ (.string ((rd_T43 l0 x7_1).f3)))) := ⟨by repeat (first | (with_reducible first | exact HB.out | apply ba_ | apply bn_ | apply bd_ | refine below_set ?_ GE410.out) | exact HB.out)⟩
       (try clear BK410)
       (try clear HB)
       generalize ((((w15.setCell ⟨gb410, 0, none⟩ (.slice A409_0 ((rd_T43 l0 x7_1).f0).length c409_0)).setCell ⟨gb410, 1, none⟩ (.int .i64 ((rd_T43 l0 x7_1).f1))).setCell ⟨gb410, 2, none⟩ (.int .i64 ((rd_T43 l0 x7_1).f2))).setCell ⟨gb410, 3, none⟩ (.string ((rd_T43 l0 x7_1).f3))) = w17 at n0_ n1_ ⊢
       have BK410 := n0_
       have HB := n1_
       clear n0_ n1_
       have n0_ := Aside0.mk (blk_drew BK410.out)
       have n1_ := Aside0.mk (bd_ HB.out)
       clear BK410
       clear HB
       have BK410 := n0_
       have HB := n1_
       clear n0_ n1_
       have q19 : (x7_1 : Int) ≤ ((l0.length : Int) : Int) := of_decide_eq_true (by with_reducible assumption)
       obtain ⟨i019, hi019, _, hsz19, _⟩ := info_parts info43
       have hroom19 : l0.length ≤ c0 := HC0.out
       have hC19 : Kd.C k43 _ (some ad409) l0.length l0 := HR0.out
       have hcut19 := cut_to (P := Try.prog) 44 43 .i64 Try.underlying44 hi019 (some ad409) l0.length c0 x7_1 (of_decide_eq_true (by with_reducible assumption)) q19 hroom19
       have hr19 := Kd.C_take (m := (x7_1 : Int).toNat) hC19 (by omega)
       have hy19 : y411.length = (x7_1 : Int).toNat := (by rw [Ny411.out, List.length_take]; omega)
       rw [← Ny411.out] at hr19
       rw [← hy19] at hcut19
       have HR414 := Aside0.mk hr19
       have HC414 := Aside0.mk (show y411.length ≤ c0 from by omega)
       clear hr19 hC19 hroom19 hi019 hsz19
       have KY19 := Aside0.mk hy19
       clear hy19
       replace q19 := eq_true q19
       refine start_ (n := 7) (S := fun w' => w'.cell? ⟨gb410, 0, none⟩ = some (.slice A409_0 ((rd_T43 l0 x7_1).f0).length c409_0) ∧ w'.cell? ⟨gb410, 1, none⟩ = some (.int .i64 ((rd_T43 l0 x7_1).f1)) ∧ w'.cell? ⟨gb410, 2, none⟩ = some (.int .i64 ((rd_T43 l0 x7_1).f2)) ∧ w'.cell? ⟨gb410, 3, none⟩ = some (.string ((rd_T43 l0 x7_1).f3))) (ds := []) #[f_,f_,f_,f_,f_,f_,f_] (by kernel_rfl) rfl rfl ⟨(blk_cell BK410.out 0).trans rfl, (blk_cell BK410.out 1).trans rfl, (blk_cell BK410.out 2).trans rfl, (blk_cell BK410.out 3).trans rfl⟩ (fun hHeld => ?_)
       generalize w17.drew = w18 at BK410 HB HR414 hHeld ⊢
       refine pure_ (i := 0) (N := some 12) (v := ?_) (a' := ?_) #[t_,f_,f_,f_,f_,f_,f_] rfl rfl (by kernel_rfl) (fun _ _ _ h => h) (Or.inl ⟨by rfl, ?_⟩) ?_ ?_
       rotate_left
       ·
        intro w'
        go_simp
        with_reducible rfl
       rotate_left
       ·
        simp only [fr_]
        rfl
       refine pure_ (i := 1) (N := some 13) (v := ?_) (a' := ?_) #[t_,t_,f_,f_,f_,f_,f_] rfl rfl (by kernel_rfl) (fun _ _ _ h => h) (Or.inl ⟨by rfl, ?_⟩) ?_ ?_
       rotate_left
       ·
        intro w'
        go_simp
        with_reducible rfl
       rotate_left
       ·
        simp only [fr_]
        rfl
       refine pure_ (i := 2) (N := some 14) (v := ?_) (a' := ?_) #[t_,t_,t_,f_,f_,f_,f_] rfl rfl (by kernel_rfl) (fun _ _ _ h => h) (Or.inl ⟨by rfl, ?_⟩) ?_ ?_
       rotate_left
       ·
        intro w'
        go_simp
        with_reducible rfl
       rotate_left
       ·
        simp only [fr_]
        rfl
       refine pure_ (i := 3) (N := some 15) (v := ?_) (a' := ?_) #[t_,t_,t_,t_,f_,f_,f_] rfl rfl (by kernel_rfl) (fun _ _ _ h => h) (Or.inl ⟨by rfl, ?_⟩) ?_ ?_
       rotate_left
       ·
        intro w'
        go_simp
        with_reducible rfl
       rotate_left
       ·
        simp only [fr_]
        rfl
       refine take_ (i := 4) (N := some 16) (v := ?_) (a' := ?_) #[t_,t_,t_,t_,t_,f_,f_] rfl rfl (by kernel_rfl) (fun _ _ _ h => h) (Or.inl ⟨by rfl, ?_⟩) hHeld ?_ ?_
       rotate_left
       ·
        rintro w' ⟨s0, s1, s2, s3⟩
        go_simp
        with_reducible rfl
       rotate_left
       ·
        simp only [fr_]
        rfl
       refine one_ (i := 5) (N := some 17) #[t_,t_,t_,t_,t_,t_,f_] rfl rfl (by kernel_rfl) (by decide) (fun K hK => ?_)
       refine goes_ Try.func106 (by kernel_rfl) rfl #[.slice (some ad409) y411.length c0, .slice A409_0 ((rd_T43 l0 x7_1).f0).length c409_0] (by rfl) rfl rfl (by (try simp only [mp_]); first | done | rfl | (simp only [List.length_drop, List.length_take]; rfl)) ?_
       with_reducible refine (impl_labelsAt.calls k1 _ _ y411 _ _ ((rd_T43 l0 x7_1).f0) t415 _ ?side1 ?side2 ?side3 ?side4 A7.out).mono ?_
       (case side1 => repeat (first | exact (Kd.C_below HR414.out HB.out) | (with_reducible first | refine ca_ ?_ _ | refine cn_ ?_ _ | refine cd_ ?_)))
       (case side2 => exact HC414.out)
       (case side3 => repeat (first | exact (Kd.C_below HR409_0.out HB.out) | (with_reducible first | refine ca_ ?_ _ | refine cn_ ?_ _ | refine cd_ ?_)))
       (case side4 => exact HC409_0.out)
       rintro e w20 ⟨rfl, hb⟩
       refine ⟨_, rfl, ?_⟩
       have n0_ := Aside0.mk (blk_below (g := gb410) (o := .cells #[.slice A409_0 ((rd_T43 l0 x7_1).f0).length c409_0, .int .i64 ((rd_T43 l0 x7_1).f1), .int .i64 ((rd_T43 l0 x7_1).f2), .string ((rd_T43 l0 x7_1).f3)] 43 (0, 0)) (by (with_reducible repeat (first | refine kn_ ?_ _ | refine kd_ ?_ | refine ka_ ?_ _)); exact BK410.out) hb)
       have n1_ := Aside0.mk (below_step (by repeat (first | (with_reducible first | exact HB.out | apply ba_ | apply bn_ | apply bd_ | refine below_set ?_ GE410.out) | exact HB.out)) hb)
       clear BK410
       clear HB
       have BK410 := n0_
       have HB := n1_
       clear n0_ n1_
       (try clear hb)
       (try clear hb2)
       (try clear hk)
       (try clear hi)
       refine hK.out _ _ ⟨(blk_cell BK410.out 0).trans rfl, (blk_cell BK410.out 1).trans rfl, (blk_cell BK410.out 2).trans rfl, (blk_cell BK410.out 3).trans rfl⟩ (fun hHeld => ?_)
       clear hK K
       refine norm_ (a' := ?_) ?_ ?_
       rotate_left
       ·
        show Act.put _ (some 17) _ = _
        simp only [fr_]
        rfl
       refine pure_ (i := 6) (N := some 18) (v := ?_) (a' := ?_) #[t_,t_,t_,t_,t_,t_,t_] rfl rfl (by kernel_rfl) (fun _ _ _ h => h) (Or.inl ⟨by rfl, ?_⟩) ?_ ?_
       rotate_left
       ·
        intro w'
        go_simp
        with_reducible rfl
       rotate_left
       ·
        simp only [fr_]
        rfl
       refine done_ (by kernel_rfl) ?_
       try go_wp2
       go_roundg k1
       case measure => have := HK1.out; omega
       case rel => exact ⟨(wrap64 (x7_1 + 1)), (by first | rfl | (simp; done) | (simp [*]; done)), H', ⟨by have := HK1.out; omega⟩, ⟨by repeat (first | (with_reducible first | exact HB.out | apply ba_ | apply bn_ | apply bd_ | refine below_set ?_ GE410.out) | exact HB.out)⟩⟩
      rw [if_neg c6] at H
      exact absurd H (by simp)
     rw [if_neg c4] at H
     exact absurd H (by simp)
    rw [if_neg c3] at H
    exact absurd H (by simp)
   rw [if_neg c2] at H
   have c2b0 : decide (x7_1 < (l0.length : Int)) = false := decide_eq_false c2
   clear c2
   obtain rfl := Option.some.inj H
   go_wp2
   go_ret
   exact ⟨by first | rfl | (simp [errW_none, errW_some] <;> rfl) | (simp [*, errW_none, errW_some] <;> rfl), by repeat (first | (with_reducible first | exact HB.out | apply ba_ | apply bn_ | apply bd_) | exact HB.out)⟩
def impl_ChainOk.l0 : Nat → List (S43) → Int → Int → Int → List (S43) → Option (Bool)
 | 0, _, _, _, _, _ => none
 | k + 1, x6, x7, x8, x417000, x417001 => if x8 < x7 then (if 0 ≤ x8 then (if x8 < (x6.length : Int) then ((impl_AlarmOk.f k ((rd_T43 x6 x8).f0) ((rd_T43 x6 x8).f1) ((rd_T43 x6 x8).f2) ((rd_T43 x6 x8).f3)).bind fun t420 => (if t420 = true then ((impl_Finger.f k ((rd_T43 x6 x8).f0)).bind fun t421 => (if t421 = x417000 then (impl_ChainOk.l0 k x6 x7 (wrap64 (x8 + 1)) x417000 x417001) else (some false))) else (some false))) else (none)) else (none)) else (if (x417001.length : Int) > 0 then ((impl_labelsApart.f k x417001).bind fun t417 => (some t417)) else (some false))
def impl_ChainOk.f (k : Nat) (a0_0 : Int) (l0_1 : List (S43)) : Option (Bool) := impl_ChainOk.l0 k l0_1 (l0_1.length : Int) 0 a0_0 l0_1
theorem impl_ChainOk.mono_l : ∀ k, (∀ y0 y1 y2 y3 y4, LeO (impl_ChainOk.l0 k y0 y1 y2 y3 y4) (impl_ChainOk.l0 (k + 1) y0 y1 y2 y3 y4))
 | 0 => fun _ _ _ _ _ r h => by simp [impl_ChainOk.l0] at h
 | k + 1 => by
  have ih0 := impl_ChainOk.mono_l k
  intro y0 y1 y2 y3 y4
  unfold impl_ChainOk.l0
  repeat' first
  | (with_reducible exact ih0 _ _ _ _ _)
  | (with_reducible exact impl_AlarmOk.mono _ _ _ _ _)
  | (with_reducible exact impl_Finger.mono _ _)
  | (with_reducible exact impl_labelsApart.mono _ _)
  | (with_reducible exact LeO.refl _)
  | (with_reducible exact LeO.none _)
  | (with_reducible refine LeO.ite ?_ ?_)
  | (with_reducible refine LeO.bind ?_ (fun _ => ?_))
  | exact ih0 _ _ _ _ _
  | exact impl_AlarmOk.mono _ _ _ _ _
  | exact impl_Finger.mono _ _
  | exact impl_labelsApart.mono _ _
theorem impl_ChainOk.mono : ∀ a0 a1 k, LeO (impl_ChainOk.f k a0 a1) (impl_ChainOk.f (k + 1) a0 a1) := by
 intro a0 a1 k
 have ih0 := impl_ChainOk.mono_l k
 unfold impl_ChainOk.f
 repeat' first
   | (with_reducible exact ih0 _ _ _ _ _)
   | (with_reducible exact impl_AlarmOk.mono _ _ _ _ _)
   | (with_reducible exact impl_Finger.mono _ _)
   | (with_reducible exact impl_labelsApart.mono _ _)
   | (with_reducible exact LeO.refl _)
   | (with_reducible exact LeO.none _)
   | (with_reducible refine LeO.ite ?_ ?_)
   | (with_reducible refine LeO.bind ?_ (fun _ => ?_))
   | exact ih0 _ _ _ _ _
   | exact impl_AlarmOk.mono _ _ _ _ _
   | exact impl_Finger.mono _ _
   | exact impl_labelsApart.mono _ _
def impl_ChainOk.T4 : Bool × List (List Nat × List Nat) := (true, [([], []), ([0], [0]), ([1], [1]), ([2, 1], [2]), ([3], [3]), ([4, 3], [3, 4]), ([5, 3, 3], [3, 5]), ([3], [3]), ([7, 3], [3, 7]), ([6, 8, 3], [3, 6, 8]), ([3, 9], [3, 9])])
def impl_ChainOk.B4 : List Nat := [0, 1, 3, 7, 15, 31, 63, 15, 143, 511, 1023]
theorem impl_ChainOk.tab4 : rtab .any (opsOf Try.f72 4) = impl_ChainOk.T4 := by kernel_rfl
theorem impl_ChainOk.bits4 : waitsOk impl_ChainOk.T4.2 impl_ChainOk.B4 = true := by kernel_rfl
theorem impl_ChainOk.calls (k : Nat) (a0_0 : Int) (A0_1 : Option Addr) (c0_1 : Nat) (l0_1 : List (S43)) (r : Bool) (w : World) (hr0_1 : Kd.C k43 w A0_1 l0_1.length l0_1) (hc0_1 : l0_1.length ≤ c0_1) (h : impl_ChainOk.f k a0_0 l0_1 = some r) :
  Calls Try.prog 72 #[.agg #[.int .i64 a0_0, .slice A0_1 l0_1.length c0_1]] w fun e w' => e = .returned (.bool r) ∧ Below w.heap.size w w' := by
 have hu100 := Try.underlying100
 have hu43 := Try.underlying43
 have HR0_1 := Aside0.mk hr0_1
 have HC0_1 := Aside0.mk hc0_1
 clear hr0_1 hc0_1
 have HB := Aside0.mk (Below.refl w.heap.size w)
 have H : (impl_ChainOk.l0 k l0_1 (l0_1.length : Int) 0 a0_0 l0_1) = some r := h
 clear h
 have H' := Aside0.mk H
 clear H
 go_enter Try.func72, Try.ntmps72
 go_wp2_with (first | ((with_reducible refine gate_dst (N := 1) rfl ?_); refine box_event ?hg (N := 1) ?hd (cs := #[.int .i64 a0_0, .slice A0_1 l0_1.length c0_1]) (t := 100) ?hr ?_; (case hd => rfl); (case hg => rfl); (case hr => first | (go_simp; done) | (go_simp; rfl)); intro gb416 hg w2 hbox hb; have n0_ := Aside0.mk (below_step (by repeat (first | (with_reducible first | exact HB.out | apply ba_ | apply bn_ | apply bd_) | exact HB.out)) hb); have BK416 := Aside0.mk (hbox); have GW416 := Aside0.mk ((by rw [hg]; exact (below_size (by repeat (first | (with_reducible first | exact HB.out | apply ba_ | apply bn_ | apply bd_) | exact HB.out))) : w.heap.size ≤ gb416)); have GE416 := GW416; clear HB; have HB := n0_; clear n0_; clear hb hbox hg; have hcz3_0 : w2.cell? ⟨gb416, 0, none⟩ = some (.int .i64 a0_0) := (blk_cell BK416.out 0).trans rfl; have hcz3_1 : w2.cell? ⟨gb416, 1, none⟩ = some (.slice A0_1 l0_1.length c0_1) := (blk_cell BK416.out 1).trans rfl; have hfz3_0 := blk_frozen BK416.out 0; have hfz3_1 := blk_frozen BK416.out 1))
 go_loopg [8] k (fun kq v8 w' => ∃ (x8_1 : Int), v8 = .int .i64 x8_1 ∧ Aside0 (impl_ChainOk.l0 kq l0_1 (l0_1.length : Int) x8_1 a0_0 l0_1 = some r) ∧ Aside0 (kq ≤ k) ∧ Aside0 (w'.heap[gb416]? = some (.cells #[.int .i64 a0_0, (.slice A0_1 l0_1.length c0_1)] 100 (0, 0))) ∧ Aside0 (Below w.heap.size w w'))
 case atStart => exact ⟨(0), (by first | rfl | (simp; done) | (simp [*]; done)), H', ⟨Nat.le_refl _⟩, ⟨by (with_reducible repeat (first | refine kn_ ?_ _ | refine kd_ ?_ | refine ka_ ?_ _)); exact BK416.out⟩, ⟨by repeat (first | (with_reducible first | exact HB.out | apply ba_ | apply bn_ | apply bd_ | refine below_set ?_ GE416.out) | exact HB.out)⟩⟩
 case round =>
  clear H'
  try clear p2
  try clear hcz3_0
  try clear hcz3_1
  try clear hfz3_0
  try clear hfz3_1
  obtain ⟨x8_1, rfl, HA, HK1, BK416, HB⟩ := hrel
  cases gk with
  | zero => exact absurd HA.out (by simp [impl_ChainOk.l0])
  | succ k1 =>
   have H := HA.out
   clear HA
   simp only [impl_ChainOk.l0] at H
   by_cases c4 : x8_1 < (l0_1.length : Int)
   ·
    rw [if_pos c4] at H
    have c4b0 := decide_eq_true c4
    clear c4
    by_cases c5 : 0 ≤ x8_1
    ·
     rw [if_pos c5] at H
     have c5b0 := decide_eq_true c5
     clear c5
     by_cases c6 : x8_1 < (l0_1.length : Int)
     ·
      rw [if_pos c6] at H
      have c6b0 := decide_eq_true c6
      clear c6
      replace H := Option.bind_eq_some_iff.mp H
      obtain ⟨t420, A70, H⟩ := H
      have A7 := Aside0.mk A70
      clear A70
      by_cases c8 : t420 = true
      ·
       subst c8
       rw [if_pos rfl] at H
       replace H := Option.bind_eq_some_iff.mp H
       obtain ⟨t421, A90, H⟩ := H
       have A9 := Aside0.mk A90
       clear A90
       by_cases c10 : t421 = a0_0
       ·
        rw [if_pos c10] at H
        have c10b0 : (t421 == a0_0) = true := beq_iff_eq.mpr c10
        have c10b1 : (t421 != a0_0) = false := bne_eq_false_iff_eq.mpr c10
        clear c10
        have H' := Aside0.mk H
        clear H
        have p418 : 0 ≤ (x8_1 : Int) := of_decide_eq_true (by with_reducible assumption)
        have q418 : x8_1 < (l0_1.length : Int) := of_decide_eq_true (by with_reducible assumption)
        obtain ⟨ad418, A418_0, c418_0, e418, hx418_0, hx418_1, hx418_2, hx418_3, hl418_0, hi418_0⟩ := at_T43 HR0_1.out x8_1 p418 q418
        cases e418
        replace hx418_0 := cl_ HB.out hx418_0
        replace hx418_1 := cl_ HB.out hx418_1
        replace hx418_2 := cl_ HB.out hx418_2
        replace hx418_3 := cl_ HB.out hx418_3
        have HR418_0 := Aside0.mk hi418_0
        have HC418_0 := Aside0.mk hl418_0
        clear hi418_0 hl418_0
        replace p418 := eq_true p418
        replace q418 := eq_true q418
        try go_wp2_with (first | ((with_reducible refine gate_dst (N := 4) rfl ?_); refine box_event ?hg (N := 4) ?hd (cs := #[.slice none 0 0, .int .i64 0, .int .i64 0, .string (⟨#[]⟩ : ByteArray)]) (t := 43) ?hr ?_; (case hd => rfl); (case hg => rfl); (case hr => first | (go_simp; done) | (go_simp; rfl)); intro gb419 hg w11 hbox hb; have n0_ := Aside0.mk (blk_below (g := gb416) (o := .cells #[.int .i64 a0_0, .slice (some ad418) l0_1.length c0_1] 100 (0, 0)) (by (with_reducible repeat (first | refine kn_ ?_ _ | refine kd_ ?_ | refine ka_ ?_ _)); exact BK416.out) hb); have n1_ := Aside0.mk (below_step (by repeat (first | (with_reducible first | exact HB.out | apply ba_ | apply bn_ | apply bd_ | refine below_set ?_ GE416.out) | exact HB.out)) hb); have n2_ := Aside0.mk (hbox); have n3_ := Aside0.mk ((by rw [hg]; exact (below_size (by repeat (first | (with_reducible first | exact HB.out | apply ba_ | apply bn_ | apply bd_ | refine below_set ?_ GE416.out) | exact HB.out))) : w.heap.size ≤ gb419)); have n4_ := n3_; have n5_ := Aside0.mk ((by rw [hg]; exact Nat.ne_of_lt (blk_lt (g := gb416) (o := .cells #[.int .i64 a0_0, .slice (some ad418) l0_1.length c0_1] 100 (0, 0)) (by (with_reducible repeat (first | refine kn_ ?_ _ | refine kd_ ?_ | refine ka_ ?_ _)); exact BK416.out)) : gb416 ≠ gb419)); have n6_ := Aside0.mk ((by rw [hg]; exact Nat.ne_of_gt (blk_lt (g := gb416) (o := .cells #[.int .i64 a0_0, .slice (some ad418) l0_1.length c0_1] 100 (0, 0)) (by (with_reducible repeat (first | refine kn_ ?_ _ | refine kd_ ?_ | refine ka_ ?_ _)); exact BK416.out)) : gb419 ≠ gb416)); clear BK416; clear HB; have BK416 := n0_; have HB := n1_; have BK419 := n2_; have GW419 := n3_; have GE419 := n4_; have NB416_419 := n5_; have NB419_416 := n6_; clear n0_ n1_ n2_ n3_ n4_ n5_ n6_; clear hb hbox hg; have hnb12 := NB419_416.out; have hnc12 := NB416_419.out; have hcz13_0 : w11.cell? ⟨gb419, 0, none⟩ = some (.slice none 0 0) := (blk_cell BK419.out 0).trans rfl; have hcz13_1 : w11.cell? ⟨gb419, 1, none⟩ = some (.int .i64 0) := (blk_cell BK419.out 1).trans rfl; have hcz13_2 : w11.cell? ⟨gb419, 2, none⟩ = some (.int .i64 0) := (blk_cell BK419.out 2).trans rfl; have hcz13_3 : w11.cell? ⟨gb419, 3, none⟩ = some (.string (⟨#[]⟩ : ByteArray)) := (blk_cell BK419.out 3).trans rfl; have hfz13_0 := blk_frozen BK419.out 0; have hfz13_1 := blk_frozen BK419.out 1; have hfz13_2 := blk_frozen BK419.out 2; have hfz13_3 := blk_frozen BK419.out 3))
        have n0_ : Aside0 (((((w11.setCell ⟨gb419, 0, none⟩ (.slice A418_0 ((rd_T43 l0_1 x8_1).f0).length c418_0)).setCell ⟨gb419, 1, none⟩ (.int .i64 ((rd_T43 l0_1 x8_1).f1))).setCell ⟨gb419, 2, none⟩ (.int .i64 ((rd_T43 l0_1 x8_1).f2))).setCell ⟨gb419, 3, none⟩ (.string ((rd_T43 l0_1 x8_1).f3))).heap[gb416]? = some (.cells #[.int .i64 a0_0, .slice (some ad418) l0_1.length c0_1] 100 (0, 0))) := ⟨by (with_reducible repeat (first | refine kn_ ?_ _ | refine kd_ ?_ | refine ka_ ?_ _)); refine blk_far ?_ NB416_419.out _; (with_reducible repeat (first | refine kn_ ?_ _ | refine kd_ ?_ | refine ka_ ?_ _)); refine blk_far ?_ NB416_419.out _; (with_reducible repeat (first | refine kn_ ?_ _ | refine kd_ ?_ | refine ka_ ?_ _)); refine blk_far ?_ NB416_419.out _; (with_reducible repeat (first | refine kn_ ?_ _ | refine kd_ ?_ | refine ka_ ?_ _)); refine blk_far ?_ NB416_419.out _; (with_reducible repeat (first | refine kn_ ?_ _ | refine kd_ ?_ | refine ka_ ?_ _)); exact BK416.out⟩
        have n1_ : Aside0 (((((w11.setCell ⟨gb419, 0, none⟩ (.slice A418_0 ((rd_T43 l0_1 x8_1).f0).length c418_0)).setCell ⟨gb419, 1, none⟩ (.int .i64 ((rd_T43 l0_1 x8_1).f1))).setCell ⟨gb419, 2, none⟩ (.int .i64 ((rd_T43 l0_1 x8_1).f2))).setCell ⟨gb419, 3, none⟩ (.string ((rd_T43 l0_1 x8_1).f3))).heap[gb419]? = some (.cells #[.slice A418_0 ((rd_T43 l0_1 x8_1).f0).length c418_0, .int .i64 ((rd_T43 l0_1 x8_1).f1), .int .i64 ((rd_T43 l0_1 x8_1).f2), .string ((rd_T43 l0_1 x8_1).f3)] 43 (0, 0))) := ⟨by (with_reducible repeat (first | refine kn_ ?_ _ | refine kd_ ?_ | refine ka_ ?_ _)); refine blk_put (cs := #[.slice A418_0 ((rd_T43 l0_1 x8_1).f0).length c418_0, .int .i64 ((rd_T43 l0_1 x8_1).f1), .int .i64 ((rd_T43 l0_1 x8_1).f2), .string (⟨#[]⟩ : ByteArray)]) ?_ 3 _ rfl; (with_reducible repeat (first | refine kn_ ?_ _ | refine kd_ ?_ | refine ka_ ?_ _)); refine blk_put (cs := #[.slice A418_0 ((rd_T43 l0_1 x8_1).f0).length c418_0, .int .i64 ((rd_T43 l0_1 x8_1).f1), .int .i64 0, .string (⟨#[]⟩ : ByteArray)]) ?_ 2 _ rfl; (with_reducible repeat (first | refine kn_ ?_ _ | refine kd_ ?_ | refine ka_ ?_ _)); refine blk_put (cs := #[.slice A418_0 ((rd_T43 l0_1 x8_1).f0).length c418_0, .int .i64 0, .int .i64 0, .string (⟨#[]⟩ : ByteArray)]) ?_ 1 _ rfl; (with_reducible repeat (first | refine kn_ ?_ _ | refine kd_ ?_ | refine ka_ ?_ _)); refine blk_put (cs := #[.slice none 0 0, .int .i64 0, .int .i64 0, .string (⟨#[]⟩ : ByteArray)]) ?_ 0 _ rfl; (with_reducible repeat (first | refine kn_ ?_ _ | refine kd_ ?_ | refine ka_ ?_ _)); exact BK419.out⟩
        have n2_ : Aside0 (Below w.heap.size w ((((w11.setCell ⟨gb419, 0, none⟩ (.slice A418_0 ((rd_T43 l0_1 x8_1).f0).length c418_0)).setCell ⟨gb419, 1, none⟩ (.int .i64 ((rd_T43 l0_1 x8_1).f1))).setCell ⟨gb419, 2, none⟩ (.int .i64 ((rd_T43 l0_1 x8_1).f2))).setCell ⟨gb419, 3, none⟩ (.string ((rd_T43 l0_1 x8_1).f3)))) := ⟨by repeat (first | (with_reducible first | exact HB.out | apply ba_ | apply bn_ | apply bd_ | refine below_set ?_ GE416.out | refine below_set ?_ GE419.out) | exact HB.out)⟩
        (try clear BK416)
        (try clear BK419)
        (try clear HB)
        generalize ((((w11.setCell ⟨gb419, 0, none⟩ (.slice A418_0 ((rd_T43 l0_1 x8_1).f0).length c418_0)).setCell ⟨gb419, 1, none⟩ (.int .i64 ((rd_T43 l0_1 x8_1).f1))).setCell ⟨gb419, 2, none⟩ (.int .i64 ((rd_T43 l0_1 x8_1).f2))).setCell ⟨gb419, 3, none⟩ (.string ((rd_T43 l0_1 x8_1).f3))) = w14 at n0_ n1_ n2_ ⊢
        have BK416 := n0_
        have BK419 := n1_
        have HB := n2_
        clear n0_ n1_ n2_
        have n0_ := Aside0.mk (blk_drew BK416.out)
        have n1_ := Aside0.mk (blk_drew BK419.out)
        have n2_ := Aside0.mk (bd_ HB.out)
        clear BK416
        clear BK419
        clear HB
        have BK416 := n0_
        have BK419 := n1_
        have HB := n2_
        clear n0_ n1_ n2_
        refine start_ (n := 11) (S := fun w' => w'.cell? ⟨gb419, 0, none⟩ = some (.slice A418_0 ((rd_T43 l0_1 x8_1).f0).length c418_0) ∧ w'.cell? ⟨gb419, 1, none⟩ = some (.int .i64 ((rd_T43 l0_1 x8_1).f1)) ∧ w'.cell? ⟨gb419, 2, none⟩ = some (.int .i64 ((rd_T43 l0_1 x8_1).f2)) ∧ w'.cell? ⟨gb419, 3, none⟩ = some (.string ((rd_T43 l0_1 x8_1).f3)) ∧ w'.cell? ⟨gb416, 0, none⟩ = some (.int .i64 a0_0) ∧ w'.cell? ⟨gb416, 1, none⟩ = some (.slice (some ad418) l0_1.length c0_1)) (ds := []) #[f_,f_,f_,f_,f_,f_,f_,f_,f_,f_,f_] (by kernel_rfl) rfl rfl ⟨(blk_cell BK419.out 0).trans rfl, (blk_cell BK419.out 1).trans rfl, (blk_cell BK419.out 2).trans rfl, (blk_cell BK419.out 3).trans rfl, (blk_cell BK416.out 0).trans rfl, (blk_cell BK416.out 1).trans rfl⟩ (fun hHeld => ?_); refine with_tabW impl_ChainOk.tab4 impl_ChainOk.bits4 (fun HT_ HW_ => ?_)
        generalize w14.drew = w15 at BK416 BK419 HB hHeld ⊢
        refine take_ (i := 0) (N := some 12) (v := ?_) (a' := ?_) #[t_,f_,f_,f_,f_,f_,f_,f_,f_,f_,f_] rfl rfl (take_ofW HT_.out HW_.out (by kernel_rfl)) (fun _ _ _ h => h) (Or.inl ⟨by rfl, ?_⟩) hHeld ?_ ?_
        rotate_left
        ·
         rintro w' ⟨s0, s1, s2, s3, s4, s5⟩
         go_simp
         with_reducible rfl
        rotate_left
        ·
         simp only [fr_]
         rfl
        refine one_ (i := 1) (N := some 13) #[t_,t_,f_,f_,f_,f_,f_,f_,f_,f_,f_] rfl rfl (one_of HT_.out (by kernel_rfl)) (by decide) (fun K hK => ?_)
        refine goes_ Try.func103 (by kernel_rfl) rfl #[.agg #[.slice A418_0 ((rd_T43 l0_1 x8_1).f0).length c418_0, .int .i64 ((rd_T43 l0_1 x8_1).f1), .int .i64 ((rd_T43 l0_1 x8_1).f2), .string ((rd_T43 l0_1 x8_1).f3)]] (by rfl) rfl rfl (by (try simp only [mp_]); first | done | rfl | (simp only [List.length_drop, List.length_take]; rfl)) ?_
        with_reducible refine (impl_AlarmOk.calls k1 _ _ ((rd_T43 l0_1 x8_1).f0) ((rd_T43 l0_1 x8_1).f1) ((rd_T43 l0_1 x8_1).f2) ((rd_T43 l0_1 x8_1).f3) true _ ?side1 ?side2 A7.out).mono ?_
        (case side1 => repeat (first | exact (Kd.C_below HR418_0.out HB.out) | (with_reducible first | refine ca_ ?_ _ | refine cn_ ?_ _ | refine cd_ ?_)))
        (case side2 => exact HC418_0.out)
        rintro e w16 ⟨rfl, hb⟩
        refine ⟨_, rfl, ?_⟩
        have n0_ := Aside0.mk (blk_below (g := gb416) (o := .cells #[.int .i64 a0_0, .slice (some ad418) l0_1.length c0_1] 100 (0, 0)) (by (with_reducible repeat (first | refine kn_ ?_ _ | refine kd_ ?_ | refine ka_ ?_ _)); exact BK416.out) hb)
        have n1_ := Aside0.mk (blk_below (g := gb419) (o := .cells #[.slice A418_0 ((rd_T43 l0_1 x8_1).f0).length c418_0, .int .i64 ((rd_T43 l0_1 x8_1).f1), .int .i64 ((rd_T43 l0_1 x8_1).f2), .string ((rd_T43 l0_1 x8_1).f3)] 43 (0, 0)) (by (with_reducible repeat (first | refine kn_ ?_ _ | refine kd_ ?_ | refine ka_ ?_ _)); exact BK419.out) hb)
        have n2_ := Aside0.mk (below_step (by repeat (first | (with_reducible first | exact HB.out | apply ba_ | apply bn_ | apply bd_ | refine below_set ?_ GE416.out | refine below_set ?_ GE419.out) | exact HB.out)) hb)
        clear BK416
        clear BK419
        clear HB
        have BK416 := n0_
        have BK419 := n1_
        have HB := n2_
        clear n0_ n1_ n2_
        (try clear hb)
        (try clear hb2)
        (try clear hk)
        (try clear hi)
        refine hK.out _ _ ⟨(blk_cell BK419.out 0).trans rfl, (blk_cell BK419.out 1).trans rfl, (blk_cell BK419.out 2).trans rfl, (blk_cell BK419.out 3).trans rfl, (blk_cell BK416.out 0).trans rfl, (blk_cell BK416.out 1).trans rfl⟩ (fun hHeld => ?_)
        clear hK K
        refine norm_ (a' := ?_) ?_ ?_
        rotate_left
        ·
         show Act.put _ (some 13) _ = _
         simp only [fr_]
         rfl
        refine pu_ 2 14 ?_ (b_ 3 8) rfl rfl HT_.out ?_ ?_ ?_ ?_; rotate_left; intro w'; go_simp; with_reducible rfl; rotate_left; simp only [fr_]; rfl
        refine pu_ 3 15 ?_ (b_ 4 7) rfl rfl HT_.out ?_ ?_ ?_ ?_; rotate_left; intro w'; go_simp; with_reducible rfl; rotate_left; simp only [fr_]; rfl
        refine pu_ 4 16 ?_ (b_ 5 6) rfl rfl HT_.out ?_ ?_ ?_ ?_; rotate_left; intro w'; go_simp; with_reducible rfl; rotate_left; simp only [fr_]; rfl
        refine pu_ 7 19 ?_ #[t_,t_,t_,t_,t_,f_,f_,t_,f_,f_,f_] rfl rfl HT_.out ?_ ?_ ?_ ?_; rotate_left; intro w'; go_simp; with_reducible rfl; rotate_left; simp only [fr_]; rfl
        refine take_ (i := 5) (N := some 17) (v := ?_) (a' := ?_) #[t_,t_,t_,t_,t_,t_,f_,t_,f_,f_,f_] rfl rfl (take_ofW HT_.out HW_.out (by kernel_rfl)) (fun _ _ _ h => h) (Or.inl ⟨by rfl, ?_⟩) hHeld ?_ ?_
        rotate_left
        ·
         rintro w' ⟨s0, s1, s2, s3, s4, s5⟩
         go_simp
         with_reducible rfl
        rotate_left
        ·
         simp only [fr_]
         rfl
        refine take_ (i := 8) (N := some 20) (v := ?_) (a' := ?_) #[t_,t_,t_,t_,t_,t_,f_,t_,t_,f_,f_] rfl rfl (take_ofW HT_.out HW_.out (by kernel_rfl)) (fun _ _ _ h => h) (Or.inl ⟨by rfl, ?_⟩) hHeld ?_ ?_
        rotate_left
        ·
         rintro w' ⟨s0, s1, s2, s3, s4, s5⟩
         go_simp
         with_reducible rfl
        rotate_left
        ·
         simp only [fr_]
         rfl
        refine one_ (i := 6) (N := some 18) #[t_,t_,t_,t_,t_,t_,t_,t_,t_,f_,f_] rfl rfl (one_of HT_.out (by kernel_rfl)) (by decide) (fun K hK => ?_)
        refine goes_ Try.func60 (by kernel_rfl) rfl #[.slice A418_0 ((rd_T43 l0_1 x8_1).f0).length c418_0] (by rfl) rfl rfl (by (try simp only [mp_]); first | done | rfl | (simp only [List.length_drop, List.length_take]; rfl)) ?_
        with_reducible refine (impl_Finger.calls k1 _ _ ((rd_T43 l0_1 x8_1).f0) t421 _ ?side1 ?side2 A9.out).mono ?_
        (case side1 => repeat (first | exact (Kd.C_below HR418_0.out HB.out) | (with_reducible first | refine ca_ ?_ _ | refine cn_ ?_ _ | refine cd_ ?_)))
        (case side2 => exact HC418_0.out)
        rintro e w17 ⟨rfl, hb⟩
        refine ⟨_, rfl, ?_⟩
        have n0_ := Aside0.mk (blk_below (g := gb416) (o := .cells #[.int .i64 a0_0, .slice (some ad418) l0_1.length c0_1] 100 (0, 0)) (by (with_reducible repeat (first | refine kn_ ?_ _ | refine kd_ ?_ | refine ka_ ?_ _)); exact BK416.out) hb)
        have n1_ := Aside0.mk (blk_below (g := gb419) (o := .cells #[.slice A418_0 ((rd_T43 l0_1 x8_1).f0).length c418_0, .int .i64 ((rd_T43 l0_1 x8_1).f1), .int .i64 ((rd_T43 l0_1 x8_1).f2), .string ((rd_T43 l0_1 x8_1).f3)] 43 (0, 0)) (by (with_reducible repeat (first | refine kn_ ?_ _ | refine kd_ ?_ | refine ka_ ?_ _)); exact BK419.out) hb)
        have n2_ := Aside0.mk (below_step (by repeat (first | (with_reducible first | exact HB.out | apply ba_ | apply bn_ | apply bd_ | refine below_set ?_ GE416.out | refine below_set ?_ GE419.out) | exact HB.out)) hb)
        clear BK416
        clear BK419
        clear HB
        have BK416 := n0_
        have BK419 := n1_
        have HB := n2_
        clear n0_ n1_ n2_
        (try clear hb)
        (try clear hb2)
        (try clear hk)
        (try clear hi)
        refine hK.out _ _ ⟨(blk_cell BK419.out 0).trans rfl, (blk_cell BK419.out 1).trans rfl, (blk_cell BK419.out 2).trans rfl, (blk_cell BK419.out 3).trans rfl, (blk_cell BK416.out 0).trans rfl, (blk_cell BK416.out 1).trans rfl⟩ (fun hHeld => ?_)
        clear hK K
        refine norm_ (a' := ?_) ?_ ?_
        rotate_left
        ·
         show Act.put _ (some 18) _ = _
         simp only [fr_]
         rfl
        refine pu_ 9 21 ?_ (b_ 10 1) rfl rfl HT_.out ?_ ?_ ?_ ?_; rotate_left; intro w'; go_simp; with_reducible rfl; rotate_left; simp only [fr_]; rfl
        refine pu_ 10 22 ?_ (b_ 11 0) rfl rfl HT_.out ?_ ?_ ?_ ?_; rotate_left; intro w'; go_simp; with_reducible rfl; rotate_left; simp only [fr_]; rfl
        refine done_ (done_of HT_.out (by kernel_rfl)) ?_
        try go_wp2
        go_roundg k1
        case measure => have := HK1.out; omega
        case rel => exact ⟨(wrap64 (x8_1 + 1)), (by first | rfl | (simp; done) | (simp [*]; done)), H', ⟨by have := HK1.out; omega⟩, ⟨by (with_reducible repeat (first | refine kn_ ?_ _ | refine kd_ ?_ | refine ka_ ?_ _)); exact BK416.out⟩, ⟨by repeat (first | (with_reducible first | exact HB.out | apply ba_ | apply bn_ | apply bd_ | refine below_set ?_ GE416.out | refine below_set ?_ GE419.out) | exact HB.out)⟩⟩
       rw [if_neg c10] at H
       have c10b0 : (t421 == a0_0) = false := beq_eq_false_iff_ne.mpr c10
       have c10b1 : (t421 != a0_0) = true := bne_iff_ne.mpr c10
       obtain rfl := Option.some.inj H
       have p418 : 0 ≤ (x8_1 : Int) := of_decide_eq_true (by with_reducible assumption)
       have q418 : x8_1 < (l0_1.length : Int) := of_decide_eq_true (by with_reducible assumption)
       obtain ⟨ad418, A418_0, c418_0, e418, hx418_0, hx418_1, hx418_2, hx418_3, hl418_0, hi418_0⟩ := at_T43 HR0_1.out x8_1 p418 q418
       cases e418
       replace hx418_0 := cl_ HB.out hx418_0
       replace hx418_1 := cl_ HB.out hx418_1
       replace hx418_2 := cl_ HB.out hx418_2
       replace hx418_3 := cl_ HB.out hx418_3
       have HR418_0 := Aside0.mk hi418_0
       have HC418_0 := Aside0.mk hl418_0
       clear hi418_0 hl418_0
       replace p418 := eq_true p418
       replace q418 := eq_true q418
       try go_wp2_with (first | ((with_reducible refine gate_dst (N := 4) rfl ?_); refine box_event ?hg (N := 4) ?hd (cs := #[.slice none 0 0, .int .i64 0, .int .i64 0, .string (⟨#[]⟩ : ByteArray)]) (t := 43) ?hr ?_; (case hd => rfl); (case hg => rfl); (case hr => first | (go_simp; done) | (go_simp; rfl)); intro gb419 hg w18 hbox hb; have n0_ := Aside0.mk (blk_below (g := gb416) (o := .cells #[.int .i64 a0_0, .slice (some ad418) l0_1.length c0_1] 100 (0, 0)) (by (with_reducible repeat (first | refine kn_ ?_ _ | refine kd_ ?_ | refine ka_ ?_ _)); exact BK416.out) hb); have n1_ := Aside0.mk (below_step (by repeat (first | (with_reducible first | exact HB.out | apply ba_ | apply bn_ | apply bd_ | refine below_set ?_ GE416.out) | exact HB.out)) hb); have n2_ := Aside0.mk (hbox); have n3_ := Aside0.mk ((by rw [hg]; exact (below_size (by repeat (first | (with_reducible first | exact HB.out | apply ba_ | apply bn_ | apply bd_ | refine below_set ?_ GE416.out) | exact HB.out))) : w.heap.size ≤ gb419)); have n4_ := n3_; have n5_ := Aside0.mk ((by rw [hg]; exact Nat.ne_of_lt (blk_lt (g := gb416) (o := .cells #[.int .i64 a0_0, .slice (some ad418) l0_1.length c0_1] 100 (0, 0)) (by (with_reducible repeat (first | refine kn_ ?_ _ | refine kd_ ?_ | refine ka_ ?_ _)); exact BK416.out)) : gb416 ≠ gb419)); have n6_ := Aside0.mk ((by rw [hg]; exact Nat.ne_of_gt (blk_lt (g := gb416) (o := .cells #[.int .i64 a0_0, .slice (some ad418) l0_1.length c0_1] 100 (0, 0)) (by (with_reducible repeat (first | refine kn_ ?_ _ | refine kd_ ?_ | refine ka_ ?_ _)); exact BK416.out)) : gb419 ≠ gb416)); clear BK416; clear HB; have BK416 := n0_; have HB := n1_; have BK419 := n2_; have GW419 := n3_; have GE419 := n4_; have NB416_419 := n5_; have NB419_416 := n6_; clear n0_ n1_ n2_ n3_ n4_ n5_ n6_; clear hb hbox hg; have hnb19 := NB419_416.out; have hnc19 := NB416_419.out; have hcz20_0 : w18.cell? ⟨gb419, 0, none⟩ = some (.slice none 0 0) := (blk_cell BK419.out 0).trans rfl; have hcz20_1 : w18.cell? ⟨gb419, 1, none⟩ = some (.int .i64 0) := (blk_cell BK419.out 1).trans rfl; have hcz20_2 : w18.cell? ⟨gb419, 2, none⟩ = some (.int .i64 0) := (blk_cell BK419.out 2).trans rfl; have hcz20_3 : w18.cell? ⟨gb419, 3, none⟩ = some (.string (⟨#[]⟩ : ByteArray)) := (blk_cell BK419.out 3).trans rfl; have hfz20_0 := blk_frozen BK419.out 0; have hfz20_1 := blk_frozen BK419.out 1; have hfz20_2 := blk_frozen BK419.out 2; have hfz20_3 := blk_frozen BK419.out 3))
       have n0_ : Aside0 (((((w18.setCell ⟨gb419, 0, none⟩ (.slice A418_0 ((rd_T43 l0_1 x8_1).f0).length c418_0)).setCell ⟨gb419, 1, none⟩ (.int .i64 ((rd_T43 l0_1 x8_1).f1))).setCell ⟨gb419, 2, none⟩ (.int .i64 ((rd_T43 l0_1 x8_1).f2))).setCell ⟨gb419, 3, none⟩ (.string ((rd_T43 l0_1 x8_1).f3))).heap[gb416]? = some (.cells #[.int .i64 a0_0, .slice (some ad418) l0_1.length c0_1] 100 (0, 0))) := ⟨by (with_reducible repeat (first | refine kn_ ?_ _ | refine kd_ ?_ | refine ka_ ?_ _)); refine blk_far ?_ NB416_419.out _; (with_reducible repeat (first | refine kn_ ?_ _ | refine kd_ ?_ | refine ka_ ?_ _)); refine blk_far ?_ NB416_419.out _; (with_reducible repeat (first | refine kn_ ?_ _ | refine kd_ ?_ | refine ka_ ?_ _)); refine blk_far ?_ NB416_419.out _; (with_reducible repeat (first | refine kn_ ?_ _ | refine kd_ ?_ | refine ka_ ?_ _)); refine blk_far ?_ NB416_419.out _; (with_reducible repeat (first | refine kn_ ?_ _ | refine kd_ ?_ | refine ka_ ?_ _)); exact BK416.out⟩
       have n1_ : Aside0 (((((w18.setCell ⟨gb419, 0, none⟩ (.slice A418_0 ((rd_T43 l0_1 x8_1).f0).length c418_0)).setCell ⟨gb419, 1, none⟩ (.int .i64 ((rd_T43 l0_1 x8_1).f1))).setCell ⟨gb419, 2, none⟩ (.int .i64 ((rd_T43 l0_1 x8_1).f2))).setCell ⟨gb419, 3, none⟩ (.string ((rd_T43 l0_1 x8_1).f3))).heap[gb419]? = some (.cells #[.slice A418_0 ((rd_T43 l0_1 x8_1).f0).length c418_0, .int .i64 ((rd_T43 l0_1 x8_1).f1), .int .i64 ((rd_T43 l0_1 x8_1).f2), .string ((rd_T43 l0_1 x8_1).f3)] 43 (0, 0))) := ⟨by (with_reducible repeat (first | refine kn_ ?_ _ | refine kd_ ?_ | refine ka_ ?_ _)); refine blk_put (cs := #[.slice A418_0 ((rd_T43 l0_1 x8_1).f0).length c418_0, .int .i64 ((rd_T43 l0_1 x8_1).f1), .int .i64 ((rd_T43 l0_1 x8_1).f2), .string (⟨#[]⟩ : ByteArray)]) ?_ 3 _ rfl; (with_reducible repeat (first | refine kn_ ?_ _ | refine kd_ ?_ | refine ka_ ?_ _)); refine blk_put (cs := #[.slice A418_0 ((rd_T43 l0_1 x8_1).f0).length c418_0, .int .i64 ((rd_T43 l0_1 x8_1).f1), .int .i64 0, .string (⟨#[]⟩ : ByteArray)]) ?_ 2 _ rfl; (with_reducible repeat (first | refine kn_ ?_ _ | refine kd_ ?_ | refine ka_ ?_ _)); refine blk_put (cs := #[.slice A418_0 ((rd_T43 l0_1 x8_1).f0).length c418_0, .int .i64 0, .int .i64 0, .string (⟨#[]⟩ : ByteArray)]) ?_ 1 _ rfl; (with_reducible repeat (first | refine kn_ ?_ _ | refine kd_ ?_ | refine ka_ ?_ _)); refine blk_put (cs := #[.slice none 0 0, .int .i64 0, .int .i64 0, .string (⟨#[]⟩ : ByteArray)]) ?_ 0 _ rfl; (with_reducible repeat (first | refine kn_ ?_ _ | refine kd_ ?_ | refine ka_ ?_ _)); exact BK419.out⟩
       have n2_ : Aside0 (Below w.heap.size w ((((w18.setCell ⟨gb419, 0, none⟩ (.slice A418_0 ((rd_T43 l0_1 x8_1).f0).length c418_0)).setCell ⟨gb419, 1, none⟩ (.int .i64 ((rd_T43 l0_1 x8_1).f1))).setCell ⟨gb419, 2, none⟩ (.int .i64 ((rd_T43 l0_1 x8_1).f2))).setCell ⟨gb419, 3, none⟩ (.string ((rd_T43 l0_1 x8_1).f3)))) := ⟨by repeat (first | (with_reducible first | exact HB.out | apply ba_ | apply bn_ | apply bd_ | refine below_set ?_ GE416.out | refine below_set ?_ GE419.out) | exact HB.out)⟩
       (try clear BK416)
       (try clear BK419)
       (try clear HB)
       generalize ((((w18.setCell ⟨gb419, 0, none⟩ (.slice A418_0 ((rd_T43 l0_1 x8_1).f0).length c418_0)).setCell ⟨gb419, 1, none⟩ (.int .i64 ((rd_T43 l0_1 x8_1).f1))).setCell ⟨gb419, 2, none⟩ (.int .i64 ((rd_T43 l0_1 x8_1).f2))).setCell ⟨gb419, 3, none⟩ (.string ((rd_T43 l0_1 x8_1).f3))) = w21 at n0_ n1_ n2_ ⊢
       have BK416 := n0_
       have BK419 := n1_
       have HB := n2_
       clear n0_ n1_ n2_
       have n0_ := Aside0.mk (blk_drew BK416.out)
       have n1_ := Aside0.mk (blk_drew BK419.out)
       have n2_ := Aside0.mk (bd_ HB.out)
       clear BK416
       clear BK419
       clear HB
       have BK416 := n0_
       have BK419 := n1_
       have HB := n2_
       clear n0_ n1_ n2_
       refine start_ (n := 11) (S := fun w' => w'.cell? ⟨gb419, 0, none⟩ = some (.slice A418_0 ((rd_T43 l0_1 x8_1).f0).length c418_0) ∧ w'.cell? ⟨gb419, 1, none⟩ = some (.int .i64 ((rd_T43 l0_1 x8_1).f1)) ∧ w'.cell? ⟨gb419, 2, none⟩ = some (.int .i64 ((rd_T43 l0_1 x8_1).f2)) ∧ w'.cell? ⟨gb419, 3, none⟩ = some (.string ((rd_T43 l0_1 x8_1).f3)) ∧ w'.cell? ⟨gb416, 0, none⟩ = some (.int .i64 a0_0) ∧ w'.cell? ⟨gb416, 1, none⟩ = some (.slice (some ad418) l0_1.length c0_1)) (ds := []) #[f_,f_,f_,f_,f_,f_,f_,f_,f_,f_,f_] (by kernel_rfl) rfl rfl ⟨(blk_cell BK419.out 0).trans rfl, (blk_cell BK419.out 1).trans rfl, (blk_cell BK419.out 2).trans rfl, (blk_cell BK419.out 3).trans rfl, (blk_cell BK416.out 0).trans rfl, (blk_cell BK416.out 1).trans rfl⟩ (fun hHeld => ?_); refine with_tabW impl_ChainOk.tab4 impl_ChainOk.bits4 (fun HT_ HW_ => ?_)
       generalize w21.drew = w22 at BK416 BK419 HB hHeld ⊢
       refine take_ (i := 0) (N := some 12) (v := ?_) (a' := ?_) #[t_,f_,f_,f_,f_,f_,f_,f_,f_,f_,f_] rfl rfl (take_ofW HT_.out HW_.out (by kernel_rfl)) (fun _ _ _ h => h) (Or.inl ⟨by rfl, ?_⟩) hHeld ?_ ?_
       rotate_left
       ·
        rintro w' ⟨s0, s1, s2, s3, s4, s5⟩
        go_simp
        with_reducible rfl
       rotate_left
       ·
        simp only [fr_]
        rfl
       refine one_ (i := 1) (N := some 13) #[t_,t_,f_,f_,f_,f_,f_,f_,f_,f_,f_] rfl rfl (one_of HT_.out (by kernel_rfl)) (by decide) (fun K hK => ?_)
       refine goes_ Try.func103 (by kernel_rfl) rfl #[.agg #[.slice A418_0 ((rd_T43 l0_1 x8_1).f0).length c418_0, .int .i64 ((rd_T43 l0_1 x8_1).f1), .int .i64 ((rd_T43 l0_1 x8_1).f2), .string ((rd_T43 l0_1 x8_1).f3)]] (by rfl) rfl rfl (by (try simp only [mp_]); first | done | rfl | (simp only [List.length_drop, List.length_take]; rfl)) ?_
       with_reducible refine (impl_AlarmOk.calls k1 _ _ ((rd_T43 l0_1 x8_1).f0) ((rd_T43 l0_1 x8_1).f1) ((rd_T43 l0_1 x8_1).f2) ((rd_T43 l0_1 x8_1).f3) true _ ?side1 ?side2 A7.out).mono ?_
       (case side1 => repeat (first | exact (Kd.C_below HR418_0.out HB.out) | (with_reducible first | refine ca_ ?_ _ | refine cn_ ?_ _ | refine cd_ ?_)))
       (case side2 => exact HC418_0.out)
       rintro e w23 ⟨rfl, hb⟩
       refine ⟨_, rfl, ?_⟩
       have n0_ := Aside0.mk (blk_below (g := gb416) (o := .cells #[.int .i64 a0_0, .slice (some ad418) l0_1.length c0_1] 100 (0, 0)) (by (with_reducible repeat (first | refine kn_ ?_ _ | refine kd_ ?_ | refine ka_ ?_ _)); exact BK416.out) hb)
       have n1_ := Aside0.mk (blk_below (g := gb419) (o := .cells #[.slice A418_0 ((rd_T43 l0_1 x8_1).f0).length c418_0, .int .i64 ((rd_T43 l0_1 x8_1).f1), .int .i64 ((rd_T43 l0_1 x8_1).f2), .string ((rd_T43 l0_1 x8_1).f3)] 43 (0, 0)) (by (with_reducible repeat (first | refine kn_ ?_ _ | refine kd_ ?_ | refine ka_ ?_ _)); exact BK419.out) hb)
       have n2_ := Aside0.mk (below_step (by repeat (first | (with_reducible first | exact HB.out | apply ba_ | apply bn_ | apply bd_ | refine below_set ?_ GE416.out | refine below_set ?_ GE419.out) | exact HB.out)) hb)
       clear BK416
       clear BK419
       clear HB
       have BK416 := n0_
       have BK419 := n1_
       have HB := n2_
       clear n0_ n1_ n2_
       (try clear hb)
       (try clear hb2)
       (try clear hk)
       (try clear hi)
       refine hK.out _ _ ⟨(blk_cell BK419.out 0).trans rfl, (blk_cell BK419.out 1).trans rfl, (blk_cell BK419.out 2).trans rfl, (blk_cell BK419.out 3).trans rfl, (blk_cell BK416.out 0).trans rfl, (blk_cell BK416.out 1).trans rfl⟩ (fun hHeld => ?_)
       clear hK K
       refine norm_ (a' := ?_) ?_ ?_
       rotate_left
       ·
        show Act.put _ (some 13) _ = _
        simp only [fr_]
        rfl
       refine pu_ 2 14 ?_ (b_ 3 8) rfl rfl HT_.out ?_ ?_ ?_ ?_; rotate_left; intro w'; go_simp; with_reducible rfl; rotate_left; simp only [fr_]; rfl
       refine pu_ 3 15 ?_ (b_ 4 7) rfl rfl HT_.out ?_ ?_ ?_ ?_; rotate_left; intro w'; go_simp; with_reducible rfl; rotate_left; simp only [fr_]; rfl
       refine pu_ 4 16 ?_ (b_ 5 6) rfl rfl HT_.out ?_ ?_ ?_ ?_; rotate_left; intro w'; go_simp; with_reducible rfl; rotate_left; simp only [fr_]; rfl
       refine pu_ 7 19 ?_ #[t_,t_,t_,t_,t_,f_,f_,t_,f_,f_,f_] rfl rfl HT_.out ?_ ?_ ?_ ?_; rotate_left; intro w'; go_simp; with_reducible rfl; rotate_left; simp only [fr_]; rfl
       refine take_ (i := 5) (N := some 17) (v := ?_) (a' := ?_) #[t_,t_,t_,t_,t_,t_,f_,t_,f_,f_,f_] rfl rfl (take_ofW HT_.out HW_.out (by kernel_rfl)) (fun _ _ _ h => h) (Or.inl ⟨by rfl, ?_⟩) hHeld ?_ ?_
       rotate_left
       ·
        rintro w' ⟨s0, s1, s2, s3, s4, s5⟩
        go_simp
        with_reducible rfl
       rotate_left
       ·
        simp only [fr_]
        rfl
       refine take_ (i := 8) (N := some 20) (v := ?_) (a' := ?_) #[t_,t_,t_,t_,t_,t_,f_,t_,t_,f_,f_] rfl rfl (take_ofW HT_.out HW_.out (by kernel_rfl)) (fun _ _ _ h => h) (Or.inl ⟨by rfl, ?_⟩) hHeld ?_ ?_
       rotate_left
       ·
        rintro w' ⟨s0, s1, s2, s3, s4, s5⟩
        go_simp
        with_reducible rfl
       rotate_left
       ·
        simp only [fr_]
        rfl
       refine one_ (i := 6) (N := some 18) #[t_,t_,t_,t_,t_,t_,t_,t_,t_,f_,f_] rfl rfl (one_of HT_.out (by kernel_rfl)) (by decide) (fun K hK => ?_)
       refine goes_ Try.func60 (by kernel_rfl) rfl #[.slice A418_0 ((rd_T43 l0_1 x8_1).f0).length c418_0] (by rfl) rfl rfl (by (try simp only [mp_]); first | done | rfl | (simp only [List.length_drop, List.length_take]; rfl)) ?_
       with_reducible refine (impl_Finger.calls k1 _ _ ((rd_T43 l0_1 x8_1).f0) t421 _ ?side1 ?side2 A9.out).mono ?_
       (case side1 => repeat (first | exact (Kd.C_below HR418_0.out HB.out) | (with_reducible first | refine ca_ ?_ _ | refine cn_ ?_ _ | refine cd_ ?_)))
       (case side2 => exact HC418_0.out)
       rintro e w24 ⟨rfl, hb⟩
       refine ⟨_, rfl, ?_⟩
       have n0_ := Aside0.mk (blk_below (g := gb416) (o := .cells #[.int .i64 a0_0, .slice (some ad418) l0_1.length c0_1] 100 (0, 0)) (by (with_reducible repeat (first | refine kn_ ?_ _ | refine kd_ ?_ | refine ka_ ?_ _)); exact BK416.out) hb)
       have n1_ := Aside0.mk (blk_below (g := gb419) (o := .cells #[.slice A418_0 ((rd_T43 l0_1 x8_1).f0).length c418_0, .int .i64 ((rd_T43 l0_1 x8_1).f1), .int .i64 ((rd_T43 l0_1 x8_1).f2), .string ((rd_T43 l0_1 x8_1).f3)] 43 (0, 0)) (by (with_reducible repeat (first | refine kn_ ?_ _ | refine kd_ ?_ | refine ka_ ?_ _)); exact BK419.out) hb)
       have n2_ := Aside0.mk (below_step (by repeat (first | (with_reducible first | exact HB.out | apply ba_ | apply bn_ | apply bd_ | refine below_set ?_ GE416.out | refine below_set ?_ GE419.out) | exact HB.out)) hb)
       clear BK416
       clear BK419
       clear HB
       have BK416 := n0_
       have BK419 := n1_
       have HB := n2_
       clear n0_ n1_ n2_
       (try clear hb)
       (try clear hb2)
       (try clear hk)
       (try clear hi)
       refine hK.out _ _ ⟨(blk_cell BK419.out 0).trans rfl, (blk_cell BK419.out 1).trans rfl, (blk_cell BK419.out 2).trans rfl, (blk_cell BK419.out 3).trans rfl, (blk_cell BK416.out 0).trans rfl, (blk_cell BK416.out 1).trans rfl⟩ (fun hHeld => ?_)
       clear hK K
       refine norm_ (a' := ?_) ?_ ?_
       rotate_left
       ·
        show Act.put _ (some 18) _ = _
        simp only [fr_]
        rfl
       refine pu_ 9 21 ?_ (b_ 10 1) rfl rfl HT_.out ?_ ?_ ?_ ?_; rotate_left; intro w'; go_simp; with_reducible rfl; rotate_left; simp only [fr_]; rfl
       refine pu_ 10 22 ?_ (b_ 11 0) rfl rfl HT_.out ?_ ?_ ?_ ?_; rotate_left; intro w'; go_simp; with_reducible rfl; rotate_left; simp only [fr_]; rfl
       refine done_ (done_of HT_.out (by kernel_rfl)) ?_
       try go_wp2
       go_ret
       exact ⟨by first | rfl | (simp [errW_none, errW_some] <;> rfl) | (simp [*, errW_none, errW_some] <;> rfl), by repeat (first | (with_reducible first | exact HB.out | apply ba_ | apply bn_ | apply bd_ | refine below_set ?_ GE416.out | refine below_set ?_ GE419.out) | exact HB.out)⟩
      replace c8 := Bool.eq_false_iff.mpr c8
      subst c8
      rw [if_neg (show ¬ (false = true) by decide)] at H
      obtain rfl := Option.some.inj H
      have p418 : 0 ≤ (x8_1 : Int) := of_decide_eq_true (by with_reducible assumption)
      have q418 : x8_1 < (l0_1.length : Int) := of_decide_eq_true (by with_reducible assumption)
      obtain ⟨ad418, A418_0, c418_0, e418, hx418_0, hx418_1, hx418_2, hx418_3, hl418_0, hi418_0⟩ := at_T43 HR0_1.out x8_1 p418 q418
      cases e418
      replace hx418_0 := cl_ HB.out hx418_0
      replace hx418_1 := cl_ HB.out hx418_1
      replace hx418_2 := cl_ HB.out hx418_2
      replace hx418_3 := cl_ HB.out hx418_3
      have HR418_0 := Aside0.mk hi418_0
      have HC418_0 := Aside0.mk hl418_0
      clear hi418_0 hl418_0
      replace p418 := eq_true p418
      replace q418 := eq_true q418
      try go_wp2_with (first | ((with_reducible refine gate_dst (N := 4) rfl ?_); refine box_event ?hg (N := 4) ?hd (cs := #[.slice none 0 0, .int .i64 0, .int .i64 0, .string (⟨#[]⟩ : ByteArray)]) (t := 43) ?hr ?_; (case hd => rfl); (case hg => rfl); (case hr => first | (go_simp; done) | (go_simp; rfl)); intro gb419 hg w25 hbox hb; have n0_ := Aside0.mk (blk_below (g := gb416) (o := .cells #[.int .i64 a0_0, .slice (some ad418) l0_1.length c0_1] 100 (0, 0)) (by (with_reducible repeat (first | refine kn_ ?_ _ | refine kd_ ?_ | refine ka_ ?_ _)); exact BK416.out) hb); have n1_ := Aside0.mk (below_step (by repeat (first | (with_reducible first | exact HB.out | apply ba_ | apply bn_ | apply bd_ | refine below_set ?_ GE416.out) | exact HB.out)) hb); have n2_ := Aside0.mk (hbox); have n3_ := Aside0.mk ((by rw [hg]; exact (below_size (by repeat (first | (with_reducible first | exact HB.out | apply ba_ | apply bn_ | apply bd_ | refine below_set ?_ GE416.out) | exact HB.out))) : w.heap.size ≤ gb419)); have n4_ := n3_; have n5_ := Aside0.mk ((by rw [hg]; exact Nat.ne_of_lt (blk_lt (g := gb416) (o := .cells #[.int .i64 a0_0, .slice (some ad418) l0_1.length c0_1] 100 (0, 0)) (by (with_reducible repeat (first | refine kn_ ?_ _ | refine kd_ ?_ | refine ka_ ?_ _)); exact BK416.out)) : gb416 ≠ gb419)); have n6_ := Aside0.mk ((by rw [hg]; exact Nat.ne_of_gt (blk_lt (g := gb416) (o := .cells #[.int .i64 a0_0, .slice (some ad418) l0_1.length c0_1] 100 (0, 0)) (by (with_reducible repeat (first | refine kn_ ?_ _ | refine kd_ ?_ | refine ka_ ?_ _)); exact BK416.out)) : gb419 ≠ gb416)); clear BK416; clear HB; have BK416 := n0_; have HB := n1_; have BK419 := n2_; have GW419 := n3_; have GE419 := n4_; have NB416_419 := n5_; have NB419_416 := n6_; clear n0_ n1_ n2_ n3_ n4_ n5_ n6_; clear hb hbox hg; have hnb26 := NB419_416.out; have hnc26 := NB416_419.out; have hcz27_0 : w25.cell? ⟨gb419, 0, none⟩ = some (.slice none 0 0) := (blk_cell BK419.out 0).trans rfl; have hcz27_1 : w25.cell? ⟨gb419, 1, none⟩ = some (.int .i64 0) := (blk_cell BK419.out 1).trans rfl; have hcz27_2 : w25.cell? ⟨gb419, 2, none⟩ = some (.int .i64 0) := (blk_cell BK419.out 2).trans rfl; have hcz27_3 : w25.cell? ⟨gb419, 3, none⟩ = some (.string (⟨#[]⟩ : ByteArray)) := (blk_cell BK419.out 3).trans rfl; have hfz27_0 := blk_frozen BK419.out 0; have hfz27_1 := blk_frozen BK419.out 1; have hfz27_2 := blk_frozen BK419.out 2; have hfz27_3 := blk_frozen BK419.out 3))
      have n0_ : Aside0 (((((w25.setCell ⟨gb419, 0, none⟩ (.slice A418_0 ((rd_T43 l0_1 x8_1).f0).length c418_0)).setCell ⟨gb419, 1, none⟩ (.int .i64 ((rd_T43 l0_1 x8_1).f1))).setCell ⟨gb419, 2, none⟩ (.int .i64 ((rd_T43 l0_1 x8_1).f2))).setCell ⟨gb419, 3, none⟩ (.string ((rd_T43 l0_1 x8_1).f3))).heap[gb416]? = some (.cells #[.int .i64 a0_0, .slice (some ad418) l0_1.length c0_1] 100 (0, 0))) := ⟨by (with_reducible repeat (first | refine kn_ ?_ _ | refine kd_ ?_ | refine ka_ ?_ _)); refine blk_far ?_ NB416_419.out _; (with_reducible repeat (first | refine kn_ ?_ _ | refine kd_ ?_ | refine ka_ ?_ _)); refine blk_far ?_ NB416_419.out _; (with_reducible repeat (first | refine kn_ ?_ _ | refine kd_ ?_ | refine ka_ ?_ _)); refine blk_far ?_ NB416_419.out _; (with_reducible repeat (first | refine kn_ ?_ _ | refine kd_ ?_ | refine ka_ ?_ _)); refine blk_far ?_ NB416_419.out _; (with_reducible repeat (first | refine kn_ ?_ _ | refine kd_ ?_ | refine ka_ ?_ _)); exact BK416.out⟩
      have n1_ : Aside0 (((((w25.setCell ⟨gb419, 0, none⟩ (.slice A418_0 ((rd_T43 l0_1 x8_1).f0).length c418_0)).setCell ⟨gb419, 1, none⟩ (.int .i64 ((rd_T43 l0_1 x8_1).f1))).setCell ⟨gb419, 2, none⟩ (.int .i64 ((rd_T43 l0_1 x8_1).f2))).setCell ⟨gb419, 3, none⟩ (.string ((rd_T43 l0_1 x8_1).f3))).heap[gb419]? = some (.cells #[.slice A418_0 ((rd_T43 l0_1 x8_1).f0).length c418_0, .int .i64 ((rd_T43 l0_1 x8_1).f1), .int .i64 ((rd_T43 l0_1 x8_1).f2), .string ((rd_T43 l0_1 x8_1).f3)] 43 (0, 0))) := ⟨by (with_reducible repeat (first | refine kn_ ?_ _ | refine kd_ ?_ | refine ka_ ?_ _)); refine blk_put (cs := #[.slice A418_0 ((rd_T43 l0_1 x8_1).f0).length c418_0, .int .i64 ((rd_T43 l0_1 x8_1).f1), .int .i64 ((rd_T43 l0_1 x8_1).f2), .string (⟨#[]⟩ : ByteArray)]) ?_ 3 _ rfl; (with_reducible repeat (first | refine kn_ ?_ _ | refine kd_ ?_ | refine ka_ ?_ _)); refine blk_put (cs := #[.slice A418_0 ((rd_T43 l0_1 x8_1).f0).length c418_0, .int .i64 ((rd_T43 l0_1 x8_1).f1), .int .i64 0, .string (⟨#[]⟩ : ByteArray)]) ?_ 2 _ rfl; (with_reducible repeat (first | refine kn_ ?_ _ | refine kd_ ?_ | refine ka_ ?_ _)); refine blk_put (cs := #[.slice A418_0 ((rd_T43 l0_1 x8_1).f0).length c418_0, .int .i64 0, .int .i64 0, .string (⟨#[]⟩ : ByteArray)]) ?_ 1 _ rfl; (with_reducible repeat (first | refine kn_ ?_ _ | refine kd_ ?_ | refine ka_ ?_ _)); refine blk_put (cs := #[.slice none 0 0, .int .i64 0, .int .i64 0, .string (⟨#[]⟩ : ByteArray)]) ?_ 0 _ rfl; (with_reducible repeat (first | refine kn_ ?_ _ | refine kd_ ?_ | refine ka_ ?_ _)); exact BK419.out⟩
      have n2_ : Aside0 (Below w.heap.size w ((((w25.setCell ⟨gb419, 0, none⟩ (.slice A418_0 ((rd_T43 l0_1 x8_1).f0).length c418_0)).setCell ⟨gb419, 1, none⟩ (.int .i64 ((rd_T43 l0_1 x8_1).f1))).setCell ⟨gb419, 2, none⟩ (.int .i64 ((rd_T43 l0_1 x8_1).f2))).setCell ⟨gb419, 3, none⟩ (.string ((rd_T43 l0_1 x8_1).f3)))) := ⟨by repeat (first | (with_reducible first | exact HB.out | apply ba_ | apply bn_ | apply bd_ | refine below_set ?_ GE416.out | refine below_set ?_ GE419.out) | exact HB.out)⟩
      (try clear BK416)
      (try clear BK419)
      (try clear HB)
      generalize ((((w25.setCell ⟨gb419, 0, none⟩ (.slice A418_0 ((rd_T43 l0_1 x8_1).f0).length c418_0)).setCell ⟨gb419, 1, none⟩ (.int .i64 ((rd_T43 l0_1 x8_1).f1))).setCell ⟨gb419, 2, none⟩ (.int .i64 ((rd_T43 l0_1 x8_1).f2))).setCell ⟨gb419, 3, none⟩ (.string ((rd_T43 l0_1 x8_1).f3))) = w28 at n0_ n1_ n2_ ⊢
      have BK416 := n0_
      have BK419 := n1_
      have HB := n2_
      clear n0_ n1_ n2_
      have n0_ := Aside0.mk (blk_drew BK416.out)
      have n1_ := Aside0.mk (blk_drew BK419.out)
      have n2_ := Aside0.mk (bd_ HB.out)
      clear BK416
      clear BK419
      clear HB
      have BK416 := n0_
      have BK419 := n1_
      have HB := n2_
      clear n0_ n1_ n2_
      refine start_ (n := 11) (S := fun w' => w'.cell? ⟨gb419, 0, none⟩ = some (.slice A418_0 ((rd_T43 l0_1 x8_1).f0).length c418_0) ∧ w'.cell? ⟨gb419, 1, none⟩ = some (.int .i64 ((rd_T43 l0_1 x8_1).f1)) ∧ w'.cell? ⟨gb419, 2, none⟩ = some (.int .i64 ((rd_T43 l0_1 x8_1).f2)) ∧ w'.cell? ⟨gb419, 3, none⟩ = some (.string ((rd_T43 l0_1 x8_1).f3))) (ds := []) #[f_,f_,f_,f_,f_,f_,f_,f_,f_,f_,f_] (by kernel_rfl) rfl rfl ⟨(blk_cell BK419.out 0).trans rfl, (blk_cell BK419.out 1).trans rfl, (blk_cell BK419.out 2).trans rfl, (blk_cell BK419.out 3).trans rfl⟩ (fun hHeld => ?_); refine with_tabW impl_ChainOk.tab4 impl_ChainOk.bits4 (fun HT_ HW_ => ?_)
      generalize w28.drew = w29 at BK416 BK419 HB hHeld ⊢
      refine take_ (i := 0) (N := some 12) (v := ?_) (a' := ?_) #[t_,f_,f_,f_,f_,f_,f_,f_,f_,f_,f_] rfl rfl (take_ofW HT_.out HW_.out (by kernel_rfl)) (fun _ _ _ h => h) (Or.inl ⟨by rfl, ?_⟩) hHeld ?_ ?_
      rotate_left
      ·
       rintro w' ⟨s0, s1, s2, s3⟩
       go_simp
       with_reducible rfl
      rotate_left
      ·
       simp only [fr_]
       rfl
      refine one_ (i := 1) (N := some 13) #[t_,t_,f_,f_,f_,f_,f_,f_,f_,f_,f_] rfl rfl (one_of HT_.out (by kernel_rfl)) (by decide) (fun K hK => ?_)
      refine goes_ Try.func103 (by kernel_rfl) rfl #[.agg #[.slice A418_0 ((rd_T43 l0_1 x8_1).f0).length c418_0, .int .i64 ((rd_T43 l0_1 x8_1).f1), .int .i64 ((rd_T43 l0_1 x8_1).f2), .string ((rd_T43 l0_1 x8_1).f3)]] (by rfl) rfl rfl (by (try simp only [mp_]); first | done | rfl | (simp only [List.length_drop, List.length_take]; rfl)) ?_
      with_reducible refine (impl_AlarmOk.calls k1 _ _ ((rd_T43 l0_1 x8_1).f0) ((rd_T43 l0_1 x8_1).f1) ((rd_T43 l0_1 x8_1).f2) ((rd_T43 l0_1 x8_1).f3) false _ ?side1 ?side2 A7.out).mono ?_
      (case side1 => repeat (first | exact (Kd.C_below HR418_0.out HB.out) | (with_reducible first | refine ca_ ?_ _ | refine cn_ ?_ _ | refine cd_ ?_)))
      (case side2 => exact HC418_0.out)
      rintro e w30 ⟨rfl, hb⟩
      refine ⟨_, rfl, ?_⟩
      have n0_ := Aside0.mk (blk_below (g := gb416) (o := .cells #[.int .i64 a0_0, .slice (some ad418) l0_1.length c0_1] 100 (0, 0)) (by (with_reducible repeat (first | refine kn_ ?_ _ | refine kd_ ?_ | refine ka_ ?_ _)); exact BK416.out) hb)
      have n1_ := Aside0.mk (blk_below (g := gb419) (o := .cells #[.slice A418_0 ((rd_T43 l0_1 x8_1).f0).length c418_0, .int .i64 ((rd_T43 l0_1 x8_1).f1), .int .i64 ((rd_T43 l0_1 x8_1).f2), .string ((rd_T43 l0_1 x8_1).f3)] 43 (0, 0)) (by (with_reducible repeat (first | refine kn_ ?_ _ | refine kd_ ?_ | refine ka_ ?_ _)); exact BK419.out) hb)
      have n2_ := Aside0.mk (below_step (by repeat (first | (with_reducible first | exact HB.out | apply ba_ | apply bn_ | apply bd_ | refine below_set ?_ GE416.out | refine below_set ?_ GE419.out) | exact HB.out)) hb)
      clear BK416
      clear BK419
      clear HB
      have BK416 := n0_
      have BK419 := n1_
      have HB := n2_
      clear n0_ n1_ n2_
      (try clear hb)
      (try clear hb2)
      (try clear hk)
      (try clear hi)
      refine hK.out _ _ ⟨(blk_cell BK419.out 0).trans rfl, (blk_cell BK419.out 1).trans rfl, (blk_cell BK419.out 2).trans rfl, (blk_cell BK419.out 3).trans rfl⟩ (fun hHeld => ?_)
      clear hK K
      refine norm_ (a' := ?_) ?_ ?_
      rotate_left
      ·
       show Act.put _ (some 13) _ = _
       simp only [fr_]
       rfl
      refine pu_ 2 14 ?_ (b_ 3 8) rfl rfl HT_.out ?_ ?_ ?_ ?_; rotate_left; intro w'; go_simp; with_reducible rfl; rotate_left; simp only [fr_]; rfl
      refine pu_ 3 15 ?_ (b_ 4 7) rfl rfl HT_.out ?_ ?_ ?_ ?_; rotate_left; intro w'; go_simp; with_reducible rfl; rotate_left; simp only [fr_]; rfl
      refine pv_ 4 16 ?_ (b_ 5 6) rfl rfl HT_.out ?_ ?_; rotate_left; simp only [fr_]; rfl
      refine pv_ 5 17 ?_ (b_ 6 5) rfl rfl HT_.out ?_ ?_; rotate_left; simp only [fr_]; rfl
      refine pv_ 6 18 ?_ (b_ 7 4) rfl rfl HT_.out ?_ ?_; rotate_left; simp only [fr_]; rfl
      refine pv_ 7 19 ?_ (b_ 8 3) rfl rfl HT_.out ?_ ?_; rotate_left; simp only [fr_]; rfl
      refine pv_ 8 20 ?_ (b_ 9 2) rfl rfl HT_.out ?_ ?_; rotate_left; simp only [fr_]; rfl
      refine pv_ 9 21 ?_ (b_ 10 1) rfl rfl HT_.out ?_ ?_; rotate_left; simp only [fr_]; rfl
      refine pu_ 10 22 ?_ (b_ 11 0) rfl rfl HT_.out ?_ ?_ ?_ ?_; rotate_left; intro w'; go_simp; with_reducible rfl; rotate_left; simp only [fr_]; rfl
      refine done_ (done_of HT_.out (by kernel_rfl)) ?_
      try go_wp2
      go_ret
      exact ⟨by first | rfl | (simp [errW_none, errW_some] <;> rfl) | (simp [*, errW_none, errW_some] <;> rfl), by repeat (first | (with_reducible first | exact HB.out | apply ba_ | apply bn_ | apply bd_ | refine below_set ?_ GE416.out | refine below_set ?_ GE419.out) | exact HB.out)⟩
     rw [if_neg c6] at H
     exact absurd H (by simp)
    rw [if_neg c5] at H
    exact absurd H (by simp)
   rw [if_neg c4] at H
   have c4b0 : decide (x8_1 < (l0_1.length : Int)) = false := decide_eq_false c4
   clear c4
   by_cases c31 : (l0_1.length : Int) > 0
   ·
    rw [if_pos c31] at H
    have c31b0 : decide (0 < (l0_1.length : Int)) = true := decide_eq_true c31
    have c31b1 : decide (0 < l0_1.length) = true := decide_eq_true (by omega)
    clear c31
    replace H := Option.bind_eq_some_iff.mp H
    obtain ⟨t417, A320, H⟩ := H
    have A32 := Aside0.mk A320
    clear A320
    obtain rfl := Option.some.inj H
    have hcz33_0 : wr.cell? ⟨gb416, 0, none⟩ = some (.int .i64 a0_0) := (blk_cell BK416.out 0).trans rfl
    have hcz33_1 : wr.cell? ⟨gb416, 1, none⟩ = some (.slice A0_1 l0_1.length c0_1) := (blk_cell BK416.out 1).trans rfl
    have hfz33_0 := blk_frozen BK416.out 0
    have hfz33_1 := blk_frozen BK416.out 1
    go_wp2_with (first | (go_at_call 104; (with_reducible refine (impl_labelsApart.calls k1 _ _ l0_1 t417 _ ?side1 ?side2 A32.out).mono ?_); (case side1 => repeat (first | exact (Kd.C_below HR0_1.out HB.out) | (with_reducible first | refine ca_ ?_ _ | refine cn_ ?_ _ | refine cd_ ?_))); (case side2 => exact HC0_1.out); rintro e w34 ⟨rfl, hb⟩; have n0_ := Aside0.mk (blk_below (g := gb416) (o := .cells #[.int .i64 a0_0, .slice A0_1 l0_1.length c0_1] 100 (0, 0)) (by (with_reducible repeat (first | refine kn_ ?_ _ | refine kd_ ?_ | refine ka_ ?_ _)); exact BK416.out) hb); have n1_ := Aside0.mk (below_step (by repeat (first | (with_reducible first | exact HB.out | apply ba_ | apply bn_ | apply bd_ | refine below_set ?_ GE416.out) | exact HB.out)) hb); clear BK416; clear HB; have BK416 := n0_; have HB := n1_; clear n0_ n1_; (try clear hb); (try clear hb2); (try clear hk); (try clear hi)))
    go_ret
    exact ⟨by first | rfl | (simp [errW_none, errW_some] <;> rfl) | (simp [*, errW_none, errW_some] <;> rfl), by repeat (first | (with_reducible first | exact HB.out | apply ba_ | apply bn_ | apply bd_ | refine below_set ?_ GE416.out) | exact HB.out)⟩
   rw [if_neg c31] at H
   have c31b0 : decide (0 < (l0_1.length : Int)) = false := decide_eq_false c31
   have c31b1 : decide (0 < l0_1.length) = false := decide_eq_false (by omega)
   clear c31
   obtain rfl := Option.some.inj H
   have hcz35_0 : wr.cell? ⟨gb416, 0, none⟩ = some (.int .i64 a0_0) := (blk_cell BK416.out 0).trans rfl
   have hcz35_1 : wr.cell? ⟨gb416, 1, none⟩ = some (.slice A0_1 l0_1.length c0_1) := (blk_cell BK416.out 1).trans rfl
   have hfz35_0 := blk_frozen BK416.out 0
   have hfz35_1 := blk_frozen BK416.out 1
   go_wp2
   go_ret
   exact ⟨by first | rfl | (simp [errW_none, errW_some] <;> rfl) | (simp [*, errW_none, errW_some] <;> rfl), by repeat (first | (with_reducible first | exact HB.out | apply ba_ | apply bn_ | apply bd_ | refine below_set ?_ GE416.out) | exact HB.out)⟩
def impl_PartOk.l0 : Nat → Int → Int → List (S100) → Int → Int → Int → Int → List (S100) → Option (Bool)
 | 0, _, _, _, _, _, _, _, _ => none
 | k + 1, x1, x2, x10, x11, x12, x423000, x423001, x423002 => if x12 < x11 then (if 0 ≤ x12 then (if x12 < (x10.length : Int) then ((impl_ChainOk.f k ((rd_T100 x10 x12).f0) ((rd_T100 x10 x12).f1)).bind fun t426 => (if t426 = true then ((impl_PartOf.f ((rd_T100 x10 x12).f0) x2).bind fun t427 => (if t427 = x1 then (if x12 > 0 then (if 0 ≤ (wrap64 (x12 - 1)) then (if (wrap64 (x12 - 1)) < (x423002.length : Int) then (if ((rd_T100 x423002 (wrap64 (x12 - 1))).f0) ≥ ((rd_T100 x10 x12).f0) then (some false) else (impl_PartOk.l0 k x1 x2 x10 x11 (wrap64 (x12 + 1)) x423000 x423001 x423002)) else (none)) else (none)) else (impl_PartOk.l0 k x1 x2 x10 x11 (wrap64 (x12 + 1)) x423000 x423001 x423002)) else (some false))) else (some false))) else (none)) else (none)) else ((impl_in.f x423000 (-1) 4).bind fun t423 => (if t423 = true then (some (decide (x423001 ≥ 0))) else (some false)))
def impl_PartOk.f (k : Nat) (a0_0 : Int) (a0_1 : Int) (l0_2 : List (S100)) (a1 : Int) (a2 : Int) : Option (Bool) := impl_PartOk.l0 k a1 a2 l0_2 (l0_2.length : Int) 0 a0_0 a0_1 l0_2
theorem impl_PartOk.mono_l : ∀ k, (∀ y0 y1 y2 y3 y4 y5 y6 y7, LeO (impl_PartOk.l0 k y0 y1 y2 y3 y4 y5 y6 y7) (impl_PartOk.l0 (k + 1) y0 y1 y2 y3 y4 y5 y6 y7))
 | 0 => fun _ _ _ _ _ _ _ _ r h => by simp [impl_PartOk.l0] at h
 | k + 1 => by
  have ih0 := impl_PartOk.mono_l k
  intro y0 y1 y2 y3 y4 y5 y6 y7
  unfold impl_PartOk.l0
  repeat' first
  | (with_reducible exact ih0 _ _ _ _ _ _ _ _)
  | (with_reducible exact impl_ChainOk.mono _ _ _)
  | (with_reducible exact LeO.refl _)
  | (with_reducible exact LeO.none _)
  | (with_reducible refine LeO.ite ?_ ?_)
  | (with_reducible refine LeO.bind ?_ (fun _ => ?_))
  | exact ih0 _ _ _ _ _ _ _ _
  | exact impl_ChainOk.mono _ _ _
theorem impl_PartOk.mono : ∀ a0 a1 a2 a3 a4 k, LeO (impl_PartOk.f k a0 a1 a2 a3 a4) (impl_PartOk.f (k + 1) a0 a1 a2 a3 a4) := by
 intro a0 a1 a2 a3 a4 k
 have ih0 := impl_PartOk.mono_l k
 unfold impl_PartOk.f
 repeat' first
   | (with_reducible exact ih0 _ _ _ _ _ _ _ _)
   | (with_reducible exact impl_ChainOk.mono _ _ _)
   | (with_reducible exact LeO.refl _)
   | (with_reducible exact LeO.none _)
   | (with_reducible refine LeO.ite ?_ ?_)
   | (with_reducible refine LeO.bind ?_ (fun _ => ?_))
   | exact ih0 _ _ _ _ _ _ _ _
   | exact impl_ChainOk.mono _ _ _
def impl_PartOk.T4 : Bool × List (List Nat × List Nat) := (true, [([], []), ([0], [0]), ([1], [1]), ([2, 1], [2]), ([3], [3]), ([4, 3], [3, 4]), ([3], [3]), ([5, 6, 3, 3], [3, 5, 6]), ([3], [3]), ([7, 8, 3], [3, 7, 8]), ([3, 9], [3, 9]), ([10, 7], [10]), ([11], [11]), ([12, 11], [11, 12]), ([13, 11, 11], [11, 13]), ([14], [14]), ([15, 14], [14, 15]), ([14], [14]), ([17, 14], [14, 17]), ([16, 18, 14], [14, 16, 18]), ([19, 14], [14, 19]), ([20, 14], [14, 20]), ([14], [14]), ([22, 14], [14, 22]), ([21, 23, 14], [14, 21, 23]), ([14, 24, 11], [11, 14, 24]), ([11, 25], [11, 25])])
def impl_PartOk.B4 : List Nat := [0, 1, 3, 7, 15, 31, 15, 127, 15, 511, 1023, 2047, 4095, 8191, 16383, 32767, 65535, 32767, 163839, 524287, 1048575, 2097151, 32767, 4227071, 16777215, 33554431, 67108863]
theorem impl_PartOk.tab4 : rtab .any (opsOf Try.f28 4) = impl_PartOk.T4 := by kernel_rfl
theorem impl_PartOk.bits4 : waitsOk impl_PartOk.T4.2 impl_PartOk.B4 = true := by kernel_rfl
theorem impl_PartOk.calls (k : Nat) (a0_0 : Int) (a0_1 : Int) (A0_2 : Option Addr) (c0_2 : Nat) (l0_2 : List (S100)) (a1 : Int) (a2 : Int) (r : Bool) (w : World) (hr0_2 : Kd.C k100 w A0_2 l0_2.length l0_2) (hc0_2 : l0_2.length ≤ c0_2) (h : impl_PartOk.f k a0_0 a0_1 l0_2 a1 a2 = some r) :
  Calls Try.prog 28 #[.agg #[.int .i64 a0_0, .int .i64 a0_1, .slice A0_2 l0_2.length c0_2], .int .i64 a1, .int .i64 a2] w fun e w' => e = .returned (.bool r) ∧ Below w.heap.size w w' := by
 have hu57 := Try.underlying57
 have hu100 := Try.underlying100
 have HR0_2 := Aside0.mk hr0_2
 have HC0_2 := Aside0.mk hc0_2
 clear hr0_2 hc0_2
 have HB := Aside0.mk (Below.refl w.heap.size w)
 have H : (impl_PartOk.l0 k a1 a2 l0_2 (l0_2.length : Int) 0 a0_0 a0_1 l0_2) = some r := h
 clear h
 have H' := Aside0.mk H
 clear H
 go_enter Try.func28, Try.ntmps28
 go_wp2_with (first | ((with_reducible refine gate_dst (N := 3) rfl ?_); refine box_event ?hg (N := 3) ?hd (cs := #[.int .i64 a0_0, .int .i64 a0_1, .slice A0_2 l0_2.length c0_2]) (t := 57) ?hr ?_; (case hd => rfl); (case hg => rfl); (case hr => first | (go_simp; done) | (go_simp; rfl)); intro gb422 hg w4 hbox hb; have n0_ := Aside0.mk (below_step (by repeat (first | (with_reducible first | exact HB.out | apply ba_ | apply bn_ | apply bd_) | exact HB.out)) hb); have BK422 := Aside0.mk (hbox); have GW422 := Aside0.mk ((by rw [hg]; exact (below_size (by repeat (first | (with_reducible first | exact HB.out | apply ba_ | apply bn_ | apply bd_) | exact HB.out))) : w.heap.size ≤ gb422)); have GE422 := GW422; clear HB; have HB := n0_; clear n0_; clear hb hbox hg; have hcz5_0 : w4.cell? ⟨gb422, 0, none⟩ = some (.int .i64 a0_0) := (blk_cell BK422.out 0).trans rfl; have hcz5_1 : w4.cell? ⟨gb422, 1, none⟩ = some (.int .i64 a0_1) := (blk_cell BK422.out 1).trans rfl; have hcz5_2 : w4.cell? ⟨gb422, 2, none⟩ = some (.slice A0_2 l0_2.length c0_2) := (blk_cell BK422.out 2).trans rfl; have hfz5_0 := blk_frozen BK422.out 0; have hfz5_1 := blk_frozen BK422.out 1; have hfz5_2 := blk_frozen BK422.out 2))
 go_loopg [12] k (fun kq v12 w' => ∃ (x12_1 : Int), v12 = .int .i64 x12_1 ∧ Aside0 (impl_PartOk.l0 kq a1 a2 l0_2 (l0_2.length : Int) x12_1 a0_0 a0_1 l0_2 = some r) ∧ Aside0 (kq ≤ k) ∧ Aside0 (w'.heap[gb422]? = some (.cells #[.int .i64 a0_0, .int .i64 a0_1, (.slice A0_2 l0_2.length c0_2)] 57 (0, 0))) ∧ Aside0 (Below w.heap.size w w'))
 case atStart => exact ⟨(0), (by first | rfl | (simp; done) | (simp [*]; done)), H', ⟨Nat.le_refl _⟩, ⟨by (with_reducible repeat (first | refine kn_ ?_ _ | refine kd_ ?_ | refine ka_ ?_ _)); exact BK422.out⟩, ⟨by repeat (first | (with_reducible first | exact HB.out | apply ba_ | apply bn_ | apply bd_ | refine below_set ?_ GE422.out) | exact HB.out)⟩⟩
 case round =>
  clear H'
  try clear c2
  try clear p2
  try clear hcz5_0
  try clear hcz5_1
  try clear hcz5_2
  try clear hfz5_0
  try clear hfz5_1
  try clear hfz5_2
  obtain ⟨x12_1, rfl, HA, HK1, BK422, HB⟩ := hrel
  cases gk with
  | zero => exact absurd HA.out (by simp [impl_PartOk.l0])
  | succ k1 =>
   have H := HA.out
   clear HA
   simp only [impl_PartOk.l0] at H
   by_cases c6 : x12_1 < (l0_2.length : Int)
   ·
    rw [if_pos c6] at H
    have c6b0 := decide_eq_true c6
    clear c6
    by_cases c7 : 0 ≤ x12_1
    ·
     rw [if_pos c7] at H
     have c7b0 := decide_eq_true c7
     clear c7
     by_cases c8 : x12_1 < (l0_2.length : Int)
     ·
      rw [if_pos c8] at H
      have c8b0 := decide_eq_true c8
      clear c8
      replace H := Option.bind_eq_some_iff.mp H
      obtain ⟨t426, A90, H⟩ := H
      have A9 := Aside0.mk A90
      clear A90
      by_cases c10 : t426 = true
      ·
       subst c10
       rw [if_pos rfl] at H
       replace H := Option.bind_eq_some_iff.mp H
       obtain ⟨t427, A110, H⟩ := H
       have A11 := Aside0.mk A110
       clear A110
       by_cases c12 : t427 = a1
       ·
        rw [if_pos c12] at H
        have c12b0 : (t427 == a1) = true := beq_iff_eq.mpr c12
        have c12b1 : (t427 != a1) = false := bne_eq_false_iff_eq.mpr c12
        clear c12
        by_cases c13 : x12_1 > 0
        ·
         rw [if_pos c13] at H
         have c13b0 : decide (0 < x12_1) = true := decide_eq_true c13
         clear c13
         obtain ⟨ji14, hji14⟩ : ∃ j_ : Int, (wrap64 (x12_1 - 1)) = j_ := ⟨_, rfl⟩
         replace H : (if 0 ≤ (ji14) then (if (ji14) < (l0_2.length : Int) then (if ((rd_T100 l0_2 (ji14)).f0) ≥ ((rd_T100 l0_2 x12_1).f0) then (some false) else (impl_PartOk.l0 k1 a1 a2 l0_2 (l0_2.length : Int) (wrap64 (x12_1 + 1)) a0_0 a0_1 l0_2)) else (none)) else (none)) = some r := by first | (rw [hji14] at H; exact H) | (simp only [hji14] at H ⊢; exact H)
         (try rw [hji14] at A9)
         (try rw [hji14] at A11)
         have hji14w : (IntKind.i64.wrap (x12_1 - 1)) = ji14 := (i64_w _).trans hji14
         by_cases c15 : 0 ≤ (ji14)
         ·
          rw [if_pos c15] at H
          have c15b0 := decide_eq_true c15
          clear c15
          by_cases c16 : (ji14) < (l0_2.length : Int)
          ·
           rw [if_pos c16] at H
           have c16b0 := decide_eq_true c16
           clear c16
           by_cases c17 : ((rd_T100 l0_2 (ji14)).f0) ≥ ((rd_T100 l0_2 x12_1).f0)
           ·
            rw [if_pos c17] at H
            have c17b0 : decide (((rd_T100 l0_2 x12_1).f0) ≤ ((rd_T100 l0_2 (ji14)).f0)) = true := decide_eq_true c17
            clear c17
            obtain rfl := Option.some.inj H
            have p424 : 0 ≤ (x12_1 : Int) := of_decide_eq_true (by with_reducible assumption)
            have q424 : x12_1 < (l0_2.length : Int) := of_decide_eq_true (by with_reducible assumption)
            obtain ⟨ad424, A424_1, c424_1, e424, hx424_0, hx424_1, hl424_1, hi424_1⟩ := at_T100 HR0_2.out x12_1 p424 q424
            cases e424
            replace hx424_0 := cl_ HB.out hx424_0
            replace hx424_1 := cl_ HB.out hx424_1
            have HR424_1 := Aside0.mk hi424_1
            have HC424_1 := Aside0.mk hl424_1
            clear hi424_1 hl424_1
            replace p424 := eq_true p424
            replace q424 := eq_true q424
            try go_wp2_with (first | ((with_reducible refine gate_dst (N := 8) rfl ?_); refine box_event ?hg (N := 8) ?hd (cs := #[.int .i64 0, .slice none 0 0]) (t := 100) ?hr ?_; (case hd => rfl); (case hg => rfl); (case hr => first | (go_simp; done) | (go_simp; rfl)); intro gb425 hg w18 hbox hb; have n0_ := Aside0.mk (blk_below (g := gb422) (o := .cells #[.int .i64 a0_0, .int .i64 a0_1, .slice (some ad424) l0_2.length c0_2] 57 (0, 0)) (by (with_reducible repeat (first | refine kn_ ?_ _ | refine kd_ ?_ | refine ka_ ?_ _)); exact BK422.out) hb); have n1_ := Aside0.mk (below_step (by repeat (first | (with_reducible first | exact HB.out | apply ba_ | apply bn_ | apply bd_ | refine below_set ?_ GE422.out) | exact HB.out)) hb); have n2_ := Aside0.mk (hbox); have n3_ := Aside0.mk ((by rw [hg]; exact (below_size (by repeat (first | (with_reducible first | exact HB.out | apply ba_ | apply bn_ | apply bd_ | refine below_set ?_ GE422.out) | exact HB.out))) : w.heap.size ≤ gb425)); have n4_ := n3_; have n5_ := Aside0.mk ((by rw [hg]; exact Nat.ne_of_lt (blk_lt (g := gb422) (o := .cells #[.int .i64 a0_0, .int .i64 a0_1, .slice (some ad424) l0_2.length c0_2] 57 (0, 0)) (by (with_reducible repeat (first | refine kn_ ?_ _ | refine kd_ ?_ | refine ka_ ?_ _)); exact BK422.out)) : gb422 ≠ gb425)); have n6_ := Aside0.mk ((by rw [hg]; exact Nat.ne_of_gt (blk_lt (g := gb422) (o := .cells #[.int .i64 a0_0, .int .i64 a0_1, .slice (some ad424) l0_2.length c0_2] 57 (0, 0)) (by (with_reducible repeat (first | refine kn_ ?_ _ | refine kd_ ?_ | refine ka_ ?_ _)); exact BK422.out)) : gb425 ≠ gb422)); clear BK422; clear HB; have BK422 := n0_; have HB := n1_; have BK425 := n2_; have GW425 := n3_; have GE425 := n4_; have NB422_425 := n5_; have NB425_422 := n6_; clear n0_ n1_ n2_ n3_ n4_ n5_ n6_; clear hb hbox hg; have hnb19 := NB425_422.out; have hnc19 := NB422_425.out; have hcz20_0 : w18.cell? ⟨gb425, 0, none⟩ = some (.int .i64 0) := (blk_cell BK425.out 0).trans rfl; have hcz20_1 : w18.cell? ⟨gb425, 1, none⟩ = some (.slice none 0 0) := (blk_cell BK425.out 1).trans rfl; have hfz20_0 := blk_frozen BK425.out 0; have hfz20_1 := blk_frozen BK425.out 1))
            have n0_ : Aside0 (((w18.setCell ⟨gb425, 0, none⟩ (.int .i64 ((rd_T100 l0_2 x12_1).f0))).setCell ⟨gb425, 1, none⟩ (.slice A424_1 ((rd_T100 l0_2 x12_1).f1).length c424_1)).heap[gb422]? = some (.cells #[.int .i64 a0_0, .int .i64 a0_1, .slice (some ad424) l0_2.length c0_2] 57 (0, 0))) := ⟨by (with_reducible repeat (first | refine kn_ ?_ _ | refine kd_ ?_ | refine ka_ ?_ _)); refine blk_far ?_ NB422_425.out _; (with_reducible repeat (first | refine kn_ ?_ _ | refine kd_ ?_ | refine ka_ ?_ _)); refine blk_far ?_ NB422_425.out _; (with_reducible repeat (first | refine kn_ ?_ _ | refine kd_ ?_ | refine ka_ ?_ _)); exact BK422.out⟩
            have n1_ : Aside0 (((w18.setCell ⟨gb425, 0, none⟩ (.int .i64 ((rd_T100 l0_2 x12_1).f0))).setCell ⟨gb425, 1, none⟩ (.slice A424_1 ((rd_T100 l0_2 x12_1).f1).length c424_1)).heap[gb425]? = some (.cells #[.int .i64 ((rd_T100 l0_2 x12_1).f0), .slice A424_1 ((rd_T100 l0_2 x12_1).f1).length c424_1] 100 (0, 0))) := ⟨by (with_reducible repeat (first | refine kn_ ?_ _ | refine kd_ ?_ | refine ka_ ?_ _)); refine blk_put (cs := #[.int .i64 ((rd_T100 l0_2 x12_1).f0), .slice none 0 0]) ?_ 1 _ rfl; (with_reducible repeat (first | refine kn_ ?_ _ | refine kd_ ?_ | refine ka_ ?_ _)); refine blk_put (cs := #[.int .i64 0, .slice none 0 0]) ?_ 0 _ rfl; (with_reducible repeat (first | refine kn_ ?_ _ | refine kd_ ?_ | refine ka_ ?_ _)); exact BK425.out⟩
            have n2_ : Aside0 (Below w.heap.size w ((w18.setCell ⟨gb425, 0, none⟩ (.int .i64 ((rd_T100 l0_2 x12_1).f0))).setCell ⟨gb425, 1, none⟩ (.slice A424_1 ((rd_T100 l0_2 x12_1).f1).length c424_1))) := ⟨by repeat (first | (with_reducible first | exact HB.out | apply ba_ | apply bn_ | apply bd_ | refine below_set ?_ GE422.out | refine below_set ?_ GE425.out) | exact HB.out)⟩
            (try clear BK422)
            (try clear BK425)
            (try clear HB)
            generalize ((w18.setCell ⟨gb425, 0, none⟩ (.int .i64 ((rd_T100 l0_2 x12_1).f0))).setCell ⟨gb425, 1, none⟩ (.slice A424_1 ((rd_T100 l0_2 x12_1).f1).length c424_1)) = w21 at n0_ n1_ n2_ ⊢
            have BK422 := n0_
            have BK425 := n1_
            have HB := n2_
            clear n0_ n1_ n2_
            have n0_ := Aside0.mk (blk_drew BK422.out)
            have n1_ := Aside0.mk (blk_drew BK425.out)
            have n2_ := Aside0.mk (bd_ HB.out)
            clear BK422
            clear BK425
            clear HB
            have BK422 := n0_
            have BK425 := n1_
            have HB := n2_
            clear n0_ n1_ n2_
            have p428 : 0 ≤ ((ji14) : Int) := of_decide_eq_true (by with_reducible assumption)
            have q428 : (ji14) < (l0_2.length : Int) := of_decide_eq_true (by with_reducible assumption)
            obtain ⟨ad428, A428_1, c428_1, e428, hx428_0, hx428_1, hl428_1, hi428_1⟩ := at_T100 HR0_2.out (ji14) p428 q428
            have hw428_1 := hx428_1
            have hw428_0 := hx428_0
            obtain rfl : ad424 = ad428 := (by injection e428)
            replace hx428_0 := cl_ HB.out hx428_0
            replace hx428_1 := cl_ HB.out hx428_1
            have HR428_1 := Aside0.mk hi428_1
            have HC428_1 := Aside0.mk hl428_1
            clear hi428_1 hl428_1
            replace p428 := eq_true p428
            replace q428 := eq_true q428
            refine start_ (n := 27) (S := fun w' => w'.cell? ⟨gb425, 0, none⟩ = some (.int .i64 ((rd_T100 l0_2 x12_1).f0)) ∧ w'.cell? ⟨gb425, 1, none⟩ = some (.slice A424_1 ((rd_T100 l0_2 x12_1).f1).length c424_1) ∧ w'.cell? ⟨gb422, 0, none⟩ = some (.int .i64 a0_0) ∧ w'.cell? ⟨gb422, 1, none⟩ = some (.int .i64 a0_1) ∧ w'.cell? ⟨gb422, 2, none⟩ = some (.slice (some ad424) l0_2.length c0_2) ∧ w'.cell? (ad424.add (((ji14)).toNat * 2)) = some (.int .i64 ((rd_T100 l0_2 (ji14)).f0)) ∧ w'.cell? ⟨(ad424.add (((ji14)).toNat * 2)).block, (ad424.add (((ji14)).toNat * 2)).off + 1, none⟩ = some (.slice A428_1 ((rd_T100 l0_2 (ji14)).f1).length c428_1)) (ds := []) #[f_,f_,f_,f_,f_,f_,f_,f_,f_,f_,f_,f_,f_,f_,f_,f_,f_,f_,f_,f_,f_,f_,f_,f_,f_,f_,f_] (by kernel_rfl) rfl rfl ⟨(blk_cell BK425.out 0).trans rfl, (blk_cell BK425.out 1).trans rfl, (blk_cell BK422.out 0).trans rfl, (blk_cell BK422.out 1).trans rfl, (blk_cell BK422.out 2).trans rfl, ((HB.out.cell (World.block_lt_of_cell? w _ hw428_0)).trans hw428_0), ((HB.out.cell (World.block_lt_of_cell? w _ hw428_1)).trans hw428_1)⟩ (fun hHeld => ?_); refine with_tabW impl_PartOk.tab4 impl_PartOk.bits4 (fun HT_ HW_ => ?_)
            generalize w21.drew = w22 at BK422 BK425 HB HR428_1 hx428_0 hx428_1 hHeld ⊢
            refine take_ (i := 0) (N := some 17) (v := ?_) (a' := ?_) #[t_,f_,f_,f_,f_,f_,f_,f_,f_,f_,f_,f_,f_,f_,f_,f_,f_,f_,f_,f_,f_,f_,f_,f_,f_,f_,f_] rfl rfl (take_ofW HT_.out HW_.out (by kernel_rfl)) (fun _ _ _ h => h) (Or.inl ⟨by rfl, ?_⟩) hHeld ?_ ?_
            rotate_left
            ·
             rintro w' ⟨s0, s1, s2, s3, s4, s5, s6⟩
             go_simp
             with_reducible rfl
            rotate_left
            ·
             simp only [fr_]
             rfl
            refine one_ (i := 1) (N := some 18) #[t_,t_,f_,f_,f_,f_,f_,f_,f_,f_,f_,f_,f_,f_,f_,f_,f_,f_,f_,f_,f_,f_,f_,f_,f_,f_,f_] rfl rfl (one_of HT_.out (by kernel_rfl)) (by decide) (fun K hK => ?_)
            refine goes_ Try.func72 (by kernel_rfl) rfl #[.agg #[.int .i64 ((rd_T100 l0_2 x12_1).f0), .slice A424_1 ((rd_T100 l0_2 x12_1).f1).length c424_1]] (by rfl) rfl rfl (by (try simp only [mp_]); first | done | rfl | (simp only [List.length_drop, List.length_take]; rfl)) ?_
            with_reducible refine (impl_ChainOk.calls k1 ((rd_T100 l0_2 x12_1).f0) _ _ ((rd_T100 l0_2 x12_1).f1) true _ ?side1 ?side2 A9.out).mono ?_
            (case side1 => repeat (first | exact (Kd.C_below HR424_1.out HB.out) | (with_reducible first | refine ca_ ?_ _ | refine cn_ ?_ _ | refine cd_ ?_)))
            (case side2 => exact HC424_1.out)
            rintro e w23 ⟨rfl, hb⟩
            refine ⟨_, rfl, ?_⟩
            have n0_ := Aside0.mk (blk_below (g := gb422) (o := .cells #[.int .i64 a0_0, .int .i64 a0_1, .slice (some ad424) l0_2.length c0_2] 57 (0, 0)) (by (with_reducible repeat (first | refine kn_ ?_ _ | refine kd_ ?_ | refine ka_ ?_ _)); exact BK422.out) hb)
            have n1_ := Aside0.mk (blk_below (g := gb425) (o := .cells #[.int .i64 ((rd_T100 l0_2 x12_1).f0), .slice A424_1 ((rd_T100 l0_2 x12_1).f1).length c424_1] 100 (0, 0)) (by (with_reducible repeat (first | refine kn_ ?_ _ | refine kd_ ?_ | refine ka_ ?_ _)); exact BK425.out) hb)
            have n2_ := Aside0.mk (below_step (by repeat (first | (with_reducible first | exact HB.out | apply ba_ | apply bn_ | apply bd_ | refine below_set ?_ GE422.out | refine below_set ?_ GE425.out) | exact HB.out)) hb)
            clear BK422
            clear BK425
            clear HB
            have BK422 := n0_
            have BK425 := n1_
            have HB := n2_
            clear n0_ n1_ n2_
            (try clear hb)
            (try clear hb2)
            (try clear hk)
            (try clear hi)
            refine hK.out _ _ ⟨(blk_cell BK425.out 0).trans rfl, (blk_cell BK425.out 1).trans rfl, (blk_cell BK422.out 0).trans rfl, (blk_cell BK422.out 1).trans rfl, (blk_cell BK422.out 2).trans rfl, ((HB.out.cell (World.block_lt_of_cell? w _ hw428_0)).trans hw428_0), ((HB.out.cell (World.block_lt_of_cell? w _ hw428_1)).trans hw428_1)⟩ (fun hHeld => ?_)
            clear hK K
            refine norm_ (a' := ?_) ?_ ?_
            rotate_left
            ·
             show Act.put _ (some 18) _ = _
             simp only [fr_]
             rfl
            refine pu_ 2 19 ?_ (b_ 3 24) rfl rfl HT_.out ?_ ?_ ?_ ?_; rotate_left; intro w'; go_simp; with_reducible rfl; rotate_left; simp only [fr_]; rfl
            refine pu_ 3 20 ?_ (b_ 4 23) rfl rfl HT_.out ?_ ?_ ?_ ?_; rotate_left; intro w'; go_simp; with_reducible rfl; rotate_left; simp only [fr_]; rfl
            refine pu_ 4 21 ?_ (b_ 5 22) rfl rfl HT_.out ?_ ?_ ?_ ?_; rotate_left; intro w'; go_simp; with_reducible rfl; rotate_left; simp only [fr_]; rfl
            refine pu_ 6 23 ?_ #[t_,t_,t_,t_,t_,f_,t_,f_,f_,f_,f_,f_,f_,f_,f_,f_,f_,f_,f_,f_,f_,f_,f_,f_,f_,f_,f_] rfl rfl HT_.out ?_ ?_ ?_ ?_; rotate_left; intro w'; go_simp; with_reducible rfl; rotate_left; simp only [fr_]; rfl
            refine pu_ 8 25 ?_ #[t_,t_,t_,t_,t_,f_,t_,f_,t_,f_,f_,f_,f_,f_,f_,f_,f_,f_,f_,f_,f_,f_,f_,f_,f_,f_,f_] rfl rfl HT_.out ?_ ?_ ?_ ?_; rotate_left; intro w'; go_simp; with_reducible rfl; rotate_left; simp only [fr_]; rfl
            refine take_ (i := 5) (N := some 22) (v := ?_) (a' := ?_) #[t_,t_,t_,t_,t_,t_,t_,f_,t_,f_,f_,f_,f_,f_,f_,f_,f_,f_,f_,f_,f_,f_,f_,f_,f_,f_,f_] rfl rfl (take_ofW HT_.out HW_.out (by kernel_rfl)) (fun _ _ _ h => h) (Or.inl ⟨by rfl, ?_⟩) hHeld ?_ ?_
            rotate_left
            ·
             rintro w' ⟨s0, s1, s2, s3, s4, s5, s6⟩
             go_simp
             with_reducible rfl
            rotate_left
            ·
             simp only [fr_]
             rfl
            refine one_ (i := 7) (N := some 24) #[t_,t_,t_,t_,t_,t_,t_,t_,t_,f_,f_,f_,f_,f_,f_,f_,f_,f_,f_,f_,f_,f_,f_,f_,f_,f_,f_] rfl rfl (one_of HT_.out (by kernel_rfl)) (by decide) (fun K hK => ?_)
            refine goes_ Try.func59 (by kernel_rfl) rfl #[.int .i64 ((rd_T100 l0_2 x12_1).f0), .int .i64 a2] (by rfl) rfl rfl (by (try simp only [mp_]); first | done | rfl | (simp only [List.length_drop, List.length_take]; rfl)) ?_
            with_reducible refine (impl_PartOf.calls ((rd_T100 l0_2 x12_1).f0) a2 t427 _ A11.out).mono ?_
            rintro e w' ⟨rfl, ⟨nd, rfl⟩⟩
            refine ⟨_, rfl, ?_⟩
            refine hK.out _ _ ⟨(blk_cell BK425.out 0).trans rfl, (blk_cell BK425.out 1).trans rfl, (blk_cell BK422.out 0).trans rfl, (blk_cell BK422.out 1).trans rfl, (blk_cell BK422.out 2).trans rfl, ((HB.out.cell (World.block_lt_of_cell? w _ hw428_0)).trans hw428_0), ((HB.out.cell (World.block_lt_of_cell? w _ hw428_1)).trans hw428_1)⟩ (fun hHeld => ?_)
            clear hK K
            refine norm_ (a' := ?_) ?_ ?_
            rotate_left
            ·
             show Act.put _ (some 24) _ = _
             simp only [fr_]
             rfl
            refine pu_ 9 26 ?_ (b_ 10 17) rfl rfl HT_.out ?_ ?_ ?_ ?_; rotate_left; intro w'; go_simp; with_reducible rfl; rotate_left; simp only [fr_]; rfl
            refine pu_ 10 27 ?_ (b_ 11 16) rfl rfl HT_.out ?_ ?_ ?_ ?_; rotate_left; intro w'; go_simp; with_reducible rfl; rotate_left; simp only [fr_]; rfl
            refine pu_ 11 28 ?_ (b_ 12 15) rfl rfl HT_.out ?_ ?_ ?_ ?_; rotate_left; intro w'; go_simp; with_reducible rfl; rotate_left; simp only [fr_]; rfl
            refine pu_ 12 29 ?_ (b_ 13 14) rfl rfl HT_.out ?_ ?_ ?_ ?_; rotate_left; intro w'; go_simp; with_reducible rfl; rotate_left; simp only [fr_]; rfl
            refine pu_ 13 30 ?_ (b_ 14 13) rfl rfl HT_.out ?_ ?_ ?_ ?_; rotate_left; intro w'; go_simp; with_reducible rfl; rotate_left; simp only [fr_]; rfl
            refine pu_ 14 31 ?_ (b_ 15 12) rfl rfl HT_.out ?_ ?_ ?_ ?_; rotate_left; intro w'; go_simp; with_reducible rfl; rotate_left; simp only [fr_]; rfl
            refine pu_ 15 32 ?_ (b_ 16 11) rfl rfl HT_.out ?_ ?_ ?_ ?_; rotate_left; intro w'; go_simp; with_reducible rfl; rotate_left; simp only [fr_]; rfl
            refine pu_ 17 34 ?_ #[t_,t_,t_,t_,t_,t_,t_,t_,t_,t_,t_,t_,t_,t_,t_,t_,f_,t_,f_,f_,f_,f_,f_,f_,f_,f_,f_] rfl rfl HT_.out ?_ ?_ ?_ ?_; rotate_left; intro w'; go_simp; with_reducible rfl; rotate_left; simp only [fr_]; rfl
            refine pu_ 18 35 ?_ #[t_,t_,t_,t_,t_,t_,t_,t_,t_,t_,t_,t_,t_,t_,t_,t_,f_,t_,t_,f_,f_,f_,f_,f_,f_,f_,f_] rfl rfl HT_.out ?_ ?_ ?_ ?_; rotate_left; intro w'; go_simp; with_reducible rfl; rotate_left; simp only [fr_]; rfl
            refine pu_ 22 39 ?_ #[t_,t_,t_,t_,t_,t_,t_,t_,t_,t_,t_,t_,t_,t_,t_,t_,f_,t_,t_,f_,f_,f_,t_,f_,f_,f_,f_] rfl rfl HT_.out ?_ ?_ ?_ ?_; rotate_left; intro w'; go_simp; with_reducible rfl; rotate_left; simp only [fr_]; rfl
            refine take_ (i := 16) (N := some 33) (v := ?_) (a' := ?_) #[t_,t_,t_,t_,t_,t_,t_,t_,t_,t_,t_,t_,t_,t_,t_,t_,t_,t_,t_,f_,f_,f_,t_,f_,f_,f_,f_] rfl rfl (take_ofW HT_.out HW_.out (by kernel_rfl)) (fun _ _ _ h => h) (Or.inl ⟨by rfl, ?_⟩) hHeld ?_ ?_
            rotate_left
            ·
             rintro w' ⟨s0, s1, s2, s3, s4, s5, s6⟩
             go_simp
             with_reducible rfl
            rotate_left
            ·
             simp only [fr_]
             rfl
            refine pu_ 19 36 ?_ #[t_,t_,t_,t_,t_,t_,t_,t_,t_,t_,t_,t_,t_,t_,t_,t_,t_,t_,t_,t_,f_,f_,t_,f_,f_,f_,f_] rfl rfl HT_.out ?_ ?_ ?_ ?_; rotate_left; intro w'; go_simp; with_reducible rfl; rotate_left; simp only [fr_]; rfl
            refine pu_ 20 37 ?_ #[t_,t_,t_,t_,t_,t_,t_,t_,t_,t_,t_,t_,t_,t_,t_,t_,t_,t_,t_,t_,t_,f_,t_,f_,f_,f_,f_] rfl rfl HT_.out ?_ ?_ ?_ ?_; rotate_left; intro w'; go_simp; with_reducible rfl; rotate_left; simp only [fr_]; rfl
            refine take_ (i := 21) (N := some 38) (v := ?_) (a' := ?_) #[t_,t_,t_,t_,t_,t_,t_,t_,t_,t_,t_,t_,t_,t_,t_,t_,t_,t_,t_,t_,t_,t_,t_,f_,f_,f_,f_] rfl rfl (take_ofW HT_.out HW_.out (by kernel_rfl)) (fun _ _ _ h => h) (Or.inl ⟨by rfl, ?_⟩) hHeld ?_ ?_
            rotate_left
            ·
             rintro w' ⟨s0, s1, s2, s3, s4, s5, s6⟩
             go_simp
             with_reducible rfl
            rotate_left
            ·
             simp only [fr_]
             rfl
            refine take_ (i := 23) (N := some 40) (v := ?_) (a' := ?_) #[t_,t_,t_,t_,t_,t_,t_,t_,t_,t_,t_,t_,t_,t_,t_,t_,t_,t_,t_,t_,t_,t_,t_,t_,f_,f_,f_] rfl rfl (take_ofW HT_.out HW_.out (by kernel_rfl)) (fun _ _ _ h => h) (Or.inl ⟨by rfl, ?_⟩) hHeld ?_ ?_
            rotate_left
            ·
             rintro w' ⟨s0, s1, s2, s3, s4, s5, s6⟩
             go_simp
             with_reducible rfl
            rotate_left
            ·
             simp only [fr_]
             rfl
            refine pu_ 24 41 ?_ (b_ 25 2) rfl rfl HT_.out ?_ ?_ ?_ ?_; rotate_left; intro w'; go_simp; with_reducible rfl; rotate_left; simp only [fr_]; rfl
            refine pu_ 25 42 ?_ (b_ 26 1) rfl rfl HT_.out ?_ ?_ ?_ ?_; rotate_left; intro w'; go_simp; with_reducible rfl; rotate_left; simp only [fr_]; rfl
            refine pu_ 26 43 ?_ (b_ 27 0) rfl rfl HT_.out ?_ ?_ ?_ ?_; rotate_left; intro w'; go_simp; with_reducible rfl; rotate_left; simp only [fr_]; rfl
            refine done_ (done_of HT_.out (by kernel_rfl)) ?_
            try go_wp2
            go_ret
            exact ⟨by first | rfl | (simp [errW_none, errW_some] <;> rfl) | (simp only [← hji14]; first | rfl | (simp [errW_none, errW_some] <;> rfl)) | (simp [*, errW_none, errW_some] <;> rfl), by repeat (first | (with_reducible first | exact HB.out | apply ba_ | apply bn_ | apply bd_ | refine below_set ?_ GE422.out | refine below_set ?_ GE425.out) | exact HB.out)⟩
           rw [if_neg c17] at H
           have c17b0 : decide (((rd_T100 l0_2 x12_1).f0) ≤ ((rd_T100 l0_2 (ji14)).f0)) = false := decide_eq_false c17
           clear c17
           have H' := Aside0.mk H
           clear H
           have p424 : 0 ≤ (x12_1 : Int) := of_decide_eq_true (by with_reducible assumption)
           have q424 : x12_1 < (l0_2.length : Int) := of_decide_eq_true (by with_reducible assumption)
           obtain ⟨ad424, A424_1, c424_1, e424, hx424_0, hx424_1, hl424_1, hi424_1⟩ := at_T100 HR0_2.out x12_1 p424 q424
           cases e424
           replace hx424_0 := cl_ HB.out hx424_0
           replace hx424_1 := cl_ HB.out hx424_1
           have HR424_1 := Aside0.mk hi424_1
           have HC424_1 := Aside0.mk hl424_1
           clear hi424_1 hl424_1
           replace p424 := eq_true p424
           replace q424 := eq_true q424
           try go_wp2_with (first | ((with_reducible refine gate_dst (N := 8) rfl ?_); refine box_event ?hg (N := 8) ?hd (cs := #[.int .i64 0, .slice none 0 0]) (t := 100) ?hr ?_; (case hd => rfl); (case hg => rfl); (case hr => first | (go_simp; done) | (go_simp; rfl)); intro gb425 hg w24 hbox hb; have n0_ := Aside0.mk (blk_below (g := gb422) (o := .cells #[.int .i64 a0_0, .int .i64 a0_1, .slice (some ad424) l0_2.length c0_2] 57 (0, 0)) (by (with_reducible repeat (first | refine kn_ ?_ _ | refine kd_ ?_ | refine ka_ ?_ _)); exact BK422.out) hb); have n1_ := Aside0.mk (below_step (by repeat (first | (with_reducible first | exact HB.out | apply ba_ | apply bn_ | apply bd_ | refine below_set ?_ GE422.out) | exact HB.out)) hb); have n2_ := Aside0.mk (hbox); have n3_ := Aside0.mk ((by rw [hg]; exact (below_size (by repeat (first | (with_reducible first | exact HB.out | apply ba_ | apply bn_ | apply bd_ | refine below_set ?_ GE422.out) | exact HB.out))) : w.heap.size ≤ gb425)); have n4_ := n3_; have n5_ := Aside0.mk ((by rw [hg]; exact Nat.ne_of_lt (blk_lt (g := gb422) (o := .cells #[.int .i64 a0_0, .int .i64 a0_1, .slice (some ad424) l0_2.length c0_2] 57 (0, 0)) (by (with_reducible repeat (first | refine kn_ ?_ _ | refine kd_ ?_ | refine ka_ ?_ _)); exact BK422.out)) : gb422 ≠ gb425)); have n6_ := Aside0.mk ((by rw [hg]; exact Nat.ne_of_gt (blk_lt (g := gb422) (o := .cells #[.int .i64 a0_0, .int .i64 a0_1, .slice (some ad424) l0_2.length c0_2] 57 (0, 0)) (by (with_reducible repeat (first | refine kn_ ?_ _ | refine kd_ ?_ | refine ka_ ?_ _)); exact BK422.out)) : gb425 ≠ gb422)); clear BK422; clear HB; have BK422 := n0_; have HB := n1_; have BK425 := n2_; have GW425 := n3_; have GE425 := n4_; have NB422_425 := n5_; have NB425_422 := n6_; clear n0_ n1_ n2_ n3_ n4_ n5_ n6_; clear hb hbox hg; have hnb25 := NB425_422.out; have hnc25 := NB422_425.out; have hcz26_0 : w24.cell? ⟨gb425, 0, none⟩ = some (.int .i64 0) := (blk_cell BK425.out 0).trans rfl; have hcz26_1 : w24.cell? ⟨gb425, 1, none⟩ = some (.slice none 0 0) := (blk_cell BK425.out 1).trans rfl; have hfz26_0 := blk_frozen BK425.out 0; have hfz26_1 := blk_frozen BK425.out 1))
           have n0_ : Aside0 (((w24.setCell ⟨gb425, 0, none⟩ (.int .i64 ((rd_T100 l0_2 x12_1).f0))).setCell ⟨gb425, 1, none⟩ (.slice A424_1 ((rd_T100 l0_2 x12_1).f1).length c424_1)).heap[gb422]? = some (.cells #[.int .i64 a0_0, .int .i64 a0_1, .slice (some ad424) l0_2.length c0_2] 57 (0, 0))) := ⟨by (with_reducible repeat (first | refine kn_ ?_ _ | refine kd_ ?_ | refine ka_ ?_ _)); refine blk_far ?_ NB422_425.out _; (with_reducible repeat (first | refine kn_ ?_ _ | refine kd_ ?_ | refine ka_ ?_ _)); refine blk_far ?_ NB422_425.out _; (with_reducible repeat (first | refine kn_ ?_ _ | refine kd_ ?_ | refine ka_ ?_ _)); exact BK422.out⟩
           have n1_ : Aside0 (((w24.setCell ⟨gb425, 0, none⟩ (.int .i64 ((rd_T100 l0_2 x12_1).f0))).setCell ⟨gb425, 1, none⟩ (.slice A424_1 ((rd_T100 l0_2 x12_1).f1).length c424_1)).heap[gb425]? = some (.cells #[.int .i64 ((rd_T100 l0_2 x12_1).f0), .slice A424_1 ((rd_T100 l0_2 x12_1).f1).length c424_1] 100 (0, 0))) := ⟨by (with_reducible repeat (first | refine kn_ ?_ _ | refine kd_ ?_ | refine ka_ ?_ _)); refine blk_put (cs := #[.int .i64 ((rd_T100 l0_2 x12_1).f0), .slice none 0 0]) ?_ 1 _ rfl; (with_reducible repeat (first | refine kn_ ?_ _ | refine kd_ ?_ | refine ka_ ?_ _)); refine blk_put (cs := #[.int .i64 0, .slice none 0 0]) ?_ 0 _ rfl; (with_reducible repeat (first | refine kn_ ?_ _ | refine kd_ ?_ | refine ka_ ?_ _)); exact BK425.out⟩
           have n2_ : Aside0 (Below w.heap.size w ((w24.setCell ⟨gb425, 0, none⟩ (.int .i64 ((rd_T100 l0_2 x12_1).f0))).setCell ⟨gb425, 1, none⟩ (.slice A424_1 ((rd_T100 l0_2 x12_1).f1).length c424_1))) := ⟨by repeat (first | (with_reducible first | exact HB.out | apply ba_ | apply bn_ | apply bd_ | refine below_set ?_ GE422.out | refine below_set ?_ GE425.out) | exact HB.out)⟩
           (try clear BK422)
           (try clear BK425)
           (try clear HB)
           generalize ((w24.setCell ⟨gb425, 0, none⟩ (.int .i64 ((rd_T100 l0_2 x12_1).f0))).setCell ⟨gb425, 1, none⟩ (.slice A424_1 ((rd_T100 l0_2 x12_1).f1).length c424_1)) = w27 at n0_ n1_ n2_ ⊢
           have BK422 := n0_
           have BK425 := n1_
           have HB := n2_
           clear n0_ n1_ n2_
           have n0_ := Aside0.mk (blk_drew BK422.out)
           have n1_ := Aside0.mk (blk_drew BK425.out)
           have n2_ := Aside0.mk (bd_ HB.out)
           clear BK422
           clear BK425
           clear HB
           have BK422 := n0_
           have BK425 := n1_
           have HB := n2_
           clear n0_ n1_ n2_
           have p428 : 0 ≤ ((ji14) : Int) := of_decide_eq_true (by with_reducible assumption)
           have q428 : (ji14) < (l0_2.length : Int) := of_decide_eq_true (by with_reducible assumption)
           obtain ⟨ad428, A428_1, c428_1, e428, hx428_0, hx428_1, hl428_1, hi428_1⟩ := at_T100 HR0_2.out (ji14) p428 q428
           have hw428_1 := hx428_1
           have hw428_0 := hx428_0
           obtain rfl : ad424 = ad428 := (by injection e428)
           replace hx428_0 := cl_ HB.out hx428_0
           replace hx428_1 := cl_ HB.out hx428_1
           have HR428_1 := Aside0.mk hi428_1
           have HC428_1 := Aside0.mk hl428_1
           clear hi428_1 hl428_1
           replace p428 := eq_true p428
           replace q428 := eq_true q428
           refine start_ (n := 27) (S := fun w' => w'.cell? ⟨gb425, 0, none⟩ = some (.int .i64 ((rd_T100 l0_2 x12_1).f0)) ∧ w'.cell? ⟨gb425, 1, none⟩ = some (.slice A424_1 ((rd_T100 l0_2 x12_1).f1).length c424_1) ∧ w'.cell? ⟨gb422, 0, none⟩ = some (.int .i64 a0_0) ∧ w'.cell? ⟨gb422, 1, none⟩ = some (.int .i64 a0_1) ∧ w'.cell? ⟨gb422, 2, none⟩ = some (.slice (some ad424) l0_2.length c0_2) ∧ w'.cell? (ad424.add (((ji14)).toNat * 2)) = some (.int .i64 ((rd_T100 l0_2 (ji14)).f0)) ∧ w'.cell? ⟨(ad424.add (((ji14)).toNat * 2)).block, (ad424.add (((ji14)).toNat * 2)).off + 1, none⟩ = some (.slice A428_1 ((rd_T100 l0_2 (ji14)).f1).length c428_1)) (ds := []) #[f_,f_,f_,f_,f_,f_,f_,f_,f_,f_,f_,f_,f_,f_,f_,f_,f_,f_,f_,f_,f_,f_,f_,f_,f_,f_,f_] (by kernel_rfl) rfl rfl ⟨(blk_cell BK425.out 0).trans rfl, (blk_cell BK425.out 1).trans rfl, (blk_cell BK422.out 0).trans rfl, (blk_cell BK422.out 1).trans rfl, (blk_cell BK422.out 2).trans rfl, ((HB.out.cell (World.block_lt_of_cell? w _ hw428_0)).trans hw428_0), ((HB.out.cell (World.block_lt_of_cell? w _ hw428_1)).trans hw428_1)⟩ (fun hHeld => ?_); refine with_tabW impl_PartOk.tab4 impl_PartOk.bits4 (fun HT_ HW_ => ?_)
           generalize w27.drew = w28 at BK422 BK425 HB HR428_1 hx428_0 hx428_1 hHeld ⊢
           refine take_ (i := 0) (N := some 17) (v := ?_) (a' := ?_) #[t_,f_,f_,f_,f_,f_,f_,f_,f_,f_,f_,f_,f_,f_,f_,f_,f_,f_,f_,f_,f_,f_,f_,f_,f_,f_,f_] rfl rfl (take_ofW HT_.out HW_.out (by kernel_rfl)) (fun _ _ _ h => h) (Or.inl ⟨by rfl, ?_⟩) hHeld ?_ ?_
           rotate_left
           ·
            rintro w' ⟨s0, s1, s2, s3, s4, s5, s6⟩
            go_simp
            with_reducible rfl
           rotate_left
           ·
            simp only [fr_]
            rfl
           refine one_ (i := 1) (N := some 18) #[t_,t_,f_,f_,f_,f_,f_,f_,f_,f_,f_,f_,f_,f_,f_,f_,f_,f_,f_,f_,f_,f_,f_,f_,f_,f_,f_] rfl rfl (one_of HT_.out (by kernel_rfl)) (by decide) (fun K hK => ?_)
           refine goes_ Try.func72 (by kernel_rfl) rfl #[.agg #[.int .i64 ((rd_T100 l0_2 x12_1).f0), .slice A424_1 ((rd_T100 l0_2 x12_1).f1).length c424_1]] (by rfl) rfl rfl (by (try simp only [mp_]); first | done | rfl | (simp only [List.length_drop, List.length_take]; rfl)) ?_
           with_reducible refine (impl_ChainOk.calls k1 ((rd_T100 l0_2 x12_1).f0) _ _ ((rd_T100 l0_2 x12_1).f1) true _ ?side1 ?side2 A9.out).mono ?_
           (case side1 => repeat (first | exact (Kd.C_below HR424_1.out HB.out) | (with_reducible first | refine ca_ ?_ _ | refine cn_ ?_ _ | refine cd_ ?_)))
           (case side2 => exact HC424_1.out)
           rintro e w29 ⟨rfl, hb⟩
           refine ⟨_, rfl, ?_⟩
           have n0_ := Aside0.mk (blk_below (g := gb422) (o := .cells #[.int .i64 a0_0, .int .i64 a0_1, .slice (some ad424) l0_2.length c0_2] 57 (0, 0)) (by (with_reducible repeat (first | refine kn_ ?_ _ | refine kd_ ?_ | refine ka_ ?_ _)); exact BK422.out) hb)
           have n1_ := Aside0.mk (blk_below (g := gb425) (o := .cells #[.int .i64 ((rd_T100 l0_2 x12_1).f0), .slice A424_1 ((rd_T100 l0_2 x12_1).f1).length c424_1] 100 (0, 0)) (by (with_reducible repeat (first | refine kn_ ?_ _ | refine kd_ ?_ | refine ka_ ?_ _)); exact BK425.out) hb)
           have n2_ := Aside0.mk (below_step (by repeat (first | (with_reducible first | exact HB.out | apply ba_ | apply bn_ | apply bd_ | refine below_set ?_ GE422.out | refine below_set ?_ GE425.out) | exact HB.out)) hb)
           clear BK422
           clear BK425
           clear HB
           have BK422 := n0_
           have BK425 := n1_
           have HB := n2_
           clear n0_ n1_ n2_
           (try clear hb)
           (try clear hb2)
           (try clear hk)
           (try clear hi)
           refine hK.out _ _ ⟨(blk_cell BK425.out 0).trans rfl, (blk_cell BK425.out 1).trans rfl, (blk_cell BK422.out 0).trans rfl, (blk_cell BK422.out 1).trans rfl, (blk_cell BK422.out 2).trans rfl, ((HB.out.cell (World.block_lt_of_cell? w _ hw428_0)).trans hw428_0), ((HB.out.cell (World.block_lt_of_cell? w _ hw428_1)).trans hw428_1)⟩ (fun hHeld => ?_)
           clear hK K
           refine norm_ (a' := ?_) ?_ ?_
           rotate_left
           ·
            show Act.put _ (some 18) _ = _
            simp only [fr_]
            rfl
           refine pu_ 2 19 ?_ (b_ 3 24) rfl rfl HT_.out ?_ ?_ ?_ ?_; rotate_left; intro w'; go_simp; with_reducible rfl; rotate_left; simp only [fr_]; rfl
           refine pu_ 3 20 ?_ (b_ 4 23) rfl rfl HT_.out ?_ ?_ ?_ ?_; rotate_left; intro w'; go_simp; with_reducible rfl; rotate_left; simp only [fr_]; rfl
           refine pu_ 4 21 ?_ (b_ 5 22) rfl rfl HT_.out ?_ ?_ ?_ ?_; rotate_left; intro w'; go_simp; with_reducible rfl; rotate_left; simp only [fr_]; rfl
           refine pu_ 6 23 ?_ #[t_,t_,t_,t_,t_,f_,t_,f_,f_,f_,f_,f_,f_,f_,f_,f_,f_,f_,f_,f_,f_,f_,f_,f_,f_,f_,f_] rfl rfl HT_.out ?_ ?_ ?_ ?_; rotate_left; intro w'; go_simp; with_reducible rfl; rotate_left; simp only [fr_]; rfl
           refine pu_ 8 25 ?_ #[t_,t_,t_,t_,t_,f_,t_,f_,t_,f_,f_,f_,f_,f_,f_,f_,f_,f_,f_,f_,f_,f_,f_,f_,f_,f_,f_] rfl rfl HT_.out ?_ ?_ ?_ ?_; rotate_left; intro w'; go_simp; with_reducible rfl; rotate_left; simp only [fr_]; rfl
           refine take_ (i := 5) (N := some 22) (v := ?_) (a' := ?_) #[t_,t_,t_,t_,t_,t_,t_,f_,t_,f_,f_,f_,f_,f_,f_,f_,f_,f_,f_,f_,f_,f_,f_,f_,f_,f_,f_] rfl rfl (take_ofW HT_.out HW_.out (by kernel_rfl)) (fun _ _ _ h => h) (Or.inl ⟨by rfl, ?_⟩) hHeld ?_ ?_
           rotate_left
           ·
            rintro w' ⟨s0, s1, s2, s3, s4, s5, s6⟩
            go_simp
            with_reducible rfl
           rotate_left
           ·
            simp only [fr_]
            rfl
           refine one_ (i := 7) (N := some 24) #[t_,t_,t_,t_,t_,t_,t_,t_,t_,f_,f_,f_,f_,f_,f_,f_,f_,f_,f_,f_,f_,f_,f_,f_,f_,f_,f_] rfl rfl (one_of HT_.out (by kernel_rfl)) (by decide) (fun K hK => ?_)
           refine goes_ Try.func59 (by kernel_rfl) rfl #[.int .i64 ((rd_T100 l0_2 x12_1).f0), .int .i64 a2] (by rfl) rfl rfl (by (try simp only [mp_]); first | done | rfl | (simp only [List.length_drop, List.length_take]; rfl)) ?_
           with_reducible refine (impl_PartOf.calls ((rd_T100 l0_2 x12_1).f0) a2 t427 _ A11.out).mono ?_
           rintro e w' ⟨rfl, ⟨nd, rfl⟩⟩
           refine ⟨_, rfl, ?_⟩
           refine hK.out _ _ ⟨(blk_cell BK425.out 0).trans rfl, (blk_cell BK425.out 1).trans rfl, (blk_cell BK422.out 0).trans rfl, (blk_cell BK422.out 1).trans rfl, (blk_cell BK422.out 2).trans rfl, ((HB.out.cell (World.block_lt_of_cell? w _ hw428_0)).trans hw428_0), ((HB.out.cell (World.block_lt_of_cell? w _ hw428_1)).trans hw428_1)⟩ (fun hHeld => ?_)
           clear hK K
           refine norm_ (a' := ?_) ?_ ?_
           rotate_left
           ·
            show Act.put _ (some 24) _ = _
            simp only [fr_]
            rfl
           refine pu_ 9 26 ?_ (b_ 10 17) rfl rfl HT_.out ?_ ?_ ?_ ?_; rotate_left; intro w'; go_simp; with_reducible rfl; rotate_left; simp only [fr_]; rfl
           refine pu_ 10 27 ?_ (b_ 11 16) rfl rfl HT_.out ?_ ?_ ?_ ?_; rotate_left; intro w'; go_simp; with_reducible rfl; rotate_left; simp only [fr_]; rfl
           refine pu_ 11 28 ?_ (b_ 12 15) rfl rfl HT_.out ?_ ?_ ?_ ?_; rotate_left; intro w'; go_simp; with_reducible rfl; rotate_left; simp only [fr_]; rfl
           refine pu_ 12 29 ?_ (b_ 13 14) rfl rfl HT_.out ?_ ?_ ?_ ?_; rotate_left; intro w'; go_simp; with_reducible rfl; rotate_left; simp only [fr_]; rfl
           refine pu_ 13 30 ?_ (b_ 14 13) rfl rfl HT_.out ?_ ?_ ?_ ?_; rotate_left; intro w'; go_simp; with_reducible rfl; rotate_left; simp only [fr_]; rfl
           refine pu_ 14 31 ?_ (b_ 15 12) rfl rfl HT_.out ?_ ?_ ?_ ?_; rotate_left; intro w'; go_simp; with_reducible rfl; rotate_left; simp only [fr_]; rfl
           refine pu_ 15 32 ?_ (b_ 16 11) rfl rfl HT_.out ?_ ?_ ?_ ?_; rotate_left; intro w'; go_simp; with_reducible rfl; rotate_left; simp only [fr_]; rfl
           refine pu_ 17 34 ?_ #[t_,t_,t_,t_,t_,t_,t_,t_,t_,t_,t_,t_,t_,t_,t_,t_,f_,t_,f_,f_,f_,f_,f_,f_,f_,f_,f_] rfl rfl HT_.out ?_ ?_ ?_ ?_; rotate_left; intro w'; go_simp; with_reducible rfl; rotate_left; simp only [fr_]; rfl
           refine pu_ 18 35 ?_ #[t_,t_,t_,t_,t_,t_,t_,t_,t_,t_,t_,t_,t_,t_,t_,t_,f_,t_,t_,f_,f_,f_,f_,f_,f_,f_,f_] rfl rfl HT_.out ?_ ?_ ?_ ?_; rotate_left; intro w'; go_simp; with_reducible rfl; rotate_left; simp only [fr_]; rfl
           refine pu_ 22 39 ?_ #[t_,t_,t_,t_,t_,t_,t_,t_,t_,t_,t_,t_,t_,t_,t_,t_,f_,t_,t_,f_,f_,f_,t_,f_,f_,f_,f_] rfl rfl HT_.out ?_ ?_ ?_ ?_; rotate_left; intro w'; go_simp; with_reducible rfl; rotate_left; simp only [fr_]; rfl
           refine take_ (i := 16) (N := some 33) (v := ?_) (a' := ?_) #[t_,t_,t_,t_,t_,t_,t_,t_,t_,t_,t_,t_,t_,t_,t_,t_,t_,t_,t_,f_,f_,f_,t_,f_,f_,f_,f_] rfl rfl (take_ofW HT_.out HW_.out (by kernel_rfl)) (fun _ _ _ h => h) (Or.inl ⟨by rfl, ?_⟩) hHeld ?_ ?_
           rotate_left
           ·
            rintro w' ⟨s0, s1, s2, s3, s4, s5, s6⟩
            go_simp
            with_reducible rfl
           rotate_left
           ·
            simp only [fr_]
            rfl
           refine pu_ 19 36 ?_ #[t_,t_,t_,t_,t_,t_,t_,t_,t_,t_,t_,t_,t_,t_,t_,t_,t_,t_,t_,t_,f_,f_,t_,f_,f_,f_,f_] rfl rfl HT_.out ?_ ?_ ?_ ?_; rotate_left; intro w'; go_simp; with_reducible rfl; rotate_left; simp only [fr_]; rfl
           refine pu_ 20 37 ?_ #[t_,t_,t_,t_,t_,t_,t_,t_,t_,t_,t_,t_,t_,t_,t_,t_,t_,t_,t_,t_,t_,f_,t_,f_,f_,f_,f_] rfl rfl HT_.out ?_ ?_ ?_ ?_; rotate_left; intro w'; go_simp; with_reducible rfl; rotate_left; simp only [fr_]; rfl
           refine take_ (i := 21) (N := some 38) (v := ?_) (a' := ?_) #[t_,t_,t_,t_,t_,t_,t_,t_,t_,t_,t_,t_,t_,t_,t_,t_,t_,t_,t_,t_,t_,t_,t_,f_,f_,f_,f_] rfl rfl (take_ofW HT_.out HW_.out (by kernel_rfl)) (fun _ _ _ h => h) (Or.inl ⟨by rfl, ?_⟩) hHeld ?_ ?_
           rotate_left
           ·
            rintro w' ⟨s0, s1, s2, s3, s4, s5, s6⟩
            go_simp
            with_reducible rfl
           rotate_left
           ·
            simp only [fr_]
            rfl
           refine take_ (i := 23) (N := some 40) (v := ?_) (a' := ?_) #[t_,t_,t_,t_,t_,t_,t_,t_,t_,t_,t_,t_,t_,t_,t_,t_,t_,t_,t_,t_,t_,t_,t_,t_,f_,f_,f_] rfl rfl (take_ofW HT_.out HW_.out (by kernel_rfl)) (fun _ _ _ h => h) (Or.inl ⟨by rfl, ?_⟩) hHeld ?_ ?_
           rotate_left
           ·
            rintro w' ⟨s0, s1, s2, s3, s4, s5, s6⟩
            go_simp
            with_reducible rfl
           rotate_left
           ·
            simp only [fr_]
            rfl
           refine pu_ 24 41 ?_ (b_ 25 2) rfl rfl HT_.out ?_ ?_ ?_ ?_; rotate_left; intro w'; go_simp; with_reducible rfl; rotate_left; simp only [fr_]; rfl
           refine pu_ 25 42 ?_ (b_ 26 1) rfl rfl HT_.out ?_ ?_ ?_ ?_; rotate_left; intro w'; go_simp; with_reducible rfl; rotate_left; simp only [fr_]; rfl
           refine pu_ 26 43 ?_ (b_ 27 0) rfl rfl HT_.out ?_ ?_ ?_ ?_; rotate_left; intro w'; go_simp; with_reducible rfl; rotate_left; simp only [fr_]; rfl
           refine done_ (done_of HT_.out (by kernel_rfl)) ?_
           try go_wp2
           go_roundg k1
           case measure => have := HK1.out; omega
           case rel => exact ⟨(wrap64 (x12_1 + 1)), (by first | rfl | (simp; done) | (simp [*]; done)), H', ⟨by have := HK1.out; omega⟩, ⟨by (with_reducible repeat (first | refine kn_ ?_ _ | refine kd_ ?_ | refine ka_ ?_ _)); exact BK422.out⟩, ⟨by repeat (first | (with_reducible first | exact HB.out | apply ba_ | apply bn_ | apply bd_ | refine below_set ?_ GE422.out | refine below_set ?_ GE425.out) | exact HB.out)⟩⟩
          rw [if_neg c16] at H
          exact absurd H (by simp)
         rw [if_neg c15] at H
         exact absurd H (by simp)
        rw [if_neg c13] at H
        have c13b0 : decide (0 < x12_1) = false := decide_eq_false c13
        clear c13
        have H' := Aside0.mk H
        clear H
        have p424 : 0 ≤ (x12_1 : Int) := of_decide_eq_true (by with_reducible assumption)
        have q424 : x12_1 < (l0_2.length : Int) := of_decide_eq_true (by with_reducible assumption)
        obtain ⟨ad424, A424_1, c424_1, e424, hx424_0, hx424_1, hl424_1, hi424_1⟩ := at_T100 HR0_2.out x12_1 p424 q424
        cases e424
        replace hx424_0 := cl_ HB.out hx424_0
        replace hx424_1 := cl_ HB.out hx424_1
        have HR424_1 := Aside0.mk hi424_1
        have HC424_1 := Aside0.mk hl424_1
        clear hi424_1 hl424_1
        replace p424 := eq_true p424
        replace q424 := eq_true q424
        try go_wp2_with (first | ((with_reducible refine gate_dst (N := 8) rfl ?_); refine box_event ?hg (N := 8) ?hd (cs := #[.int .i64 0, .slice none 0 0]) (t := 100) ?hr ?_; (case hd => rfl); (case hg => rfl); (case hr => first | (go_simp; done) | (go_simp; rfl)); intro gb425 hg w30 hbox hb; have n0_ := Aside0.mk (blk_below (g := gb422) (o := .cells #[.int .i64 a0_0, .int .i64 a0_1, .slice (some ad424) l0_2.length c0_2] 57 (0, 0)) (by (with_reducible repeat (first | refine kn_ ?_ _ | refine kd_ ?_ | refine ka_ ?_ _)); exact BK422.out) hb); have n1_ := Aside0.mk (below_step (by repeat (first | (with_reducible first | exact HB.out | apply ba_ | apply bn_ | apply bd_ | refine below_set ?_ GE422.out) | exact HB.out)) hb); have n2_ := Aside0.mk (hbox); have n3_ := Aside0.mk ((by rw [hg]; exact (below_size (by repeat (first | (with_reducible first | exact HB.out | apply ba_ | apply bn_ | apply bd_ | refine below_set ?_ GE422.out) | exact HB.out))) : w.heap.size ≤ gb425)); have n4_ := n3_; have n5_ := Aside0.mk ((by rw [hg]; exact Nat.ne_of_lt (blk_lt (g := gb422) (o := .cells #[.int .i64 a0_0, .int .i64 a0_1, .slice (some ad424) l0_2.length c0_2] 57 (0, 0)) (by (with_reducible repeat (first | refine kn_ ?_ _ | refine kd_ ?_ | refine ka_ ?_ _)); exact BK422.out)) : gb422 ≠ gb425)); have n6_ := Aside0.mk ((by rw [hg]; exact Nat.ne_of_gt (blk_lt (g := gb422) (o := .cells #[.int .i64 a0_0, .int .i64 a0_1, .slice (some ad424) l0_2.length c0_2] 57 (0, 0)) (by (with_reducible repeat (first | refine kn_ ?_ _ | refine kd_ ?_ | refine ka_ ?_ _)); exact BK422.out)) : gb425 ≠ gb422)); clear BK422; clear HB; have BK422 := n0_; have HB := n1_; have BK425 := n2_; have GW425 := n3_; have GE425 := n4_; have NB422_425 := n5_; have NB425_422 := n6_; clear n0_ n1_ n2_ n3_ n4_ n5_ n6_; clear hb hbox hg; have hnb31 := NB425_422.out; have hnc31 := NB422_425.out; have hcz32_0 : w30.cell? ⟨gb425, 0, none⟩ = some (.int .i64 0) := (blk_cell BK425.out 0).trans rfl; have hcz32_1 : w30.cell? ⟨gb425, 1, none⟩ = some (.slice none 0 0) := (blk_cell BK425.out 1).trans rfl; have hfz32_0 := blk_frozen BK425.out 0; have hfz32_1 := blk_frozen BK425.out 1))
        have n0_ : Aside0 (((w30.setCell ⟨gb425, 0, none⟩ (.int .i64 ((rd_T100 l0_2 x12_1).f0))).setCell ⟨gb425, 1, none⟩ (.slice A424_1 ((rd_T100 l0_2 x12_1).f1).length c424_1)).heap[gb422]? = some (.cells #[.int .i64 a0_0, .int .i64 a0_1, .slice (some ad424) l0_2.length c0_2] 57 (0, 0))) := ⟨by (with_reducible repeat (first | refine kn_ ?_ _ | refine kd_ ?_ | refine ka_ ?_ _)); refine blk_far ?_ NB422_425.out _; (with_reducible repeat (first | refine kn_ ?_ _ | refine kd_ ?_ | refine ka_ ?_ _)); refine blk_far ?_ NB422_425.out _; (with_reducible repeat (first | refine kn_ ?_ _ | refine kd_ ?_ | refine ka_ ?_ _)); exact BK422.out⟩
        have n1_ : Aside0 (((w30.setCell ⟨gb425, 0, none⟩ (.int .i64 ((rd_T100 l0_2 x12_1).f0))).setCell ⟨gb425, 1, none⟩ (.slice A424_1 ((rd_T100 l0_2 x12_1).f1).length c424_1)).heap[gb425]? = some (.cells #[.int .i64 ((rd_T100 l0_2 x12_1).f0), .slice A424_1 ((rd_T100 l0_2 x12_1).f1).length c424_1] 100 (0, 0))) := ⟨by (with_reducible repeat (first | refine kn_ ?_ _ | refine kd_ ?_ | refine ka_ ?_ _)); refine blk_put (cs := #[.int .i64 ((rd_T100 l0_2 x12_1).f0), .slice none 0 0]) ?_ 1 _ rfl; (with_reducible repeat (first | refine kn_ ?_ _ | refine kd_ ?_ | refine ka_ ?_ _)); refine blk_put (cs := #[.int .i64 0, .slice none 0 0]) ?_ 0 _ rfl; (with_reducible repeat (first | refine kn_ ?_ _ | refine kd_ ?_ | refine ka_ ?_ _)); exact BK425.out⟩
        have n2_ : Aside0 (Below w.heap.size w ((w30.setCell ⟨gb425, 0, none⟩ (.int .i64 ((rd_T100 l0_2 x12_1).f0))).setCell ⟨gb425, 1, none⟩ (.slice A424_1 ((rd_T100 l0_2 x12_1).f1).length c424_1))) := ⟨by repeat (first | (with_reducible first | exact HB.out | apply ba_ | apply bn_ | apply bd_ | refine below_set ?_ GE422.out | refine below_set ?_ GE425.out) | exact HB.out)⟩
        (try clear BK422)
        (try clear BK425)
        (try clear HB)
        generalize ((w30.setCell ⟨gb425, 0, none⟩ (.int .i64 ((rd_T100 l0_2 x12_1).f0))).setCell ⟨gb425, 1, none⟩ (.slice A424_1 ((rd_T100 l0_2 x12_1).f1).length c424_1)) = w33 at n0_ n1_ n2_ ⊢
        have BK422 := n0_
        have BK425 := n1_
        have HB := n2_
        clear n0_ n1_ n2_
        have n0_ := Aside0.mk (blk_drew BK422.out)
        have n1_ := Aside0.mk (blk_drew BK425.out)
        have n2_ := Aside0.mk (bd_ HB.out)
        clear BK422
        clear BK425
        clear HB
        have BK422 := n0_
        have BK425 := n1_
        have HB := n2_
        clear n0_ n1_ n2_
        refine start_ (n := 27) (S := fun w' => w'.cell? ⟨gb425, 0, none⟩ = some (.int .i64 ((rd_T100 l0_2 x12_1).f0)) ∧ w'.cell? ⟨gb425, 1, none⟩ = some (.slice A424_1 ((rd_T100 l0_2 x12_1).f1).length c424_1)) (ds := []) #[f_,f_,f_,f_,f_,f_,f_,f_,f_,f_,f_,f_,f_,f_,f_,f_,f_,f_,f_,f_,f_,f_,f_,f_,f_,f_,f_] (by kernel_rfl) rfl rfl ⟨(blk_cell BK425.out 0).trans rfl, (blk_cell BK425.out 1).trans rfl⟩ (fun hHeld => ?_); refine with_tabW impl_PartOk.tab4 impl_PartOk.bits4 (fun HT_ HW_ => ?_)
        generalize w33.drew = w34 at BK422 BK425 HB hHeld ⊢
        refine take_ (i := 0) (N := some 17) (v := ?_) (a' := ?_) #[t_,f_,f_,f_,f_,f_,f_,f_,f_,f_,f_,f_,f_,f_,f_,f_,f_,f_,f_,f_,f_,f_,f_,f_,f_,f_,f_] rfl rfl (take_ofW HT_.out HW_.out (by kernel_rfl)) (fun _ _ _ h => h) (Or.inl ⟨by rfl, ?_⟩) hHeld ?_ ?_
        rotate_left
        ·
         rintro w' ⟨s0, s1⟩
         go_simp
         with_reducible rfl
        rotate_left
        ·
         simp only [fr_]
         rfl
        refine one_ (i := 1) (N := some 18) #[t_,t_,f_,f_,f_,f_,f_,f_,f_,f_,f_,f_,f_,f_,f_,f_,f_,f_,f_,f_,f_,f_,f_,f_,f_,f_,f_] rfl rfl (one_of HT_.out (by kernel_rfl)) (by decide) (fun K hK => ?_)
        refine goes_ Try.func72 (by kernel_rfl) rfl #[.agg #[.int .i64 ((rd_T100 l0_2 x12_1).f0), .slice A424_1 ((rd_T100 l0_2 x12_1).f1).length c424_1]] (by rfl) rfl rfl (by (try simp only [mp_]); first | done | rfl | (simp only [List.length_drop, List.length_take]; rfl)) ?_
        with_reducible refine (impl_ChainOk.calls k1 ((rd_T100 l0_2 x12_1).f0) _ _ ((rd_T100 l0_2 x12_1).f1) true _ ?side1 ?side2 A9.out).mono ?_
        (case side1 => repeat (first | exact (Kd.C_below HR424_1.out HB.out) | (with_reducible first | refine ca_ ?_ _ | refine cn_ ?_ _ | refine cd_ ?_)))
        (case side2 => exact HC424_1.out)
        rintro e w35 ⟨rfl, hb⟩
        refine ⟨_, rfl, ?_⟩
        have n0_ := Aside0.mk (blk_below (g := gb422) (o := .cells #[.int .i64 a0_0, .int .i64 a0_1, .slice (some ad424) l0_2.length c0_2] 57 (0, 0)) (by (with_reducible repeat (first | refine kn_ ?_ _ | refine kd_ ?_ | refine ka_ ?_ _)); exact BK422.out) hb)
        have n1_ := Aside0.mk (blk_below (g := gb425) (o := .cells #[.int .i64 ((rd_T100 l0_2 x12_1).f0), .slice A424_1 ((rd_T100 l0_2 x12_1).f1).length c424_1] 100 (0, 0)) (by (with_reducible repeat (first | refine kn_ ?_ _ | refine kd_ ?_ | refine ka_ ?_ _)); exact BK425.out) hb)
        have n2_ := Aside0.mk (below_step (by repeat (first | (with_reducible first | exact HB.out | apply ba_ | apply bn_ | apply bd_ | refine below_set ?_ GE422.out | refine below_set ?_ GE425.out) | exact HB.out)) hb)
        clear BK422
        clear BK425
        clear HB
        have BK422 := n0_
        have BK425 := n1_
        have HB := n2_
        clear n0_ n1_ n2_
        (try clear hb)
        (try clear hb2)
        (try clear hk)
        (try clear hi)
        refine hK.out _ _ ⟨(blk_cell BK425.out 0).trans rfl, (blk_cell BK425.out 1).trans rfl⟩ (fun hHeld => ?_)
        clear hK K
        refine norm_ (a' := ?_) ?_ ?_
        rotate_left
        ·
         show Act.put _ (some 18) _ = _
         simp only [fr_]
         rfl
        refine pu_ 2 19 ?_ (b_ 3 24) rfl rfl HT_.out ?_ ?_ ?_ ?_; rotate_left; intro w'; go_simp; with_reducible rfl; rotate_left; simp only [fr_]; rfl
        refine pu_ 3 20 ?_ (b_ 4 23) rfl rfl HT_.out ?_ ?_ ?_ ?_; rotate_left; intro w'; go_simp; with_reducible rfl; rotate_left; simp only [fr_]; rfl
        refine pu_ 4 21 ?_ (b_ 5 22) rfl rfl HT_.out ?_ ?_ ?_ ?_; rotate_left; intro w'; go_simp; with_reducible rfl; rotate_left; simp only [fr_]; rfl
        refine pu_ 6 23 ?_ #[t_,t_,t_,t_,t_,f_,t_,f_,f_,f_,f_,f_,f_,f_,f_,f_,f_,f_,f_,f_,f_,f_,f_,f_,f_,f_,f_] rfl rfl HT_.out ?_ ?_ ?_ ?_; rotate_left; intro w'; go_simp; with_reducible rfl; rotate_left; simp only [fr_]; rfl
        refine pu_ 8 25 ?_ #[t_,t_,t_,t_,t_,f_,t_,f_,t_,f_,f_,f_,f_,f_,f_,f_,f_,f_,f_,f_,f_,f_,f_,f_,f_,f_,f_] rfl rfl HT_.out ?_ ?_ ?_ ?_; rotate_left; intro w'; go_simp; with_reducible rfl; rotate_left; simp only [fr_]; rfl
        refine take_ (i := 5) (N := some 22) (v := ?_) (a' := ?_) #[t_,t_,t_,t_,t_,t_,t_,f_,t_,f_,f_,f_,f_,f_,f_,f_,f_,f_,f_,f_,f_,f_,f_,f_,f_,f_,f_] rfl rfl (take_ofW HT_.out HW_.out (by kernel_rfl)) (fun _ _ _ h => h) (Or.inl ⟨by rfl, ?_⟩) hHeld ?_ ?_
        rotate_left
        ·
         rintro w' ⟨s0, s1⟩
         go_simp
         with_reducible rfl
        rotate_left
        ·
         simp only [fr_]
         rfl
        refine one_ (i := 7) (N := some 24) #[t_,t_,t_,t_,t_,t_,t_,t_,t_,f_,f_,f_,f_,f_,f_,f_,f_,f_,f_,f_,f_,f_,f_,f_,f_,f_,f_] rfl rfl (one_of HT_.out (by kernel_rfl)) (by decide) (fun K hK => ?_)
        refine goes_ Try.func59 (by kernel_rfl) rfl #[.int .i64 ((rd_T100 l0_2 x12_1).f0), .int .i64 a2] (by rfl) rfl rfl (by (try simp only [mp_]); first | done | rfl | (simp only [List.length_drop, List.length_take]; rfl)) ?_
        with_reducible refine (impl_PartOf.calls ((rd_T100 l0_2 x12_1).f0) a2 t427 _ A11.out).mono ?_
        rintro e w' ⟨rfl, ⟨nd, rfl⟩⟩
        refine ⟨_, rfl, ?_⟩
        refine hK.out _ _ ⟨(blk_cell BK425.out 0).trans rfl, (blk_cell BK425.out 1).trans rfl⟩ (fun hHeld => ?_)
        clear hK K
        refine norm_ (a' := ?_) ?_ ?_
        rotate_left
        ·
         show Act.put _ (some 24) _ = _
         simp only [fr_]
         rfl
        refine pu_ 9 26 ?_ (b_ 10 17) rfl rfl HT_.out ?_ ?_ ?_ ?_; rotate_left; intro w'; go_simp; with_reducible rfl; rotate_left; simp only [fr_]; rfl
        refine pu_ 10 27 ?_ (b_ 11 16) rfl rfl HT_.out ?_ ?_ ?_ ?_; rotate_left; intro w'; go_simp; with_reducible rfl; rotate_left; simp only [fr_]; rfl
        refine pu_ 11 28 ?_ (b_ 12 15) rfl rfl HT_.out ?_ ?_ ?_ ?_; rotate_left; intro w'; go_simp; with_reducible rfl; rotate_left; simp only [fr_]; rfl
        refine pu_ 12 29 ?_ (b_ 13 14) rfl rfl HT_.out ?_ ?_ ?_ ?_; rotate_left; intro w'; go_simp; with_reducible rfl; rotate_left; simp only [fr_]; rfl
        refine pu_ 13 30 ?_ (b_ 14 13) rfl rfl HT_.out ?_ ?_ ?_ ?_; rotate_left; intro w'; go_simp; with_reducible rfl; rotate_left; simp only [fr_]; rfl
        refine pu_ 14 31 ?_ (b_ 15 12) rfl rfl HT_.out ?_ ?_ ?_ ?_; rotate_left; intro w'; go_simp; with_reducible rfl; rotate_left; simp only [fr_]; rfl
        refine pv_ 15 32 ?_ (b_ 16 11) rfl rfl HT_.out ?_ ?_; rotate_left; simp only [fr_]; rfl
        refine pv_ 16 33 ?_ (b_ 17 10) rfl rfl HT_.out ?_ ?_; rotate_left; simp only [fr_]; rfl
        refine pv_ 17 34 ?_ (b_ 18 9) rfl rfl HT_.out ?_ ?_; rotate_left; simp only [fr_]; rfl
        refine pv_ 18 35 ?_ (b_ 19 8) rfl rfl HT_.out ?_ ?_; rotate_left; simp only [fr_]; rfl
        refine pv_ 19 36 ?_ (b_ 20 7) rfl rfl HT_.out ?_ ?_; rotate_left; simp only [fr_]; rfl
        refine pv_ 20 37 ?_ (b_ 21 6) rfl rfl HT_.out ?_ ?_; rotate_left; simp only [fr_]; rfl
        refine pv_ 21 38 ?_ (b_ 22 5) rfl rfl HT_.out ?_ ?_; rotate_left; simp only [fr_]; rfl
        refine pv_ 22 39 ?_ (b_ 23 4) rfl rfl HT_.out ?_ ?_; rotate_left; simp only [fr_]; rfl
        refine pv_ 23 40 ?_ (b_ 24 3) rfl rfl HT_.out ?_ ?_; rotate_left; simp only [fr_]; rfl
        refine pv_ 24 41 ?_ (b_ 25 2) rfl rfl HT_.out ?_ ?_; rotate_left; simp only [fr_]; rfl
        refine pu_ 25 42 ?_ (b_ 26 1) rfl rfl HT_.out ?_ ?_ ?_ ?_; rotate_left; intro w'; go_simp; with_reducible rfl; rotate_left; simp only [fr_]; rfl
        refine pu_ 26 43 ?_ (b_ 27 0) rfl rfl HT_.out ?_ ?_ ?_ ?_; rotate_left; intro w'; go_simp; with_reducible rfl; rotate_left; simp only [fr_]; rfl
        refine done_ (done_of HT_.out (by kernel_rfl)) ?_
        try go_wp2
        go_roundg k1
        case measure => have := HK1.out; omega
        case rel => exact ⟨(wrap64 (x12_1 + 1)), (by first | rfl | (simp; done) | (simp [*]; done)), H', ⟨by have := HK1.out; omega⟩, ⟨by (with_reducible repeat (first | refine kn_ ?_ _ | refine kd_ ?_ | refine ka_ ?_ _)); exact BK422.out⟩, ⟨by repeat (first | (with_reducible first | exact HB.out | apply ba_ | apply bn_ | apply bd_ | refine below_set ?_ GE422.out | refine below_set ?_ GE425.out) | exact HB.out)⟩⟩
       rw [if_neg c12] at H
       have c12b0 : (t427 == a1) = false := beq_eq_false_iff_ne.mpr c12
       have c12b1 : (t427 != a1) = true := bne_iff_ne.mpr c12
       obtain rfl := Option.some.inj H
       have p424 : 0 ≤ (x12_1 : Int) := of_decide_eq_true (by with_reducible assumption)
       have q424 : x12_1 < (l0_2.length : Int) := of_decide_eq_true (by with_reducible assumption)
       obtain ⟨ad424, A424_1, c424_1, e424, hx424_0, hx424_1, hl424_1, hi424_1⟩ := at_T100 HR0_2.out x12_1 p424 q424
       cases e424
       replace hx424_0 := cl_ HB.out hx424_0
       replace hx424_1 := cl_ HB.out hx424_1
       have HR424_1 := Aside0.mk hi424_1
       have HC424_1 := Aside0.mk hl424_1
       clear hi424_1 hl424_1
       replace p424 := eq_true p424
       replace q424 := eq_true q424
       try go_wp2_with (first | ((with_reducible refine gate_dst (N := 8) rfl ?_); refine box_event ?hg (N := 8) ?hd (cs := #[.int .i64 0, .slice none 0 0]) (t := 100) ?hr ?_; (case hd => rfl); (case hg => rfl); (case hr => first | (go_simp; done) | (go_simp; rfl)); intro gb425 hg w36 hbox hb; have n0_ := Aside0.mk (blk_below (g := gb422) (o := .cells #[.int .i64 a0_0, .int .i64 a0_1, .slice (some ad424) l0_2.length c0_2] 57 (0, 0)) (by (with_reducible repeat (first | refine kn_ ?_ _ | refine kd_ ?_ | refine ka_ ?_ _)); exact BK422.out) hb); have n1_ := Aside0.mk (below_step (by repeat (first | (with_reducible first | exact HB.out | apply ba_ | apply bn_ | apply bd_ | refine below_set ?_ GE422.out) | exact HB.out)) hb); have n2_ := Aside0.mk (hbox); have n3_ := Aside0.mk ((by rw [hg]; exact (below_size (by repeat (first | (with_reducible first | exact HB.out | apply ba_ | apply bn_ | apply bd_ | refine below_set ?_ GE422.out) | exact HB.out))) : w.heap.size ≤ gb425)); have n4_ := n3_; have n5_ := Aside0.mk ((by rw [hg]; exact Nat.ne_of_lt (blk_lt (g := gb422) (o := .cells #[.int .i64 a0_0, .int .i64 a0_1, .slice (some ad424) l0_2.length c0_2] 57 (0, 0)) (by (with_reducible repeat (first | refine kn_ ?_ _ | refine kd_ ?_ | refine ka_ ?_ _)); exact BK422.out)) : gb422 ≠ gb425)); have n6_ := Aside0.mk ((by rw [hg]; exact Nat.ne_of_gt (blk_lt (g := gb422) (o := .cells #[.int .i64 a0_0, .int .i64 a0_1, .slice (some ad424) l0_2.length c0_2] 57 (0, 0)) (by (with_reducible repeat (first | refine kn_ ?_ _ | refine kd_ ?_ | refine ka_ ?_ _)); exact BK422.out)) : gb425 ≠ gb422)); clear BK422; clear HB; have BK422 := n0_; have HB := n1_; have BK425 := n2_; have GW425 := n3_; have GE425 := n4_; have NB422_425 := n5_; have NB425_422 := n6_; clear n0_ n1_ n2_ n3_ n4_ n5_ n6_; clear hb hbox hg; have hnb37 := NB425_422.out; have hnc37 := NB422_425.out; have hcz38_0 : w36.cell? ⟨gb425, 0, none⟩ = some (.int .i64 0) := (blk_cell BK425.out 0).trans rfl; have hcz38_1 : w36.cell? ⟨gb425, 1, none⟩ = some (.slice none 0 0) := (blk_cell BK425.out 1).trans rfl; have hfz38_0 := blk_frozen BK425.out 0; have hfz38_1 := blk_frozen BK425.out 1))
       have n0_ : Aside0 (((w36.setCell ⟨gb425, 0, none⟩ (.int .i64 ((rd_T100 l0_2 x12_1).f0))).setCell ⟨gb425, 1, none⟩ (.slice A424_1 ((rd_T100 l0_2 x12_1).f1).length c424_1)).heap[gb422]? = some (.cells #[.int .i64 a0_0, .int .i64 a0_1, .slice (some ad424) l0_2.length c0_2] 57 (0, 0))) := ⟨by (with_reducible repeat (first | refine kn_ ?_ _ | refine kd_ ?_ | refine ka_ ?_ _)); refine blk_far ?_ NB422_425.out _; (with_reducible repeat (first | refine kn_ ?_ _ | refine kd_ ?_ | refine ka_ ?_ _)); refine blk_far ?_ NB422_425.out _; (with_reducible repeat (first | refine kn_ ?_ _ | refine kd_ ?_ | refine ka_ ?_ _)); exact BK422.out⟩
       have n1_ : Aside0 (((w36.setCell ⟨gb425, 0, none⟩ (.int .i64 ((rd_T100 l0_2 x12_1).f0))).setCell ⟨gb425, 1, none⟩ (.slice A424_1 ((rd_T100 l0_2 x12_1).f1).length c424_1)).heap[gb425]? = some (.cells #[.int .i64 ((rd_T100 l0_2 x12_1).f0), .slice A424_1 ((rd_T100 l0_2 x12_1).f1).length c424_1] 100 (0, 0))) := ⟨by (with_reducible repeat (first | refine kn_ ?_ _ | refine kd_ ?_ | refine ka_ ?_ _)); refine blk_put (cs := #[.int .i64 ((rd_T100 l0_2 x12_1).f0), .slice none 0 0]) ?_ 1 _ rfl; (with_reducible repeat (first | refine kn_ ?_ _ | refine kd_ ?_ | refine ka_ ?_ _)); refine blk_put (cs := #[.int .i64 0, .slice none 0 0]) ?_ 0 _ rfl; (with_reducible repeat (first | refine kn_ ?_ _ | refine kd_ ?_ | refine ka_ ?_ _)); exact BK425.out⟩
       have n2_ : Aside0 (Below w.heap.size w ((w36.setCell ⟨gb425, 0, none⟩ (.int .i64 ((rd_T100 l0_2 x12_1).f0))).setCell ⟨gb425, 1, none⟩ (.slice A424_1 ((rd_T100 l0_2 x12_1).f1).length c424_1))) := ⟨by repeat (first | (with_reducible first | exact HB.out | apply ba_ | apply bn_ | apply bd_ | refine below_set ?_ GE422.out | refine below_set ?_ GE425.out) | exact HB.out)⟩
       (try clear BK422)
       (try clear BK425)
       (try clear HB)
       generalize ((w36.setCell ⟨gb425, 0, none⟩ (.int .i64 ((rd_T100 l0_2 x12_1).f0))).setCell ⟨gb425, 1, none⟩ (.slice A424_1 ((rd_T100 l0_2 x12_1).f1).length c424_1)) = w39 at n0_ n1_ n2_ ⊢
       have BK422 := n0_
       have BK425 := n1_
       have HB := n2_
       clear n0_ n1_ n2_
       have n0_ := Aside0.mk (blk_drew BK422.out)
       have n1_ := Aside0.mk (blk_drew BK425.out)
       have n2_ := Aside0.mk (bd_ HB.out)
       clear BK422
       clear BK425
       clear HB
       have BK422 := n0_
       have BK425 := n1_
       have HB := n2_
       clear n0_ n1_ n2_
       refine start_ (n := 27) (S := fun w' => w'.cell? ⟨gb425, 0, none⟩ = some (.int .i64 ((rd_T100 l0_2 x12_1).f0)) ∧ w'.cell? ⟨gb425, 1, none⟩ = some (.slice A424_1 ((rd_T100 l0_2 x12_1).f1).length c424_1)) (ds := []) #[f_,f_,f_,f_,f_,f_,f_,f_,f_,f_,f_,f_,f_,f_,f_,f_,f_,f_,f_,f_,f_,f_,f_,f_,f_,f_,f_] (by kernel_rfl) rfl rfl ⟨(blk_cell BK425.out 0).trans rfl, (blk_cell BK425.out 1).trans rfl⟩ (fun hHeld => ?_); refine with_tabW impl_PartOk.tab4 impl_PartOk.bits4 (fun HT_ HW_ => ?_)
       generalize w39.drew = w40 at BK422 BK425 HB hHeld ⊢
       refine take_ (i := 0) (N := some 17) (v := ?_) (a' := ?_) #[t_,f_,f_,f_,f_,f_,f_,f_,f_,f_,f_,f_,f_,f_,f_,f_,f_,f_,f_,f_,f_,f_,f_,f_,f_,f_,f_] rfl rfl (take_ofW HT_.out HW_.out (by kernel_rfl)) (fun _ _ _ h => h) (Or.inl ⟨by rfl, ?_⟩) hHeld ?_ ?_
       rotate_left
       ·
        rintro w' ⟨s0, s1⟩
        go_simp
        with_reducible rfl
       rotate_left
       ·
        simp only [fr_]
        rfl
       refine one_ (i := 1) (N := some 18) #[t_,t_,f_,f_,f_,f_,f_,f_,f_,f_,f_,f_,f_,f_,f_,f_,f_,f_,f_,f_,f_,f_,f_,f_,f_,f_,f_] rfl rfl (one_of HT_.out (by kernel_rfl)) (by decide) (fun K hK => ?_)
       refine goes_ Try.func72 (by kernel_rfl) rfl #[.agg #[.int .i64 ((rd_T100 l0_2 x12_1).f0), .slice A424_1 ((rd_T100 l0_2 x12_1).f1).length c424_1]] (by rfl) rfl rfl (by (try simp only [mp_]); first | done | rfl | (simp only [List.length_drop, List.length_take]; rfl)) ?_
       with_reducible refine (impl_ChainOk.calls k1 ((rd_T100 l0_2 x12_1).f0) _ _ ((rd_T100 l0_2 x12_1).f1) true _ ?side1 ?side2 A9.out).mono ?_
       (case side1 => repeat (first | exact (Kd.C_below HR424_1.out HB.out) | (with_reducible first | refine ca_ ?_ _ | refine cn_ ?_ _ | refine cd_ ?_)))
       (case side2 => exact HC424_1.out)
       rintro e w41 ⟨rfl, hb⟩
       refine ⟨_, rfl, ?_⟩
       have n0_ := Aside0.mk (blk_below (g := gb422) (o := .cells #[.int .i64 a0_0, .int .i64 a0_1, .slice (some ad424) l0_2.length c0_2] 57 (0, 0)) (by (with_reducible repeat (first | refine kn_ ?_ _ | refine kd_ ?_ | refine ka_ ?_ _)); exact BK422.out) hb)
       have n1_ := Aside0.mk (blk_below (g := gb425) (o := .cells #[.int .i64 ((rd_T100 l0_2 x12_1).f0), .slice A424_1 ((rd_T100 l0_2 x12_1).f1).length c424_1] 100 (0, 0)) (by (with_reducible repeat (first | refine kn_ ?_ _ | refine kd_ ?_ | refine ka_ ?_ _)); exact BK425.out) hb)
       have n2_ := Aside0.mk (below_step (by repeat (first | (with_reducible first | exact HB.out | apply ba_ | apply bn_ | apply bd_ | refine below_set ?_ GE422.out | refine below_set ?_ GE425.out) | exact HB.out)) hb)
       clear BK422
       clear BK425
       clear HB
       have BK422 := n0_
       have BK425 := n1_
       have HB := n2_
       clear n0_ n1_ n2_
       (try clear hb)
       (try clear hb2)
       (try clear hk)
       (try clear hi)
       refine hK.out _ _ ⟨(blk_cell BK425.out 0).trans rfl, (blk_cell BK425.out 1).trans rfl⟩ (fun hHeld => ?_)
       clear hK K
       refine norm_ (a' := ?_) ?_ ?_
       rotate_left
       ·
        show Act.put _ (some 18) _ = _
        simp only [fr_]
        rfl
       refine pu_ 2 19 ?_ (b_ 3 24) rfl rfl HT_.out ?_ ?_ ?_ ?_; rotate_left; intro w'; go_simp; with_reducible rfl; rotate_left; simp only [fr_]; rfl
       refine pu_ 3 20 ?_ (b_ 4 23) rfl rfl HT_.out ?_ ?_ ?_ ?_; rotate_left; intro w'; go_simp; with_reducible rfl; rotate_left; simp only [fr_]; rfl
       refine pu_ 4 21 ?_ (b_ 5 22) rfl rfl HT_.out ?_ ?_ ?_ ?_; rotate_left; intro w'; go_simp; with_reducible rfl; rotate_left; simp only [fr_]; rfl
       refine pu_ 6 23 ?_ #[t_,t_,t_,t_,t_,f_,t_,f_,f_,f_,f_,f_,f_,f_,f_,f_,f_,f_,f_,f_,f_,f_,f_,f_,f_,f_,f_] rfl rfl HT_.out ?_ ?_ ?_ ?_; rotate_left; intro w'; go_simp; with_reducible rfl; rotate_left; simp only [fr_]; rfl
       refine pu_ 8 25 ?_ #[t_,t_,t_,t_,t_,f_,t_,f_,t_,f_,f_,f_,f_,f_,f_,f_,f_,f_,f_,f_,f_,f_,f_,f_,f_,f_,f_] rfl rfl HT_.out ?_ ?_ ?_ ?_; rotate_left; intro w'; go_simp; with_reducible rfl; rotate_left; simp only [fr_]; rfl
       refine take_ (i := 5) (N := some 22) (v := ?_) (a' := ?_) #[t_,t_,t_,t_,t_,t_,t_,f_,t_,f_,f_,f_,f_,f_,f_,f_,f_,f_,f_,f_,f_,f_,f_,f_,f_,f_,f_] rfl rfl (take_ofW HT_.out HW_.out (by kernel_rfl)) (fun _ _ _ h => h) (Or.inl ⟨by rfl, ?_⟩) hHeld ?_ ?_
       rotate_left
       ·
        rintro w' ⟨s0, s1⟩
        go_simp
        with_reducible rfl
       rotate_left
       ·
        simp only [fr_]
        rfl
       refine one_ (i := 7) (N := some 24) #[t_,t_,t_,t_,t_,t_,t_,t_,t_,f_,f_,f_,f_,f_,f_,f_,f_,f_,f_,f_,f_,f_,f_,f_,f_,f_,f_] rfl rfl (one_of HT_.out (by kernel_rfl)) (by decide) (fun K hK => ?_)
       refine goes_ Try.func59 (by kernel_rfl) rfl #[.int .i64 ((rd_T100 l0_2 x12_1).f0), .int .i64 a2] (by rfl) rfl rfl (by (try simp only [mp_]); first | done | rfl | (simp only [List.length_drop, List.length_take]; rfl)) ?_
       with_reducible refine (impl_PartOf.calls ((rd_T100 l0_2 x12_1).f0) a2 t427 _ A11.out).mono ?_
       rintro e w' ⟨rfl, ⟨nd, rfl⟩⟩
       refine ⟨_, rfl, ?_⟩
       refine hK.out _ _ ⟨(blk_cell BK425.out 0).trans rfl, (blk_cell BK425.out 1).trans rfl⟩ (fun hHeld => ?_)
       clear hK K
       refine norm_ (a' := ?_) ?_ ?_
       rotate_left
       ·
        show Act.put _ (some 24) _ = _
        simp only [fr_]
        rfl
       refine pu_ 9 26 ?_ (b_ 10 17) rfl rfl HT_.out ?_ ?_ ?_ ?_; rotate_left; intro w'; go_simp; with_reducible rfl; rotate_left; simp only [fr_]; rfl
       refine pu_ 10 27 ?_ (b_ 11 16) rfl rfl HT_.out ?_ ?_ ?_ ?_; rotate_left; intro w'; go_simp; with_reducible rfl; rotate_left; simp only [fr_]; rfl
       refine pu_ 11 28 ?_ (b_ 12 15) rfl rfl HT_.out ?_ ?_ ?_ ?_; rotate_left; intro w'; go_simp; with_reducible rfl; rotate_left; simp only [fr_]; rfl
       refine pv_ 12 29 ?_ (b_ 13 14) rfl rfl HT_.out ?_ ?_; rotate_left; simp only [fr_]; rfl
       refine pv_ 13 30 ?_ (b_ 14 13) rfl rfl HT_.out ?_ ?_; rotate_left; simp only [fr_]; rfl
       refine pv_ 14 31 ?_ (b_ 15 12) rfl rfl HT_.out ?_ ?_; rotate_left; simp only [fr_]; rfl
       refine pv_ 15 32 ?_ (b_ 16 11) rfl rfl HT_.out ?_ ?_; rotate_left; simp only [fr_]; rfl
       refine pv_ 16 33 ?_ (b_ 17 10) rfl rfl HT_.out ?_ ?_; rotate_left; simp only [fr_]; rfl
       refine pv_ 17 34 ?_ (b_ 18 9) rfl rfl HT_.out ?_ ?_; rotate_left; simp only [fr_]; rfl
       refine pv_ 18 35 ?_ (b_ 19 8) rfl rfl HT_.out ?_ ?_; rotate_left; simp only [fr_]; rfl
       refine pv_ 19 36 ?_ (b_ 20 7) rfl rfl HT_.out ?_ ?_; rotate_left; simp only [fr_]; rfl
       refine pv_ 20 37 ?_ (b_ 21 6) rfl rfl HT_.out ?_ ?_; rotate_left; simp only [fr_]; rfl
       refine pv_ 21 38 ?_ (b_ 22 5) rfl rfl HT_.out ?_ ?_; rotate_left; simp only [fr_]; rfl
       refine pv_ 22 39 ?_ (b_ 23 4) rfl rfl HT_.out ?_ ?_; rotate_left; simp only [fr_]; rfl
       refine pv_ 23 40 ?_ (b_ 24 3) rfl rfl HT_.out ?_ ?_; rotate_left; simp only [fr_]; rfl
       refine pv_ 24 41 ?_ (b_ 25 2) rfl rfl HT_.out ?_ ?_; rotate_left; simp only [fr_]; rfl
       refine pv_ 25 42 ?_ (b_ 26 1) rfl rfl HT_.out ?_ ?_; rotate_left; simp only [fr_]; rfl
       refine pu_ 26 43 ?_ (b_ 27 0) rfl rfl HT_.out ?_ ?_ ?_ ?_; rotate_left; intro w'; go_simp; with_reducible rfl; rotate_left; simp only [fr_]; rfl
       refine done_ (done_of HT_.out (by kernel_rfl)) ?_
       try go_wp2
       go_ret
       exact ⟨by first | rfl | (simp [errW_none, errW_some] <;> rfl) | (simp [*, errW_none, errW_some] <;> rfl), by repeat (first | (with_reducible first | exact HB.out | apply ba_ | apply bn_ | apply bd_ | refine below_set ?_ GE422.out | refine below_set ?_ GE425.out) | exact HB.out)⟩
      replace c10 := Bool.eq_false_iff.mpr c10
      subst c10
      rw [if_neg (show ¬ (false = true) by decide)] at H
      obtain rfl := Option.some.inj H
      have p424 : 0 ≤ (x12_1 : Int) := of_decide_eq_true (by with_reducible assumption)
      have q424 : x12_1 < (l0_2.length : Int) := of_decide_eq_true (by with_reducible assumption)
      obtain ⟨ad424, A424_1, c424_1, e424, hx424_0, hx424_1, hl424_1, hi424_1⟩ := at_T100 HR0_2.out x12_1 p424 q424
      cases e424
      replace hx424_0 := cl_ HB.out hx424_0
      replace hx424_1 := cl_ HB.out hx424_1
      have HR424_1 := Aside0.mk hi424_1
      have HC424_1 := Aside0.mk hl424_1
      clear hi424_1 hl424_1
      replace p424 := eq_true p424
      replace q424 := eq_true q424
      try go_wp2_with (first | ((with_reducible refine gate_dst (N := 8) rfl ?_); refine box_event ?hg (N := 8) ?hd (cs := #[.int .i64 0, .slice none 0 0]) (t := 100) ?hr ?_; (case hd => rfl); (case hg => rfl); (case hr => first | (go_simp; done) | (go_simp; rfl)); intro gb425 hg w42 hbox hb; have n0_ := Aside0.mk (blk_below (g := gb422) (o := .cells #[.int .i64 a0_0, .int .i64 a0_1, .slice (some ad424) l0_2.length c0_2] 57 (0, 0)) (by (with_reducible repeat (first | refine kn_ ?_ _ | refine kd_ ?_ | refine ka_ ?_ _)); exact BK422.out) hb); have n1_ := Aside0.mk (below_step (by repeat (first | (with_reducible first | exact HB.out | apply ba_ | apply bn_ | apply bd_ | refine below_set ?_ GE422.out) | exact HB.out)) hb); have n2_ := Aside0.mk (hbox); have n3_ := Aside0.mk ((by rw [hg]; exact (below_size (by repeat (first | (with_reducible first | exact HB.out | apply ba_ | apply bn_ | apply bd_ | refine below_set ?_ GE422.out) | exact HB.out))) : w.heap.size ≤ gb425)); have n4_ := n3_; have n5_ := Aside0.mk ((by rw [hg]; exact Nat.ne_of_lt (blk_lt (g := gb422) (o := .cells #[.int .i64 a0_0, .int .i64 a0_1, .slice (some ad424) l0_2.length c0_2] 57 (0, 0)) (by (with_reducible repeat (first | refine kn_ ?_ _ | refine kd_ ?_ | refine ka_ ?_ _)); exact BK422.out)) : gb422 ≠ gb425)); have n6_ := Aside0.mk ((by rw [hg]; exact Nat.ne_of_gt (blk_lt (g := gb422) (o := .cells #[.int .i64 a0_0, .int .i64 a0_1, .slice (some ad424) l0_2.length c0_2] 57 (0, 0)) (by (with_reducible repeat (first | refine kn_ ?_ _ | refine kd_ ?_ | refine ka_ ?_ _)); exact BK422.out)) : gb425 ≠ gb422)); clear BK422; clear HB; have BK422 := n0_; have HB := n1_; have BK425 := n2_; have GW425 := n3_; have GE425 := n4_; have NB422_425 := n5_; have NB425_422 := n6_; clear n0_ n1_ n2_ n3_ n4_ n5_ n6_; clear hb hbox hg; have hnb43 := NB425_422.out; have hnc43 := NB422_425.out; have hcz44_0 : w42.cell? ⟨gb425, 0, none⟩ = some (.int .i64 0) := (blk_cell BK425.out 0).trans rfl; have hcz44_1 : w42.cell? ⟨gb425, 1, none⟩ = some (.slice none 0 0) := (blk_cell BK425.out 1).trans rfl; have hfz44_0 := blk_frozen BK425.out 0; have hfz44_1 := blk_frozen BK425.out 1))
      have n0_ : Aside0 (((w42.setCell ⟨gb425, 0, none⟩ (.int .i64 ((rd_T100 l0_2 x12_1).f0))).setCell ⟨gb425, 1, none⟩ (.slice A424_1 ((rd_T100 l0_2 x12_1).f1).length c424_1)).heap[gb422]? = some (.cells #[.int .i64 a0_0, .int .i64 a0_1, .slice (some ad424) l0_2.length c0_2] 57 (0, 0))) := ⟨by (with_reducible repeat (first | refine kn_ ?_ _ | refine kd_ ?_ | refine ka_ ?_ _)); refine blk_far ?_ NB422_425.out _; (with_reducible repeat (first | refine kn_ ?_ _ | refine kd_ ?_ | refine ka_ ?_ _)); refine blk_far ?_ NB422_425.out _; (with_reducible repeat (first | refine kn_ ?_ _ | refine kd_ ?_ | refine ka_ ?_ _)); exact BK422.out⟩
      have n1_ : Aside0 (((w42.setCell ⟨gb425, 0, none⟩ (.int .i64 ((rd_T100 l0_2 x12_1).f0))).setCell ⟨gb425, 1, none⟩ (.slice A424_1 ((rd_T100 l0_2 x12_1).f1).length c424_1)).heap[gb425]? = some (.cells #[.int .i64 ((rd_T100 l0_2 x12_1).f0), .slice A424_1 ((rd_T100 l0_2 x12_1).f1).length c424_1] 100 (0, 0))) := ⟨by (with_reducible repeat (first | refine kn_ ?_ _ | refine kd_ ?_ | refine ka_ ?_ _)); refine blk_put (cs := #[.int .i64 ((rd_T100 l0_2 x12_1).f0), .slice none 0 0]) ?_ 1 _ rfl; (with_reducible repeat (first | refine kn_ ?_ _ | refine kd_ ?_ | refine ka_ ?_ _)); refine blk_put (cs := #[.int .i64 0, .slice none 0 0]) ?_ 0 _ rfl; (with_reducible repeat (first | refine kn_ ?_ _ | refine kd_ ?_ | refine ka_ ?_ _)); exact BK425.out⟩
      have n2_ : Aside0 (Below w.heap.size w ((w42.setCell ⟨gb425, 0, none⟩ (.int .i64 ((rd_T100 l0_2 x12_1).f0))).setCell ⟨gb425, 1, none⟩ (.slice A424_1 ((rd_T100 l0_2 x12_1).f1).length c424_1))) := ⟨by repeat (first | (with_reducible first | exact HB.out | apply ba_ | apply bn_ | apply bd_ | refine below_set ?_ GE422.out | refine below_set ?_ GE425.out) | exact HB.out)⟩
      (try clear BK422)
      (try clear BK425)
      (try clear HB)
      generalize ((w42.setCell ⟨gb425, 0, none⟩ (.int .i64 ((rd_T100 l0_2 x12_1).f0))).setCell ⟨gb425, 1, none⟩ (.slice A424_1 ((rd_T100 l0_2 x12_1).f1).length c424_1)) = w45 at n0_ n1_ n2_ ⊢
      have BK422 := n0_
      have BK425 := n1_
      have HB := n2_
      clear n0_ n1_ n2_
      have n0_ := Aside0.mk (blk_drew BK422.out)
      have n1_ := Aside0.mk (blk_drew BK425.out)
      have n2_ := Aside0.mk (bd_ HB.out)
      clear BK422
      clear BK425
      clear HB
      have BK422 := n0_
      have BK425 := n1_
      have HB := n2_
      clear n0_ n1_ n2_
      refine start_ (n := 27) (S := fun w' => w'.cell? ⟨gb425, 0, none⟩ = some (.int .i64 ((rd_T100 l0_2 x12_1).f0)) ∧ w'.cell? ⟨gb425, 1, none⟩ = some (.slice A424_1 ((rd_T100 l0_2 x12_1).f1).length c424_1)) (ds := []) #[f_,f_,f_,f_,f_,f_,f_,f_,f_,f_,f_,f_,f_,f_,f_,f_,f_,f_,f_,f_,f_,f_,f_,f_,f_,f_,f_] (by kernel_rfl) rfl rfl ⟨(blk_cell BK425.out 0).trans rfl, (blk_cell BK425.out 1).trans rfl⟩ (fun hHeld => ?_); refine with_tabW impl_PartOk.tab4 impl_PartOk.bits4 (fun HT_ HW_ => ?_)
      generalize w45.drew = w46 at BK422 BK425 HB hHeld ⊢
      refine take_ (i := 0) (N := some 17) (v := ?_) (a' := ?_) #[t_,f_,f_,f_,f_,f_,f_,f_,f_,f_,f_,f_,f_,f_,f_,f_,f_,f_,f_,f_,f_,f_,f_,f_,f_,f_,f_] rfl rfl (take_ofW HT_.out HW_.out (by kernel_rfl)) (fun _ _ _ h => h) (Or.inl ⟨by rfl, ?_⟩) hHeld ?_ ?_
      rotate_left
      ·
       rintro w' ⟨s0, s1⟩
       go_simp
       with_reducible rfl
      rotate_left
      ·
       simp only [fr_]
       rfl
      refine one_ (i := 1) (N := some 18) #[t_,t_,f_,f_,f_,f_,f_,f_,f_,f_,f_,f_,f_,f_,f_,f_,f_,f_,f_,f_,f_,f_,f_,f_,f_,f_,f_] rfl rfl (one_of HT_.out (by kernel_rfl)) (by decide) (fun K hK => ?_)
      refine goes_ Try.func72 (by kernel_rfl) rfl #[.agg #[.int .i64 ((rd_T100 l0_2 x12_1).f0), .slice A424_1 ((rd_T100 l0_2 x12_1).f1).length c424_1]] (by rfl) rfl rfl (by (try simp only [mp_]); first | done | rfl | (simp only [List.length_drop, List.length_take]; rfl)) ?_
      with_reducible refine (impl_ChainOk.calls k1 ((rd_T100 l0_2 x12_1).f0) _ _ ((rd_T100 l0_2 x12_1).f1) false _ ?side1 ?side2 A9.out).mono ?_
      (case side1 => repeat (first | exact (Kd.C_below HR424_1.out HB.out) | (with_reducible first | refine ca_ ?_ _ | refine cn_ ?_ _ | refine cd_ ?_)))
      (case side2 => exact HC424_1.out)
      rintro e w47 ⟨rfl, hb⟩
      refine ⟨_, rfl, ?_⟩
      have n0_ := Aside0.mk (blk_below (g := gb422) (o := .cells #[.int .i64 a0_0, .int .i64 a0_1, .slice (some ad424) l0_2.length c0_2] 57 (0, 0)) (by (with_reducible repeat (first | refine kn_ ?_ _ | refine kd_ ?_ | refine ka_ ?_ _)); exact BK422.out) hb)
      have n1_ := Aside0.mk (blk_below (g := gb425) (o := .cells #[.int .i64 ((rd_T100 l0_2 x12_1).f0), .slice A424_1 ((rd_T100 l0_2 x12_1).f1).length c424_1] 100 (0, 0)) (by (with_reducible repeat (first | refine kn_ ?_ _ | refine kd_ ?_ | refine ka_ ?_ _)); exact BK425.out) hb)
      have n2_ := Aside0.mk (below_step (by repeat (first | (with_reducible first | exact HB.out | apply ba_ | apply bn_ | apply bd_ | refine below_set ?_ GE422.out | refine below_set ?_ GE425.out) | exact HB.out)) hb)
      clear BK422
      clear BK425
      clear HB
      have BK422 := n0_
      have BK425 := n1_
      have HB := n2_
      clear n0_ n1_ n2_
      (try clear hb)
      (try clear hb2)
      (try clear hk)
      (try clear hi)
      refine hK.out _ _ ⟨(blk_cell BK425.out 0).trans rfl, (blk_cell BK425.out 1).trans rfl⟩ (fun hHeld => ?_)
      clear hK K
      refine norm_ (a' := ?_) ?_ ?_
      rotate_left
      ·
       show Act.put _ (some 18) _ = _
       simp only [fr_]
       rfl
      refine pu_ 2 19 ?_ (b_ 3 24) rfl rfl HT_.out ?_ ?_ ?_ ?_; rotate_left; intro w'; go_simp; with_reducible rfl; rotate_left; simp only [fr_]; rfl
      refine pu_ 3 20 ?_ (b_ 4 23) rfl rfl HT_.out ?_ ?_ ?_ ?_; rotate_left; intro w'; go_simp; with_reducible rfl; rotate_left; simp only [fr_]; rfl
      refine pv_ 4 21 ?_ (b_ 5 22) rfl rfl HT_.out ?_ ?_; rotate_left; simp only [fr_]; rfl
      refine pv_ 5 22 ?_ (b_ 6 21) rfl rfl HT_.out ?_ ?_; rotate_left; simp only [fr_]; rfl
      refine pv_ 6 23 ?_ (b_ 7 20) rfl rfl HT_.out ?_ ?_; rotate_left; simp only [fr_]; rfl
      refine pv_ 7 24 ?_ (b_ 8 19) rfl rfl HT_.out ?_ ?_; rotate_left; simp only [fr_]; rfl
      refine pv_ 8 25 ?_ (b_ 9 18) rfl rfl HT_.out ?_ ?_; rotate_left; simp only [fr_]; rfl
      refine pv_ 9 26 ?_ (b_ 10 17) rfl rfl HT_.out ?_ ?_; rotate_left; simp only [fr_]; rfl
      refine pu_ 10 27 ?_ (b_ 11 16) rfl rfl HT_.out ?_ ?_ ?_ ?_; rotate_left; intro w'; go_simp; with_reducible rfl; rotate_left; simp only [fr_]; rfl
      refine pu_ 11 28 ?_ (b_ 12 15) rfl rfl HT_.out ?_ ?_ ?_ ?_; rotate_left; intro w'; go_simp; with_reducible rfl; rotate_left; simp only [fr_]; rfl
      refine pv_ 12 29 ?_ (b_ 13 14) rfl rfl HT_.out ?_ ?_; rotate_left; simp only [fr_]; rfl
      refine pv_ 13 30 ?_ (b_ 14 13) rfl rfl HT_.out ?_ ?_; rotate_left; simp only [fr_]; rfl
      refine pv_ 14 31 ?_ (b_ 15 12) rfl rfl HT_.out ?_ ?_; rotate_left; simp only [fr_]; rfl
      refine pv_ 15 32 ?_ (b_ 16 11) rfl rfl HT_.out ?_ ?_; rotate_left; simp only [fr_]; rfl
      refine pv_ 16 33 ?_ (b_ 17 10) rfl rfl HT_.out ?_ ?_; rotate_left; simp only [fr_]; rfl
      refine pv_ 17 34 ?_ (b_ 18 9) rfl rfl HT_.out ?_ ?_; rotate_left; simp only [fr_]; rfl
      refine pv_ 18 35 ?_ (b_ 19 8) rfl rfl HT_.out ?_ ?_; rotate_left; simp only [fr_]; rfl
      refine pv_ 19 36 ?_ (b_ 20 7) rfl rfl HT_.out ?_ ?_; rotate_left; simp only [fr_]; rfl
      refine pv_ 20 37 ?_ (b_ 21 6) rfl rfl HT_.out ?_ ?_; rotate_left; simp only [fr_]; rfl
      refine pv_ 21 38 ?_ (b_ 22 5) rfl rfl HT_.out ?_ ?_; rotate_left; simp only [fr_]; rfl
      refine pv_ 22 39 ?_ (b_ 23 4) rfl rfl HT_.out ?_ ?_; rotate_left; simp only [fr_]; rfl
      refine pv_ 23 40 ?_ (b_ 24 3) rfl rfl HT_.out ?_ ?_; rotate_left; simp only [fr_]; rfl
      refine pv_ 24 41 ?_ (b_ 25 2) rfl rfl HT_.out ?_ ?_; rotate_left; simp only [fr_]; rfl
      refine pv_ 25 42 ?_ (b_ 26 1) rfl rfl HT_.out ?_ ?_; rotate_left; simp only [fr_]; rfl
      refine pu_ 26 43 ?_ (b_ 27 0) rfl rfl HT_.out ?_ ?_ ?_ ?_; rotate_left; intro w'; go_simp; with_reducible rfl; rotate_left; simp only [fr_]; rfl
      refine done_ (done_of HT_.out (by kernel_rfl)) ?_
      try go_wp2
      go_ret
      exact ⟨by first | rfl | (simp [errW_none, errW_some] <;> rfl) | (simp [*, errW_none, errW_some] <;> rfl), by repeat (first | (with_reducible first | exact HB.out | apply ba_ | apply bn_ | apply bd_ | refine below_set ?_ GE422.out | refine below_set ?_ GE425.out) | exact HB.out)⟩
     rw [if_neg c8] at H
     exact absurd H (by simp)
    rw [if_neg c7] at H
    exact absurd H (by simp)
   rw [if_neg c6] at H
   have c6b0 : decide (x12_1 < (l0_2.length : Int)) = false := decide_eq_false c6
   clear c6
   replace H := Option.bind_eq_some_iff.mp H
   obtain ⟨t423, A480, H⟩ := H
   have A48 := Aside0.mk A480
   clear A480
   by_cases c49 : t423 = true
   ·
    subst c49
    rw [if_pos rfl] at H
    obtain rfl := Option.some.inj H
    have hcz50_0 : wr.cell? ⟨gb422, 0, none⟩ = some (.int .i64 a0_0) := (blk_cell BK422.out 0).trans rfl
    have hcz50_1 : wr.cell? ⟨gb422, 1, none⟩ = some (.int .i64 a0_1) := (blk_cell BK422.out 1).trans rfl
    have hcz50_2 : wr.cell? ⟨gb422, 2, none⟩ = some (.slice A0_2 l0_2.length c0_2) := (blk_cell BK422.out 2).trans rfl
    have hfz50_0 := blk_frozen BK422.out 0
    have hfz50_1 := blk_frozen BK422.out 1
    have hfz50_2 := blk_frozen BK422.out 2
    go_wp2_with (first | ((with_reducible refine gate_callee (f := 73) rfl ?_); refine goesL_ (some 47) rfl rfl Try.func73 (by kernel_rfl) rfl #[.int .i64 a0_0, .int .i64 (-1), .int .i64 4] rfl (by (try simp only [mp_]); first | done | rfl | (simp only [List.length_drop, List.length_take]; rfl)) ?_; (with_reducible refine (impl_in.calls a0_0 (-1) 4 true _ A48.out).mono ?_); rintro e w' ⟨rfl, ⟨nd, rfl⟩⟩; refine ⟨_, rfl, ?_⟩))
    go_ret
    exact ⟨by first | rfl | (simp [errW_none, errW_some] <;> rfl) | (simp [*, errW_none, errW_some] <;> rfl), by repeat (first | (with_reducible first | exact HB.out | apply ba_ | apply bn_ | apply bd_ | refine below_set ?_ GE422.out) | exact HB.out)⟩
   replace c49 := Bool.eq_false_iff.mpr c49
   subst c49
   rw [if_neg (show ¬ (false = true) by decide)] at H
   obtain rfl := Option.some.inj H
   have hcz51_0 : wr.cell? ⟨gb422, 0, none⟩ = some (.int .i64 a0_0) := (blk_cell BK422.out 0).trans rfl
   have hcz51_1 : wr.cell? ⟨gb422, 1, none⟩ = some (.int .i64 a0_1) := (blk_cell BK422.out 1).trans rfl
   have hcz51_2 : wr.cell? ⟨gb422, 2, none⟩ = some (.slice A0_2 l0_2.length c0_2) := (blk_cell BK422.out 2).trans rfl
   have hfz51_0 := blk_frozen BK422.out 0
   have hfz51_1 := blk_frozen BK422.out 1
   have hfz51_2 := blk_frozen BK422.out 2
   go_wp2_with (first | ((with_reducible refine gate_callee (f := 73) rfl ?_); refine goesL_ (some 47) rfl rfl Try.func73 (by kernel_rfl) rfl #[.int .i64 a0_0, .int .i64 (-1), .int .i64 4] rfl (by (try simp only [mp_]); first | done | rfl | (simp only [List.length_drop, List.length_take]; rfl)) ?_; (with_reducible refine (impl_in.calls a0_0 (-1) 4 false _ A48.out).mono ?_); rintro e w' ⟨rfl, ⟨nd, rfl⟩⟩; refine ⟨_, rfl, ?_⟩))
   go_ret
   exact ⟨by first | rfl | (simp [errW_none, errW_some] <;> rfl) | (simp [*, errW_none, errW_some] <;> rfl), by repeat (first | (with_reducible first | exact HB.out | apply ba_ | apply bn_ | apply bd_ | refine below_set ?_ GE422.out) | exact HB.out)⟩
def impl_StoreOk.l0 : Nat → List (S57) → List (S57) → Int → Int → Option (Bool)
 | 0, _, _, _, _ => none
 | k + 1, x0, x9, x10, x11 => if x11 < x10 then (if 0 ≤ x11 then (if x11 < (x9.length : Int) then ((impl_PartOk.f k ((rd_T57 x9 x11).f0) ((rd_T57 x9 x11).f1) ((rd_T57 x9 x11).f2) x11 (x0.length : Int)).bind fun t456 => (if t456 = true then (impl_StoreOk.l0 k x0 x9 x10 (wrap64 (x11 + 1))) else (some false))) else (none)) else (none)) else (some true)
def impl_StoreOk.f (k : Nat) (l0 : List (S57)) : Option (Bool) := (impl_in.f (l0.length : Int) 1 3).bind fun t453 => (if t453 = true then (impl_StoreOk.l0 k l0 l0 (l0.length : Int) 0) else (some false))
theorem impl_StoreOk.mono_l : ∀ k, (∀ y0 y1 y2 y3, LeO (impl_StoreOk.l0 k y0 y1 y2 y3) (impl_StoreOk.l0 (k + 1) y0 y1 y2 y3))
 | 0 => fun _ _ _ _ r h => by simp [impl_StoreOk.l0] at h
 | k + 1 => by
  have ih0 := impl_StoreOk.mono_l k
  intro y0 y1 y2 y3
  unfold impl_StoreOk.l0
  repeat' first
  | (with_reducible exact ih0 _ _ _ _)
  | (with_reducible exact impl_PartOk.mono _ _ _ _ _ _)
  | (with_reducible exact LeO.refl _)
  | (with_reducible exact LeO.none _)
  | (with_reducible refine LeO.ite ?_ ?_)
  | (with_reducible refine LeO.bind ?_ (fun _ => ?_))
  | exact ih0 _ _ _ _
  | exact impl_PartOk.mono _ _ _ _ _ _
theorem impl_StoreOk.mono : ∀ a0 k, LeO (impl_StoreOk.f k a0) (impl_StoreOk.f (k + 1) a0) := by
 intro a0 k
 have ih0 := impl_StoreOk.mono_l k
 unfold impl_StoreOk.f
 repeat' first
   | (with_reducible exact ih0 _ _ _ _)
   | (with_reducible exact impl_PartOk.mono _ _ _ _ _ _)
   | (with_reducible exact LeO.refl _)
   | (with_reducible exact LeO.none _)
   | (with_reducible refine LeO.ite ?_ ?_)
   | (with_reducible refine LeO.bind ?_ (fun _ => ?_))
   | exact ih0 _ _ _ _
   | exact impl_PartOk.mono _ _ _ _ _ _
theorem impl_StoreOk.calls (k : Nat) (A0 : Option Addr) (c0 : Nat) (l0 : List (S57)) (r : Bool) (w : World) (hr0 : Kd.C k57 w A0 l0.length l0) (hc0 : l0.length ≤ c0) (h : impl_StoreOk.f k l0 = some r) :
  Calls Try.prog 31 #[.slice A0 l0.length c0] w fun e w' => e = .returned (.bool r) ∧ Below w.heap.size w w' := by
 have hu57 := Try.underlying57
 have HR0 := Aside0.mk hr0
 have HC0 := Aside0.mk hc0
 clear hr0 hc0
 have HB := Aside0.mk (Below.refl w.heap.size w)
 have H : ((impl_in.f (l0.length : Int) 1 3).bind fun t453 => (if t453 = true then (impl_StoreOk.l0 k l0 l0 (l0.length : Int) 0) else (some false))) = some r := h
 clear h
 replace H := Option.bind_eq_some_iff.mp H
 obtain ⟨t453, A20, H⟩ := H
 have A2 := Aside0.mk A20
 clear A20
 by_cases c3 : t453 = true
 ·
  subst c3
  rw [if_pos rfl] at H
  have H' := Aside0.mk H
  clear H
  go_enter Try.func31, Try.ntmps31
  go_wp2_with (first | ((with_reducible refine gate_callee (f := 73) rfl ?_); refine goesL_ (some 7) rfl rfl Try.func73 (by kernel_rfl) rfl #[.int .i64 (l0.length : Int), .int .i64 1, .int .i64 3] rfl (by (try simp only [mp_]); first | done | rfl | (simp only [List.length_drop, List.length_take]; rfl)) ?_; (with_reducible refine (impl_in.calls (l0.length : Int) 1 3 true _ A2.out).mono ?_); rintro e w' ⟨rfl, ⟨nd, rfl⟩⟩; refine ⟨_, rfl, ?_⟩))
  go_loopg [11] k (fun kq v11 w' => ∃ (x11_1 : Int), v11 = .int .i64 x11_1 ∧ Aside0 (impl_StoreOk.l0 kq l0 l0 (l0.length : Int) x11_1 = some r) ∧ Aside0 (kq ≤ k) ∧ Aside0 (Below w.heap.size w w'))
  case atStart => exact ⟨(0), (by first | rfl | (simp; done) | (simp [*]; done)), H', ⟨Nat.le_refl _⟩, ⟨by repeat (first | (with_reducible first | exact HB.out | apply ba_ | apply bn_ | apply bd_) | exact HB.out)⟩⟩
  case round =>
   clear H'
   try clear p2
   try clear c3
   obtain ⟨x11_1, rfl, HA, HK1, HB⟩ := hrel
   cases gk with
   | zero => exact absurd HA.out (by simp [impl_StoreOk.l0])
   | succ k1 =>
    have H := HA.out
    clear HA
    simp only [impl_StoreOk.l0] at H
    by_cases c4 : x11_1 < (l0.length : Int)
    ·
     rw [if_pos c4] at H
     have c4b0 := decide_eq_true c4
     clear c4
     by_cases c5 : 0 ≤ x11_1
     ·
      rw [if_pos c5] at H
      have c5b0 := decide_eq_true c5
      clear c5
      by_cases c6 : x11_1 < (l0.length : Int)
      ·
       rw [if_pos c6] at H
       have c6b0 := decide_eq_true c6
       clear c6
       replace H := Option.bind_eq_some_iff.mp H
       obtain ⟨t456, A70, H⟩ := H
       have A7 := Aside0.mk A70
       clear A70
       by_cases c8 : t456 = true
       ·
        subst c8
        rw [if_pos rfl] at H
        have H' := Aside0.mk H
        clear H
        have p454 : 0 ≤ (x11_1 : Int) := of_decide_eq_true (by with_reducible assumption)
        have q454 : x11_1 < (l0.length : Int) := of_decide_eq_true (by with_reducible assumption)
        obtain ⟨ad454, A454_2, c454_2, e454, hx454_0, hx454_1, hx454_2, hl454_2, hi454_2⟩ := at_T57 HR0.out x11_1 p454 q454
        cases e454
        replace hx454_0 := cl_ HB.out hx454_0
        replace hx454_1 := cl_ HB.out hx454_1
        replace hx454_2 := cl_ HB.out hx454_2
        have HR454_2 := Aside0.mk hi454_2
        have HC454_2 := Aside0.mk hl454_2
        clear hi454_2 hl454_2
        replace p454 := eq_true p454
        replace q454 := eq_true q454
        go_wp2_with (first | ((with_reducible refine gate_dst (N := 4) rfl ?_); refine box_event ?hg (N := 4) ?hd (cs := #[.int .i64 0, .int .i64 0, .slice none 0 0]) (t := 57) ?hr ?_; (case hd => rfl); (case hg => rfl); (case hr => first | (go_simp; done) | (go_simp; rfl)); intro gb455 hg w9 hbox hb; have n0_ := Aside0.mk (below_step (by repeat (first | (with_reducible first | exact HB.out | apply ba_ | apply bn_ | apply bd_) | exact HB.out)) hb); have BK455 := Aside0.mk (hbox); have GW455 := Aside0.mk ((by rw [hg]; exact (below_size (by repeat (first | (with_reducible first | exact HB.out | apply ba_ | apply bn_ | apply bd_) | exact HB.out))) : w.heap.size ≤ gb455)); have GE455 := GW455; clear HB; have HB := n0_; clear n0_; clear hb hbox hg; have hcz10_0 : w9.cell? ⟨gb455, 0, none⟩ = some (.int .i64 0) := (blk_cell BK455.out 0).trans rfl; have hcz10_1 : w9.cell? ⟨gb455, 1, none⟩ = some (.int .i64 0) := (blk_cell BK455.out 1).trans rfl; have hcz10_2 : w9.cell? ⟨gb455, 2, none⟩ = some (.slice none 0 0) := (blk_cell BK455.out 2).trans rfl; have hfz10_0 := blk_frozen BK455.out 0; have hfz10_1 := blk_frozen BK455.out 1; have hfz10_2 := blk_frozen BK455.out 2) | ((with_reducible refine gate_callee (f := 28) rfl ?_); refine goesL_ (some 20) rfl rfl Try.func28 (by kernel_rfl) rfl #[.agg #[.int .i64 ((rd_T57 l0 x11_1).f0), .int .i64 ((rd_T57 l0 x11_1).f1), .slice A454_2 ((rd_T57 l0 x11_1).f2).length c454_2], .int .i64 x11_1, .int .i64 (l0.length : Int)] rfl (by (try simp only [mp_]); first | done | rfl | (simp only [List.length_drop, List.length_take]; rfl)) ?_; (with_reducible refine (impl_PartOk.calls k1 ((rd_T57 l0 x11_1).f0) ((rd_T57 l0 x11_1).f1) _ _ ((rd_T57 l0 x11_1).f2) x11_1 (l0.length : Int) true _ ?side1 ?side2 A7.out).mono ?_); (case side1 => exact Kd.C_below HR454_2.out (by repeat (first | (with_reducible first | exact HB.out | apply ba_ | apply bn_ | apply bd_ | refine below_set ?_ GE455.out) | exact HB.out))); (case side2 => exact HC454_2.out); rintro e w11 ⟨rfl, hb⟩; refine ⟨_, rfl, ?_⟩; have n0_ := Aside0.mk (blk_below (g := gb455) (o := .cells #[.int .i64 ((rd_T57 l0 x11_1).f0), .int .i64 ((rd_T57 l0 x11_1).f1), .slice A454_2 ((rd_T57 l0 x11_1).f2).length c454_2] 57 (0, 0)) (by (with_reducible repeat (first | refine kn_ ?_ _ | refine kd_ ?_ | refine ka_ ?_ _)); refine blk_put (cs := #[.int .i64 ((rd_T57 l0 x11_1).f0), .int .i64 ((rd_T57 l0 x11_1).f1), .slice none 0 0]) ?_ 2 _ rfl; (with_reducible repeat (first | refine kn_ ?_ _ | refine kd_ ?_ | refine ka_ ?_ _)); refine blk_put (cs := #[.int .i64 ((rd_T57 l0 x11_1).f0), .int .i64 0, .slice none 0 0]) ?_ 1 _ rfl; (with_reducible repeat (first | refine kn_ ?_ _ | refine kd_ ?_ | refine ka_ ?_ _)); refine blk_put (cs := #[.int .i64 0, .int .i64 0, .slice none 0 0]) ?_ 0 _ rfl; (with_reducible repeat (first | refine kn_ ?_ _ | refine kd_ ?_ | refine ka_ ?_ _)); exact BK455.out) hb); have n1_ := Aside0.mk (below_step (by repeat (first | (with_reducible first | exact HB.out | apply ba_ | apply bn_ | apply bd_ | refine below_set ?_ GE455.out) | exact HB.out)) hb); clear BK455; clear HB; have BK455 := n0_; have HB := n1_; clear n0_ n1_; (try clear hb); (try clear hb2); (try clear hk); (try clear hi)))
        go_roundg k1
        case measure => have := HK1.out; omega
        case rel => exact ⟨(wrap64 (x11_1 + 1)), (by first | rfl | (simp; done) | (simp [*]; done)), H', ⟨by have := HK1.out; omega⟩, ⟨by repeat (first | (with_reducible first | exact HB.out | apply ba_ | apply bn_ | apply bd_ | refine below_set ?_ GE455.out) | exact HB.out)⟩⟩
       replace c8 := Bool.eq_false_iff.mpr c8
       subst c8
       rw [if_neg (show ¬ (false = true) by decide)] at H
       obtain rfl := Option.some.inj H
       have p454 : 0 ≤ (x11_1 : Int) := of_decide_eq_true (by with_reducible assumption)
       have q454 : x11_1 < (l0.length : Int) := of_decide_eq_true (by with_reducible assumption)
       obtain ⟨ad454, A454_2, c454_2, e454, hx454_0, hx454_1, hx454_2, hl454_2, hi454_2⟩ := at_T57 HR0.out x11_1 p454 q454
       cases e454
       replace hx454_0 := cl_ HB.out hx454_0
       replace hx454_1 := cl_ HB.out hx454_1
       replace hx454_2 := cl_ HB.out hx454_2
       have HR454_2 := Aside0.mk hi454_2
       have HC454_2 := Aside0.mk hl454_2
       clear hi454_2 hl454_2
       replace p454 := eq_true p454
       replace q454 := eq_true q454
       go_wp2_with (first | ((with_reducible refine gate_dst (N := 4) rfl ?_); refine box_event ?hg (N := 4) ?hd (cs := #[.int .i64 0, .int .i64 0, .slice none 0 0]) (t := 57) ?hr ?_; (case hd => rfl); (case hg => rfl); (case hr => first | (go_simp; done) | (go_simp; rfl)); intro gb455 hg w12 hbox hb; have n0_ := Aside0.mk (below_step (by repeat (first | (with_reducible first | exact HB.out | apply ba_ | apply bn_ | apply bd_) | exact HB.out)) hb); have BK455 := Aside0.mk (hbox); have GW455 := Aside0.mk ((by rw [hg]; exact (below_size (by repeat (first | (with_reducible first | exact HB.out | apply ba_ | apply bn_ | apply bd_) | exact HB.out))) : w.heap.size ≤ gb455)); have GE455 := GW455; clear HB; have HB := n0_; clear n0_; clear hb hbox hg; have hcz13_0 : w12.cell? ⟨gb455, 0, none⟩ = some (.int .i64 0) := (blk_cell BK455.out 0).trans rfl; have hcz13_1 : w12.cell? ⟨gb455, 1, none⟩ = some (.int .i64 0) := (blk_cell BK455.out 1).trans rfl; have hcz13_2 : w12.cell? ⟨gb455, 2, none⟩ = some (.slice none 0 0) := (blk_cell BK455.out 2).trans rfl; have hfz13_0 := blk_frozen BK455.out 0; have hfz13_1 := blk_frozen BK455.out 1; have hfz13_2 := blk_frozen BK455.out 2) | ((with_reducible refine gate_callee (f := 28) rfl ?_); refine goesL_ (some 20) rfl rfl Try.func28 (by kernel_rfl) rfl #[.agg #[.int .i64 ((rd_T57 l0 x11_1).f0), .int .i64 ((rd_T57 l0 x11_1).f1), .slice A454_2 ((rd_T57 l0 x11_1).f2).length c454_2], .int .i64 x11_1, .int .i64 (l0.length : Int)] rfl (by (try simp only [mp_]); first | done | rfl | (simp only [List.length_drop, List.length_take]; rfl)) ?_; (with_reducible refine (impl_PartOk.calls k1 ((rd_T57 l0 x11_1).f0) ((rd_T57 l0 x11_1).f1) _ _ ((rd_T57 l0 x11_1).f2) x11_1 (l0.length : Int) false _ ?side1 ?side2 A7.out).mono ?_); (case side1 => exact Kd.C_below HR454_2.out (by repeat (first | (with_reducible first | exact HB.out | apply ba_ | apply bn_ | apply bd_ | refine below_set ?_ GE455.out) | exact HB.out))); (case side2 => exact HC454_2.out); rintro e w14 ⟨rfl, hb⟩; refine ⟨_, rfl, ?_⟩; have n0_ := Aside0.mk (blk_below (g := gb455) (o := .cells #[.int .i64 ((rd_T57 l0 x11_1).f0), .int .i64 ((rd_T57 l0 x11_1).f1), .slice A454_2 ((rd_T57 l0 x11_1).f2).length c454_2] 57 (0, 0)) (by (with_reducible repeat (first | refine kn_ ?_ _ | refine kd_ ?_ | refine ka_ ?_ _)); refine blk_put (cs := #[.int .i64 ((rd_T57 l0 x11_1).f0), .int .i64 ((rd_T57 l0 x11_1).f1), .slice none 0 0]) ?_ 2 _ rfl; (with_reducible repeat (first | refine kn_ ?_ _ | refine kd_ ?_ | refine ka_ ?_ _)); refine blk_put (cs := #[.int .i64 ((rd_T57 l0 x11_1).f0), .int .i64 0, .slice none 0 0]) ?_ 1 _ rfl; (with_reducible repeat (first | refine kn_ ?_ _ | refine kd_ ?_ | refine ka_ ?_ _)); refine blk_put (cs := #[.int .i64 0, .int .i64 0, .slice none 0 0]) ?_ 0 _ rfl; (with_reducible repeat (first | refine kn_ ?_ _ | refine kd_ ?_ | refine ka_ ?_ _)); exact BK455.out) hb); have n1_ := Aside0.mk (below_step (by repeat (first | (with_reducible first | exact HB.out | apply ba_ | apply bn_ | apply bd_ | refine below_set ?_ GE455.out) | exact HB.out)) hb); clear BK455; clear HB; have BK455 := n0_; have HB := n1_; clear n0_ n1_; (try clear hb); (try clear hb2); (try clear hk); (try clear hi)))
       go_ret
       exact ⟨by first | rfl | (simp [errW_none, errW_some] <;> rfl) | (simp [*, errW_none, errW_some] <;> rfl), by repeat (first | (with_reducible first | exact HB.out | apply ba_ | apply bn_ | apply bd_ | refine below_set ?_ GE455.out) | exact HB.out)⟩
      rw [if_neg c6] at H
      exact absurd H (by simp)
     rw [if_neg c5] at H
     exact absurd H (by simp)
    rw [if_neg c4] at H
    have c4b0 : decide (x11_1 < (l0.length : Int)) = false := decide_eq_false c4
    clear c4
    obtain rfl := Option.some.inj H
    go_wp2
    go_ret
    exact ⟨by first | rfl | (simp [errW_none, errW_some] <;> rfl) | (simp [*, errW_none, errW_some] <;> rfl), by repeat (first | (with_reducible first | exact HB.out | apply ba_ | apply bn_ | apply bd_) | exact HB.out)⟩
 replace c3 := Bool.eq_false_iff.mpr c3
 subst c3
 rw [if_neg (show ¬ (false = true) by decide)] at H
 obtain rfl := Option.some.inj H
 go_enter Try.func31, Try.ntmps31
 go_wp2_with (first | ((with_reducible refine gate_callee (f := 73) rfl ?_); refine goesL_ (some 7) rfl rfl Try.func73 (by kernel_rfl) rfl #[.int .i64 (l0.length : Int), .int .i64 1, .int .i64 3] rfl (by (try simp only [mp_]); first | done | rfl | (simp only [List.length_drop, List.length_take]; rfl)) ?_; (with_reducible refine (impl_in.calls (l0.length : Int) 1 3 false _ A2.out).mono ?_); rintro e w' ⟨rfl, ⟨nd, rfl⟩⟩; refine ⟨_, rfl, ?_⟩))
 go_ret
 exact ⟨by first | rfl | (simp [errW_none, errW_some] <;> rfl) | (simp [*, errW_none, errW_some] <;> rfl), by repeat (first | (with_reducible first | exact HB.out | apply ba_ | apply bn_ | apply bd_) | exact HB.out)⟩
def laws_FnExactStoreOk.f (k : Nat) (l0 : List (S52)) : Option (Bool) := (laws_szPartS.f k l0 1048576).bind fun t457 => (if t457 < 0 then (some true) else ((laws_toPartS.f k l0).bind fun t458 => ((spec_StoreOk.f k t458).bind fun t461 => ((laws_toPartS.f k l0).bind fun t462 => ((impl_StoreOk.f k t462).bind fun t465 => (if (t465 != t461) = true then (none) else ((laws_toPartS.f k l0).bind fun t466 => ((laws_eqPartS.f k t462 t466).bind fun t469 => (if t469 = true then (some true) else (none))))))))))
theorem laws_FnExactStoreOk.mono : ∀ a0 k, LeO (laws_FnExactStoreOk.f k a0) (laws_FnExactStoreOk.f (k + 1) a0) := by
 intro a0 k
 unfold laws_FnExactStoreOk.f
 repeat' first
   | (with_reducible exact impl_StoreOk.mono _ _)
   | (with_reducible exact laws_eqPartS.mono _ _ _)
   | (with_reducible exact laws_szPartS.mono _ _ _)
   | (with_reducible exact laws_toPartS.mono _ _)
   | (with_reducible exact spec_StoreOk.mono _ _)
   | (with_reducible exact LeO.refl _)
   | (with_reducible exact LeO.none _)
   | (with_reducible refine LeO.ite ?_ ?_)
   | (with_reducible refine LeO.bind ?_ (fun _ => ?_))
   | exact impl_StoreOk.mono _ _
   | exact laws_eqPartS.mono _ _ _
   | exact laws_szPartS.mono _ _ _
   | exact laws_toPartS.mono _ _
   | exact spec_StoreOk.mono _ _
theorem laws_FnExactStoreOk.calls (k : Nat) (A0 : Option Addr) (c0 : Nat) (l0 : List (S52)) (r : Bool) (w : World) (hr0 : Kd.C k52 w A0 l0.length l0) (hc0 : l0.length ≤ c0) (h : laws_FnExactStoreOk.f k l0 = some r) :
  Calls Try.prog 6 #[.slice A0 l0.length c0] w fun e w' => e = .returned (.bool r) ∧ Below w.heap.size w w' := by
 have HR0 := Aside0.mk hr0
 have HC0 := Aside0.mk hc0
 clear hr0 hc0
 have HB := Aside0.mk (Below.refl w.heap.size w)
 have H : ((laws_szPartS.f k l0 1048576).bind fun t457 => (if t457 < 0 then (some true) else ((laws_toPartS.f k l0).bind fun t458 => ((spec_StoreOk.f k t458).bind fun t461 => ((laws_toPartS.f k l0).bind fun t462 => ((impl_StoreOk.f k t462).bind fun t465 => (if (t465 != t461) = true then (none) else ((laws_toPartS.f k l0).bind fun t466 => ((laws_eqPartS.f k t462 t466).bind fun t469 => (if t469 = true then (some true) else (none))))))))))) = some r := h
 clear h
 replace H := Option.bind_eq_some_iff.mp H
 obtain ⟨t457, A20, H⟩ := H
 have A2 := Aside0.mk A20
 clear A20
 by_cases c3 : t457 < 0
 ·
  rw [if_pos c3] at H
  have c3b0 := decide_eq_true c3
  clear c3
  obtain rfl := Option.some.inj H
  go_enter Try.func6, Try.ntmps6
  go_wp2_with (first | ((with_reducible refine gate_callee (f := 12) rfl ?_); refine goesL_ (some 9) rfl rfl Try.func12 (by kernel_rfl) rfl #[.slice A0 l0.length c0, .int .i64 1048576] rfl (by (try simp only [mp_]); first | done | rfl | (simp only [List.length_drop, List.length_take]; rfl)) ?_; (with_reducible refine (laws_szPartS.calls k _ _ l0 1048576 t457 _ ?side1 ?side2 A2.out).mono ?_); (case side1 => repeat (first | exact HR0.out | (with_reducible first | refine ca_ ?_ _ | refine cn_ ?_ _ | refine cd_ ?_))); (case side2 => exact HC0.out); rintro e w4 ⟨rfl, hb⟩; refine ⟨_, rfl, ?_⟩; have n0_ := Aside0.mk (below_step (by repeat (first | (with_reducible first | exact HB.out | apply ba_ | apply bn_ | apply bd_) | exact HB.out)) hb); clear HB; have HB := n0_; clear n0_; (try clear hb); (try clear hb2); (try clear hk); (try clear hi)))
  go_ret
  exact ⟨by first | rfl | (simp [errW_none, errW_some] <;> rfl) | (simp [*, errW_none, errW_some] <;> rfl), by repeat (first | (with_reducible first | exact HB.out | apply ba_ | apply bn_ | apply bd_) | exact HB.out)⟩
 rw [if_neg c3] at H
 have c3b0 : decide (t457 < 0) = false := decide_eq_false c3
 clear c3
 replace H := Option.bind_eq_some_iff.mp H
 obtain ⟨t458, A50, H⟩ := H
 have A5 := Aside0.mk A50
 clear A50
 replace H := Option.bind_eq_some_iff.mp H
 obtain ⟨t461, A60, H⟩ := H
 have A6 := Aside0.mk A60
 clear A60
 replace H := Option.bind_eq_some_iff.mp H
 obtain ⟨t462, A70, H⟩ := H
 have A7 := Aside0.mk A70
 clear A70
 replace H := Option.bind_eq_some_iff.mp H
 obtain ⟨t465, A80, H⟩ := H
 have A8 := Aside0.mk A80
 clear A80
 by_cases c9 : (t465 != t461) = true
 ·
  rw [if_pos c9] at H
  exact absurd H (by simp)
 rw [if_neg c9] at H
 have c9b0 : (t465 != t461) = false := by simpa using c9
 (try (have c9b1 : decide (t465 = t461) = true := by simpa using c9))
 (try (have c9b2 : (t465 == t461) = true := by simpa using c9))
 clear c9
 replace H := Option.bind_eq_some_iff.mp H
 obtain ⟨t466, A100, H⟩ := H
 have A10 := Aside0.mk A100
 clear A100
 replace H := Option.bind_eq_some_iff.mp H
 obtain ⟨t469, A110, H⟩ := H
 have A11 := Aside0.mk A110
 clear A110
 by_cases c12 : t469 = true
 ·
  subst c12
  rw [if_pos rfl] at H
  obtain rfl := Option.some.inj H
  go_enter Try.func6, Try.ntmps6
  go_wp2_with (first | ((with_reducible refine gate_callee (f := 12) rfl ?_); refine goesL_ (some 9) rfl rfl Try.func12 (by kernel_rfl) rfl #[.slice A0 l0.length c0, .int .i64 1048576] rfl (by (try simp only [mp_]); first | done | rfl | (simp only [List.length_drop, List.length_take]; rfl)) ?_; (with_reducible refine (laws_szPartS.calls k _ _ l0 1048576 t457 _ ?side1 ?side2 A2.out).mono ?_); (case side1 => repeat (first | exact HR0.out | (with_reducible first | refine ca_ ?_ _ | refine cn_ ?_ _ | refine cd_ ?_))); (case side2 => exact HC0.out); rintro e w13 ⟨rfl, hb⟩; refine ⟨_, rfl, ?_⟩; have n0_ := Aside0.mk (below_step (by repeat (first | (with_reducible first | exact HB.out | apply ba_ | apply bn_ | apply bd_) | exact HB.out)) hb); clear HB; have HB := n0_; clear n0_; (try clear hb); (try clear hb2); (try clear hk); (try clear hi)) | ((with_reducible refine gate_callee (f := 15) rfl ?_); refine goesL_ (some 13) rfl rfl Try.func15 (by kernel_rfl) rfl #[.slice A0 l0.length c0] rfl (by (try simp only [mp_]); first | done | rfl | (simp only [List.length_drop, List.length_take]; rfl)) ?_; (with_reducible refine (laws_toPartS.calls k _ _ l0 t458 _ ?side1 ?side2 A5.out).mono ?_); (case side1 => repeat (first | exact (Kd.C_below HR0.out HB.out) | (with_reducible first | refine ca_ ?_ _ | refine cn_ ?_ _ | refine cd_ ?_))); (case side2 => exact HC0.out); rintro e w14 ⟨v459, rfl, ho0, hb⟩; refine ⟨_, rfl, ?_⟩; have HO460 := Aside0.mk (Kd.R_lower ho0 (below_size (by repeat (first | (with_reducible first | exact HB.out | apply ba_ | apply bn_ | apply bd_) | exact HB.out)))); have n1_ := Aside0.mk (below_step (by repeat (first | (with_reducible first | exact HB.out | apply ba_ | apply bn_ | apply bd_) | exact HB.out)) hb); clear HB; have HB := n1_; clear n1_; (try clear hb); (try clear hb2); (try clear hk); (try clear hi); (try clear ho0); obtain ⟨Ao15, co15, eo15⟩ := Kd.R_slice HO460.out; subst eo15) | ((with_reducible refine gate_callee (f := 30) rfl ?_); refine goesL_ (some 14) rfl rfl Try.func30 (by kernel_rfl) rfl #[.slice Ao15 t458.length co15] rfl (by (try simp only [mp_]); first | done | rfl | (simp only [List.length_drop, List.length_take]; rfl)) ?_; (with_reducible refine (spec_StoreOk.calls k _ _ t458 t461 _ ?side1 ?side2 A6.out).mono ?_); (case side1 => repeat (first | exact (Kd.R_reads' HO460.out).2.2 | (with_reducible first | refine ca_ ?_ _ | refine cn_ ?_ _ | refine cd_ ?_))); (case side2 => exact (Kd.R_reads' HO460.out).2.1); rintro e w16 ⟨rfl, hb⟩; refine ⟨_, rfl, ?_⟩; have n0_ := Aside0.mk (Kd.R_below (by (with_reducible repeat (first | apply Kd.R_alloc | apply Kd.R_drewN | apply Kd.R_drew)); exact HO460.out) hb); have n1_ := Aside0.mk (below_step (by repeat (first | (with_reducible first | exact HB.out | apply ba_ | apply bn_ | apply bd_) | exact HB.out)) hb); clear HO460; clear HB; have HO460 := n0_; have HB := n1_; clear n0_ n1_; (try clear hb); (try clear hb2); (try clear hk); (try clear hi)) | ((with_reducible refine gate_callee (f := 15) rfl ?_); refine goesL_ (some 16) rfl rfl Try.func15 (by kernel_rfl) rfl #[.slice A0 l0.length c0] rfl (by (try simp only [mp_]); first | done | rfl | (simp only [List.length_drop, List.length_take]; rfl)) ?_; (with_reducible refine (laws_toPartS.calls k _ _ l0 t462 _ ?side1 ?side2 A7.out).mono ?_); (case side1 => repeat (first | exact (Kd.C_below HR0.out HB.out) | (with_reducible first | refine ca_ ?_ _ | refine cn_ ?_ _ | refine cd_ ?_))); (case side2 => exact HC0.out); rintro e w17 ⟨v463, rfl, ho0, hb⟩; refine ⟨_, rfl, ?_⟩; have n0_ := Aside0.mk (Kd.R_elder' (by (with_reducible repeat (first | apply Kd.R_alloc | apply Kd.R_drewN | apply Kd.R_drew)); exact HO460.out) (Kd.R_base ho0) hb); have n1_ := Aside0.mk (Kd.R_lower (Kd.R_new' ho0 (Kd.R_lt (by (with_reducible repeat (first | apply Kd.R_alloc | apply Kd.R_drewN | apply Kd.R_drew)); exact HO460.out))) (below_size (by repeat (first | (with_reducible first | exact HB.out | apply ba_ | apply bn_ | apply bd_) | exact HB.out)))); have n2_ := Aside0.mk (below_step (by repeat (first | (with_reducible first | exact HB.out | apply ba_ | apply bn_ | apply bd_) | exact HB.out)) hb); clear HO460; clear HB; have HO460 := n0_; have HO464 := n1_; have HB := n2_; clear n0_ n1_ n2_; (try clear hb); (try clear hb2); (try clear hk); (try clear hi); (try clear ho0); obtain ⟨Ao18, co18, eo18⟩ := Kd.R_slice HO464.out; subst eo18) | ((with_reducible refine gate_callee (f := 31) rfl ?_); refine goesL_ (some 18) rfl rfl Try.func31 (by kernel_rfl) rfl #[.slice Ao18 t462.length co18] rfl (by (try simp only [mp_]); first | done | rfl | (simp only [List.length_drop, List.length_take]; rfl)) ?_; (with_reducible refine (impl_StoreOk.calls k _ _ t462 t465 _ ?side1 ?side2 A8.out).mono ?_); (case side1 => repeat (first | exact (Kd.R_reads' HO464.out).2.2 | (with_reducible first | refine ca_ ?_ _ | refine cn_ ?_ _ | refine cd_ ?_))); (case side2 => exact (Kd.R_reads' HO464.out).2.1); rintro e w19 ⟨rfl, hb⟩; refine ⟨_, rfl, ?_⟩; have n0_ := Aside0.mk (Kd.R_below (by (with_reducible repeat (first | apply Kd.R_alloc | apply Kd.R_drewN | apply Kd.R_drew)); exact HO460.out) hb); have n1_ := Aside0.mk (Kd.R_below (by (with_reducible repeat (first | apply Kd.R_alloc | apply Kd.R_drewN | apply Kd.R_drew)); exact HO464.out) hb); have n2_ := Aside0.mk (below_step (by repeat (first | (with_reducible first | exact HB.out | apply ba_ | apply bn_ | apply bd_) | exact HB.out)) hb); clear HO460; clear HO464; clear HB; have HO460 := n0_; have HO464 := n1_; have HB := n2_; clear n0_ n1_ n2_; (try clear hb); (try clear hb2); (try clear hk); (try clear hi)) | ((with_reducible refine gate_callee (f := 15) rfl ?_); refine goesL_ (some 24) rfl rfl Try.func15 (by kernel_rfl) rfl #[.slice A0 l0.length c0] rfl (by (try simp only [mp_]); first | done | rfl | (simp only [List.length_drop, List.length_take]; rfl)) ?_; (with_reducible refine (laws_toPartS.calls k _ _ l0 t466 _ ?side1 ?side2 A10.out).mono ?_); (case side1 => repeat (first | exact (Kd.C_below HR0.out HB.out) | (with_reducible first | refine ca_ ?_ _ | refine cn_ ?_ _ | refine cd_ ?_))); (case side2 => exact HC0.out); rintro e w20 ⟨v467, rfl, ho0, hb⟩; refine ⟨_, rfl, ?_⟩; have n0_ := Aside0.mk (Kd.R_elder' (by (with_reducible repeat (first | apply Kd.R_alloc | apply Kd.R_drewN | apply Kd.R_drew)); exact HO460.out) (Kd.R_base ho0) hb); have n1_ := Aside0.mk (Kd.R_elder' (by (with_reducible repeat (first | apply Kd.R_alloc | apply Kd.R_drewN | apply Kd.R_drew)); exact HO464.out) (Kd.R_base ho0) hb); have n2_ := Aside0.mk (Kd.R_lower (Kd.R_new' (Kd.R_new' ho0 (Kd.R_lt (by (with_reducible repeat (first | apply Kd.R_alloc | apply Kd.R_drewN | apply Kd.R_drew)); exact HO460.out))) (Kd.R_lt (by (with_reducible repeat (first | apply Kd.R_alloc | apply Kd.R_drewN | apply Kd.R_drew)); exact HO464.out))) (below_size (by repeat (first | (with_reducible first | exact HB.out | apply ba_ | apply bn_ | apply bd_) | exact HB.out)))); have n3_ := Aside0.mk (below_step (by repeat (first | (with_reducible first | exact HB.out | apply ba_ | apply bn_ | apply bd_) | exact HB.out)) hb); clear HO460; clear HO464; clear HB; have HO460 := n0_; have HO464 := n1_; have HO468 := n2_; have HB := n3_; clear n0_ n1_ n2_ n3_; (try clear hb); (try clear hb2); (try clear hk); (try clear hi); (try clear ho0); obtain ⟨Ao21, co21, eo21⟩ := Kd.R_slice HO468.out; subst eo21) | ((with_reducible refine gate_callee (f := 18) rfl ?_); refine goesL_ (some 25) rfl rfl Try.func18 (by kernel_rfl) rfl #[.slice Ao18 t462.length co18, .slice Ao21 t466.length co21] rfl (by (try simp only [mp_]); first | done | rfl | (simp only [List.length_drop, List.length_take]; rfl)) ?_; (with_reducible refine (laws_eqPartS.calls k _ _ t462 _ _ t466 true _ ?side1 ?side2 ?side3 ?side4 A11.out).mono ?_); (case side1 => repeat (first | exact (Kd.R_reads' HO464.out).2.2 | (with_reducible first | refine ca_ ?_ _ | refine cn_ ?_ _ | refine cd_ ?_))); (case side2 => exact (Kd.R_reads' HO464.out).2.1); (case side3 => repeat (first | exact (Kd.R_reads' HO468.out).2.2 | (with_reducible first | refine ca_ ?_ _ | refine cn_ ?_ _ | refine cd_ ?_))); (case side4 => exact (Kd.R_reads' HO468.out).2.1); rintro e w22 ⟨rfl, hb⟩; refine ⟨_, rfl, ?_⟩; have n0_ := Aside0.mk (Kd.R_below (by (with_reducible repeat (first | apply Kd.R_alloc | apply Kd.R_drewN | apply Kd.R_drew)); exact HO460.out) hb); have n1_ := Aside0.mk (Kd.R_below (by (with_reducible repeat (first | apply Kd.R_alloc | apply Kd.R_drewN | apply Kd.R_drew)); exact HO464.out) hb); have n2_ := Aside0.mk (Kd.R_below (by (with_reducible repeat (first | apply Kd.R_alloc | apply Kd.R_drewN | apply Kd.R_drew)); exact HO468.out) hb); have n3_ := Aside0.mk (below_step (by repeat (first | (with_reducible first | exact HB.out | apply ba_ | apply bn_ | apply bd_) | exact HB.out)) hb); clear HO460; clear HO464; clear HO468; clear HB; have HO460 := n0_; have HO464 := n1_; have HO468 := n2_; have HB := n3_; clear n0_ n1_ n2_ n3_; (try clear hb); (try clear hb2); (try clear hk); (try clear hi)))
  go_ret
  exact ⟨by first | rfl | (simp [errW_none, errW_some] <;> rfl) | (simp [*, errW_none, errW_some] <;> rfl), by repeat (first | (with_reducible first | exact HB.out | apply ba_ | apply bn_ | apply bd_) | exact HB.out)⟩
 replace c12 := Bool.eq_false_iff.mpr c12
 subst c12
 rw [if_neg (show ¬ (false = true) by decide)] at H
 exact absurd H (by simp)
end Go.Proofs.Yticgekgojgkbgaa.Print
end
section
namespace Go.Proofs.Yticgekgojgkbgaa.Print
open Go.RowKit Go.Proofs.YticgekgojgkbgaaV.PrintWords Go.Proofs.YticgekgojgkbgaaV.PrintLast Go.Proofs.YticgekgojgkbgaaV.PrintMore
set_option linter.unusedVariables false
/-- The pure statement of laws_FnExactStoreOk. -/
def laws_FnExactStoreOk.Pure : Prop := ∀ (l0 : List (S52)), (l0.length ≤ maxLen ∧ ∀ y ∈ l0, B52 y) → ∃ k, laws_FnExactStoreOk.f k l0 = some true
end Go.Proofs.Yticgekgojgkbgaa.Print
end
section
namespace Go.Proofs.Yticgekgojgkbgaa.Print
open Go.RowKit Go.Proofs.YticgekgojgkbgaaV.PrintWords Go.Proofs.YticgekgojgkbgaaV.PrintLast Go.Proofs.YticgekgojgkbgaaV.PrintMore
set_option linter.unusedVariables false
set_option linter.unusedSimpArgs false
theorem wrap_id {x : Int} (h1 : -9223372036854775808 ≤ x) (h2 : x ≤ 9223372036854775807) : wrap64 x = x := by unfold wrap64; omega
theorem wrap_up (n : Nat) (h : n < 9223372036854775807) : wrap64 ((n : Int) + 1) = ((n + 1 : Nat) : Int) := by unfold wrap64; omega
theorem Ev.const {α : Type} {o : Option α} {r : α} (h : o = some r) : Ev (fun _ => o) r := ⟨0, fun _ _ => h⟩
theorem Ev.uniq {α : Type} {g : Nat → Option α} {a b : α} (h : Ev g a) (h' : Ev g b) : a = b := by
  obtain ⟨K, h⟩ := h
  obtain ⟨K', h'⟩ := h'
  exact Option.some.inj ((h (max K K') (Nat.le_max_left _ _)).symm.trans (h' _ (Nat.le_max_right _ _)))
theorem getD_mid {α : Type} (pre suf : List α) (y z : α) : (pre ++ y :: suf).getD pre.length z = y := by simp
theorem set_mid {α : Type} (pre suf : List α) (y v : α) : (pre ++ y :: suf).set pre.length v = pre ++ v :: suf := by simp
theorem lt_mid {α : Type} (pre suf : List α) (y : α) : (pre.length : Int) < ((pre ++ y :: suf).length : Int) := by simp only [List.length_append, List.length_cons]; omega
theorem not_lt_end {α : Type} (pre : List α) : ¬ ((pre.length : Int) < ((pre ++ []).length : Int)) := by simp
theorem nn (n : Nat) : (0 : Int) ≤ (n : Int) := by omega
theorem mid_assoc {α : Type} (pre suf : List α) (y : α) : pre ++ y :: suf = (pre ++ [y]) ++ suf := by simp
theorem not_neg12 (n : Nat) : ¬ (1 + 2 * (n : Int) < 0) := by omega

end Go.Proofs.Yticgekgojgkbgaa.Print
end
section
namespace Go.Proofs.Yticgekgojgkbgaa.Print
open Go.RowKit Go.Proofs.YticgekgojgkbgaaV.PrintWords Go.Proofs.YticgekgojgkbgaaV.PrintLast Go.Proofs.YticgekgojgkbgaaV.PrintMore
set_option linter.unusedVariables false
set_option linter.unusedSimpArgs false
def cvLabel (x : S85) : S88 := ⟨x.f0, x.f1⟩
def WLabel (x : S85) : Prop := x.f0.size ≤ 1048576 ∧ x.f1.size ≤ 1048576
def WiLabel (x : S88) : Prop := x.f0.size ≤ 4000000 ∧ x.f1.size ≤ 4000000
theorem Wi_cvLabel {x : S85} (h : WLabel x) : WiLabel (cvLabel x) := ⟨Nat.le_trans h.1 (by decide), Nat.le_trans h.2 (by decide)⟩
theorem szLabel_ev (x : S85) (hB : B85 x) (n : Int) (h0 : 0 ≤ n) (h1 : n ≤ 1048576) : ∃ r, Ev (fun k => laws_szLabel.f x.f0 x.f1 n) r ∧ r ≤ n ∧ (0 ≤ r → WLabel x) := by
  have q1 : x.f0.size ≤ 9223372036854775807 := hB.1
  have e1 : wrap64 (n - (x.f0.size : Int)) = n - (x.f0.size : Int) := wrap_id (by omega) (by omega)
  by_cases c1 : n - (x.f0.size : Int) < 0
  · exact ⟨-1, ⟨0, fun k hk => by simp [laws_szLabel.f, e1, c1]⟩, by omega, by omega⟩
  have q2 : x.f1.size ≤ 9223372036854775807 := hB.2
  have e2 : wrap64 ((n - (x.f0.size : Int)) - (x.f1.size : Int)) = (n - (x.f0.size : Int)) - (x.f1.size : Int) := wrap_id (by omega) (by omega)
  by_cases c2 : (n - (x.f0.size : Int)) - (x.f1.size : Int) < 0
  · exact ⟨-1, ⟨0, fun k hk => by simp [laws_szLabel.f, e1, c1, e2, c2]⟩, by omega, by omega⟩
  exact ⟨((n - (x.f0.size : Int)) - (x.f1.size : Int)), ⟨0, fun k hk => by simp [laws_szLabel.f, e1, c1, e2, c2]⟩, by omega, fun _ => ⟨(by omega), (by omega)⟩⟩
theorem toLabel_ev (x : S85) (h : WLabel x) : Ev (fun k => laws_toLabel.f x.f0 x.f1) ((cvLabel x).f0, (cvLabel x).f1) := by
  exact ⟨0, fun k hk => by simp [laws_toLabel.f, cvLabel]⟩
theorem eqLabel_ev (x : S88) (h : WiLabel x) : Ev (fun k => laws_eqLabel.f x.f0 x.f1 x.f0 x.f1) true := by
  exact ⟨0, fun k hk => by simp [laws_eqLabel.f]⟩

end Go.Proofs.Yticgekgojgkbgaa.Print
end
section
namespace Go.Proofs.Yticgekgojgkbgaa.Print
open Go.RowKit Go.Proofs.YticgekgojgkbgaaV.PrintWords Go.Proofs.YticgekgojgkbgaaV.PrintLast Go.Proofs.YticgekgojgkbgaaV.PrintMore
set_option linter.unusedVariables false
set_option linter.unusedSimpArgs false
theorem rdmidLabell (pre suf : List S85) (y : S85) : rd_T85 (pre ++ y :: suf) (pre.length : Int) = y := by unfold rd_T85; simp
theorem rdmidLabeli (pre suf : List S88) (y : S88) : rd_T88 (pre ++ y :: suf) (pre.length : Int) = y := by unfold rd_T88; simp
theorem szLabelS_l0 : ∀ (suf pre : List S85) (n : Int), 0 ≤ n → n ≤ 1048576 → (∀ y ∈ suf, B85 y) → (pre ++ suf).length < 4611686018427387904 → ∃ r, Ev (fun k => laws_szLabelS.l0 k (pre ++ suf) n (pre.length : Int)) r ∧ r ≤ n ∧ (0 ≤ r → ∀ y ∈ suf, WLabel y)
  | [], pre, n, h0, h1, hB, h => by
    refine ⟨n, Ev.step (f := fun _ => some n) (fun k => ?_) (Ev.now _), Int.le_refl _, fun _ y hy => by cases hy⟩
    simp only [laws_szLabelS.l0]
    rw [if_neg (not_lt_end pre)]
  | y :: suf, pre, n, h0, h1, hB, h => by
    have hp : pre.length < 4611686018427387904 := by simp at h; omega
    have hy := hB y List.mem_cons_self
    obtain ⟨r1, g1, l1, w1⟩ := szLabel_ev y hy n h0 h1
    by_cases c : r1 < 0
    · refine ⟨-1, Ev.step (f := fun k => (laws_szLabel.f y.f0 y.f1 n).bind fun t => if t < 0 then some (-1) else laws_szLabelS.l0 k (pre ++ y :: suf) t (wrap64 ((pre.length : Int) + 1))) (fun k => ?_) (Ev.bind g1 ?_), by omega, by omega⟩
      · simp only [laws_szLabelS.l0]
        rw [if_pos (lt_mid pre suf y), if_pos (nn _), rdmidLabell]
      · simp only [if_pos c]
        exact Ev.now _
    · obtain ⟨r, g, hl, hw⟩ := szLabelS_l0 suf (pre ++ [y]) r1 (by omega) (by omega) (fun z hz => hB z (List.mem_cons_of_mem _ hz)) (by simpa using h)
      refine ⟨r, Ev.step (f := fun k => (laws_szLabel.f y.f0 y.f1 n).bind fun t => if t < 0 then some (-1) else laws_szLabelS.l0 k ((pre ++ [y]) ++ suf) t ((pre ++ [y]).length : Int)) (fun k => ?_) (Ev.bind g1 ?_), by omega, fun hr z hz => ?_⟩
      · simp only [laws_szLabelS.l0]
        rw [if_pos (lt_mid pre suf y), if_pos (nn _), rdmidLabell, wrap_up _ (by omega)]
        simp
      · simp only [if_neg c]
        exact g
      · rcases List.mem_cons.1 hz with rfl | hz
        · exact w1 (by omega)
        · exact hw hr z hz
theorem szLabelS_ev (l : List S85) (hB : l.length ≤ maxLen ∧ ∀ y ∈ l, B85 y) (n : Int) (h0 : 0 ≤ n) (h1 : n ≤ 1048576) : ∃ r, Ev (fun k => laws_szLabelS.f k l n) r ∧ r ≤ n ∧ (0 ≤ r → l.length ≤ 1048576 ∧ ∀ y ∈ l, WLabel y) := by
  have q : l.length ≤ 9223372036854775807 := hB.1
  have e : wrap64 (n - (l.length : Int)) = n - (l.length : Int) := wrap_id (by omega) (by omega)
  by_cases c : n - (l.length : Int) < 0
  · exact ⟨-1, ⟨0, fun k _ => by simp [laws_szLabelS.f, e, c]⟩, by omega, by omega⟩
  · obtain ⟨r, g, hl, hw⟩ := szLabelS_l0 l [] (n - (l.length : Int)) (by omega) (by omega) hB.2 (by simp; omega)
    refine ⟨r, Ev.congr (fun k => ?_) g, by omega, fun hr => ⟨by omega, hw hr⟩⟩
    unfold laws_szLabelS.f
    rw [e, if_neg c]
    rfl
theorem toLabelS_l0 : ∀ (suf pre : List S85), (pre ++ suf).length < 4611686018427387904 → (∀ y ∈ suf, WLabel y) → Ev (fun k => laws_toLabelS.l0 k (pre ++ suf) ((pre.map cvLabel) ++ List.replicate suf.length z88) (pre.length : Int)) ((pre ++ suf).map cvLabel)
  | [], pre, h, hW => by
    refine Ev.step (f := fun _ => some ((pre ++ []).map cvLabel)) (fun k => ?_) (Ev.now _)
    simp only [laws_toLabelS.l0]
    rw [if_neg (not_lt_end pre)]
    simp
  | y :: suf, pre, h, hW => by
    have hp : pre.length < 4611686018427387904 := by simp at h; omega
    have ih := toLabelS_l0 suf (pre ++ [y]) (by simpa using h) (fun z hz => hW z (List.mem_cons_of_mem _ hz))
    have g := toLabel_ev y (hW y List.mem_cons_self)
    refine Ev.step (f := fun k => (laws_toLabel.f y.f0 y.f1).bind fun t => laws_toLabelS.l0 k ((pre ++ [y]) ++ suf) ((pre.map cvLabel) ++ (⟨t.1, t.2⟩ : S88) :: List.replicate suf.length z88) ((pre ++ [y]).length : Int)) (fun k => ?_) (Ev.bind g ?_)
    · simp only [laws_toLabelS.l0]
      rw [if_pos (lt_mid pre suf y), if_pos (nn _), rdmidLabell, wrap_up _ (by omega)]
      congr 1
      funext t
      rw [if_pos (by simp; omega)]
      congr 1
      · simp
      · simp [List.replicate_succ]
      · simp
    · rw [mid_assoc pre suf y]
      have e : (pre.map cvLabel) ++ (cvLabel y) :: List.replicate suf.length z88 = ((pre ++ [y]).map cvLabel) ++ List.replicate suf.length z88 := by simp
      rw [← e] at ih
      exact ih
theorem toLabelS_ev (l : List S85) (h : l.length ≤ 1048576 ∧ ∀ y ∈ l, WLabel y) : Ev (fun k => laws_toLabelS.f k l) (l.map cvLabel) := by
  have h1 := h.1
  refine Ev.congr (fun k => ?_) (toLabelS_l0 l [] (by simp; omega) h.2)
  unfold laws_toLabelS.f
  rw [if_pos (nn l.length), Int.toNat_natCast, if_pos (by omega)]
  rfl
theorem eqLabelS_l0 : ∀ (suf pre : List S88), (pre ++ suf).length < 4611686018427387904 → (∀ y ∈ suf, WiLabel y) → Ev (fun k => laws_eqLabelS.l0 k (pre ++ suf) (pre ++ suf) (pre.length : Int)) true
  | [], pre, h, hW => by
    refine Ev.step (f := fun _ => some true) (fun k => ?_) (Ev.now _)
    simp only [laws_eqLabelS.l0]
    rw [if_neg (not_lt_end pre)]
  | y :: suf, pre, h, hW => by
    have hp : pre.length < 4611686018427387904 := by simp at h; omega
    have ih := eqLabelS_l0 suf (pre ++ [y]) (by simpa using h) (fun z hz => hW z (List.mem_cons_of_mem _ hz))
    have g := eqLabel_ev y (hW y List.mem_cons_self)
    refine Ev.step (f := fun k => (laws_eqLabel.f y.f0 y.f1 y.f0 y.f1).bind fun t => if t = true then laws_eqLabelS.l0 k ((pre ++ [y]) ++ suf) ((pre ++ [y]) ++ suf) ((pre ++ [y]).length : Int) else none) (fun k => ?_) (Ev.bind g ?_)
    · simp only [laws_eqLabelS.l0]
      rw [if_pos (lt_mid pre suf y), if_pos (nn _), if_pos (lt_mid pre suf y), rdmidLabeli, wrap_up _ (by omega)]
      simp
    · simp only [if_true]
      exact ih
theorem eqLabelS_ev (l : List S88) (h : l.length ≤ 4000000 ∧ ∀ y ∈ l, WiLabel y) : Ev (fun k => laws_eqLabelS.f k l l) true := by
  have h1 := h.1
  refine Ev.congr (fun k => ?_) (eqLabelS_l0 l [] (by simp; omega) h.2)
  unfold laws_eqLabelS.f
  rw [if_pos rfl]
  rfl

end Go.Proofs.Yticgekgojgkbgaa.Print
end
section
namespace Go.Proofs.Yticgekgojgkbgaa.Print
open Go.RowKit Go.Proofs.YticgekgojgkbgaaV.PrintWords Go.Proofs.YticgekgojgkbgaaV.PrintLast Go.Proofs.YticgekgojgkbgaaV.PrintMore
set_option linter.unusedVariables false
set_option linter.unusedSimpArgs false
def cvAlarm (x : S35) : S43 := ⟨(x.f0.map cvLabel), x.f1, x.f2, x.f3⟩
def WAlarm (x : S35) : Prop := (x.f0.length ≤ 1048576 ∧ ∀ y ∈ x.f0, WLabel y) ∧ True ∧ True ∧ x.f3.size ≤ 1048576
def WiAlarm (x : S43) : Prop := (x.f0.length ≤ 4000000 ∧ ∀ y ∈ x.f0, WiLabel y) ∧ True ∧ True ∧ x.f3.size ≤ 4000000
theorem Wi_cvAlarm {x : S35} (h : WAlarm x) : WiAlarm (cvAlarm x) := ⟨⟨by show (List.map cvLabel x.f0).length ≤ 4000000; rw [List.length_map]; exact Nat.le_trans h.1.1 (by decide), fun y hy => by obtain ⟨z, hz, rfl⟩ := List.mem_map.1 hy; exact Wi_cvLabel (h.1.2 z hz)⟩, trivial, trivial, Nat.le_trans h.2.2.2 (by decide)⟩
theorem szAlarm_ev (x : S35) (hB : B35 x) (n : Int) (h0 : 0 ≤ n) (h1 : n ≤ 1048576) : ∃ r, Ev (fun k => laws_szAlarm.f k x.f0 x.f1 x.f2 x.f3 n) r ∧ r ≤ n ∧ (0 ≤ r → WAlarm x) := by
  obtain ⟨r1, ⟨K1, g1⟩, l1, w1⟩ := szLabelS_ev x.f0 hB.1 n (by omega) (by omega)
  by_cases c1 : r1 < 0
  · exact ⟨-1, ⟨K1, fun k hk => by simp [laws_szAlarm.f, g1 k (by omega), c1]⟩, by omega, by omega⟩
  have q2 : x.f3.size ≤ 9223372036854775807 := hB.2.2.2
  have e2 : wrap64 (r1 - (x.f3.size : Int)) = r1 - (x.f3.size : Int) := wrap_id (by omega) (by omega)
  by_cases c2 : r1 - (x.f3.size : Int) < 0
  · exact ⟨-1, ⟨K1, fun k hk => by simp [laws_szAlarm.f, g1 k (by omega), c1, e2, c2]⟩, by omega, by omega⟩
  exact ⟨(r1 - (x.f3.size : Int)), ⟨K1, fun k hk => by simp [laws_szAlarm.f, g1 k (by omega), c1, e2, c2]⟩, by omega, fun _ => ⟨(w1 (by omega)), trivial, trivial, (by omega)⟩⟩
theorem toAlarm_ev (x : S35) (h : WAlarm x) : Ev (fun k => laws_toAlarm.f k x.f0 x.f1 x.f2 x.f3) ((cvAlarm x).f0, (cvAlarm x).f1, (cvAlarm x).f2, (cvAlarm x).f3) := by
  obtain ⟨K0, g0⟩ := toLabelS_ev x.f0 h.1
  exact ⟨K0, fun k hk => by simp [laws_toAlarm.f, cvAlarm, g0 k (by omega)]⟩
theorem eqAlarm_ev (x : S43) (h : WiAlarm x) : Ev (fun k => laws_eqAlarm.f k x.f0 x.f1 x.f2 x.f3 x.f0 x.f1 x.f2 x.f3) true := by
  obtain ⟨K0, g0⟩ := eqLabelS_ev x.f0 h.1
  exact ⟨K0, fun k hk => by simp [laws_eqAlarm.f, g0 k (by omega)]⟩

end Go.Proofs.Yticgekgojgkbgaa.Print
end
section
namespace Go.Proofs.Yticgekgojgkbgaa.Print
open Go.RowKit Go.Proofs.YticgekgojgkbgaaV.PrintWords Go.Proofs.YticgekgojgkbgaaV.PrintLast Go.Proofs.YticgekgojgkbgaaV.PrintMore
set_option linter.unusedVariables false
set_option linter.unusedSimpArgs false
theorem rdmidAlarml (pre suf : List S35) (y : S35) : rd_T35 (pre ++ y :: suf) (pre.length : Int) = y := by unfold rd_T35; simp
theorem rdmidAlarmi (pre suf : List S43) (y : S43) : rd_T43 (pre ++ y :: suf) (pre.length : Int) = y := by unfold rd_T43; simp
theorem szAlarmS_l0 : ∀ (suf pre : List S35) (n : Int), 0 ≤ n → n ≤ 1048576 → (∀ y ∈ suf, B35 y) → (pre ++ suf).length < 4611686018427387904 → ∃ r, Ev (fun k => laws_szAlarmS.l0 k (pre ++ suf) n (pre.length : Int)) r ∧ r ≤ n ∧ (0 ≤ r → ∀ y ∈ suf, WAlarm y)
  | [], pre, n, h0, h1, hB, h => by
    refine ⟨n, Ev.step (f := fun _ => some n) (fun k => ?_) (Ev.now _), Int.le_refl _, fun _ y hy => by cases hy⟩
    simp only [laws_szAlarmS.l0]
    rw [if_neg (not_lt_end pre)]
  | y :: suf, pre, n, h0, h1, hB, h => by
    have hp : pre.length < 4611686018427387904 := by simp at h; omega
    have hy := hB y List.mem_cons_self
    obtain ⟨r1, g1, l1, w1⟩ := szAlarm_ev y hy n h0 h1
    by_cases c : r1 < 0
    · refine ⟨-1, Ev.step (f := fun k => (laws_szAlarm.f k y.f0 y.f1 y.f2 y.f3 n).bind fun t => if t < 0 then some (-1) else laws_szAlarmS.l0 k (pre ++ y :: suf) t (wrap64 ((pre.length : Int) + 1))) (fun k => ?_) (Ev.bind g1 ?_), by omega, by omega⟩
      · simp only [laws_szAlarmS.l0]
        rw [if_pos (lt_mid pre suf y), if_pos (nn _), rdmidAlarml]
      · simp only [if_pos c]
        exact Ev.now _
    · obtain ⟨r, g, hl, hw⟩ := szAlarmS_l0 suf (pre ++ [y]) r1 (by omega) (by omega) (fun z hz => hB z (List.mem_cons_of_mem _ hz)) (by simpa using h)
      refine ⟨r, Ev.step (f := fun k => (laws_szAlarm.f k y.f0 y.f1 y.f2 y.f3 n).bind fun t => if t < 0 then some (-1) else laws_szAlarmS.l0 k ((pre ++ [y]) ++ suf) t ((pre ++ [y]).length : Int)) (fun k => ?_) (Ev.bind g1 ?_), by omega, fun hr z hz => ?_⟩
      · simp only [laws_szAlarmS.l0]
        rw [if_pos (lt_mid pre suf y), if_pos (nn _), rdmidAlarml, wrap_up _ (by omega)]
        simp
      · simp only [if_neg c]
        exact g
      · rcases List.mem_cons.1 hz with rfl | hz
        · exact w1 (by omega)
        · exact hw hr z hz
theorem szAlarmS_ev (l : List S35) (hB : l.length ≤ maxLen ∧ ∀ y ∈ l, B35 y) (n : Int) (h0 : 0 ≤ n) (h1 : n ≤ 1048576) : ∃ r, Ev (fun k => laws_szAlarmS.f k l n) r ∧ r ≤ n ∧ (0 ≤ r → l.length ≤ 1048576 ∧ ∀ y ∈ l, WAlarm y) := by
  have q : l.length ≤ 9223372036854775807 := hB.1
  have e : wrap64 (n - (l.length : Int)) = n - (l.length : Int) := wrap_id (by omega) (by omega)
  by_cases c : n - (l.length : Int) < 0
  · exact ⟨-1, ⟨0, fun k _ => by simp [laws_szAlarmS.f, e, c]⟩, by omega, by omega⟩
  · obtain ⟨r, g, hl, hw⟩ := szAlarmS_l0 l [] (n - (l.length : Int)) (by omega) (by omega) hB.2 (by simp; omega)
    refine ⟨r, Ev.congr (fun k => ?_) g, by omega, fun hr => ⟨by omega, hw hr⟩⟩
    unfold laws_szAlarmS.f
    rw [e, if_neg c]
    rfl
theorem toAlarmS_l0 : ∀ (suf pre : List S35), (pre ++ suf).length < 4611686018427387904 → (∀ y ∈ suf, WAlarm y) → Ev (fun k => laws_toAlarmS.l0 k (pre ++ suf) ((pre.map cvAlarm) ++ List.replicate suf.length z43) (pre.length : Int)) ((pre ++ suf).map cvAlarm)
  | [], pre, h, hW => by
    refine Ev.step (f := fun _ => some ((pre ++ []).map cvAlarm)) (fun k => ?_) (Ev.now _)
    simp only [laws_toAlarmS.l0]
    rw [if_neg (not_lt_end pre)]
    simp
  | y :: suf, pre, h, hW => by
    have hp : pre.length < 4611686018427387904 := by simp at h; omega
    have ih := toAlarmS_l0 suf (pre ++ [y]) (by simpa using h) (fun z hz => hW z (List.mem_cons_of_mem _ hz))
    have g := toAlarm_ev y (hW y List.mem_cons_self)
    refine Ev.step (f := fun k => (laws_toAlarm.f k y.f0 y.f1 y.f2 y.f3).bind fun t => laws_toAlarmS.l0 k ((pre ++ [y]) ++ suf) ((pre.map cvAlarm) ++ (⟨t.1, t.2.1, t.2.2.1, t.2.2.2⟩ : S43) :: List.replicate suf.length z43) ((pre ++ [y]).length : Int)) (fun k => ?_) (Ev.bind g ?_)
    · simp only [laws_toAlarmS.l0]
      rw [if_pos (lt_mid pre suf y), if_pos (nn _), rdmidAlarml, wrap_up _ (by omega)]
      congr 1
      funext t
      rw [if_pos (by simp; omega)]
      congr 1
      · simp
      · simp [List.replicate_succ]
      · simp
    · rw [mid_assoc pre suf y]
      have e : (pre.map cvAlarm) ++ (cvAlarm y) :: List.replicate suf.length z43 = ((pre ++ [y]).map cvAlarm) ++ List.replicate suf.length z43 := by simp
      rw [← e] at ih
      exact ih
theorem toAlarmS_ev (l : List S35) (h : l.length ≤ 1048576 ∧ ∀ y ∈ l, WAlarm y) : Ev (fun k => laws_toAlarmS.f k l) (l.map cvAlarm) := by
  have h1 := h.1
  refine Ev.congr (fun k => ?_) (toAlarmS_l0 l [] (by simp; omega) h.2)
  unfold laws_toAlarmS.f
  rw [if_pos (nn l.length), Int.toNat_natCast, if_pos (by omega)]
  rfl
theorem eqAlarmS_l0 : ∀ (suf pre : List S43), (pre ++ suf).length < 4611686018427387904 → (∀ y ∈ suf, WiAlarm y) → Ev (fun k => laws_eqAlarmS.l0 k (pre ++ suf) (pre ++ suf) (pre.length : Int)) true
  | [], pre, h, hW => by
    refine Ev.step (f := fun _ => some true) (fun k => ?_) (Ev.now _)
    simp only [laws_eqAlarmS.l0]
    rw [if_neg (not_lt_end pre)]
  | y :: suf, pre, h, hW => by
    have hp : pre.length < 4611686018427387904 := by simp at h; omega
    have ih := eqAlarmS_l0 suf (pre ++ [y]) (by simpa using h) (fun z hz => hW z (List.mem_cons_of_mem _ hz))
    have g := eqAlarm_ev y (hW y List.mem_cons_self)
    refine Ev.step (f := fun k => (laws_eqAlarm.f k y.f0 y.f1 y.f2 y.f3 y.f0 y.f1 y.f2 y.f3).bind fun t => if t = true then laws_eqAlarmS.l0 k ((pre ++ [y]) ++ suf) ((pre ++ [y]) ++ suf) ((pre ++ [y]).length : Int) else none) (fun k => ?_) (Ev.bind g ?_)
    · simp only [laws_eqAlarmS.l0]
      rw [if_pos (lt_mid pre suf y), if_pos (nn _), if_pos (lt_mid pre suf y), rdmidAlarmi, wrap_up _ (by omega)]
      simp
    · simp only [if_true]
      exact ih
theorem eqAlarmS_ev (l : List S43) (h : l.length ≤ 4000000 ∧ ∀ y ∈ l, WiAlarm y) : Ev (fun k => laws_eqAlarmS.f k l l) true := by
  have h1 := h.1
  refine Ev.congr (fun k => ?_) (eqAlarmS_l0 l [] (by simp; omega) h.2)
  unfold laws_eqAlarmS.f
  rw [if_pos rfl]
  rfl

end Go.Proofs.Yticgekgojgkbgaa.Print
end
section
namespace Go.Proofs.Yticgekgojgkbgaa.Print
open Go.RowKit Go.Proofs.YticgekgojgkbgaaV.PrintWords Go.Proofs.YticgekgojgkbgaaV.PrintLast Go.Proofs.YticgekgojgkbgaaV.PrintMore
set_option linter.unusedVariables false
set_option linter.unusedSimpArgs false
def cvChain (x : S119) : S100 := ⟨x.f0, (x.f1.map cvAlarm)⟩
def WChain (x : S119) : Prop := True ∧ (x.f1.length ≤ 1048576 ∧ ∀ y ∈ x.f1, WAlarm y)
def WiChain (x : S100) : Prop := True ∧ (x.f1.length ≤ 4000000 ∧ ∀ y ∈ x.f1, WiAlarm y)
theorem Wi_cvChain {x : S119} (h : WChain x) : WiChain (cvChain x) := ⟨trivial, ⟨by show (List.map cvAlarm x.f1).length ≤ 4000000; rw [List.length_map]; exact Nat.le_trans h.2.1 (by decide), fun y hy => by obtain ⟨z, hz, rfl⟩ := List.mem_map.1 hy; exact Wi_cvAlarm (h.2.2 z hz)⟩⟩
theorem szChain_ev (x : S119) (hB : B119 x) (n : Int) (h0 : 0 ≤ n) (h1 : n ≤ 1048576) : ∃ r, Ev (fun k => laws_szChain.f k x.f0 x.f1 n) r ∧ r ≤ n ∧ (0 ≤ r → WChain x) := by
  obtain ⟨r1, ⟨K1, g1⟩, l1, w1⟩ := szAlarmS_ev x.f1 hB.2 n (by omega) (by omega)
  by_cases c1 : r1 < 0
  · exact ⟨-1, ⟨K1, fun k hk => by simp [laws_szChain.f, g1 k (by omega), c1]⟩, by omega, by omega⟩
  exact ⟨r1, ⟨K1, fun k hk => by simp [laws_szChain.f, g1 k (by omega), c1]⟩, by omega, fun _ => ⟨trivial, (w1 (by omega))⟩⟩
theorem toChain_ev (x : S119) (h : WChain x) : Ev (fun k => laws_toChain.f k x.f0 x.f1) ((cvChain x).f0, (cvChain x).f1) := by
  obtain ⟨K1, g1⟩ := toAlarmS_ev x.f1 h.2
  exact ⟨K1, fun k hk => by simp [laws_toChain.f, cvChain, g1 k (by omega)]⟩
theorem eqChain_ev (x : S100) (h : WiChain x) : Ev (fun k => laws_eqChain.f k x.f0 x.f1 x.f0 x.f1) true := by
  obtain ⟨K1, g1⟩ := eqAlarmS_ev x.f1 h.2
  exact ⟨K1, fun k hk => by simp [laws_eqChain.f, g1 k (by omega)]⟩

end Go.Proofs.Yticgekgojgkbgaa.Print
end
section
namespace Go.Proofs.Yticgekgojgkbgaa.Print
open Go.RowKit Go.Proofs.YticgekgojgkbgaaV.PrintWords Go.Proofs.YticgekgojgkbgaaV.PrintLast Go.Proofs.YticgekgojgkbgaaV.PrintMore
set_option linter.unusedVariables false
set_option linter.unusedSimpArgs false
theorem rdmidChainl (pre suf : List S119) (y : S119) : rd_T119 (pre ++ y :: suf) (pre.length : Int) = y := by unfold rd_T119; simp
theorem rdmidChaini (pre suf : List S100) (y : S100) : rd_T100 (pre ++ y :: suf) (pre.length : Int) = y := by unfold rd_T100; simp
theorem szChainS_l0 : ∀ (suf pre : List S119) (n : Int), 0 ≤ n → n ≤ 1048576 → (∀ y ∈ suf, B119 y) → (pre ++ suf).length < 4611686018427387904 → ∃ r, Ev (fun k => laws_szChainS.l0 k (pre ++ suf) n (pre.length : Int)) r ∧ r ≤ n ∧ (0 ≤ r → ∀ y ∈ suf, WChain y)
  | [], pre, n, h0, h1, hB, h => by
    refine ⟨n, Ev.step (f := fun _ => some n) (fun k => ?_) (Ev.now _), Int.le_refl _, fun _ y hy => by cases hy⟩
    simp only [laws_szChainS.l0]
    rw [if_neg (not_lt_end pre)]
  | y :: suf, pre, n, h0, h1, hB, h => by
    have hp : pre.length < 4611686018427387904 := by simp at h; omega
    have hy := hB y List.mem_cons_self
    obtain ⟨r1, g1, l1, w1⟩ := szChain_ev y hy n h0 h1
    by_cases c : r1 < 0
    · refine ⟨-1, Ev.step (f := fun k => (laws_szChain.f k y.f0 y.f1 n).bind fun t => if t < 0 then some (-1) else laws_szChainS.l0 k (pre ++ y :: suf) t (wrap64 ((pre.length : Int) + 1))) (fun k => ?_) (Ev.bind g1 ?_), by omega, by omega⟩
      · simp only [laws_szChainS.l0]
        rw [if_pos (lt_mid pre suf y), if_pos (nn _), rdmidChainl]
      · simp only [if_pos c]
        exact Ev.now _
    · obtain ⟨r, g, hl, hw⟩ := szChainS_l0 suf (pre ++ [y]) r1 (by omega) (by omega) (fun z hz => hB z (List.mem_cons_of_mem _ hz)) (by simpa using h)
      refine ⟨r, Ev.step (f := fun k => (laws_szChain.f k y.f0 y.f1 n).bind fun t => if t < 0 then some (-1) else laws_szChainS.l0 k ((pre ++ [y]) ++ suf) t ((pre ++ [y]).length : Int)) (fun k => ?_) (Ev.bind g1 ?_), by omega, fun hr z hz => ?_⟩
      · simp only [laws_szChainS.l0]
        rw [if_pos (lt_mid pre suf y), if_pos (nn _), rdmidChainl, wrap_up _ (by omega)]
        simp
      · simp only [if_neg c]
        exact g
      · rcases List.mem_cons.1 hz with rfl | hz
        · exact w1 (by omega)
        · exact hw hr z hz
theorem szChainS_ev (l : List S119) (hB : l.length ≤ maxLen ∧ ∀ y ∈ l, B119 y) (n : Int) (h0 : 0 ≤ n) (h1 : n ≤ 1048576) : ∃ r, Ev (fun k => laws_szChainS.f k l n) r ∧ r ≤ n ∧ (0 ≤ r → l.length ≤ 1048576 ∧ ∀ y ∈ l, WChain y) := by
  have q : l.length ≤ 9223372036854775807 := hB.1
  have e : wrap64 (n - (l.length : Int)) = n - (l.length : Int) := wrap_id (by omega) (by omega)
  by_cases c : n - (l.length : Int) < 0
  · exact ⟨-1, ⟨0, fun k _ => by simp [laws_szChainS.f, e, c]⟩, by omega, by omega⟩
  · obtain ⟨r, g, hl, hw⟩ := szChainS_l0 l [] (n - (l.length : Int)) (by omega) (by omega) hB.2 (by simp; omega)
    refine ⟨r, Ev.congr (fun k => ?_) g, by omega, fun hr => ⟨by omega, hw hr⟩⟩
    unfold laws_szChainS.f
    rw [e, if_neg c]
    rfl
theorem toChainS_l0 : ∀ (suf pre : List S119), (pre ++ suf).length < 4611686018427387904 → (∀ y ∈ suf, WChain y) → Ev (fun k => laws_toChainS.l0 k (pre ++ suf) ((pre.map cvChain) ++ List.replicate suf.length z100) (pre.length : Int)) ((pre ++ suf).map cvChain)
  | [], pre, h, hW => by
    refine Ev.step (f := fun _ => some ((pre ++ []).map cvChain)) (fun k => ?_) (Ev.now _)
    simp only [laws_toChainS.l0]
    rw [if_neg (not_lt_end pre)]
    simp
  | y :: suf, pre, h, hW => by
    have hp : pre.length < 4611686018427387904 := by simp at h; omega
    have ih := toChainS_l0 suf (pre ++ [y]) (by simpa using h) (fun z hz => hW z (List.mem_cons_of_mem _ hz))
    have g := toChain_ev y (hW y List.mem_cons_self)
    refine Ev.step (f := fun k => (laws_toChain.f k y.f0 y.f1).bind fun t => laws_toChainS.l0 k ((pre ++ [y]) ++ suf) ((pre.map cvChain) ++ (⟨t.1, t.2⟩ : S100) :: List.replicate suf.length z100) ((pre ++ [y]).length : Int)) (fun k => ?_) (Ev.bind g ?_)
    · simp only [laws_toChainS.l0]
      rw [if_pos (lt_mid pre suf y), if_pos (nn _), rdmidChainl, wrap_up _ (by omega)]
      congr 1
      funext t
      rw [if_pos (by simp; omega)]
      congr 1
      · simp
      · simp [List.replicate_succ]
      · simp
    · rw [mid_assoc pre suf y]
      have e : (pre.map cvChain) ++ (cvChain y) :: List.replicate suf.length z100 = ((pre ++ [y]).map cvChain) ++ List.replicate suf.length z100 := by simp
      rw [← e] at ih
      exact ih
theorem toChainS_ev (l : List S119) (h : l.length ≤ 1048576 ∧ ∀ y ∈ l, WChain y) : Ev (fun k => laws_toChainS.f k l) (l.map cvChain) := by
  have h1 := h.1
  refine Ev.congr (fun k => ?_) (toChainS_l0 l [] (by simp; omega) h.2)
  unfold laws_toChainS.f
  rw [if_pos (nn l.length), Int.toNat_natCast, if_pos (by omega)]
  rfl
theorem eqChainS_l0 : ∀ (suf pre : List S100), (pre ++ suf).length < 4611686018427387904 → (∀ y ∈ suf, WiChain y) → Ev (fun k => laws_eqChainS.l0 k (pre ++ suf) (pre ++ suf) (pre.length : Int)) true
  | [], pre, h, hW => by
    refine Ev.step (f := fun _ => some true) (fun k => ?_) (Ev.now _)
    simp only [laws_eqChainS.l0]
    rw [if_neg (not_lt_end pre)]
  | y :: suf, pre, h, hW => by
    have hp : pre.length < 4611686018427387904 := by simp at h; omega
    have ih := eqChainS_l0 suf (pre ++ [y]) (by simpa using h) (fun z hz => hW z (List.mem_cons_of_mem _ hz))
    have g := eqChain_ev y (hW y List.mem_cons_self)
    refine Ev.step (f := fun k => (laws_eqChain.f k y.f0 y.f1 y.f0 y.f1).bind fun t => if t = true then laws_eqChainS.l0 k ((pre ++ [y]) ++ suf) ((pre ++ [y]) ++ suf) ((pre ++ [y]).length : Int) else none) (fun k => ?_) (Ev.bind g ?_)
    · simp only [laws_eqChainS.l0]
      rw [if_pos (lt_mid pre suf y), if_pos (nn _), if_pos (lt_mid pre suf y), rdmidChaini, wrap_up _ (by omega)]
      simp
    · simp only [if_true]
      exact ih
theorem eqChainS_ev (l : List S100) (h : l.length ≤ 4000000 ∧ ∀ y ∈ l, WiChain y) : Ev (fun k => laws_eqChainS.f k l l) true := by
  have h1 := h.1
  refine Ev.congr (fun k => ?_) (eqChainS_l0 l [] (by simp; omega) h.2)
  unfold laws_eqChainS.f
  rw [if_pos rfl]
  rfl

end Go.Proofs.Yticgekgojgkbgaa.Print
end
section
namespace Go.Proofs.Yticgekgojgkbgaa.Print
open Go.RowKit Go.Proofs.YticgekgojgkbgaaV.PrintWords Go.Proofs.YticgekgojgkbgaaV.PrintLast Go.Proofs.YticgekgojgkbgaaV.PrintMore
set_option linter.unusedVariables false
set_option linter.unusedSimpArgs false
def cvPart (x : S52) : S57 := ⟨x.f0, x.f1, (x.f2.map cvChain)⟩
def WPart (x : S52) : Prop := True ∧ True ∧ (x.f2.length ≤ 1048576 ∧ ∀ y ∈ x.f2, WChain y)
def WiPart (x : S57) : Prop := True ∧ True ∧ (x.f2.length ≤ 4000000 ∧ ∀ y ∈ x.f2, WiChain y)
theorem Wi_cvPart {x : S52} (h : WPart x) : WiPart (cvPart x) := ⟨trivial, trivial, ⟨by show (List.map cvChain x.f2).length ≤ 4000000; rw [List.length_map]; exact Nat.le_trans h.2.2.1 (by decide), fun y hy => by obtain ⟨z, hz, rfl⟩ := List.mem_map.1 hy; exact Wi_cvChain (h.2.2.2 z hz)⟩⟩
theorem szPart_ev (x : S52) (hB : B52 x) (n : Int) (h0 : 0 ≤ n) (h1 : n ≤ 1048576) : ∃ r, Ev (fun k => laws_szPart.f k x.f0 x.f1 x.f2 n) r ∧ r ≤ n ∧ (0 ≤ r → WPart x) := by
  obtain ⟨r1, ⟨K1, g1⟩, l1, w1⟩ := szChainS_ev x.f2 hB.2.2 n (by omega) (by omega)
  by_cases c1 : r1 < 0
  · exact ⟨-1, ⟨K1, fun k hk => by simp [laws_szPart.f, g1 k (by omega), c1]⟩, by omega, by omega⟩
  exact ⟨r1, ⟨K1, fun k hk => by simp [laws_szPart.f, g1 k (by omega), c1]⟩, by omega, fun _ => ⟨trivial, trivial, (w1 (by omega))⟩⟩
theorem toPart_ev (x : S52) (h : WPart x) : Ev (fun k => laws_toPart.f k x.f0 x.f1 x.f2) ((cvPart x).f0, (cvPart x).f1, (cvPart x).f2) := by
  obtain ⟨K2, g2⟩ := toChainS_ev x.f2 h.2.2
  exact ⟨K2, fun k hk => by simp [laws_toPart.f, cvPart, g2 k (by omega)]⟩
theorem eqPart_ev (x : S57) (h : WiPart x) : Ev (fun k => laws_eqPart.f k x.f0 x.f1 x.f2 x.f0 x.f1 x.f2) true := by
  obtain ⟨K2, g2⟩ := eqChainS_ev x.f2 h.2.2
  exact ⟨K2, fun k hk => by simp [laws_eqPart.f, g2 k (by omega)]⟩

end Go.Proofs.Yticgekgojgkbgaa.Print
end
section
namespace Go.Proofs.Yticgekgojgkbgaa.Print
open Go.RowKit Go.Proofs.YticgekgojgkbgaaV.PrintWords Go.Proofs.YticgekgojgkbgaaV.PrintLast Go.Proofs.YticgekgojgkbgaaV.PrintMore
set_option linter.unusedVariables false
set_option linter.unusedSimpArgs false
theorem rdmidPartl (pre suf : List S52) (y : S52) : rd_T52 (pre ++ y :: suf) (pre.length : Int) = y := by unfold rd_T52; simp
theorem rdmidParti (pre suf : List S57) (y : S57) : rd_T57 (pre ++ y :: suf) (pre.length : Int) = y := by unfold rd_T57; simp
theorem szPartS_l0 : ∀ (suf pre : List S52) (n : Int), 0 ≤ n → n ≤ 1048576 → (∀ y ∈ suf, B52 y) → (pre ++ suf).length < 4611686018427387904 → ∃ r, Ev (fun k => laws_szPartS.l0 k (pre ++ suf) n (pre.length : Int)) r ∧ r ≤ n ∧ (0 ≤ r → ∀ y ∈ suf, WPart y)
  | [], pre, n, h0, h1, hB, h => by
    refine ⟨n, Ev.step (f := fun _ => some n) (fun k => ?_) (Ev.now _), Int.le_refl _, fun _ y hy => by cases hy⟩
    simp only [laws_szPartS.l0]
    rw [if_neg (not_lt_end pre)]
  | y :: suf, pre, n, h0, h1, hB, h => by
    have hp : pre.length < 4611686018427387904 := by simp at h; omega
    have hy := hB y List.mem_cons_self
    obtain ⟨r1, g1, l1, w1⟩ := szPart_ev y hy n h0 h1
    by_cases c : r1 < 0
    · refine ⟨-1, Ev.step (f := fun k => (laws_szPart.f k y.f0 y.f1 y.f2 n).bind fun t => if t < 0 then some (-1) else laws_szPartS.l0 k (pre ++ y :: suf) t (wrap64 ((pre.length : Int) + 1))) (fun k => ?_) (Ev.bind g1 ?_), by omega, by omega⟩
      · simp only [laws_szPartS.l0]
        rw [if_pos (lt_mid pre suf y), if_pos (nn _), rdmidPartl]
      · simp only [if_pos c]
        exact Ev.now _
    · obtain ⟨r, g, hl, hw⟩ := szPartS_l0 suf (pre ++ [y]) r1 (by omega) (by omega) (fun z hz => hB z (List.mem_cons_of_mem _ hz)) (by simpa using h)
      refine ⟨r, Ev.step (f := fun k => (laws_szPart.f k y.f0 y.f1 y.f2 n).bind fun t => if t < 0 then some (-1) else laws_szPartS.l0 k ((pre ++ [y]) ++ suf) t ((pre ++ [y]).length : Int)) (fun k => ?_) (Ev.bind g1 ?_), by omega, fun hr z hz => ?_⟩
      · simp only [laws_szPartS.l0]
        rw [if_pos (lt_mid pre suf y), if_pos (nn _), rdmidPartl, wrap_up _ (by omega)]
        simp
      · simp only [if_neg c]
        exact g
      · rcases List.mem_cons.1 hz with rfl | hz
        · exact w1 (by omega)
        · exact hw hr z hz
theorem szPartS_ev (l : List S52) (hB : l.length ≤ maxLen ∧ ∀ y ∈ l, B52 y) (n : Int) (h0 : 0 ≤ n) (h1 : n ≤ 1048576) : ∃ r, Ev (fun k => laws_szPartS.f k l n) r ∧ r ≤ n ∧ (0 ≤ r → l.length ≤ 1048576 ∧ ∀ y ∈ l, WPart y) := by
  have q : l.length ≤ 9223372036854775807 := hB.1
  have e : wrap64 (n - (l.length : Int)) = n - (l.length : Int) := wrap_id (by omega) (by omega)
  by_cases c : n - (l.length : Int) < 0
  · exact ⟨-1, ⟨0, fun k _ => by simp [laws_szPartS.f, e, c]⟩, by omega, by omega⟩
  · obtain ⟨r, g, hl, hw⟩ := szPartS_l0 l [] (n - (l.length : Int)) (by omega) (by omega) hB.2 (by simp; omega)
    refine ⟨r, Ev.congr (fun k => ?_) g, by omega, fun hr => ⟨by omega, hw hr⟩⟩
    unfold laws_szPartS.f
    rw [e, if_neg c]
    rfl
theorem toPartS_l0 : ∀ (suf pre : List S52), (pre ++ suf).length < 4611686018427387904 → (∀ y ∈ suf, WPart y) → Ev (fun k => laws_toPartS.l0 k (pre ++ suf) ((pre.map cvPart) ++ List.replicate suf.length z57) (pre.length : Int)) ((pre ++ suf).map cvPart)
  | [], pre, h, hW => by
    refine Ev.step (f := fun _ => some ((pre ++ []).map cvPart)) (fun k => ?_) (Ev.now _)
    simp only [laws_toPartS.l0]
    rw [if_neg (not_lt_end pre)]
    simp
  | y :: suf, pre, h, hW => by
    have hp : pre.length < 4611686018427387904 := by simp at h; omega
    have ih := toPartS_l0 suf (pre ++ [y]) (by simpa using h) (fun z hz => hW z (List.mem_cons_of_mem _ hz))
    have g := toPart_ev y (hW y List.mem_cons_self)
    refine Ev.step (f := fun k => (laws_toPart.f k y.f0 y.f1 y.f2).bind fun t => laws_toPartS.l0 k ((pre ++ [y]) ++ suf) ((pre.map cvPart) ++ (⟨t.1, t.2.1, t.2.2⟩ : S57) :: List.replicate suf.length z57) ((pre ++ [y]).length : Int)) (fun k => ?_) (Ev.bind g ?_)
    · simp only [laws_toPartS.l0]
      rw [if_pos (lt_mid pre suf y), if_pos (nn _), rdmidPartl, wrap_up _ (by omega)]
      congr 1
      funext t
      rw [if_pos (by simp; omega)]
      congr 1
      · simp
      · simp [List.replicate_succ]
      · simp
    · rw [mid_assoc pre suf y]
      have e : (pre.map cvPart) ++ (cvPart y) :: List.replicate suf.length z57 = ((pre ++ [y]).map cvPart) ++ List.replicate suf.length z57 := by simp
      rw [← e] at ih
      exact ih
theorem toPartS_ev (l : List S52) (h : l.length ≤ 1048576 ∧ ∀ y ∈ l, WPart y) : Ev (fun k => laws_toPartS.f k l) (l.map cvPart) := by
  have h1 := h.1
  refine Ev.congr (fun k => ?_) (toPartS_l0 l [] (by simp; omega) h.2)
  unfold laws_toPartS.f
  rw [if_pos (nn l.length), Int.toNat_natCast, if_pos (by omega)]
  rfl
theorem eqPartS_l0 : ∀ (suf pre : List S57), (pre ++ suf).length < 4611686018427387904 → (∀ y ∈ suf, WiPart y) → Ev (fun k => laws_eqPartS.l0 k (pre ++ suf) (pre ++ suf) (pre.length : Int)) true
  | [], pre, h, hW => by
    refine Ev.step (f := fun _ => some true) (fun k => ?_) (Ev.now _)
    simp only [laws_eqPartS.l0]
    rw [if_neg (not_lt_end pre)]
  | y :: suf, pre, h, hW => by
    have hp : pre.length < 4611686018427387904 := by simp at h; omega
    have ih := eqPartS_l0 suf (pre ++ [y]) (by simpa using h) (fun z hz => hW z (List.mem_cons_of_mem _ hz))
    have g := eqPart_ev y (hW y List.mem_cons_self)
    refine Ev.step (f := fun k => (laws_eqPart.f k y.f0 y.f1 y.f2 y.f0 y.f1 y.f2).bind fun t => if t = true then laws_eqPartS.l0 k ((pre ++ [y]) ++ suf) ((pre ++ [y]) ++ suf) ((pre ++ [y]).length : Int) else none) (fun k => ?_) (Ev.bind g ?_)
    · simp only [laws_eqPartS.l0]
      rw [if_pos (lt_mid pre suf y), if_pos (nn _), if_pos (lt_mid pre suf y), rdmidParti, wrap_up _ (by omega)]
      simp
    · simp only [if_true]
      exact ih
theorem eqPartS_ev (l : List S57) (h : l.length ≤ 4000000 ∧ ∀ y ∈ l, WiPart y) : Ev (fun k => laws_eqPartS.f k l l) true := by
  have h1 := h.1
  refine Ev.congr (fun k => ?_) (eqPartS_l0 l [] (by simp; omega) h.2)
  unfold laws_eqPartS.f
  rw [if_pos rfl]
  rfl

end Go.Proofs.Yticgekgojgkbgaa.Print
end
section
namespace Go.Proofs.Yticgekgojgkbgaa.Print
open Go.RowKit Go.Proofs.YticgekgojgkbgaaV.PrintWords Go.Proofs.YticgekgojgkbgaaV.PrintLast Go.Proofs.YticgekgojgkbgaaV.PrintMore
set_option linter.unusedVariables false
set_option linter.unusedSimpArgs false
theorem Wi_mapPart {l : List S52} (h : l.length ≤ 1048576 ∧ ∀ y ∈ l, WPart y) : (l.map cvPart).length ≤ 4000000 ∧ ∀ y ∈ l.map cvPart, WiPart y :=
  ⟨by rw [List.length_map]; exact Nat.le_trans h.1 (by decide), fun y hy => by obtain ⟨z, hz, rfl⟩ := List.mem_map.1 hy; exact Wi_cvPart (h.2 z hz)⟩

end Go.Proofs.Yticgekgojgkbgaa.Print
end
section
namespace Go.Proofs.Yticgekgojgkbgaa.Print
open Go.RowKit Go.Proofs.YticgekgojgkbgaaV.PrintWords Go.Proofs.YticgekgojgkbgaaV.PrintLast Go.Proofs.YticgekgojgkbgaaV.PrintMore
set_option linter.unusedVariables false
set_option linter.unusedSimpArgs false
/-- A loop that goes on or stops with an answer. -/
def scan {ρ : Type} (step : Nat → Option ρ) (fin : ρ) : Nat → Nat → ρ
  | 0, _ => fin
  | d + 1, i => match step i with
    | some r => r
    | none => scan step fin d (i + 1)
/-- What one round does. -/
def goOn {ρ : Type} (o : Option ρ) (next : Option ρ) : Option ρ := match o with
  | some r => some r
  | none => next
theorem goOn_none {ρ : Type} (next : Option ρ) : goOn none next = next := rfl
theorem goOn_some {ρ : Type} (r : ρ) (next : Option ρ) : goOn (some r) next = some r := rfl
theorem scan_ev2 {ρ : Type} {F : Nat → Int → Option ρ} {n : Nat} {step : Nat → Option ρ} {fin : ρ} (hend : ∃ K, ∀ k, K ≤ k → F (k + 1) (n : Int) = some fin)
    (hstep : ∀ i, i < n → ∃ K, ∀ k, K ≤ k → F (k + 1) (i : Int) = goOn (step i) (F k ((i + 1 : Nat) : Int))) : ∀ d i, d + i = n → Ev (fun k => F k (i : Int)) (scan step fin d i)
  | 0, i, h => by
    obtain rfl : i = n := by omega
    obtain ⟨K, hK⟩ := hend
    refine ⟨K + 1, fun k hk => ?_⟩
    obtain ⟨m, rfl⟩ : ∃ m, k = m + 1 := ⟨k - 1, by omega⟩
    exact hK m (by omega)
  | d + 1, i, h => by
    obtain ⟨K, hK⟩ := hstep i (by omega)
    unfold scan
    cases hs : step i with
    | some r =>
      refine ⟨K + 1, fun k hk => ?_⟩
      obtain ⟨m, rfl⟩ : ∃ m, k = m + 1 := ⟨k - 1, by omega⟩
      have := hK m (by omega)
      rw [hs] at this
      exact this
    | none =>
      obtain ⟨K', hK'⟩ := scan_ev2 hend hstep d (i + 1) (by omega)
      refine ⟨max K K' + 1, fun k hk => ?_⟩
      obtain ⟨m, rfl⟩ : ∃ m, k = m + 1 := ⟨k - 1, by omega⟩
      have := hK m (by omega)
      rw [hs] at this
      exact this.trans (hK' m (by omega))
theorem scan_ev {ρ : Type} {F : Nat → Int → Option ρ} {n : Nat} {step : Nat → Option ρ} {fin : ρ} (hend : ∀ k, F (k + 1) (n : Int) = some fin)
    (hstep : ∀ i, i < n → ∃ K, ∀ k, K ≤ k → F (k + 1) (i : Int) = goOn (step i) (F k ((i + 1 : Nat) : Int))) : ∀ d i, d + i = n → Ev (fun k => F k (i : Int)) (scan step fin d i) := scan_ev2 ⟨0, fun k _ => hend k⟩ hstep
theorem scan_congr {ρ : Type} {s s' : Nat → Option ρ} {f : ρ} : ∀ d i, (∀ j, i ≤ j → j < i + d → s j = s' j) → scan s f d i = scan s' f d i
  | 0, _, _ => rfl
  | d + 1, i, h => by
    unfold scan
    rw [h i (Nat.le_refl _) (by omega)]
    cases s' i with
    | some r => rfl
    | none => exact scan_congr d (i + 1) (fun j h1 h2 => h j (by omega) (by omega))
/-- All of a list, and e. -/
theorem scan_all {α : Type} (p : α → Bool) (z : α) (e : Bool) : ∀ (suf pre : List α), scan (fun i => if p ((pre ++ suf).getD i z) = true then none else some false) e suf.length pre.length = (suf.all p && e)
  | [], pre => by simp [scan]
  | y :: suf, pre => by
    have ih := scan_all p z e suf (pre ++ [y])
    simp only [List.append_assoc, List.singleton_append, List.length_append, List.length_singleton] at ih
    simp only [List.length_cons, scan]
    rw [show (pre ++ y :: suf).getD pre.length z = y by simp]
    cases hp : p y with
    | true => simp only [if_true]; rw [ih]; simp [hp]
    | false => simp [hp]
theorem scan_all0 {α : Type} (p : α → Bool) (z : α) (e : Bool) (l : List α) : scan (fun i => if p (l.getD i z) = true then none else some false) e l.length 0 = (l.all p && e) := scan_all p z e l []
/-- Two lists of one length, element by element. -/
theorem scan_same {α β : Type} [DecidableEq β] (f : α → β) (z : α) : ∀ (a b pa pb : List α), a.length = b.length → pa.length = pb.length →
    scan (fun i => if f ((pa ++ a).getD i z) = f ((pb ++ b).getD i z) then none else some false) true a.length pa.length = decide (a.map f = b.map f)
  | [], [], pa, pb, _, _ => by simp [scan]
  | [], _ :: _, _, _, h, _ => by simp at h
  | _ :: _, [], _, _, h, _ => by simp at h
  | x :: a, y :: b, pa, pb, h, h2 => by
    have ih := scan_same f z a b (pa ++ [x]) (pb ++ [y]) (by simpa using h) (by simp [h2])
    simp only [List.append_assoc, List.singleton_append, List.length_append, List.length_singleton] at ih
    simp only [List.length_cons, scan]
    rw [show (pa ++ x :: a).getD pa.length z = x by simp, show (pb ++ y :: b).getD pa.length z = y by rw [h2]; simp]
    by_cases he : f x = f y
    · simp only [if_pos he]; rw [ih]; simp [he]
    · simp [he]
theorem scan_same0 {α β : Type} [DecidableEq β] (f : α → β) (z : α) (a b : List α) (h : a.length = b.length) : scan (fun i => if f (a.getD i z) = f (b.getD i z) then none else some false) true a.length 0 = decide (a.map f = b.map f) := scan_same f z a b [] [] h rfl
/-- The place of the first that is so, or -1. -/
def place {α : Type} (p : α → Bool) : List α → Nat → Int
  | [], _ => -1
  | x :: l, i => if p x = true then (i : Int) else place p l (i + 1)
theorem scan_place {α : Type} (p : α → Bool) (z : α) : ∀ (suf pre : List α), scan (fun i => if p ((pre ++ suf).getD i z) = true then some (i : Int) else none) (-1) suf.length pre.length = place p suf pre.length
  | [], pre => by simp [scan, place]
  | y :: suf, pre => by
    have ih := scan_place p z suf (pre ++ [y])
    simp only [List.append_assoc, List.singleton_append, List.length_append, List.length_singleton] at ih
    simp only [List.length_cons, scan, place]
    rw [show (pre ++ y :: suf).getD pre.length z = y by simp]
    by_cases hp : p y = true
    · simp [hp]
    · simp only [if_neg hp]; exact ih
theorem scan_place0 {α : Type} (p : α → Bool) (z : α) (l : List α) : scan (fun i => if p (l.getD i z) = true then some (i : Int) else none) (-1) l.length 0 = place p l 0 := scan_place p z l []
theorem getD_eq {α : Type} (l : List α) (i : Nat) (z : α) (h : i < l.length) : l.getD i z = l[i] := by simp [List.getD_eq_getElem?_getD, List.getElem?_eq_getElem h]
theorem getD_mem {α : Type} (l : List α) (i : Nat) (z : α) (h : i < l.length) : l.getD i z ∈ l := by rw [getD_eq l i z h]; exact List.getElem_mem h

end Go.Proofs.Yticgekgojgkbgaa.Print
end
section
namespace Go.Proofs.Yticgekgojgkbgaa.Print
open Go.RowKit Go.Proofs.YticgekgojgkbgaaV.PrintWords Go.Proofs.YticgekgojgkbgaaV.PrintLast Go.Proofs.YticgekgojgkbgaaV.PrintMore
set_option linter.unusedVariables false
set_option linter.unusedSimpArgs false
theorem rdnLabel (l : List S88) (i : Nat) : rd_T88 l (i : Int) = l.getD i z88 := by unfold rd_T88; simp

end Go.Proofs.Yticgekgojgkbgaa.Print
end
section
namespace Go.Proofs.Yticgekgojgkbgaa.Print
open Go.RowKit Go.Proofs.YticgekgojgkbgaaV.PrintWords Go.Proofs.YticgekgojgkbgaaV.PrintLast Go.Proofs.YticgekgojgkbgaaV.PrintMore
set_option linter.unusedVariables false
set_option linter.unusedSimpArgs false
theorem inEq (a b c : Int) : impl_in.f a b c = some (decide (b ≤ a) && decide (a ≤ c)) := by
  unfold impl_in.f
  by_cases h : a ≥ b
  · rw [if_pos h]; simp [show b ≤ a from h]
  · rw [if_neg h]; simp [show ¬ b ≤ a from h]
theorem l1InEq (a b c : Int) : spec_l1In.f a b c = some (decide (b ≤ a) && decide (a ≤ c)) := by
  unfold spec_l1In.f
  by_cases h : a ≥ b
  · rw [if_pos h]; simp [show b ≤ a from h]
  · rw [if_neg h]; simp [show ¬ b ≤ a from h]
/-- Each byte of a name. -/
def nameStep {ρ : Type} (no : ρ) (s : ByteArray) (i : Nat) : Option ρ := if (bt s (i : Int)) < 97 then some no else if (bt s (i : Int)) > 122 then some no else none
def nameOk (s : ByteArray) : Bool := (decide (1 ≤ (s.size : Int)) && decide ((s.size : Int) ≤ 8)) && scan (nameStep false s) true s.size 0
/-- Where nothing stops a loop but with 'false', its end may wait. -/
theorem scan_end {step : Nat → Option Bool} (h : ∀ i r, step i = some r → r = false) (e : Bool) : ∀ d i, scan step e d i = (e && scan step true d i)
  | 0, i => by simp [scan]
  | d + 1, i => by
    unfold scan
    cases hs : step i with
    | some r => rw [h i r hs]; simp
    | none => exact scan_end h e d (i + 1)
theorem nameStep_false (s : ByteArray) (i : Nat) (r : Bool) (h : nameStep false s i = some r) : r = false := by
  unfold nameStep at h
  split at h
  · injection h with h; exact h.symm
  · split at h
    · injection h with h; exact h.symm
    · cases h
theorem implNameOk_ev (s : ByteArray) (h : s.size < 4611686018427387904) : Ev (fun k => impl_NameOk.f k s) (nameOk s) := by
  unfold impl_NameOk.f nameOk
  simp only [inEq, Option.bind_some]
  cases hc : (decide (1 ≤ (s.size : Int)) && decide ((s.size : Int) ≤ 8)) with
  | false => simp only [Bool.false_eq_true, if_false, Bool.false_and]; exact Ev.now _
  | true =>
    simp only [if_true, Bool.true_and]
    refine scan_ev (F := fun k i => impl_NameOk.l0 k s i) (n := s.size) (fun k => ?_) (fun i hi => ⟨0, fun k _ => ?_⟩) s.size 0 (by omega)
    · simp only [impl_NameOk.l0]; rw [if_neg (by omega)]
    · simp only [impl_NameOk.l0, nameStep]
      rw [if_pos (by omega), if_pos (by omega), wrap_up i (by omega)]
      split
      · rfl
      · split <;> rfl
theorem specNameOk_ev (s : ByteArray) (h : s.size < 4611686018427387904) : Ev (fun k => spec_NameOk.f k s) (nameOk s) := by
  unfold spec_NameOk.f nameOk
  rw [← scan_end (nameStep_false s)]
  refine scan_ev (F := fun k i => spec_NameOk.l0 k s i) (n := s.size) (fun k => ?_) (fun i hi => ⟨0, fun k _ => ?_⟩) s.size 0 (by omega)
  · simp only [spec_NameOk.l0]; rw [if_neg (by omega), l1InEq]; rfl
  · simp only [spec_NameOk.l0, nameStep]
    rw [if_pos (by omega), if_pos (by omega), wrap_up i (by omega)]
    split
    · rfl
    · split <;> rfl

end Go.Proofs.Yticgekgojgkbgaa.Print
end
section
namespace Go.Proofs.Yticgekgojgkbgaa.Print
open Go.RowKit Go.Proofs.YticgekgojgkbgaaV.PrintWords Go.Proofs.YticgekgojgkbgaaV.PrintLast Go.Proofs.YticgekgojgkbgaaV.PrintMore
set_option linter.unusedVariables false
set_option linter.unusedSimpArgs false
/-- Each byte of a plain text. -/
def plainStep {ρ : Type} (no : ρ) (s : ByteArray) (i : Nat) : Option ρ := if (bt s (i : Int)) < 32 then some no else if (bt s (i : Int)) > 126 then some no else if (bt s (i : Int)) = 34 then some no else if (bt s (i : Int)) = 92 then some no else none
def plainOk (s : ByteArray) : Bool := decide ((s.size : Int) ≤ 12) && scan (plainStep false s) true s.size 0
theorem plainStep_false (s : ByteArray) (i : Nat) (r : Bool) (h : plainStep false s i = some r) : r = false := by
  unfold plainStep at h
  repeat (split at h; (injection h with h; exact h.symm))
  cases h
theorem implPlainOk_ev (s : ByteArray) (h : s.size < 4611686018427387904) : Ev (fun k => impl_PlainOk.f k s) (plainOk s) := by
  unfold impl_PlainOk.f plainOk
  by_cases hc : (s.size : Int) > 12
  · simp only [if_pos hc, decide_eq_false (show ¬ (s.size : Int) ≤ 12 by omega), Bool.false_and]; exact Ev.now _
  · simp only [if_neg hc, decide_eq_true (show (s.size : Int) ≤ 12 by omega), Bool.true_and]
    refine scan_ev (F := fun k i => impl_PlainOk.l0 k s i) (n := s.size) (fun k => ?_) (fun i hi => ⟨0, fun k _ => ?_⟩) s.size 0 (by omega)
    · simp only [impl_PlainOk.l0]; rw [if_neg (by omega)]
    · simp only [impl_PlainOk.l0, plainStep]
      rw [if_pos (by omega), if_pos (by omega), wrap_up i (by omega)]
      repeat (split; rfl)
      rfl
theorem specPlainOk_ev (s : ByteArray) (h : s.size < 4611686018427387904) : Ev (fun k => spec_PlainOk.f k s) (plainOk s) := by
  unfold spec_PlainOk.f plainOk
  rw [← scan_end (plainStep_false s)]
  refine scan_ev (F := fun k i => spec_PlainOk.l0 k s i) (n := s.size) (fun k => ?_) (fun i hi => ⟨0, fun k _ => ?_⟩) s.size 0 (by omega)
  · simp only [spec_PlainOk.l0]; rw [if_neg (by omega)]
  · simp only [spec_PlainOk.l0, plainStep]
    rw [if_pos (by omega), if_pos (by omega), wrap_up i (by omega)]
    repeat (split; rfl)
    rfl
def labelOk (x : S88) : Bool := nameOk x.f0 && plainOk x.f1
theorem implLabelOk_ev (x : S88) (h : WiLabel x) : Ev (fun k => impl_LabelOk.f k x.f0 x.f1) (labelOk x) := by
  have h1 := h.1
  have h2 := h.2
  obtain ⟨K1, g1⟩ := implNameOk_ev x.f0 (by omega)
  obtain ⟨K2, g2⟩ := implPlainOk_ev x.f1 (by omega)
  refine ⟨K1 + K2, fun k hk => ?_⟩
  have e1 := g1 k (by omega)
  have e2 := g2 k (by omega)
  simp only at e1 e2
  simp only [impl_LabelOk.f, e1, e2, Option.bind_some, labelOk]
  cases nameOk x.f0 <;> simp
theorem specLabelOk_ev (x : S88) (h : WiLabel x) : Ev (fun k => spec_LabelOk.f k x.f0 x.f1) (labelOk x) := by
  have h1 := h.1
  have h2 := h.2
  obtain ⟨K1, g1⟩ := specNameOk_ev x.f0 (by omega)
  obtain ⟨K2, g2⟩ := specPlainOk_ev x.f1 (by omega)
  refine ⟨K1 + K2, fun k hk => ?_⟩
  have e1 := g1 k (by omega)
  have e2 := g2 k (by omega)
  simp only at e1 e2
  simp only [spec_LabelOk.f, e1, e2, Option.bind_some, labelOk]
  cases nameOk x.f0 <;> simp
/-- Is label i right, behind the one before it? -/
def setBit (l : List S88) (i : Nat) : Bool := labelOk (l.getD i z88) && (decide (i = 0) || Op.bytesLess (l.getD (i - 1) z88).f0.toList (l.getD i z88).f0.toList)
def setStep (l : List S88) (i : Nat) : Option Bool := if setBit l i = true then none else some false
def setOk (l : List S88) : Bool := decide ((l.length : Int) ≤ 4) && scan (setStep l) true l.length 0
theorem setStep_false (l : List S88) (i : Nat) (r : Bool) (h : setStep l i = some r) : r = false := by
  unfold setStep at h
  split at h
  · cases h
  · injection h with h; exact h.symm
theorem scan_stop {step : Nat → Option Bool} (hf : ∀ i r, step i = some r → r = false) : ∀ d i j, i ≤ j → j < i + d → step j = some false → scan step true d i = false
  | 0, i, j, h1, h2, _ => by omega
  | d + 1, i, j, h1, h2, h3 => by
    unfold scan
    cases hs : step i with
    | some r => exact hf i r hs
    | none =>
      by_cases e : i = j
      · subst e; rw [hs] at h3; cases h3
      · exact scan_stop hf d (i + 1) j (by omega) (by omega) h3
theorem sub1 (i : Nat) (h : 0 < i) (hi : i < 4611686018427387904) : wrap64 ((i : Int) - 1) = ((i - 1 : Nat) : Int) := by rw [wrap_id (by omega) (by omega)]; omega
theorem implSetOk_ev (l : List S88) (h : l.length ≤ 4000000 ∧ ∀ y ∈ l, WiLabel y) : Ev (fun k => impl_SetOk.f k l) (setOk l) := by
  have h1 := h.1
  have hx : setOk l = scan (fun i => if 4 ≤ i then some false else setStep l i) true l.length 0 := by
    unfold setOk
    by_cases h4 : l.length ≤ 4
    · rw [decide_eq_true (show (l.length : Int) ≤ 4 by omega), Bool.true_and]
      exact scan_congr _ _ (fun j _ hj => by rw [if_neg (by omega)])
    · rw [decide_eq_false (show ¬ (l.length : Int) ≤ 4 by omega), Bool.false_and]
      exact (scan_stop (step := fun i => if 4 ≤ i then some false else setStep l i) (fun i r hr => by
        by_cases hi : 4 ≤ i
        · simp only [if_pos hi] at hr; injection hr with hr; exact hr.symm
        · simp only [if_neg hi] at hr; exact setStep_false l i r hr) l.length 0 4 (by omega) (by omega) (by simp)).symm
  rw [hx]
  unfold impl_SetOk.f
  refine scan_ev (F := fun k i => impl_SetOk.l0 k l l (l.length : Int) i) (n := l.length) (fun k => ?_) (fun i hi => ?_) l.length 0 (by omega)
  · simp only [impl_SetOk.l0]; rw [if_neg (by omega)]
  · obtain ⟨K, g⟩ := implLabelOk_ev (l.getD i z88) (h.2 _ (getD_mem l i _ hi))
    refine ⟨K, fun k hk => ?_⟩
    have e := g k hk
    simp only at e
    simp only [impl_SetOk.l0]
    rw [if_pos (by omega), if_pos (by omega), if_pos (by omega)]
    by_cases h4 : 4 ≤ i
    · rw [if_pos (by omega), if_pos h4]; rfl
    · rw [if_neg (by omega), if_neg h4, rdnLabel, e, Option.bind_some, wrap_up i (by omega)]
      unfold setStep setBit
      cases hl : labelOk (l.getD i z88) with
      | false => simp [goOn]
      | true =>
        by_cases h0 : i = 0
        · subst h0; simp [goOn]
        · rw [if_pos rfl, if_pos (by omega), sub1 i (by omega) (by omega), if_pos (by omega), if_pos (by omega), rdnLabel, decide_eq_false h0]
          cases Op.bytesLess (l.getD (i - 1) z88).f0.toList (l.getD i z88).f0.toList <;> simp [goOn]
theorem specSetOk_ev (l : List S88) (h : l.length ≤ 4000000 ∧ ∀ y ∈ l, WiLabel y) : Ev (fun k => spec_SetOk.f k l) (setOk l) := by
  have h1 := h.1
  unfold spec_SetOk.f setOk
  rw [← scan_end (setStep_false l)]
  refine scan_ev (F := fun k i => spec_SetOk.l0 k l i) (n := l.length) (fun k => ?_) (fun i hi => ?_) l.length 0 (by omega)
  · simp only [spec_SetOk.l0]; rw [if_neg (by omega)]
  · obtain ⟨K, g⟩ := specLabelOk_ev (l.getD i z88) (h.2 _ (getD_mem l i _ hi))
    refine ⟨K, fun k hk => ?_⟩
    have e := g k hk
    simp only at e
    simp only [spec_SetOk.l0, spec_Less.f]
    rw [if_pos (by omega), if_pos (by omega), rdnLabel, e, Option.bind_some, wrap_up i (by omega)]
    unfold setStep setBit
    cases hl : labelOk (l.getD i z88) with
    | false => simp [goOn]
    | true =>
      by_cases h0 : i = 0
      · subst h0; simp [goOn]
      · rw [if_pos rfl, if_pos (by omega), sub1 i (by omega) (by omega), if_pos (by omega), if_pos (by omega), rdnLabel, decide_eq_false h0]
        cases Op.bytesLess (l.getD (i - 1) z88).f0.toList (l.getD i z88).f0.toList <;> simp [goOn]
def alarmOk (x : S43) : Bool := setOk x.f0 && (decide ((x.f0.length : Int) > 0) && ((decide (0 ≤ x.f1) && decide (x.f1 ≤ 99999)) && ((decide (x.f1 ≤ x.f2) && decide (x.f2 ≤ 99999)) && plainOk x.f3)))
theorem implAlarmOk_ev (x : S43) (h : WiAlarm x) : Ev (fun k => impl_AlarmOk.f k x.f0 x.f1 x.f2 x.f3) (alarmOk x) := by
  have h3 := h.2.2.2
  obtain ⟨K1, g1⟩ := implSetOk_ev x.f0 h.1
  obtain ⟨K2, g2⟩ := implPlainOk_ev x.f3 (by omega)
  refine ⟨K1 + K2, fun k hk => ?_⟩
  have e1 := g1 k (by omega)
  have e2 := g2 k (by omega)
  simp only at e1 e2
  simp only [impl_AlarmOk.f, e1, e2, Option.bind_some, alarmOk, inEq]
  by_cases hl : (x.f0.length : Int) > 0
  · rw [if_pos hl, decide_eq_true hl]
    cases setOk x.f0 <;> cases (decide (0 ≤ x.f1) && decide (x.f1 ≤ 99999)) <;> cases (decide (x.f1 ≤ x.f2) && decide (x.f2 ≤ 99999)) <;> simp
  · rw [if_neg hl, decide_eq_false hl]
    cases setOk x.f0 <;> simp
theorem specAlarmOk_ev (x : S43) (h : WiAlarm x) : Ev (fun k => spec_AlarmOk.f k x.f0 x.f1 x.f2 x.f3) (alarmOk x) := by
  have h3 := h.2.2.2
  obtain ⟨K1, g1⟩ := specSetOk_ev x.f0 h.1
  obtain ⟨K2, g2⟩ := specPlainOk_ev x.f3 (by omega)
  refine ⟨K1 + K2, fun k hk => ?_⟩
  have e1 := g1 k (by omega)
  have e2 := g2 k (by omega)
  simp only at e1 e2
  simp only [spec_AlarmOk.f, e1, e2, Option.bind_some, alarmOk, l1InEq]
  by_cases hl : (x.f0.length : Int) > 0
  · rw [if_pos hl, decide_eq_true hl]
    cases setOk x.f0 <;> cases (decide (0 ≤ x.f1) && decide (x.f1 ≤ 99999)) <;> cases (decide (x.f1 ≤ x.f2) && decide (x.f2 ≤ 99999)) <;> simp
  · rw [if_neg hl, decide_eq_false hl]
    cases setOk x.f0 <;> simp

end Go.Proofs.Yticgekgojgkbgaa.Print
end
section
namespace Go.Proofs.Yticgekgojgkbgaa.Print
open Go.RowKit Go.Proofs.YticgekgojgkbgaaV.PrintWords Go.Proofs.YticgekgojgkbgaaV.PrintLast Go.Proofs.YticgekgojgkbgaaV.PrintMore
set_option linter.unusedVariables false
set_option linter.unusedSimpArgs false
def labL (x : S88) : List UInt8 := x.f0.data.toList ++ [61, 34] ++ x.f1.data.toList ++ [34]
def setTail : Bool → List S88 → List UInt8
  | _, [] => []
  | first, x :: r => (if first then [] else [44, 32]) ++ labL x ++ setTail false r
def setText (l : List S88) : ByteArray := if setOk l = true then ⟨([123] ++ setTail true l ++ [125]).toArray⟩ else ⟨#[]⟩
theorem ba_ext {a b : ByteArray} (h : a.data.toList = b.data.toList) : a = b := by
  cases a; cases b
  simp only at h
  rw [Array.toList_inj.1 h]
theorem ba_app (a b : ByteArray) : (a ++ b).data.toList = a.data.toList ++ b.data.toList := by simp [ByteArray.data_append]
theorem ba_len (a : ByteArray) : a.size = a.data.toList.length := rfl
theorem ba_szapp (a b : ByteArray) : (a ++ b).size = a.size + b.size := by rw [ba_len, ba_app, List.length_append, ← ba_len, ← ba_len]
theorem setOk_len (l : List S88) (h : setOk l = true) : l.length ≤ 4 := by
  unfold setOk at h
  rw [Bool.and_eq_true] at h
  have := of_decide_eq_true h.1
  omega
theorem sz2 : (⟨#[44, 32]⟩ : ByteArray).size = 2 := rfl
theorem sz2' : (⟨#[61, 34]⟩ : ByteArray).size = 2 := rfl
theorem sz1 : (⟨#[34]⟩ : ByteArray).size = 1 := rfl
theorem sz1b : (⟨#[125]⟩ : ByteArray).size = 1 := rfl
theorem sz1a : (⟨#[123]⟩ : ByteArray).size = 1 := rfl
theorem specText_go : ∀ (suf pre : List S88) (acc : ByteArray), pre.length + suf.length ≤ 4 → (∀ y ∈ suf, WiLabel y) → acc.size ≤ 1 + pre.length * 10000000 →
    Ev (fun k => spec_SetText.l0 k (pre ++ suf) acc (pre.length : Int)) ⟨(acc.data.toList ++ setTail (decide (pre.length = 0)) suf ++ [125]).toArray⟩
  | [], pre, acc, h1, h2, h3 => by
    refine ⟨1, fun k hk => ?_⟩
    obtain ⟨m, rfl⟩ : ∃ m, k = m + 1 := ⟨k - 1, by omega⟩
    simp only [spec_SetText.l0]
    rw [if_neg (not_lt_end pre), if_pos (by simp only [List.length_nil] at h1; omega)]
    refine congrArg some (ba_ext ?_)
    rw [ba_app]
    simp [setTail]
  | y :: suf, pre, acc, h1, h2, h3 => by
    simp only [List.length_cons] at h1
    have hy := h2 y List.mem_cons_self
    have hy0 := hy.1
    have hy1 := hy.2
    have ih := fun a ha => specText_go suf (pre ++ [y]) a (by simp only [List.length_append, List.length_singleton]; omega) (fun z hz => h2 z (List.mem_cons_of_mem _ hz)) ha
    simp only [List.append_assoc, List.singleton_append, List.length_append, List.length_singleton] at ih
    by_cases hp : pre.length = 0
    · obtain ⟨K, hK⟩ := ih ((((acc ++ y.f0) ++ (⟨#[61, 34]⟩ : ByteArray)) ++ y.f1) ++ (⟨#[34]⟩ : ByteArray)) (by simp only [ba_szapp, sz2', sz1]; omega)
      refine ⟨K + 1, fun k hk => ?_⟩
      obtain ⟨m, rfl⟩ : ∃ m, k = m + 1 := ⟨k - 1, by omega⟩
      have e := hK m (by omega)
      simp only at e
      simp only [spec_SetText.l0, rdmidLabeli]
      rw [if_pos (lt_mid pre suf y), if_neg (by omega), if_pos (by omega), if_pos (by omega), if_pos (by simp only [ba_szapp]; omega), if_pos (by simp only [ba_szapp, sz2']; omega), if_pos (by simp only [ba_szapp, sz2']; omega), wrap_up pre.length (by omega), e]
      refine congrArg some (ba_ext ?_)
      simp only [ba_app, setTail, labL, hp, decide_true, if_true, List.nil_append, List.append_assoc]
      simp [setTail]
    · obtain ⟨K, hK⟩ := ih (((((acc ++ (⟨#[44, 32]⟩ : ByteArray)) ++ y.f0) ++ (⟨#[61, 34]⟩ : ByteArray)) ++ y.f1) ++ (⟨#[34]⟩ : ByteArray)) (by simp only [ba_szapp, sz2', sz2, sz1]; omega)
      refine ⟨K + 1, fun k hk => ?_⟩
      obtain ⟨m, rfl⟩ : ∃ m, k = m + 1 := ⟨k - 1, by omega⟩
      have e := hK m (by omega)
      simp only at e
      simp only [spec_SetText.l0, rdmidLabeli]
      rw [if_pos (lt_mid pre suf y), if_pos (by omega), if_pos (by omega), if_pos (by omega), if_pos (by simp only [ba_szapp, sz2]; omega), if_pos (by simp only [ba_szapp, sz2]; omega), if_pos (by simp only [ba_szapp, sz2, sz2']; omega), if_pos (by simp only [ba_szapp, sz2, sz2']; omega), wrap_up pre.length (by omega), e]
      refine congrArg some (ba_ext ?_)
      simp only [ba_app, setTail, labL, decide_eq_false hp, if_false, List.append_assoc]
      simp [setTail]
theorem specSetText_ev (l : List S88) (h : l.length ≤ 4000000 ∧ ∀ y ∈ l, WiLabel y) : Ev (fun k => spec_SetText.f k l) (setText l) := by
  obtain ⟨K, hK⟩ := specSetOk_ev l h
  by_cases ho : setOk l = true
  · have hl := setOk_len l ho
    obtain ⟨K', hK'⟩ := specText_go l [] (⟨#[123]⟩ : ByteArray) (by simp; omega) h.2 (by simp [sz1a])
    refine ⟨K + K', fun k hk => ?_⟩
    have e := hK k (by omega)
    have e' := hK' k (by omega)
    simp only at e
    simp only [List.nil_append, List.length_nil] at e'
    simp only [spec_SetText.f, e, Option.bind_some, ho, if_true, setText]
    exact e'
  · refine ⟨K, fun k hk => ?_⟩
    have e := hK k hk
    simp only at e
    simp [spec_SetText.f, e, ho, setText]
/-- The parts, each a text. -/
def partB (x : S88) : ByteArray := ((x.f0 ++ (⟨#[61, 34]⟩ : ByteArray)) ++ x.f1) ++ (⟨#[34]⟩ : ByteArray)
theorem partB_l (x : S88) : (partB x).data.toList = labL x := by simp [partB, labL, ba_app]
theorem tail_join : ∀ l : List S88, Lib.joinTail [44, 32] ((l.map partB).map (·.data.toList)) = setTail false l
  | [] => rfl
  | x :: r => by
    have ih := tail_join r
    unfold Lib.joinTail at ih ⊢
    simp only [List.map_cons, List.flatten_cons, setTail, ih, partB_l]
    simp
theorem all_join (l : List S88) : Lib.join ((l.map partB).map (·.data.toList)) [44, 32] = setTail true l := by
  cases l with
  | nil => rfl
  | cons x r =>
    have := tail_join r
    simp only [List.map_cons, Lib.join_cons, setTail, this, partB_l]
    simp
theorem setTail_len : ∀ (b : Bool) (l : List S88), (∀ y ∈ l, WiLabel y) → (setTail b l).length ≤ l.length * 10000000
  | _, [], _ => by simp [setTail]
  | b, x :: r, h => by
    have ih := setTail_len false r (fun y hy => h y (List.mem_cons_of_mem _ hy))
    have h0 := h x List.mem_cons_self
    have h1 := h0.1
    have h2 := h0.2
    have e1 : x.f0.data.toList.length = x.f0.size := rfl
    have e2 : x.f1.data.toList.length = x.f1.size := rfl
    cases b
    · simp only [setTail, labL, List.length_append, List.length_cons, List.length_nil, e1, e2, Bool.false_eq_true, if_false]; omega
    · simp only [setTail, labL, List.length_append, List.length_cons, List.length_nil, e1, e2, if_true]; omega
theorem implText_go (l : List S88) (hl : l.length ≤ 4) (hw : ∀ y ∈ l, WiLabel y) : ∀ (suf pre : List S88), pre ++ suf = l →
    Ev (fun k => impl_SetText.l0 k (pre.map partB) l (l.length : Int) (pre.length : Int)) ⟨([123] ++ setTail true l ++ [125]).toArray⟩
  | [], pre, h => by
    refine ⟨1, fun k hk => ?_⟩
    obtain ⟨m, rfl⟩ : ∃ m, k = m + 1 := ⟨k - 1, by omega⟩
    rw [List.append_nil] at h
    subst h
    have hj := all_join pre
    have ht := setTail_len true pre hw
    have hs : strings_Join.f (pre.map partB) (⟨#[44, 32]⟩ : ByteArray) = some ⟨(setTail true pre).toArray⟩ := by
      unfold strings_Join.f
      rw [show (⟨#[44, 32]⟩ : ByteArray).data.toList = [44, 32] from rfl, hj, List.length_map, if_pos ⟨by omega, by omega⟩]
    have hz : (⟨(setTail true pre).toArray⟩ : ByteArray).size = (setTail true pre).length := by simp [ByteArray.size]
    simp only [impl_SetText.l0]
    rw [if_neg (by omega), hs, Option.bind_some, if_pos (by rw [hz]; omega), if_pos (by rw [ba_szapp, hz, sz1a]; omega)]
    refine congrArg some (ba_ext ?_)
    simp [ba_app]
  | y :: suf, pre, h => by
    obtain ⟨K, hK⟩ := implText_go l hl hw suf (pre ++ [y]) (by rw [← h]; simp)
    have hy := hw y (by rw [← h]; simp)
    have hy0 := hy.1
    have hy1 := hy.2
    have hlen : pre.length < l.length := by rw [← h]; simp
    refine ⟨K + 1, fun k hk => ?_⟩
    obtain ⟨m, rfl⟩ : ∃ m, k = m + 1 := ⟨k - 1, by omega⟩
    have e := hK m (by omega)
    simp only [List.map_append, List.map_cons, List.map_nil, List.length_append, List.length_singleton] at e
    have hr : rd_T88 l (pre.length : Int) = y := by rw [← h]; exact rdmidLabeli pre suf y
    simp only [impl_SetText.l0, hr]
    rw [if_pos (by omega), if_pos (by omega), if_pos (by omega), if_pos (by omega), if_pos (by simp only [ba_szapp, sz2']; omega), if_pos (by simp only [ba_szapp, sz2']; omega), if_pos (by rw [List.length_map]; omega), wrap_up pre.length (by omega)]
    exact e
theorem implSetText_ev (l : List S88) (h : l.length ≤ 4000000 ∧ ∀ y ∈ l, WiLabel y) : Ev (fun k => impl_SetText.f k l) (setText l) := by
  obtain ⟨K, hK⟩ := implSetOk_ev l h
  by_cases ho : setOk l = true
  · have hl := setOk_len l ho
    obtain ⟨K', hK'⟩ := implText_go l hl h.2 l [] rfl
    refine ⟨K + K', fun k hk => ?_⟩
    have e := hK k (by omega)
    have e' := hK' k (by omega)
    simp only at e
    simp only [List.map_nil, List.length_nil] at e'
    simp only [impl_SetText.f, e, Option.bind_some, ho, if_true, setText]
    exact e'
  · refine ⟨K, fun k hk => ?_⟩
    have e := hK k hk
    simp only at e
    simp [impl_SetText.f, e, ho, setText]
theorem setText_sz (l : List S88) (h : l.length ≤ 4000000 ∧ ∀ y ∈ l, WiLabel y) : (setText l).size < 4611686018427387904 := by
  unfold setText
  split
  · have := setTail_len true l h.2
    have h1 := h.1
    rw [ba_len]
    simp only [List.length_append, List.length_singleton]
    omega
  · simp [ByteArray.size]
/-- A sum's step. -/
def sumStep (n b : Int) : Int := ((Go.bits .xor .u32 n b) * 16777619) % 4294967296
def sumGo (s : ByteArray) : Nat → Nat → Int → Int
  | 0, _, n => n
  | d + 1, i, n => sumGo s d (i + 1) (sumStep n (bt s (i : Int)))
theorem xor_nat (k : IntKind) (j : Nat) (hj : j ≤ k.bits) (hk : ∀ n : Int, 0 ≤ n → n < 2 ^ j → k.wrap n = n) (a b : Nat) (ha : a < 2 ^ j) (hb : b < 2 ^ j) :
    Go.bits .xor k a b = ((a ^^^ b : Nat) : Int) := by
  have hp : 2 ^ j ≤ 2 ^ k.bits := Nat.pow_le_pow_right (by decide) hj
  have ha' : a % 2 ^ k.bits = a := Nat.mod_eq_of_lt (Nat.lt_of_lt_of_le ha hp)
  have hb' : b % 2 ^ k.bits = b := Nat.mod_eq_of_lt (Nat.lt_of_lt_of_le hb hp)
  have cast : ∀ n : Nat, n < 2 ^ j → ((n : Nat) : Int) < 2 ^ j := fun n h => by exact_mod_cast h
  simp only [Go.bits, BitVec.ofInt_natCast, BitVec.toNat_xor, BitVec.toNat_ofNat, ha', hb']
  exact hk _ (Int.natCast_nonneg _) (cast _ (Nat.xor_lt_two_pow ha hb))
theorem xor_both (n b : Int) (h0 : 0 ≤ n) (h1 : n < 4294967296) (h2 : 0 ≤ b) (h3 : b ≤ 255) : ∃ X : Nat, X < 4294967296 ∧ Go.bits .xor .u32 n b = (X : Int) ∧ Go.bits .xor .i64 n b = (X : Int) := by
  obtain ⟨a, rfl⟩ := Int.eq_ofNat_of_zero_le h0
  obtain ⟨c, rfl⟩ := Int.eq_ofNat_of_zero_le h2
  have ha : a < 2 ^ 32 := by omega
  have hc : c < 2 ^ 32 := by omega
  refine ⟨a ^^^ c, Nat.xor_lt_two_pow ha hc, ?_, ?_⟩
  · exact xor_nat .u32 32 (by decide) (fun n h h' => by rw [IntKind.wrap_u32]; omega) a c ha hc
  · exact xor_nat .i64 32 (by decide) (fun n h h' => by rw [IntKind.wrap_i64]; omega) a c ha hc
theorem sumStep_range (n b : Int) : 0 ≤ sumStep n b ∧ sumStep n b < 4294967296 := by unfold sumStep; omega
theorem step_spec (n b : Int) (h0 : 0 ≤ n) (h1 : n < 4294967296) (h2 : 0 ≤ b) (h3 : b ≤ 255) :
    Go.bits .and .i64 (wrap64 ((Go.bits .xor .i64 n (wrap64 b)) * 16777619)) 4294967295 = sumStep n b := by
  obtain ⟨X, hX, e1, e2⟩ := xor_both n b h0 h1 h2 h3
  unfold sumStep
  rw [wrap_id (x := b) (by omega) (by omega), e1, e2, wrap_id (by omega) (by omega)]
  exact bits_mask .i64 62 (by decide) (fun n h h' => by rw [IntKind.wrap_i64]; omega) 32 (by decide) _ (by omega) (by omega)
theorem step_impl (n b : Int) (h2 : 0 ≤ b) (h3 : b ≤ 255) : ((Go.bits .xor .u32 n (b % 4294967296)) * 16777619) % 4294967296 = sumStep n b := by
  rw [Int.emod_eq_of_lt h2 (by omega)]; rfl
theorem implSum_go (s : ByteArray) (h : s.size < 4611686018427387904) : ∀ d i n, d + i = s.size → 0 ≤ n → n < 4294967296 → Ev (fun k => impl_Sum.l0 k s n (i : Int)) (sumGo s d i n)
  | 0, i, n, hd, h0, h1 => by
    refine ⟨1, fun k hk => ?_⟩
    obtain ⟨m, rfl⟩ : ∃ m, k = m + 1 := ⟨k - 1, by omega⟩
    simp only [impl_Sum.l0, sumGo]
    rw [if_neg (by omega), wrap_id (by omega) (by omega)]
  | d + 1, i, n, hd, h0, h1 => by
    have hr := sumStep_range n (bt s (i : Int))
    obtain ⟨K, hK⟩ := implSum_go s h d (i + 1) (sumStep n (bt s (i : Int))) (by omega) hr.1 hr.2
    refine ⟨K + 1, fun k hk => ?_⟩
    obtain ⟨m, rfl⟩ : ∃ m, k = m + 1 := ⟨k - 1, by omega⟩
    have e := hK m (by omega)
    have hb := bt_range s (i : Int)
    simp only [impl_Sum.l0, sumGo]
    rw [if_pos (by omega), if_pos (by omega), step_impl n _ hb.1 hb.2, wrap_up i (by omega)]
    exact e
theorem specSum_go (s : ByteArray) (h : s.size < 4611686018427387904) : ∀ d i n, d + i = s.size → 0 ≤ n → n < 4294967296 → Ev (fun k => spec_Sum.l0 k s n (i : Int)) (sumGo s d i n)
  | 0, i, n, hd, h0, h1 => by
    refine ⟨1, fun k hk => ?_⟩
    obtain ⟨m, rfl⟩ : ∃ m, k = m + 1 := ⟨k - 1, by omega⟩
    simp only [spec_Sum.l0, sumGo]
    rw [if_neg (by omega)]
  | d + 1, i, n, hd, h0, h1 => by
    have hr := sumStep_range n (bt s (i : Int))
    obtain ⟨K, hK⟩ := specSum_go s h d (i + 1) (sumStep n (bt s (i : Int))) (by omega) hr.1 hr.2
    refine ⟨K + 1, fun k hk => ?_⟩
    obtain ⟨m, rfl⟩ : ∃ m, k = m + 1 := ⟨k - 1, by omega⟩
    have e := hK m (by omega)
    have hb := bt_range s (i : Int)
    simp only [spec_Sum.l0, sumGo]
    rw [if_pos (by omega), if_pos (by omega), step_spec n _ h0 h1 hb.1 hb.2, wrap_up i (by omega)]
    exact e
def sumOf (s : ByteArray) : Int := sumGo s s.size 0 2166136261
def fingerOf (l : List S88) : Int := Int.tmod (Go.bits .xor .i64 (sumOf (setText l)) (sumOf (setText l) / 65536)) 32
theorem implFinger_ev (l : List S88) (h : l.length ≤ 4000000 ∧ ∀ y ∈ l, WiLabel y) : Ev (fun k => impl_Finger.f k l) (fingerOf l) := by
  obtain ⟨K, g⟩ := implSetText_ev l h
  obtain ⟨K', g'⟩ := implSum_go (setText l) (setText_sz l h) (setText l).size 0 2166136261 (by omega) (by omega) (by omega)
  refine ⟨K + K', fun k hk => ?_⟩
  have e := g k (by omega)
  have e' := g' k (by omega)
  simp only at e e'
  simp only [impl_Finger.f, impl_Sum.f, e, Option.bind_some, show ((0 : Nat) : Int) = 0 from rfl] at e' ⊢
  rw [e', Option.bind_some]; rfl
theorem specFinger_ev (l : List S88) (h : l.length ≤ 4000000 ∧ ∀ y ∈ l, WiLabel y) : Ev (fun k => spec_Finger.f k l) (fingerOf l) := by
  obtain ⟨K, g⟩ := specSetText_ev l h
  obtain ⟨K', g'⟩ := specSum_go (setText l) (setText_sz l h) (setText l).size 0 2166136261 (by omega) (by omega) (by omega)
  refine ⟨K + K', fun k hk => ?_⟩
  have e := g k (by omega)
  have e' := g' k (by omega)
  simp only at e e'
  simp only [spec_Finger.f, spec_Sum.f, e, Option.bind_some, show ((0 : Nat) : Int) = 0 from rfl] at e' ⊢
  rw [e', Option.bind_some]; rfl
def partOf (a n : Int) : Int := if n < 1 then 0 else if a < 0 then 0 else Int.tmod a n
theorem implPartOf_is (a n : Int) : impl_PartOf.f a n = some (partOf a n) := by
  unfold impl_PartOf.f partOf
  by_cases h : n < 1
  · simp [h]
  · by_cases h2 : a < 0
    · simp [h, h2]
    · simp only [if_neg h, if_neg h2]; rw [if_neg (by omega)]
theorem specPartOf_is (a n : Int) : spec_PartOf.f a n = some (partOf a n) := by
  unfold spec_PartOf.f partOf
  by_cases h : n < 1
  · simp [h]
  · by_cases h2 : a < 0
    · simp [h, h2]
    · simp only [if_neg h, if_neg h2]; rw [if_neg (by omega)]

end Go.Proofs.Yticgekgojgkbgaa.Print
end
section
namespace Go.Proofs.Yticgekgojgkbgaa.Print
open Go.RowKit Go.Proofs.YticgekgojgkbgaaV.PrintWords Go.Proofs.YticgekgojgkbgaaV.PrintLast Go.Proofs.YticgekgojgkbgaaV.PrintMore
set_option linter.unusedVariables false
set_option linter.unusedSimpArgs false
theorem rdnAlarm (l : List S43) (i : Nat) : rd_T43 l (i : Int) = l.getD i z43 := by unfold rd_T43; simp
/-- A label as two lists of bytes; an alarm as what it holds. -/
def lab (x : S88) : List UInt8 × List UInt8 := (x.f0.toList, x.f1.toList)
def sameSet (a b : List S88) : Bool := decide (a.map lab = b.map lab)
theorem map_ne_of_length {α β : Type} {f : α → β} {a b : List α} (h : ¬ a.length = b.length) : ¬ (a.map f = b.map f) := fun e => h (by simpa using congrArg List.length e)
theorem labNe (x y : S88) : ((!(x.f0.toList == y.f0.toList) || (!(x.f1.toList == y.f1.toList))) = true) ↔ ¬ lab x = lab y := by
  unfold lab
  simp only [Prod.mk.injEq, Bool.or_eq_true, Bool.not_eq_true', beq_eq_false_iff_ne]
  constructor
  · rintro (h | h) ⟨h1, h2⟩
    · exact h h1
    · exact h h2
  · intro h
    by_cases h1 : x.f0.toList = y.f0.toList
    · exact .inr fun h2 => h ⟨h1, h2⟩
    · exact .inl h1
theorem implSameSet_ev (a b : List S88) (h : a.length < 4611686018427387904) : Ev (fun k => impl_SameSet.f k a b) (sameSet a b) := by
  unfold impl_SameSet.f sameSet
  by_cases hl : a.length = b.length
  · simp only [if_pos (show (a.length : Int) = (b.length : Int) by omega)]
    rw [← scan_same0 lab z88 a b hl]
    refine scan_ev (F := fun k i => impl_SameSet.l0 k a b (a.length : Int) i) (n := a.length) (fun k => ?_) (fun i hi => ⟨0, fun k _ => ?_⟩) a.length 0 (by omega)
    · simp only [impl_SameSet.l0]; rw [if_neg (by omega)]
    · simp only [impl_SameSet.l0]
      rw [if_pos (by omega), if_pos (by omega), if_pos (by omega), if_pos (by omega), rdnLabel, rdnLabel, wrap_up i (by omega)]
      by_cases hc : lab (a.getD i z88) = lab (b.getD i z88)
      · rw [if_neg (fun e => (labNe _ _).1 e hc), if_pos hc]; rfl
      · rw [if_pos ((labNe _ _).2 hc), if_neg hc]; rfl
  · simp only [if_neg (show ¬ (a.length : Int) = (b.length : Int) by omega), decide_eq_false (map_ne_of_length hl)]
    exact Ev.now _
theorem specSameSet_ev (a b : List S88) (h : a.length < 4611686018427387904) : Ev (fun k => spec_SameSet.f k a b) (sameSet a b) := by
  unfold spec_SameSet.f sameSet
  by_cases hl : a.length = b.length
  · simp only [if_pos (show (a.length : Int) = (b.length : Int) by omega)]
    rw [← scan_same0 lab z88 a b hl]
    refine scan_ev (F := fun k i => spec_SameSet.l0 k a b i) (n := a.length) (fun k => ?_) (fun i hi => ⟨0, fun k _ => ?_⟩) a.length 0 (by omega)
    · simp only [spec_SameSet.l0]; rw [if_neg (by omega)]
    · simp only [spec_SameSet.l0]
      rw [if_pos (by omega), if_pos (by omega), if_pos (by omega), rdnLabel, rdnLabel, wrap_up i (by omega)]
      by_cases hc : lab (a.getD i z88) = lab (b.getD i z88)
      · rw [if_neg (fun e => (labNe _ _).1 e hc), if_pos hc]; rfl
      · rw [if_pos ((labNe _ _).2 hc), if_neg hc]; rfl
  · simp only [if_neg (show ¬ (a.length : Int) = (b.length : Int) by omega), decide_eq_false (map_ne_of_length hl)]
    exact Ev.now _

end Go.Proofs.Yticgekgojgkbgaa.Print
end
section
namespace Go.Proofs.Yticgekgojgkbgaa.Print
open Go.RowKit Go.Proofs.YticgekgojgkbgaaV.PrintWords Go.Proofs.YticgekgojgkbgaaV.PrintLast Go.Proofs.YticgekgojgkbgaaV.PrintMore
set_option linter.unusedVariables false
set_option linter.unusedSimpArgs false
theorem place_ge {α : Type} (p : α → Bool) : ∀ (l : List α) (i : Nat), (0 ≤ place p l i) ↔ l.any p = true
  | [], i => by simp [place]
  | x :: l, i => by
    unfold place
    by_cases h : p x = true
    · rw [if_pos h]; simp [h]
    · rw [if_neg h, place_ge p l (i + 1)]; simp [h]
theorem place_lo {α : Type} (p : α → Bool) : ∀ (l : List α) (i : Nat), -1 ≤ place p l i
  | [], i => by simp [place]
  | x :: l, i => by
    unfold place
    split
    · omega
    · exact place_lo p l (i + 1)

end Go.Proofs.Yticgekgojgkbgaa.Print
end
section
namespace Go.Proofs.Yticgekgojgkbgaa.Print
open Go.RowKit Go.Proofs.YticgekgojgkbgaaV.PrintWords Go.Proofs.YticgekgojgkbgaaV.PrintLast Go.Proofs.YticgekgojgkbgaaV.PrintMore
set_option linter.unusedVariables false
set_option linter.unusedSimpArgs false
def labelsAt (l : List S43) (s : List S88) : Int := place (fun a => sameSet a.f0 s) l 0
theorem implLabelsAt_ev (l : List S43) (s : List S88) (h : l.length ≤ 4000000 ∧ ∀ y ∈ l, WiAlarm y) : Ev (fun k => impl_labelsAt.f k l s) (labelsAt l s) := by
  have h1 := h.1
  unfold impl_labelsAt.f labelsAt
  rw [← scan_place0 (fun a : S43 => sameSet a.f0 s) z43 l]
  refine scan_ev (F := fun k i => impl_labelsAt.l0 k s l (l.length : Int) i) (n := l.length) (fun k => ?_) (fun i hi => ?_) l.length 0 (by omega)
  · simp only [impl_labelsAt.l0]; rw [if_neg (by omega)]
  · have hw := (h.2 _ (getD_mem l i z43 hi)).1.1
    obtain ⟨K, g⟩ := implSameSet_ev (l.getD i z43).f0 s (by omega)
    refine ⟨K, fun k hk => ?_⟩
    have e := g k hk
    simp only at e
    simp only [impl_labelsAt.l0]
    rw [if_pos (by omega), if_pos (by omega), if_pos (by omega), rdnAlarm, e, Option.bind_some, wrap_up i (by omega)]
    cases sameSet (l.getD i z43).f0 s <;> simp [goOn]

end Go.Proofs.Yticgekgojgkbgaa.Print
end
