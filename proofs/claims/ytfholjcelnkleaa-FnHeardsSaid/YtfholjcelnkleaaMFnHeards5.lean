import Derived.Test.YtfholjcelnkleaaMFnHeards1
import Derived.Laws.Cover1
import Derived.Test.YtfholjcelnkleaaMFnHeards4
import Derived.Test.YtfholjcelnkleaaMFnHeards2
import Derived.Test.YtfholjcelnkleaaMFnHeards3
section
namespace Go.Proofs.Ytfholjcelnkleaa.Print
open Go.RowKit Go.Proofs.YtfholjcelnkleaaV.PrintWords Go.Proofs.YtfholjcelnkleaaV.PrintLast Go.Proofs.YtfholjcelnkleaaV.PrintMore
attribute [local go_sem] max2_int min2_int max_two min_two max_three min_three max_four min_four
set_option linter.unusedVariables false
set_option linter.unusedSimpArgs false
set_option maxHeartbeats 8000000
set_option maxRecDepth 100000
def impl_SetOk.l0 : Nat → List (S164) → List (S164) → Int → Int → Option (Bool)
 | 0, _, _, _, _ => none
 | k + 1, x0, x5, x6, x7 => if x7 < x6 then (if 0 ≤ x7 then (if x7 < (x5.length : Int) then (if x7 ≥ 4 then (some false) else ((impl_LabelOk.f k ((rd_T164 x5 x7).f0) ((rd_T164 x5 x7).f1)).bind fun t794 => (if t794 = true then (if x7 > 0 then (if 0 ≤ (wrap64 (x7 - 1)) then (if (wrap64 (x7 - 1)) < (x0.length : Int) then (if ((Op.bytesLess (((rd_T164 x0 (wrap64 (x7 - 1))).f0).toList) (((rd_T164 x5 x7).f0).toList)) = true) then (impl_SetOk.l0 k x0 x5 x6 (wrap64 (x7 + 1))) else (some false)) else (none)) else (none)) else (impl_SetOk.l0 k x0 x5 x6 (wrap64 (x7 + 1)))) else (some false)))) else (none)) else (none)) else (some true)
def impl_SetOk.f (k : Nat) (l0 : List (S164)) : Option (Bool) := impl_SetOk.l0 k l0 l0 (l0.length : Int) 0
theorem impl_SetOk.mono_l : ∀ k, (∀ y0 y1 y2 y3, LeO (impl_SetOk.l0 k y0 y1 y2 y3) (impl_SetOk.l0 (k + 1) y0 y1 y2 y3))
 | 0 => fun _ _ _ _ r h => by simp [impl_SetOk.l0] at h
 | k + 1 => by
  have ih0 := impl_SetOk.mono_l k
  intro y0 y1 y2 y3
  unfold impl_SetOk.l0
  repeat' first
  | (with_reducible exact ih0 _ _ _ _)
  | (with_reducible exact impl_LabelOk.mono _ _ _)
  | (with_reducible exact LeO.refl _)
  | (with_reducible exact LeO.none _)
  | (with_reducible refine LeO.ite ?_ ?_)
  | (with_reducible refine LeO.bind ?_ (fun _ => ?_))
  | exact ih0 _ _ _ _
  | exact impl_LabelOk.mono _ _ _
theorem impl_SetOk.mono : ∀ a0 k, LeO (impl_SetOk.f k a0) (impl_SetOk.f (k + 1) a0) := by
 intro a0 k
 have ih0 := impl_SetOk.mono_l k
 unfold impl_SetOk.f
 repeat' first
   | (with_reducible exact ih0 _ _ _ _)
   | (with_reducible exact impl_LabelOk.mono _ _ _)
   | (with_reducible exact LeO.refl _)
   | (with_reducible exact LeO.none _)
   | (with_reducible refine LeO.ite ?_ ?_)
   | (with_reducible refine LeO.bind ?_ (fun _ => ?_))
   | exact ih0 _ _ _ _
   | exact impl_LabelOk.mono _ _ _
def impl_SetOk.T4 : Bool × List (List Nat × List Nat) := (true, [([], []), ([0], [0]), ([1], [1]), ([2], [2]), ([3, 2, 2], [2, 3]), ([4, 2], [2, 4]), ([2, 5], [2, 5]), ([6, 4], [6]), ([7], [7]), ([8, 7], [7, 8]), ([9, 7, 7], [7, 9]), ([10], [10]), ([10], [10]), ([12, 10], [10, 12]), ([11, 13, 10], [10, 11, 13]), ([14, 10], [10, 14]), ([15, 10], [10, 15]), ([10], [10]), ([17, 10], [10, 17]), ([16, 18, 10], [10, 16, 18]), ([10, 19, 7], [7, 10, 19]), ([7, 20], [7, 20])])
def impl_SetOk.B4 : List Nat := [0, 1, 3, 7, 15, 31, 63, 127, 255, 511, 1023, 2047, 2047, 6143, 16383, 32767, 65535, 2047, 133119, 524287, 1048575, 2097151]
theorem impl_SetOk.tab4 : rtab .any (opsOf Try.f110 4) = impl_SetOk.T4 := by kernel_rfl
theorem impl_SetOk.bits4 : waitsOk impl_SetOk.T4.2 impl_SetOk.B4 = true := by kernel_rfl
theorem impl_SetOk.calls (k : Nat) (A0 : Option Addr) (c0 : Nat) (l0 : List (S164)) (r : Bool) (w : World) (hr0 : Kd.C k164 w A0 l0.length l0) (hc0 : l0.length ≤ c0) (h : impl_SetOk.f k l0 = some r) :
  Calls Try.prog 110 #[.slice A0 l0.length c0] w fun e w' => e = .returned (.bool r) ∧ Below w.heap.size w w' := by
 have hu164 := Try.underlying164
 have HR0 := Aside0.mk hr0
 have HC0 := Aside0.mk hc0
 clear hr0 hc0
 have HB := Aside0.mk (Below.refl w.heap.size w)
 have H : (impl_SetOk.l0 k l0 l0 (l0.length : Int) 0) = some r := h
 clear h
 have H' := Aside0.mk H
 clear H
 go_enter Try.func110, Try.ntmps110
 go_wp2
 go_loopg [7] k (fun kq v7 w' => ∃ (x7_1 : Int), v7 = .int .i64 x7_1 ∧ Aside0 (impl_SetOk.l0 kq l0 l0 (l0.length : Int) x7_1 = some r) ∧ Aside0 (kq ≤ k) ∧ Aside0 (Below w.heap.size w w'))
 case atStart => exact ⟨(0), (by first | rfl | (simp; done) | (simp [*]; done)), H', ⟨Nat.le_refl _⟩, ⟨by repeat (first | (with_reducible first | exact HB.out | apply ba_ | apply bn_ | apply bd_) | exact HB.out)⟩⟩
 case round =>
  clear H'
  try clear c1
  obtain ⟨x7_1, rfl, HA, HK1, HB⟩ := hrel
  cases gk with
  | zero => exact absurd HA.out (by simp [impl_SetOk.l0])
  | succ k1 =>
   have H := HA.out
   clear HA
   simp only [impl_SetOk.l0] at H
   by_cases c2 : x7_1 < (l0.length : Int)
   ·
    rw [if_pos c2] at H
    have c2b0 := decide_eq_true c2
    clear c2
    by_cases c3 : 0 ≤ x7_1
    ·
     rw [if_pos c3] at H
     have c3b0 := decide_eq_true c3
     clear c3
     by_cases c4 : x7_1 < (l0.length : Int)
     ·
      rw [if_pos c4] at H
      have c4b0 := decide_eq_true c4
      clear c4
      by_cases c5 : x7_1 ≥ 4
      ·
       rw [if_pos c5] at H
       have c5b0 : decide (4 ≤ x7_1) = true := decide_eq_true c5
       clear c5
       obtain rfl := Option.some.inj H
       have p792 : 0 ≤ (x7_1 : Int) := of_decide_eq_true (by with_reducible assumption)
       have q792 : x7_1 < (l0.length : Int) := of_decide_eq_true (by with_reducible assumption)
       obtain ⟨ad792, e792, hx792_0, hx792_1⟩ := at_T164 HR0.out x7_1 p792 q792
       cases e792
       replace hx792_0 := cl_ HB.out hx792_0
       replace hx792_1 := cl_ HB.out hx792_1
       replace p792 := eq_true p792
       replace q792 := eq_true q792
       try go_wp2_with (first | ((with_reducible refine gate_dst (N := 4) rfl ?_); refine box_event ?hg (N := 4) ?hd (cs := #[.string (⟨#[]⟩ : ByteArray), .string (⟨#[]⟩ : ByteArray)]) (t := 164) ?hr ?_; (case hd => rfl); (case hg => rfl); (case hr => first | (go_simp; done) | (go_simp; rfl)); intro gb793 hg w6 hbox hb; have n0_ := Aside0.mk (below_step (by repeat (first | (with_reducible first | exact HB.out | apply ba_ | apply bn_ | apply bd_) | exact HB.out)) hb); have BK793 := Aside0.mk (hbox); have GW793 := Aside0.mk ((by rw [hg]; exact (below_size (by repeat (first | (with_reducible first | exact HB.out | apply ba_ | apply bn_ | apply bd_) | exact HB.out))) : w.heap.size ≤ gb793)); have GE793 := GW793; clear HB; have HB := n0_; clear n0_; clear hb hbox hg; have hcz7_0 : w6.cell? ⟨gb793, 0, none⟩ = some (.string (⟨#[]⟩ : ByteArray)) := (blk_cell BK793.out 0).trans rfl; have hcz7_1 : w6.cell? ⟨gb793, 1, none⟩ = some (.string (⟨#[]⟩ : ByteArray)) := (blk_cell BK793.out 1).trans rfl; have hfz7_0 := blk_frozen BK793.out 0; have hfz7_1 := blk_frozen BK793.out 1))
       have n0_ : Aside0 (((w6.setCell ⟨gb793, 0, none⟩ (.string ((rd_T164 l0 x7_1).f0))).setCell ⟨gb793, 1, none⟩ (.string ((rd_T164 l0 x7_1).f1))).heap[gb793]? = some (.cells #[.string ((rd_T164 l0 x7_1).f0), .string ((rd_T164 l0 x7_1).f1)] 164 (0, 0))) := ⟨by (with_reducible repeat (first | refine kn_ ?_ _ | refine kd_ ?_ | refine ka_ ?_ _)); refine blk_put (cs := #[.string ((rd_T164 l0 x7_1).f0), .string (⟨#[]⟩ : ByteArray)]) ?_ 1 _ rfl; (with_reducible repeat (first | refine kn_ ?_ _ | refine kd_ ?_ | refine ka_ ?_ _)); refine blk_put (cs := #[.string (⟨#[]⟩ : ByteArray), .string (⟨#[]⟩ : ByteArray)]) ?_ 0 _ rfl; (with_reducible repeat (first | refine kn_ ?_ _ | refine kd_ ?_ | refine ka_ ?_ _)); exact BK793.out⟩
       have n1_ : Aside0 (Below w.heap.size w ((w6.setCell ⟨gb793, 0, none⟩ (.string ((rd_T164 l0 x7_1).f0))).setCell ⟨gb793, 1, none⟩ (.string ((rd_T164 l0 x7_1).f1)))) := ⟨by repeat (first | (with_reducible first | exact HB.out | apply ba_ | apply bn_ | apply bd_ | refine below_set ?_ GE793.out) | exact HB.out)⟩
       (try clear BK793)
       (try clear HB)
       generalize ((w6.setCell ⟨gb793, 0, none⟩ (.string ((rd_T164 l0 x7_1).f0))).setCell ⟨gb793, 1, none⟩ (.string ((rd_T164 l0 x7_1).f1))) = w8 at n0_ n1_ ⊢
       have BK793 := n0_
       have HB := n1_
       clear n0_ n1_
       have n0_ := Aside0.mk (blk_drew BK793.out)
       have n1_ := Aside0.mk (bd_ HB.out)
       clear BK793
       clear HB
       have BK793 := n0_
       have HB := n1_
       clear n0_ n1_
       refine start_ (n := 22) (S := fun w' => True) (ds := []) #[f_,f_,f_,f_,f_,f_,f_,f_,f_,f_,f_,f_,f_,f_,f_,f_,f_,f_,f_,f_,f_,f_] (by kernel_rfl) rfl rfl trivial (fun hHeld => ?_); refine with_tabW impl_SetOk.tab4 impl_SetOk.bits4 (fun HT_ HW_ => ?_)
       generalize w8.drew = w9 at BK793 HB hHeld ⊢
       refine pu_ 0 12 ?_ (b_ 1 21) rfl rfl HT_.out ?_ ?_ ?_ ?_; rotate_left; intro w'; go_simp; with_reducible rfl; rotate_left; simp only [fr_]; rfl
       refine pu_ 1 13 ?_ (b_ 2 20) rfl rfl HT_.out ?_ ?_ ?_ ?_; rotate_left; intro w'; go_simp; with_reducible rfl; rotate_left; simp only [fr_]; rfl
       refine pu_ 2 14 ?_ (b_ 3 19) rfl rfl HT_.out ?_ ?_ ?_ ?_; rotate_left; intro w'; go_simp; with_reducible rfl; rotate_left; simp only [fr_]; rfl
       refine pv_ 3 15 ?_ (b_ 4 18) rfl rfl HT_.out ?_ ?_; rotate_left; simp only [fr_]; rfl
       refine pv_ 4 16 ?_ (b_ 5 17) rfl rfl HT_.out ?_ ?_; rotate_left; simp only [fr_]; rfl
       refine pv_ 5 17 ?_ (b_ 6 16) rfl rfl HT_.out ?_ ?_; rotate_left; simp only [fr_]; rfl
       refine pu_ 6 18 ?_ (b_ 7 15) rfl rfl HT_.out ?_ ?_ ?_ ?_; rotate_left; intro w'; go_simp; with_reducible rfl; rotate_left; simp only [fr_]; rfl
       refine pu_ 7 19 ?_ (b_ 8 14) rfl rfl HT_.out ?_ ?_ ?_ ?_; rotate_left; intro w'; go_simp; with_reducible rfl; rotate_left; simp only [fr_]; rfl
       refine pv_ 8 20 ?_ (b_ 9 13) rfl rfl HT_.out ?_ ?_; rotate_left; simp only [fr_]; rfl
       refine pv_ 9 21 ?_ (b_ 10 12) rfl rfl HT_.out ?_ ?_; rotate_left; simp only [fr_]; rfl
       refine pv_ 10 22 ?_ (b_ 11 11) rfl rfl HT_.out ?_ ?_; rotate_left; simp only [fr_]; rfl
       refine pv_ 11 23 ?_ (b_ 12 10) rfl rfl HT_.out ?_ ?_; rotate_left; simp only [fr_]; rfl
       refine pv_ 12 24 ?_ (b_ 13 9) rfl rfl HT_.out ?_ ?_; rotate_left; simp only [fr_]; rfl
       refine pv_ 13 25 ?_ (b_ 14 8) rfl rfl HT_.out ?_ ?_; rotate_left; simp only [fr_]; rfl
       refine pv_ 14 26 ?_ (b_ 15 7) rfl rfl HT_.out ?_ ?_; rotate_left; simp only [fr_]; rfl
       refine pv_ 15 27 ?_ (b_ 16 6) rfl rfl HT_.out ?_ ?_; rotate_left; simp only [fr_]; rfl
       refine pv_ 16 28 ?_ (b_ 17 5) rfl rfl HT_.out ?_ ?_; rotate_left; simp only [fr_]; rfl
       refine pv_ 17 29 ?_ (b_ 18 4) rfl rfl HT_.out ?_ ?_; rotate_left; simp only [fr_]; rfl
       refine pv_ 18 30 ?_ (b_ 19 3) rfl rfl HT_.out ?_ ?_; rotate_left; simp only [fr_]; rfl
       refine pv_ 19 31 ?_ (b_ 20 2) rfl rfl HT_.out ?_ ?_; rotate_left; simp only [fr_]; rfl
       refine pv_ 20 32 ?_ (b_ 21 1) rfl rfl HT_.out ?_ ?_; rotate_left; simp only [fr_]; rfl
       refine pu_ 21 33 ?_ (b_ 22 0) rfl rfl HT_.out ?_ ?_ ?_ ?_; rotate_left; intro w'; go_simp; with_reducible rfl; rotate_left; simp only [fr_]; rfl
       refine done_ (done_of HT_.out (by kernel_rfl)) ?_
       try go_wp2
       go_ret
       exact ⟨by first | rfl | (simp [errW_none, errW_some] <;> rfl) | (simp [*, errW_none, errW_some] <;> rfl), by repeat (first | (with_reducible first | exact HB.out | apply ba_ | apply bn_ | apply bd_ | refine below_set ?_ GE793.out) | exact HB.out)⟩
      rw [if_neg c5] at H
      have c5b0 : decide (4 ≤ x7_1) = false := decide_eq_false c5
      clear c5
      replace H := Option.bind_eq_some_iff.mp H
      obtain ⟨t794, A100, H⟩ := H
      have A10 := Aside0.mk A100
      clear A100
      by_cases c11 : t794 = true
      ·
       subst c11
       rw [if_pos rfl] at H
       by_cases c12 : x7_1 > 0
       ·
        rw [if_pos c12] at H
        have c12b0 : decide (0 < x7_1) = true := decide_eq_true c12
        clear c12
        obtain ⟨ji13, hji13⟩ : ∃ j_ : Int, (wrap64 (x7_1 - 1)) = j_ := ⟨_, rfl⟩
        replace H : (if 0 ≤ (ji13) then (if (ji13) < (l0.length : Int) then (if ((Op.bytesLess (((rd_T164 l0 (ji13)).f0).toList) (((rd_T164 l0 x7_1).f0).toList)) = true) then (impl_SetOk.l0 k1 l0 l0 (l0.length : Int) (wrap64 (x7_1 + 1))) else (some false)) else (none)) else (none)) = some r := by first | (rw [hji13] at H; exact H) | (simp only [hji13] at H ⊢; exact H)
        (try rw [hji13] at A10)
        have hji13w : (IntKind.i64.wrap (x7_1 - 1)) = ji13 := (i64_w _).trans hji13
        by_cases c14 : 0 ≤ (ji13)
        ·
         rw [if_pos c14] at H
         have c14b0 := decide_eq_true c14
         clear c14
         by_cases c15 : (ji13) < (l0.length : Int)
         ·
          rw [if_pos c15] at H
          have c15b0 := decide_eq_true c15
          clear c15
          by_cases c16 : ((Op.bytesLess (((rd_T164 l0 (ji13)).f0).toList) (((rd_T164 l0 x7_1).f0).toList)) = true)
          ·
           rw [if_pos c16] at H
           have c16b0 : (Op.bytesLess (((rd_T164 l0 (ji13)).f0).toList) (((rd_T164 l0 x7_1).f0).toList)) = true := c16
           clear c16
           have H' := Aside0.mk H
           clear H
           have p792 : 0 ≤ (x7_1 : Int) := of_decide_eq_true (by with_reducible assumption)
           have q792 : x7_1 < (l0.length : Int) := of_decide_eq_true (by with_reducible assumption)
           obtain ⟨ad792, e792, hx792_0, hx792_1⟩ := at_T164 HR0.out x7_1 p792 q792
           cases e792
           replace hx792_0 := cl_ HB.out hx792_0
           replace hx792_1 := cl_ HB.out hx792_1
           replace p792 := eq_true p792
           replace q792 := eq_true q792
           try go_wp2_with (first | ((with_reducible refine gate_dst (N := 4) rfl ?_); refine box_event ?hg (N := 4) ?hd (cs := #[.string (⟨#[]⟩ : ByteArray), .string (⟨#[]⟩ : ByteArray)]) (t := 164) ?hr ?_; (case hd => rfl); (case hg => rfl); (case hr => first | (go_simp; done) | (go_simp; rfl)); intro gb793 hg w17 hbox hb; have n0_ := Aside0.mk (below_step (by repeat (first | (with_reducible first | exact HB.out | apply ba_ | apply bn_ | apply bd_) | exact HB.out)) hb); have BK793 := Aside0.mk (hbox); have GW793 := Aside0.mk ((by rw [hg]; exact (below_size (by repeat (first | (with_reducible first | exact HB.out | apply ba_ | apply bn_ | apply bd_) | exact HB.out))) : w.heap.size ≤ gb793)); have GE793 := GW793; clear HB; have HB := n0_; clear n0_; clear hb hbox hg; have hcz18_0 : w17.cell? ⟨gb793, 0, none⟩ = some (.string (⟨#[]⟩ : ByteArray)) := (blk_cell BK793.out 0).trans rfl; have hcz18_1 : w17.cell? ⟨gb793, 1, none⟩ = some (.string (⟨#[]⟩ : ByteArray)) := (blk_cell BK793.out 1).trans rfl; have hfz18_0 := blk_frozen BK793.out 0; have hfz18_1 := blk_frozen BK793.out 1))
           have n0_ : Aside0 (((w17.setCell ⟨gb793, 0, none⟩ (.string ((rd_T164 l0 x7_1).f0))).setCell ⟨gb793, 1, none⟩ (.string ((rd_T164 l0 x7_1).f1))).heap[gb793]? = some (.cells #[.string ((rd_T164 l0 x7_1).f0), .string ((rd_T164 l0 x7_1).f1)] 164 (0, 0))) := ⟨by (with_reducible repeat (first | refine kn_ ?_ _ | refine kd_ ?_ | refine ka_ ?_ _)); refine blk_put (cs := #[.string ((rd_T164 l0 x7_1).f0), .string (⟨#[]⟩ : ByteArray)]) ?_ 1 _ rfl; (with_reducible repeat (first | refine kn_ ?_ _ | refine kd_ ?_ | refine ka_ ?_ _)); refine blk_put (cs := #[.string (⟨#[]⟩ : ByteArray), .string (⟨#[]⟩ : ByteArray)]) ?_ 0 _ rfl; (with_reducible repeat (first | refine kn_ ?_ _ | refine kd_ ?_ | refine ka_ ?_ _)); exact BK793.out⟩
           have n1_ : Aside0 (Below w.heap.size w ((w17.setCell ⟨gb793, 0, none⟩ (.string ((rd_T164 l0 x7_1).f0))).setCell ⟨gb793, 1, none⟩ (.string ((rd_T164 l0 x7_1).f1)))) := ⟨by repeat (first | (with_reducible first | exact HB.out | apply ba_ | apply bn_ | apply bd_ | refine below_set ?_ GE793.out) | exact HB.out)⟩
           (try clear BK793)
           (try clear HB)
           generalize ((w17.setCell ⟨gb793, 0, none⟩ (.string ((rd_T164 l0 x7_1).f0))).setCell ⟨gb793, 1, none⟩ (.string ((rd_T164 l0 x7_1).f1))) = w19 at n0_ n1_ ⊢
           have BK793 := n0_
           have HB := n1_
           clear n0_ n1_
           have n0_ := Aside0.mk (blk_drew BK793.out)
           have n1_ := Aside0.mk (bd_ HB.out)
           clear BK793
           clear HB
           have BK793 := n0_
           have HB := n1_
           clear n0_ n1_
           have p795 : 0 ≤ ((ji13) : Int) := of_decide_eq_true (by with_reducible assumption)
           have q795 : (ji13) < (l0.length : Int) := of_decide_eq_true (by with_reducible assumption)
           obtain ⟨ad795, e795, hx795_0, hx795_1⟩ := at_T164 HR0.out (ji13) p795 q795
           have hw795_1 := hx795_1
           have hw795_0 := hx795_0
           obtain rfl : ad792 = ad795 := (by injection e795)
           replace hx795_0 := cl_ HB.out hx795_0
           replace hx795_1 := cl_ HB.out hx795_1
           replace p795 := eq_true p795
           replace q795 := eq_true q795
           refine start_ (n := 22) (S := fun w' => w'.cell? ⟨gb793, 0, none⟩ = some (.string ((rd_T164 l0 x7_1).f0)) ∧ w'.cell? ⟨gb793, 1, none⟩ = some (.string ((rd_T164 l0 x7_1).f1)) ∧ w'.cell? (ad792.add (((ji13)).toNat * 2)) = some (.string ((rd_T164 l0 (ji13)).f0)) ∧ w'.cell? ⟨(ad792.add (((ji13)).toNat * 2)).block, (ad792.add (((ji13)).toNat * 2)).off + 1, none⟩ = some (.string ((rd_T164 l0 (ji13)).f1))) (ds := []) #[f_,f_,f_,f_,f_,f_,f_,f_,f_,f_,f_,f_,f_,f_,f_,f_,f_,f_,f_,f_,f_,f_] (by kernel_rfl) rfl rfl ⟨(blk_cell BK793.out 0).trans rfl, (blk_cell BK793.out 1).trans rfl, ((HB.out.cell (World.block_lt_of_cell? w _ hw795_0)).trans hw795_0), ((HB.out.cell (World.block_lt_of_cell? w _ hw795_1)).trans hw795_1)⟩ (fun hHeld => ?_); refine with_tabW impl_SetOk.tab4 impl_SetOk.bits4 (fun HT_ HW_ => ?_)
           generalize w19.drew = w20 at BK793 HB hx795_0 hx795_1 hHeld ⊢
           refine pu_ 0 12 ?_ (b_ 1 21) rfl rfl HT_.out ?_ ?_ ?_ ?_; rotate_left; intro w'; go_simp; with_reducible rfl; rotate_left; simp only [fr_]; rfl
           refine pu_ 1 13 ?_ (b_ 2 20) rfl rfl HT_.out ?_ ?_ ?_ ?_; rotate_left; intro w'; go_simp; with_reducible rfl; rotate_left; simp only [fr_]; rfl
           refine pu_ 2 14 ?_ (b_ 3 19) rfl rfl HT_.out ?_ ?_ ?_ ?_; rotate_left; intro w'; go_simp; with_reducible rfl; rotate_left; simp only [fr_]; rfl
           refine take_ (i := 3) (N := some 15) (v := ?_) (a' := ?_) #[t_,t_,t_,t_,f_,f_,f_,f_,f_,f_,f_,f_,f_,f_,f_,f_,f_,f_,f_,f_,f_,f_] rfl rfl (take_ofW HT_.out HW_.out (by kernel_rfl)) (fun _ _ _ h => h) (Or.inl ⟨by rfl, ?_⟩) hHeld ?_ ?_
           rotate_left
           ·
            rintro w' ⟨s0, s1, s2, s3⟩
            go_simp
            with_reducible rfl
           rotate_left
           ·
            simp only [fr_]
            rfl
           refine one_ (i := 4) (N := some 16) #[t_,t_,t_,t_,t_,f_,f_,f_,f_,f_,f_,f_,f_,f_,f_,f_,f_,f_,f_,f_,f_,f_] rfl rfl (one_of HT_.out (by kernel_rfl)) (by decide) (fun K hK => ?_)
           refine goes_ Try.func152 (by kernel_rfl) rfl #[.agg #[.string ((rd_T164 l0 x7_1).f0), .string ((rd_T164 l0 x7_1).f1)]] (by rfl) rfl rfl (by (try simp only [mp_]); first | done | rfl | (simp only [List.length_drop, List.length_take]; rfl)) ?_
           with_reducible refine (impl_LabelOk.calls k1 ((rd_T164 l0 x7_1).f0) ((rd_T164 l0 x7_1).f1) true _ A10.out).mono ?_
           rintro e w21 ⟨rfl, hb⟩
           refine ⟨_, rfl, ?_⟩
           have n0_ := Aside0.mk (bb_ BK793.out hb)
           have n1_ := Aside0.mk (below_step (by repeat (first | (with_reducible first | exact HB.out | apply ba_ | apply bn_ | apply bd_ | refine below_set ?_ GE793.out) | exact HB.out)) hb)
           clear BK793
           clear HB
           have BK793 := n0_
           have HB := n1_
           clear n0_ n1_
           (try clear hb)
           (try clear hb2)
           (try clear hk)
           (try clear hi)
           refine hK.out _ _ ⟨(blk_cell BK793.out 0).trans rfl, (blk_cell BK793.out 1).trans rfl, ((HB.out.cell (World.block_lt_of_cell? w _ hw795_0)).trans hw795_0), ((HB.out.cell (World.block_lt_of_cell? w _ hw795_1)).trans hw795_1)⟩ (fun hHeld => ?_)
           clear hK K
           refine norm_ (a' := ?_) ?_ ?_
           rotate_left
           ·
            show Act.put _ (some 16) _ = _
            simp only [fr_]
            rfl
           refine pu_ 5 17 ?_ (b_ 6 16) rfl rfl HT_.out ?_ ?_ ?_ ?_; rotate_left; intro w'; go_simp; with_reducible rfl; rotate_left; simp only [fr_]; rfl
           refine pu_ 6 18 ?_ (b_ 7 15) rfl rfl HT_.out ?_ ?_ ?_ ?_; rotate_left; intro w'; go_simp; with_reducible rfl; rotate_left; simp only [fr_]; rfl
           refine pu_ 7 19 ?_ (b_ 8 14) rfl rfl HT_.out ?_ ?_ ?_ ?_; rotate_left; intro w'; go_simp; with_reducible rfl; rotate_left; simp only [fr_]; rfl
           refine pu_ 8 20 ?_ (b_ 9 13) rfl rfl HT_.out ?_ ?_ ?_ ?_; rotate_left; intro w'; go_simp; with_reducible rfl; rotate_left; simp only [fr_]; rfl
           refine pu_ 9 21 ?_ (b_ 10 12) rfl rfl HT_.out ?_ ?_ ?_ ?_; rotate_left; intro w'; go_simp; with_reducible rfl; rotate_left; simp only [fr_]; rfl
           refine pu_ 10 22 ?_ (b_ 11 11) rfl rfl HT_.out ?_ ?_ ?_ ?_; rotate_left; intro w'; go_simp; with_reducible rfl; rotate_left; simp only [fr_]; rfl
           refine pu_ 11 23 ?_ (b_ 12 10) rfl rfl HT_.out ?_ ?_ ?_ ?_; rotate_left; intro w'; go_simp; with_reducible rfl; rotate_left; simp only [fr_]; rfl
           refine pu_ 12 24 ?_ (b_ 13 9) rfl rfl HT_.out ?_ ?_ ?_ ?_; rotate_left; intro w'; go_simp; with_reducible rfl; rotate_left; simp only [fr_]; rfl
           refine pu_ 13 25 ?_ (b_ 14 8) rfl rfl HT_.out ?_ ?_ ?_ ?_; rotate_left; intro w'; go_simp; with_reducible rfl; rotate_left; simp only [fr_]; rfl
           refine pu_ 14 26 ?_ (b_ 15 7) rfl rfl HT_.out ?_ ?_ ?_ ?_; rotate_left; intro w'; go_simp; with_reducible rfl; rotate_left; simp only [fr_]; rfl
           refine pu_ 15 27 ?_ (b_ 16 6) rfl rfl HT_.out ?_ ?_ ?_ ?_; rotate_left; intro w'; go_simp; with_reducible rfl; rotate_left; simp only [fr_]; rfl
           refine pu_ 17 29 ?_ #[t_,t_,t_,t_,t_,t_,t_,t_,t_,t_,t_,t_,t_,t_,t_,t_,f_,t_,f_,f_,f_,f_] rfl rfl HT_.out ?_ ?_ ?_ ?_; rotate_left; intro w'; go_simp; with_reducible rfl; rotate_left; simp only [fr_]; rfl
           refine take_ (i := 16) (N := some 28) (v := ?_) (a' := ?_) #[t_,t_,t_,t_,t_,t_,t_,t_,t_,t_,t_,t_,t_,t_,t_,t_,t_,t_,f_,f_,f_,f_] rfl rfl (take_ofW HT_.out HW_.out (by kernel_rfl)) (fun _ _ _ h => h) (Or.inl ⟨by rfl, ?_⟩) hHeld ?_ ?_
           rotate_left
           ·
            rintro w' ⟨s0, s1, s2, s3⟩
            go_simp
            with_reducible rfl
           rotate_left
           ·
            simp only [fr_]
            rfl
           refine take_ (i := 18) (N := some 30) (v := ?_) (a' := ?_) #[t_,t_,t_,t_,t_,t_,t_,t_,t_,t_,t_,t_,t_,t_,t_,t_,t_,t_,t_,f_,f_,f_] rfl rfl (take_ofW HT_.out HW_.out (by kernel_rfl)) (fun _ _ _ h => h) (Or.inl ⟨by rfl, ?_⟩) hHeld ?_ ?_
           rotate_left
           ·
            rintro w' ⟨s0, s1, s2, s3⟩
            go_simp
            with_reducible rfl
           rotate_left
           ·
            simp only [fr_]
            rfl
           refine pu_ 19 31 ?_ (b_ 20 2) rfl rfl HT_.out ?_ ?_ ?_ ?_; rotate_left; intro w'; go_simp; with_reducible rfl; rotate_left; simp only [fr_]; rfl
           refine pu_ 20 32 ?_ (b_ 21 1) rfl rfl HT_.out ?_ ?_ ?_ ?_; rotate_left; intro w'; go_simp; with_reducible rfl; rotate_left; simp only [fr_]; rfl
           refine pu_ 21 33 ?_ (b_ 22 0) rfl rfl HT_.out ?_ ?_ ?_ ?_; rotate_left; intro w'; go_simp; with_reducible rfl; rotate_left; simp only [fr_]; rfl
           refine done_ (done_of HT_.out (by kernel_rfl)) ?_
           try go_wp2
           go_roundg k1
           case measure => have := HK1.out; omega
           case rel => exact ⟨(wrap64 (x7_1 + 1)), (by first | rfl | (simp; done) | (simp [*]; done)), H', ⟨by have := HK1.out; omega⟩, ⟨by repeat (first | (with_reducible first | exact HB.out | apply ba_ | apply bn_ | apply bd_ | refine below_set ?_ GE793.out) | exact HB.out)⟩⟩
          rw [if_neg c16] at H
          have c16b0 : (Op.bytesLess (((rd_T164 l0 (ji13)).f0).toList) (((rd_T164 l0 x7_1).f0).toList)) = false := by simpa using c16
          clear c16
          obtain rfl := Option.some.inj H
          have p792 : 0 ≤ (x7_1 : Int) := of_decide_eq_true (by with_reducible assumption)
          have q792 : x7_1 < (l0.length : Int) := of_decide_eq_true (by with_reducible assumption)
          obtain ⟨ad792, e792, hx792_0, hx792_1⟩ := at_T164 HR0.out x7_1 p792 q792
          cases e792
          replace hx792_0 := cl_ HB.out hx792_0
          replace hx792_1 := cl_ HB.out hx792_1
          replace p792 := eq_true p792
          replace q792 := eq_true q792
          try go_wp2_with (first | ((with_reducible refine gate_dst (N := 4) rfl ?_); refine box_event ?hg (N := 4) ?hd (cs := #[.string (⟨#[]⟩ : ByteArray), .string (⟨#[]⟩ : ByteArray)]) (t := 164) ?hr ?_; (case hd => rfl); (case hg => rfl); (case hr => first | (go_simp; done) | (go_simp; rfl)); intro gb793 hg w22 hbox hb; have n0_ := Aside0.mk (below_step (by repeat (first | (with_reducible first | exact HB.out | apply ba_ | apply bn_ | apply bd_) | exact HB.out)) hb); have BK793 := Aside0.mk (hbox); have GW793 := Aside0.mk ((by rw [hg]; exact (below_size (by repeat (first | (with_reducible first | exact HB.out | apply ba_ | apply bn_ | apply bd_) | exact HB.out))) : w.heap.size ≤ gb793)); have GE793 := GW793; clear HB; have HB := n0_; clear n0_; clear hb hbox hg; have hcz23_0 : w22.cell? ⟨gb793, 0, none⟩ = some (.string (⟨#[]⟩ : ByteArray)) := (blk_cell BK793.out 0).trans rfl; have hcz23_1 : w22.cell? ⟨gb793, 1, none⟩ = some (.string (⟨#[]⟩ : ByteArray)) := (blk_cell BK793.out 1).trans rfl; have hfz23_0 := blk_frozen BK793.out 0; have hfz23_1 := blk_frozen BK793.out 1))
          have n0_ : Aside0 (((w22.setCell ⟨gb793, 0, none⟩ (.string ((rd_T164 l0 x7_1).f0))).setCell ⟨gb793, 1, none⟩ (.string ((rd_T164 l0 x7_1).f1))).heap[gb793]? = some (.cells #[.string ((rd_T164 l0 x7_1).f0), .string ((rd_T164 l0 x7_1).f1)] 164 (0, 0))) := ⟨by (with_reducible repeat (first | refine kn_ ?_ _ | refine kd_ ?_ | refine ka_ ?_ _)); refine blk_put (cs := #[.string ((rd_T164 l0 x7_1).f0), .string (⟨#[]⟩ : ByteArray)]) ?_ 1 _ rfl; (with_reducible repeat (first | refine kn_ ?_ _ | refine kd_ ?_ | refine ka_ ?_ _)); refine blk_put (cs := #[.string (⟨#[]⟩ : ByteArray), .string (⟨#[]⟩ : ByteArray)]) ?_ 0 _ rfl; (with_reducible repeat (first | refine kn_ ?_ _ | refine kd_ ?_ | refine ka_ ?_ _)); exact BK793.out⟩
          have n1_ : Aside0 (Below w.heap.size w ((w22.setCell ⟨gb793, 0, none⟩ (.string ((rd_T164 l0 x7_1).f0))).setCell ⟨gb793, 1, none⟩ (.string ((rd_T164 l0 x7_1).f1)))) := ⟨by repeat (first | (with_reducible first | exact HB.out | apply ba_ | apply bn_ | apply bd_ | refine below_set ?_ GE793.out) | exact HB.out)⟩
          (try clear BK793)
          (try clear HB)
          generalize ((w22.setCell ⟨gb793, 0, none⟩ (.string ((rd_T164 l0 x7_1).f0))).setCell ⟨gb793, 1, none⟩ (.string ((rd_T164 l0 x7_1).f1))) = w24 at n0_ n1_ ⊢
          have BK793 := n0_
          have HB := n1_
          clear n0_ n1_
          have n0_ := Aside0.mk (blk_drew BK793.out)
          have n1_ := Aside0.mk (bd_ HB.out)
          clear BK793
          clear HB
          have BK793 := n0_
          have HB := n1_
          clear n0_ n1_
          have p795 : 0 ≤ ((ji13) : Int) := of_decide_eq_true (by with_reducible assumption)
          have q795 : (ji13) < (l0.length : Int) := of_decide_eq_true (by with_reducible assumption)
          obtain ⟨ad795, e795, hx795_0, hx795_1⟩ := at_T164 HR0.out (ji13) p795 q795
          have hw795_1 := hx795_1
          have hw795_0 := hx795_0
          obtain rfl : ad792 = ad795 := (by injection e795)
          replace hx795_0 := cl_ HB.out hx795_0
          replace hx795_1 := cl_ HB.out hx795_1
          replace p795 := eq_true p795
          replace q795 := eq_true q795
          refine start_ (n := 22) (S := fun w' => w'.cell? ⟨gb793, 0, none⟩ = some (.string ((rd_T164 l0 x7_1).f0)) ∧ w'.cell? ⟨gb793, 1, none⟩ = some (.string ((rd_T164 l0 x7_1).f1)) ∧ w'.cell? (ad792.add (((ji13)).toNat * 2)) = some (.string ((rd_T164 l0 (ji13)).f0)) ∧ w'.cell? ⟨(ad792.add (((ji13)).toNat * 2)).block, (ad792.add (((ji13)).toNat * 2)).off + 1, none⟩ = some (.string ((rd_T164 l0 (ji13)).f1))) (ds := []) #[f_,f_,f_,f_,f_,f_,f_,f_,f_,f_,f_,f_,f_,f_,f_,f_,f_,f_,f_,f_,f_,f_] (by kernel_rfl) rfl rfl ⟨(blk_cell BK793.out 0).trans rfl, (blk_cell BK793.out 1).trans rfl, ((HB.out.cell (World.block_lt_of_cell? w _ hw795_0)).trans hw795_0), ((HB.out.cell (World.block_lt_of_cell? w _ hw795_1)).trans hw795_1)⟩ (fun hHeld => ?_); refine with_tabW impl_SetOk.tab4 impl_SetOk.bits4 (fun HT_ HW_ => ?_)
          generalize w24.drew = w25 at BK793 HB hx795_0 hx795_1 hHeld ⊢
          refine pu_ 0 12 ?_ (b_ 1 21) rfl rfl HT_.out ?_ ?_ ?_ ?_; rotate_left; intro w'; go_simp; with_reducible rfl; rotate_left; simp only [fr_]; rfl
          refine pu_ 1 13 ?_ (b_ 2 20) rfl rfl HT_.out ?_ ?_ ?_ ?_; rotate_left; intro w'; go_simp; with_reducible rfl; rotate_left; simp only [fr_]; rfl
          refine pu_ 2 14 ?_ (b_ 3 19) rfl rfl HT_.out ?_ ?_ ?_ ?_; rotate_left; intro w'; go_simp; with_reducible rfl; rotate_left; simp only [fr_]; rfl
          refine take_ (i := 3) (N := some 15) (v := ?_) (a' := ?_) #[t_,t_,t_,t_,f_,f_,f_,f_,f_,f_,f_,f_,f_,f_,f_,f_,f_,f_,f_,f_,f_,f_] rfl rfl (take_ofW HT_.out HW_.out (by kernel_rfl)) (fun _ _ _ h => h) (Or.inl ⟨by rfl, ?_⟩) hHeld ?_ ?_
          rotate_left
          ·
           rintro w' ⟨s0, s1, s2, s3⟩
           go_simp
           with_reducible rfl
          rotate_left
          ·
           simp only [fr_]
           rfl
          refine one_ (i := 4) (N := some 16) #[t_,t_,t_,t_,t_,f_,f_,f_,f_,f_,f_,f_,f_,f_,f_,f_,f_,f_,f_,f_,f_,f_] rfl rfl (one_of HT_.out (by kernel_rfl)) (by decide) (fun K hK => ?_)
          refine goes_ Try.func152 (by kernel_rfl) rfl #[.agg #[.string ((rd_T164 l0 x7_1).f0), .string ((rd_T164 l0 x7_1).f1)]] (by rfl) rfl rfl (by (try simp only [mp_]); first | done | rfl | (simp only [List.length_drop, List.length_take]; rfl)) ?_
          with_reducible refine (impl_LabelOk.calls k1 ((rd_T164 l0 x7_1).f0) ((rd_T164 l0 x7_1).f1) true _ A10.out).mono ?_
          rintro e w26 ⟨rfl, hb⟩
          refine ⟨_, rfl, ?_⟩
          have n0_ := Aside0.mk (bb_ BK793.out hb)
          have n1_ := Aside0.mk (below_step (by repeat (first | (with_reducible first | exact HB.out | apply ba_ | apply bn_ | apply bd_ | refine below_set ?_ GE793.out) | exact HB.out)) hb)
          clear BK793
          clear HB
          have BK793 := n0_
          have HB := n1_
          clear n0_ n1_
          (try clear hb)
          (try clear hb2)
          (try clear hk)
          (try clear hi)
          refine hK.out _ _ ⟨(blk_cell BK793.out 0).trans rfl, (blk_cell BK793.out 1).trans rfl, ((HB.out.cell (World.block_lt_of_cell? w _ hw795_0)).trans hw795_0), ((HB.out.cell (World.block_lt_of_cell? w _ hw795_1)).trans hw795_1)⟩ (fun hHeld => ?_)
          clear hK K
          refine norm_ (a' := ?_) ?_ ?_
          rotate_left
          ·
           show Act.put _ (some 16) _ = _
           simp only [fr_]
           rfl
          refine pu_ 5 17 ?_ (b_ 6 16) rfl rfl HT_.out ?_ ?_ ?_ ?_; rotate_left; intro w'; go_simp; with_reducible rfl; rotate_left; simp only [fr_]; rfl
          refine pu_ 6 18 ?_ (b_ 7 15) rfl rfl HT_.out ?_ ?_ ?_ ?_; rotate_left; intro w'; go_simp; with_reducible rfl; rotate_left; simp only [fr_]; rfl
          refine pu_ 7 19 ?_ (b_ 8 14) rfl rfl HT_.out ?_ ?_ ?_ ?_; rotate_left; intro w'; go_simp; with_reducible rfl; rotate_left; simp only [fr_]; rfl
          refine pu_ 8 20 ?_ (b_ 9 13) rfl rfl HT_.out ?_ ?_ ?_ ?_; rotate_left; intro w'; go_simp; with_reducible rfl; rotate_left; simp only [fr_]; rfl
          refine pu_ 9 21 ?_ (b_ 10 12) rfl rfl HT_.out ?_ ?_ ?_ ?_; rotate_left; intro w'; go_simp; with_reducible rfl; rotate_left; simp only [fr_]; rfl
          refine pu_ 10 22 ?_ (b_ 11 11) rfl rfl HT_.out ?_ ?_ ?_ ?_; rotate_left; intro w'; go_simp; with_reducible rfl; rotate_left; simp only [fr_]; rfl
          refine pu_ 11 23 ?_ (b_ 12 10) rfl rfl HT_.out ?_ ?_ ?_ ?_; rotate_left; intro w'; go_simp; with_reducible rfl; rotate_left; simp only [fr_]; rfl
          refine pu_ 12 24 ?_ (b_ 13 9) rfl rfl HT_.out ?_ ?_ ?_ ?_; rotate_left; intro w'; go_simp; with_reducible rfl; rotate_left; simp only [fr_]; rfl
          refine pu_ 13 25 ?_ (b_ 14 8) rfl rfl HT_.out ?_ ?_ ?_ ?_; rotate_left; intro w'; go_simp; with_reducible rfl; rotate_left; simp only [fr_]; rfl
          refine pu_ 14 26 ?_ (b_ 15 7) rfl rfl HT_.out ?_ ?_ ?_ ?_; rotate_left; intro w'; go_simp; with_reducible rfl; rotate_left; simp only [fr_]; rfl
          refine pu_ 15 27 ?_ (b_ 16 6) rfl rfl HT_.out ?_ ?_ ?_ ?_; rotate_left; intro w'; go_simp; with_reducible rfl; rotate_left; simp only [fr_]; rfl
          refine pu_ 17 29 ?_ #[t_,t_,t_,t_,t_,t_,t_,t_,t_,t_,t_,t_,t_,t_,t_,t_,f_,t_,f_,f_,f_,f_] rfl rfl HT_.out ?_ ?_ ?_ ?_; rotate_left; intro w'; go_simp; with_reducible rfl; rotate_left; simp only [fr_]; rfl
          refine take_ (i := 16) (N := some 28) (v := ?_) (a' := ?_) #[t_,t_,t_,t_,t_,t_,t_,t_,t_,t_,t_,t_,t_,t_,t_,t_,t_,t_,f_,f_,f_,f_] rfl rfl (take_ofW HT_.out HW_.out (by kernel_rfl)) (fun _ _ _ h => h) (Or.inl ⟨by rfl, ?_⟩) hHeld ?_ ?_
          rotate_left
          ·
           rintro w' ⟨s0, s1, s2, s3⟩
           go_simp
           with_reducible rfl
          rotate_left
          ·
           simp only [fr_]
           rfl
          refine take_ (i := 18) (N := some 30) (v := ?_) (a' := ?_) #[t_,t_,t_,t_,t_,t_,t_,t_,t_,t_,t_,t_,t_,t_,t_,t_,t_,t_,t_,f_,f_,f_] rfl rfl (take_ofW HT_.out HW_.out (by kernel_rfl)) (fun _ _ _ h => h) (Or.inl ⟨by rfl, ?_⟩) hHeld ?_ ?_
          rotate_left
          ·
           rintro w' ⟨s0, s1, s2, s3⟩
           go_simp
           with_reducible rfl
          rotate_left
          ·
           simp only [fr_]
           rfl
          refine pu_ 19 31 ?_ (b_ 20 2) rfl rfl HT_.out ?_ ?_ ?_ ?_; rotate_left; intro w'; go_simp; with_reducible rfl; rotate_left; simp only [fr_]; rfl
          refine pu_ 20 32 ?_ (b_ 21 1) rfl rfl HT_.out ?_ ?_ ?_ ?_; rotate_left; intro w'; go_simp; with_reducible rfl; rotate_left; simp only [fr_]; rfl
          refine pu_ 21 33 ?_ (b_ 22 0) rfl rfl HT_.out ?_ ?_ ?_ ?_; rotate_left; intro w'; go_simp; with_reducible rfl; rotate_left; simp only [fr_]; rfl
          refine done_ (done_of HT_.out (by kernel_rfl)) ?_
          try go_wp2
          go_ret
          exact ⟨by first | rfl | (simp [errW_none, errW_some] <;> rfl) | (simp only [← hji13]; first | rfl | (simp [errW_none, errW_some] <;> rfl)) | (simp [*, errW_none, errW_some] <;> rfl), by repeat (first | (with_reducible first | exact HB.out | apply ba_ | apply bn_ | apply bd_ | refine below_set ?_ GE793.out) | exact HB.out)⟩
         rw [if_neg c15] at H
         exact absurd H (by simp)
        rw [if_neg c14] at H
        exact absurd H (by simp)
       rw [if_neg c12] at H
       have c12b0 : decide (0 < x7_1) = false := decide_eq_false c12
       clear c12
       have H' := Aside0.mk H
       clear H
       have p792 : 0 ≤ (x7_1 : Int) := of_decide_eq_true (by with_reducible assumption)
       have q792 : x7_1 < (l0.length : Int) := of_decide_eq_true (by with_reducible assumption)
       obtain ⟨ad792, e792, hx792_0, hx792_1⟩ := at_T164 HR0.out x7_1 p792 q792
       cases e792
       replace hx792_0 := cl_ HB.out hx792_0
       replace hx792_1 := cl_ HB.out hx792_1
       replace p792 := eq_true p792
       replace q792 := eq_true q792
       try go_wp2_with (first | ((with_reducible refine gate_dst (N := 4) rfl ?_); refine box_event ?hg (N := 4) ?hd (cs := #[.string (⟨#[]⟩ : ByteArray), .string (⟨#[]⟩ : ByteArray)]) (t := 164) ?hr ?_; (case hd => rfl); (case hg => rfl); (case hr => first | (go_simp; done) | (go_simp; rfl)); intro gb793 hg w27 hbox hb; have n0_ := Aside0.mk (below_step (by repeat (first | (with_reducible first | exact HB.out | apply ba_ | apply bn_ | apply bd_) | exact HB.out)) hb); have BK793 := Aside0.mk (hbox); have GW793 := Aside0.mk ((by rw [hg]; exact (below_size (by repeat (first | (with_reducible first | exact HB.out | apply ba_ | apply bn_ | apply bd_) | exact HB.out))) : w.heap.size ≤ gb793)); have GE793 := GW793; clear HB; have HB := n0_; clear n0_; clear hb hbox hg; have hcz28_0 : w27.cell? ⟨gb793, 0, none⟩ = some (.string (⟨#[]⟩ : ByteArray)) := (blk_cell BK793.out 0).trans rfl; have hcz28_1 : w27.cell? ⟨gb793, 1, none⟩ = some (.string (⟨#[]⟩ : ByteArray)) := (blk_cell BK793.out 1).trans rfl; have hfz28_0 := blk_frozen BK793.out 0; have hfz28_1 := blk_frozen BK793.out 1))
       have n0_ : Aside0 (((w27.setCell ⟨gb793, 0, none⟩ (.string ((rd_T164 l0 x7_1).f0))).setCell ⟨gb793, 1, none⟩ (.string ((rd_T164 l0 x7_1).f1))).heap[gb793]? = some (.cells #[.string ((rd_T164 l0 x7_1).f0), .string ((rd_T164 l0 x7_1).f1)] 164 (0, 0))) := ⟨by (with_reducible repeat (first | refine kn_ ?_ _ | refine kd_ ?_ | refine ka_ ?_ _)); refine blk_put (cs := #[.string ((rd_T164 l0 x7_1).f0), .string (⟨#[]⟩ : ByteArray)]) ?_ 1 _ rfl; (with_reducible repeat (first | refine kn_ ?_ _ | refine kd_ ?_ | refine ka_ ?_ _)); refine blk_put (cs := #[.string (⟨#[]⟩ : ByteArray), .string (⟨#[]⟩ : ByteArray)]) ?_ 0 _ rfl; (with_reducible repeat (first | refine kn_ ?_ _ | refine kd_ ?_ | refine ka_ ?_ _)); exact BK793.out⟩
       have n1_ : Aside0 (Below w.heap.size w ((w27.setCell ⟨gb793, 0, none⟩ (.string ((rd_T164 l0 x7_1).f0))).setCell ⟨gb793, 1, none⟩ (.string ((rd_T164 l0 x7_1).f1)))) := ⟨by repeat (first | (with_reducible first | exact HB.out | apply ba_ | apply bn_ | apply bd_ | refine below_set ?_ GE793.out) | exact HB.out)⟩
       (try clear BK793)
       (try clear HB)
       generalize ((w27.setCell ⟨gb793, 0, none⟩ (.string ((rd_T164 l0 x7_1).f0))).setCell ⟨gb793, 1, none⟩ (.string ((rd_T164 l0 x7_1).f1))) = w29 at n0_ n1_ ⊢
       have BK793 := n0_
       have HB := n1_
       clear n0_ n1_
       have n0_ := Aside0.mk (blk_drew BK793.out)
       have n1_ := Aside0.mk (bd_ HB.out)
       clear BK793
       clear HB
       have BK793 := n0_
       have HB := n1_
       clear n0_ n1_
       refine start_ (n := 22) (S := fun w' => w'.cell? ⟨gb793, 0, none⟩ = some (.string ((rd_T164 l0 x7_1).f0)) ∧ w'.cell? ⟨gb793, 1, none⟩ = some (.string ((rd_T164 l0 x7_1).f1))) (ds := []) #[f_,f_,f_,f_,f_,f_,f_,f_,f_,f_,f_,f_,f_,f_,f_,f_,f_,f_,f_,f_,f_,f_] (by kernel_rfl) rfl rfl ⟨(blk_cell BK793.out 0).trans rfl, (blk_cell BK793.out 1).trans rfl⟩ (fun hHeld => ?_); refine with_tabW impl_SetOk.tab4 impl_SetOk.bits4 (fun HT_ HW_ => ?_)
       generalize w29.drew = w30 at BK793 HB hHeld ⊢
       refine pu_ 0 12 ?_ (b_ 1 21) rfl rfl HT_.out ?_ ?_ ?_ ?_; rotate_left; intro w'; go_simp; with_reducible rfl; rotate_left; simp only [fr_]; rfl
       refine pu_ 1 13 ?_ (b_ 2 20) rfl rfl HT_.out ?_ ?_ ?_ ?_; rotate_left; intro w'; go_simp; with_reducible rfl; rotate_left; simp only [fr_]; rfl
       refine pu_ 2 14 ?_ (b_ 3 19) rfl rfl HT_.out ?_ ?_ ?_ ?_; rotate_left; intro w'; go_simp; with_reducible rfl; rotate_left; simp only [fr_]; rfl
       refine take_ (i := 3) (N := some 15) (v := ?_) (a' := ?_) #[t_,t_,t_,t_,f_,f_,f_,f_,f_,f_,f_,f_,f_,f_,f_,f_,f_,f_,f_,f_,f_,f_] rfl rfl (take_ofW HT_.out HW_.out (by kernel_rfl)) (fun _ _ _ h => h) (Or.inl ⟨by rfl, ?_⟩) hHeld ?_ ?_
       rotate_left
       ·
        rintro w' ⟨s0, s1⟩
        go_simp
        with_reducible rfl
       rotate_left
       ·
        simp only [fr_]
        rfl
       refine one_ (i := 4) (N := some 16) #[t_,t_,t_,t_,t_,f_,f_,f_,f_,f_,f_,f_,f_,f_,f_,f_,f_,f_,f_,f_,f_,f_] rfl rfl (one_of HT_.out (by kernel_rfl)) (by decide) (fun K hK => ?_)
       refine goes_ Try.func152 (by kernel_rfl) rfl #[.agg #[.string ((rd_T164 l0 x7_1).f0), .string ((rd_T164 l0 x7_1).f1)]] (by rfl) rfl rfl (by (try simp only [mp_]); first | done | rfl | (simp only [List.length_drop, List.length_take]; rfl)) ?_
       with_reducible refine (impl_LabelOk.calls k1 ((rd_T164 l0 x7_1).f0) ((rd_T164 l0 x7_1).f1) true _ A10.out).mono ?_
       rintro e w31 ⟨rfl, hb⟩
       refine ⟨_, rfl, ?_⟩
       have n0_ := Aside0.mk (bb_ BK793.out hb)
       have n1_ := Aside0.mk (below_step (by repeat (first | (with_reducible first | exact HB.out | apply ba_ | apply bn_ | apply bd_ | refine below_set ?_ GE793.out) | exact HB.out)) hb)
       clear BK793
       clear HB
       have BK793 := n0_
       have HB := n1_
       clear n0_ n1_
       (try clear hb)
       (try clear hb2)
       (try clear hk)
       (try clear hi)
       refine hK.out _ _ ⟨(blk_cell BK793.out 0).trans rfl, (blk_cell BK793.out 1).trans rfl⟩ (fun hHeld => ?_)
       clear hK K
       refine norm_ (a' := ?_) ?_ ?_
       rotate_left
       ·
        show Act.put _ (some 16) _ = _
        simp only [fr_]
        rfl
       refine pu_ 5 17 ?_ (b_ 6 16) rfl rfl HT_.out ?_ ?_ ?_ ?_; rotate_left; intro w'; go_simp; with_reducible rfl; rotate_left; simp only [fr_]; rfl
       refine pu_ 6 18 ?_ (b_ 7 15) rfl rfl HT_.out ?_ ?_ ?_ ?_; rotate_left; intro w'; go_simp; with_reducible rfl; rotate_left; simp only [fr_]; rfl
       refine pu_ 7 19 ?_ (b_ 8 14) rfl rfl HT_.out ?_ ?_ ?_ ?_; rotate_left; intro w'; go_simp; with_reducible rfl; rotate_left; simp only [fr_]; rfl
       refine pu_ 8 20 ?_ (b_ 9 13) rfl rfl HT_.out ?_ ?_ ?_ ?_; rotate_left; intro w'; go_simp; with_reducible rfl; rotate_left; simp only [fr_]; rfl
       refine pu_ 9 21 ?_ (b_ 10 12) rfl rfl HT_.out ?_ ?_ ?_ ?_; rotate_left; intro w'; go_simp; with_reducible rfl; rotate_left; simp only [fr_]; rfl
       refine pu_ 10 22 ?_ (b_ 11 11) rfl rfl HT_.out ?_ ?_ ?_ ?_; rotate_left; intro w'; go_simp; with_reducible rfl; rotate_left; simp only [fr_]; rfl
       refine pv_ 11 23 ?_ (b_ 12 10) rfl rfl HT_.out ?_ ?_; rotate_left; simp only [fr_]; rfl
       refine pv_ 12 24 ?_ (b_ 13 9) rfl rfl HT_.out ?_ ?_; rotate_left; simp only [fr_]; rfl
       refine pv_ 13 25 ?_ (b_ 14 8) rfl rfl HT_.out ?_ ?_; rotate_left; simp only [fr_]; rfl
       refine pv_ 14 26 ?_ (b_ 15 7) rfl rfl HT_.out ?_ ?_; rotate_left; simp only [fr_]; rfl
       refine pv_ 15 27 ?_ (b_ 16 6) rfl rfl HT_.out ?_ ?_; rotate_left; simp only [fr_]; rfl
       refine pv_ 16 28 ?_ (b_ 17 5) rfl rfl HT_.out ?_ ?_; rotate_left; simp only [fr_]; rfl
       refine pv_ 17 29 ?_ (b_ 18 4) rfl rfl HT_.out ?_ ?_; rotate_left; simp only [fr_]; rfl
       refine pv_ 18 30 ?_ (b_ 19 3) rfl rfl HT_.out ?_ ?_; rotate_left; simp only [fr_]; rfl
       refine pv_ 19 31 ?_ (b_ 20 2) rfl rfl HT_.out ?_ ?_; rotate_left; simp only [fr_]; rfl
       refine pu_ 20 32 ?_ (b_ 21 1) rfl rfl HT_.out ?_ ?_ ?_ ?_; rotate_left; intro w'; go_simp; with_reducible rfl; rotate_left; simp only [fr_]; rfl
       refine pu_ 21 33 ?_ (b_ 22 0) rfl rfl HT_.out ?_ ?_ ?_ ?_; rotate_left; intro w'; go_simp; with_reducible rfl; rotate_left; simp only [fr_]; rfl
       refine done_ (done_of HT_.out (by kernel_rfl)) ?_
       try go_wp2
       go_roundg k1
       case measure => have := HK1.out; omega
       case rel => exact ⟨(wrap64 (x7_1 + 1)), (by first | rfl | (simp; done) | (simp [*]; done)), H', ⟨by have := HK1.out; omega⟩, ⟨by repeat (first | (with_reducible first | exact HB.out | apply ba_ | apply bn_ | apply bd_ | refine below_set ?_ GE793.out) | exact HB.out)⟩⟩
      replace c11 := Bool.eq_false_iff.mpr c11
      subst c11
      rw [if_neg (show ¬ (false = true) by decide)] at H
      obtain rfl := Option.some.inj H
      have p792 : 0 ≤ (x7_1 : Int) := of_decide_eq_true (by with_reducible assumption)
      have q792 : x7_1 < (l0.length : Int) := of_decide_eq_true (by with_reducible assumption)
      obtain ⟨ad792, e792, hx792_0, hx792_1⟩ := at_T164 HR0.out x7_1 p792 q792
      cases e792
      replace hx792_0 := cl_ HB.out hx792_0
      replace hx792_1 := cl_ HB.out hx792_1
      replace p792 := eq_true p792
      replace q792 := eq_true q792
      try go_wp2_with (first | ((with_reducible refine gate_dst (N := 4) rfl ?_); refine box_event ?hg (N := 4) ?hd (cs := #[.string (⟨#[]⟩ : ByteArray), .string (⟨#[]⟩ : ByteArray)]) (t := 164) ?hr ?_; (case hd => rfl); (case hg => rfl); (case hr => first | (go_simp; done) | (go_simp; rfl)); intro gb793 hg w32 hbox hb; have n0_ := Aside0.mk (below_step (by repeat (first | (with_reducible first | exact HB.out | apply ba_ | apply bn_ | apply bd_) | exact HB.out)) hb); have BK793 := Aside0.mk (hbox); have GW793 := Aside0.mk ((by rw [hg]; exact (below_size (by repeat (first | (with_reducible first | exact HB.out | apply ba_ | apply bn_ | apply bd_) | exact HB.out))) : w.heap.size ≤ gb793)); have GE793 := GW793; clear HB; have HB := n0_; clear n0_; clear hb hbox hg; have hcz33_0 : w32.cell? ⟨gb793, 0, none⟩ = some (.string (⟨#[]⟩ : ByteArray)) := (blk_cell BK793.out 0).trans rfl; have hcz33_1 : w32.cell? ⟨gb793, 1, none⟩ = some (.string (⟨#[]⟩ : ByteArray)) := (blk_cell BK793.out 1).trans rfl; have hfz33_0 := blk_frozen BK793.out 0; have hfz33_1 := blk_frozen BK793.out 1))
      have n0_ : Aside0 (((w32.setCell ⟨gb793, 0, none⟩ (.string ((rd_T164 l0 x7_1).f0))).setCell ⟨gb793, 1, none⟩ (.string ((rd_T164 l0 x7_1).f1))).heap[gb793]? = some (.cells #[.string ((rd_T164 l0 x7_1).f0), .string ((rd_T164 l0 x7_1).f1)] 164 (0, 0))) := ⟨by (with_reducible repeat (first | refine kn_ ?_ _ | refine kd_ ?_ | refine ka_ ?_ _)); refine blk_put (cs := #[.string ((rd_T164 l0 x7_1).f0), .string (⟨#[]⟩ : ByteArray)]) ?_ 1 _ rfl; (with_reducible repeat (first | refine kn_ ?_ _ | refine kd_ ?_ | refine ka_ ?_ _)); refine blk_put (cs := #[.string (⟨#[]⟩ : ByteArray), .string (⟨#[]⟩ : ByteArray)]) ?_ 0 _ rfl; (with_reducible repeat (first | refine kn_ ?_ _ | refine kd_ ?_ | refine ka_ ?_ _)); exact BK793.out⟩
      have n1_ : Aside0 (Below w.heap.size w ((w32.setCell ⟨gb793, 0, none⟩ (.string ((rd_T164 l0 x7_1).f0))).setCell ⟨gb793, 1, none⟩ (.string ((rd_T164 l0 x7_1).f1)))) := ⟨by repeat (first | (with_reducible first | exact HB.out | apply ba_ | apply bn_ | apply bd_ | refine below_set ?_ GE793.out) | exact HB.out)⟩
      (try clear BK793)
      (try clear HB)
      generalize ((w32.setCell ⟨gb793, 0, none⟩ (.string ((rd_T164 l0 x7_1).f0))).setCell ⟨gb793, 1, none⟩ (.string ((rd_T164 l0 x7_1).f1))) = w34 at n0_ n1_ ⊢
      have BK793 := n0_
      have HB := n1_
      clear n0_ n1_
      have n0_ := Aside0.mk (blk_drew BK793.out)
      have n1_ := Aside0.mk (bd_ HB.out)
      clear BK793
      clear HB
      have BK793 := n0_
      have HB := n1_
      clear n0_ n1_
      refine start_ (n := 22) (S := fun w' => w'.cell? ⟨gb793, 0, none⟩ = some (.string ((rd_T164 l0 x7_1).f0)) ∧ w'.cell? ⟨gb793, 1, none⟩ = some (.string ((rd_T164 l0 x7_1).f1))) (ds := []) #[f_,f_,f_,f_,f_,f_,f_,f_,f_,f_,f_,f_,f_,f_,f_,f_,f_,f_,f_,f_,f_,f_] (by kernel_rfl) rfl rfl ⟨(blk_cell BK793.out 0).trans rfl, (blk_cell BK793.out 1).trans rfl⟩ (fun hHeld => ?_); refine with_tabW impl_SetOk.tab4 impl_SetOk.bits4 (fun HT_ HW_ => ?_)
      generalize w34.drew = w35 at BK793 HB hHeld ⊢
      refine pu_ 0 12 ?_ (b_ 1 21) rfl rfl HT_.out ?_ ?_ ?_ ?_; rotate_left; intro w'; go_simp; with_reducible rfl; rotate_left; simp only [fr_]; rfl
      refine pu_ 1 13 ?_ (b_ 2 20) rfl rfl HT_.out ?_ ?_ ?_ ?_; rotate_left; intro w'; go_simp; with_reducible rfl; rotate_left; simp only [fr_]; rfl
      refine pu_ 2 14 ?_ (b_ 3 19) rfl rfl HT_.out ?_ ?_ ?_ ?_; rotate_left; intro w'; go_simp; with_reducible rfl; rotate_left; simp only [fr_]; rfl
      refine take_ (i := 3) (N := some 15) (v := ?_) (a' := ?_) #[t_,t_,t_,t_,f_,f_,f_,f_,f_,f_,f_,f_,f_,f_,f_,f_,f_,f_,f_,f_,f_,f_] rfl rfl (take_ofW HT_.out HW_.out (by kernel_rfl)) (fun _ _ _ h => h) (Or.inl ⟨by rfl, ?_⟩) hHeld ?_ ?_
      rotate_left
      ·
       rintro w' ⟨s0, s1⟩
       go_simp
       with_reducible rfl
      rotate_left
      ·
       simp only [fr_]
       rfl
      refine one_ (i := 4) (N := some 16) #[t_,t_,t_,t_,t_,f_,f_,f_,f_,f_,f_,f_,f_,f_,f_,f_,f_,f_,f_,f_,f_,f_] rfl rfl (one_of HT_.out (by kernel_rfl)) (by decide) (fun K hK => ?_)
      refine goes_ Try.func152 (by kernel_rfl) rfl #[.agg #[.string ((rd_T164 l0 x7_1).f0), .string ((rd_T164 l0 x7_1).f1)]] (by rfl) rfl rfl (by (try simp only [mp_]); first | done | rfl | (simp only [List.length_drop, List.length_take]; rfl)) ?_
      with_reducible refine (impl_LabelOk.calls k1 ((rd_T164 l0 x7_1).f0) ((rd_T164 l0 x7_1).f1) false _ A10.out).mono ?_
      rintro e w36 ⟨rfl, hb⟩
      refine ⟨_, rfl, ?_⟩
      have n0_ := Aside0.mk (bb_ BK793.out hb)
      have n1_ := Aside0.mk (below_step (by repeat (first | (with_reducible first | exact HB.out | apply ba_ | apply bn_ | apply bd_ | refine below_set ?_ GE793.out) | exact HB.out)) hb)
      clear BK793
      clear HB
      have BK793 := n0_
      have HB := n1_
      clear n0_ n1_
      (try clear hb)
      (try clear hb2)
      (try clear hk)
      (try clear hi)
      refine hK.out _ _ ⟨(blk_cell BK793.out 0).trans rfl, (blk_cell BK793.out 1).trans rfl⟩ (fun hHeld => ?_)
      clear hK K
      refine norm_ (a' := ?_) ?_ ?_
      rotate_left
      ·
       show Act.put _ (some 16) _ = _
       simp only [fr_]
       rfl
      refine pu_ 5 17 ?_ (b_ 6 16) rfl rfl HT_.out ?_ ?_ ?_ ?_; rotate_left; intro w'; go_simp; with_reducible rfl; rotate_left; simp only [fr_]; rfl
      refine pu_ 6 18 ?_ (b_ 7 15) rfl rfl HT_.out ?_ ?_ ?_ ?_; rotate_left; intro w'; go_simp; with_reducible rfl; rotate_left; simp only [fr_]; rfl
      refine pu_ 7 19 ?_ (b_ 8 14) rfl rfl HT_.out ?_ ?_ ?_ ?_; rotate_left; intro w'; go_simp; with_reducible rfl; rotate_left; simp only [fr_]; rfl
      refine pv_ 8 20 ?_ (b_ 9 13) rfl rfl HT_.out ?_ ?_; rotate_left; simp only [fr_]; rfl
      refine pv_ 9 21 ?_ (b_ 10 12) rfl rfl HT_.out ?_ ?_; rotate_left; simp only [fr_]; rfl
      refine pv_ 10 22 ?_ (b_ 11 11) rfl rfl HT_.out ?_ ?_; rotate_left; simp only [fr_]; rfl
      refine pv_ 11 23 ?_ (b_ 12 10) rfl rfl HT_.out ?_ ?_; rotate_left; simp only [fr_]; rfl
      refine pv_ 12 24 ?_ (b_ 13 9) rfl rfl HT_.out ?_ ?_; rotate_left; simp only [fr_]; rfl
      refine pv_ 13 25 ?_ (b_ 14 8) rfl rfl HT_.out ?_ ?_; rotate_left; simp only [fr_]; rfl
      refine pv_ 14 26 ?_ (b_ 15 7) rfl rfl HT_.out ?_ ?_; rotate_left; simp only [fr_]; rfl
      refine pv_ 15 27 ?_ (b_ 16 6) rfl rfl HT_.out ?_ ?_; rotate_left; simp only [fr_]; rfl
      refine pv_ 16 28 ?_ (b_ 17 5) rfl rfl HT_.out ?_ ?_; rotate_left; simp only [fr_]; rfl
      refine pv_ 17 29 ?_ (b_ 18 4) rfl rfl HT_.out ?_ ?_; rotate_left; simp only [fr_]; rfl
      refine pv_ 18 30 ?_ (b_ 19 3) rfl rfl HT_.out ?_ ?_; rotate_left; simp only [fr_]; rfl
      refine pv_ 19 31 ?_ (b_ 20 2) rfl rfl HT_.out ?_ ?_; rotate_left; simp only [fr_]; rfl
      refine pv_ 20 32 ?_ (b_ 21 1) rfl rfl HT_.out ?_ ?_; rotate_left; simp only [fr_]; rfl
      refine pu_ 21 33 ?_ (b_ 22 0) rfl rfl HT_.out ?_ ?_ ?_ ?_; rotate_left; intro w'; go_simp; with_reducible rfl; rotate_left; simp only [fr_]; rfl
      refine done_ (done_of HT_.out (by kernel_rfl)) ?_
      try go_wp2
      go_ret
      exact ⟨by first | rfl | (simp [errW_none, errW_some] <;> rfl) | (simp [*, errW_none, errW_some] <;> rfl), by repeat (first | (with_reducible first | exact HB.out | apply ba_ | apply bn_ | apply bd_ | refine below_set ?_ GE793.out) | exact HB.out)⟩
     rw [if_neg c4] at H
     exact absurd H (by simp)
    rw [if_neg c3] at H
    exact absurd H (by simp)
   rw [if_neg c2] at H
   have c2b0 : decide (x7_1 < (l0.length : Int)) = false := decide_eq_false c2
   clear c2
   obtain rfl := Option.some.inj H
   go_wp2
   go_ret
   exact ⟨by first | rfl | (simp [errW_none, errW_some] <;> rfl) | (simp [*, errW_none, errW_some] <;> rfl), by repeat (first | (with_reducible first | exact HB.out | apply ba_ | apply bn_ | apply bd_) | exact HB.out)⟩
def impl_AlarmOk.f (k : Nat) (l0_0 : List (S164)) (a0_1 : Int) (a0_2 : Int) (a0_3 : ByteArray) : Option (Bool) := if (l0_0.length : Int) > 0 then ((impl_SetOk.f k l0_0).bind fun t797 => (if t797 = true then ((impl_in.f a0_1 0 99999).bind fun t798 => (if t798 = true then ((impl_in.f a0_2 a0_1 99999).bind fun t799 => (if t799 = true then ((impl_PlainOk.f k a0_3).bind fun t800 => (some t800)) else (some false))) else (some false))) else (some false))) else (some false)
theorem impl_AlarmOk.mono : ∀ a0 a1 a2 a3 k, LeO (impl_AlarmOk.f k a0 a1 a2 a3) (impl_AlarmOk.f (k + 1) a0 a1 a2 a3) := by
 intro a0 a1 a2 a3 k
 unfold impl_AlarmOk.f
 repeat' first
   | (with_reducible exact impl_PlainOk.mono _ _)
   | (with_reducible exact impl_SetOk.mono _ _)
   | (with_reducible exact LeO.refl _)
   | (with_reducible exact LeO.none _)
   | (with_reducible refine LeO.ite ?_ ?_)
   | (with_reducible refine LeO.bind ?_ (fun _ => ?_))
   | exact impl_PlainOk.mono _ _
   | exact impl_SetOk.mono _ _
theorem impl_AlarmOk.calls (k : Nat) (A0_0 : Option Addr) (c0_0 : Nat) (l0_0 : List (S164)) (a0_1 : Int) (a0_2 : Int) (a0_3 : ByteArray) (r : Bool) (w : World) (hr0_0 : Kd.C k164 w A0_0 l0_0.length l0_0) (hc0_0 : l0_0.length ≤ c0_0) (h : impl_AlarmOk.f k l0_0 a0_1 a0_2 a0_3 = some r) :
  Calls Try.prog 124 #[.agg #[.slice A0_0 l0_0.length c0_0, .int .i64 a0_1, .int .i64 a0_2, .string a0_3]] w fun e w' => e = .returned (.bool r) ∧ Below w.heap.size w w' := by
 have hu44 := Try.underlying44
 have HR0_0 := Aside0.mk hr0_0
 have HC0_0 := Aside0.mk hc0_0
 clear hr0_0 hc0_0
 have HB := Aside0.mk (Below.refl w.heap.size w)
 have H : (if (l0_0.length : Int) > 0 then ((impl_SetOk.f k l0_0).bind fun t797 => (if t797 = true then ((impl_in.f a0_1 0 99999).bind fun t798 => (if t798 = true then ((impl_in.f a0_2 a0_1 99999).bind fun t799 => (if t799 = true then ((impl_PlainOk.f k a0_3).bind fun t800 => (some t800)) else (some false))) else (some false))) else (some false))) else (some false)) = some r := h
 clear h
 by_cases c2 : (l0_0.length : Int) > 0
 ·
  rw [if_pos c2] at H
  have c2b0 : decide (0 < (l0_0.length : Int)) = true := decide_eq_true c2
  have c2b1 : decide (0 < l0_0.length) = true := decide_eq_true (by omega)
  clear c2
  replace H := Option.bind_eq_some_iff.mp H
  obtain ⟨t797, A30, H⟩ := H
  have A3 := Aside0.mk A30
  clear A30
  by_cases c4 : t797 = true
  ·
   subst c4
   rw [if_pos rfl] at H
   replace H := Option.bind_eq_some_iff.mp H
   obtain ⟨t798, A50, H⟩ := H
   have A5 := Aside0.mk A50
   clear A50
   by_cases c6 : t798 = true
   ·
    subst c6
    rw [if_pos rfl] at H
    replace H := Option.bind_eq_some_iff.mp H
    obtain ⟨t799, A70, H⟩ := H
    have A7 := Aside0.mk A70
    clear A70
    by_cases c8 : t799 = true
    ·
     subst c8
     rw [if_pos rfl] at H
     replace H := Option.bind_eq_some_iff.mp H
     obtain ⟨t800, A90, H⟩ := H
     have A9 := Aside0.mk A90
     clear A90
     obtain rfl := Option.some.inj H
     go_enter Try.func124, Try.ntmps124
     go_wp2_with (first | ((with_reducible refine gate_dst (N := 1) rfl ?_); refine box_event ?hg (N := 1) ?hd (cs := #[.slice A0_0 l0_0.length c0_0, .int .i64 a0_1, .int .i64 a0_2, .string a0_3]) (t := 44) ?hr ?_; (case hd => rfl); (case hg => rfl); (case hr => first | (go_simp; done) | (go_simp; rfl)); intro gb796 hg w10 hbox hb; have n0_ := Aside0.mk (below_step (by repeat (first | (with_reducible first | exact HB.out | apply ba_ | apply bn_ | apply bd_) | exact HB.out)) hb); have BK796 := Aside0.mk (hbox); have GW796 := Aside0.mk ((by rw [hg]; exact (below_size (by repeat (first | (with_reducible first | exact HB.out | apply ba_ | apply bn_ | apply bd_) | exact HB.out))) : w.heap.size ≤ gb796)); have GE796 := GW796; clear HB; have HB := n0_; clear n0_; clear hb hbox hg; have hcz11_0 : w10.cell? ⟨gb796, 0, none⟩ = some (.slice A0_0 l0_0.length c0_0) := (blk_cell BK796.out 0).trans rfl; have hcz11_1 : w10.cell? ⟨gb796, 1, none⟩ = some (.int .i64 a0_1) := (blk_cell BK796.out 1).trans rfl; have hcz11_2 : w10.cell? ⟨gb796, 2, none⟩ = some (.int .i64 a0_2) := (blk_cell BK796.out 2).trans rfl; have hcz11_3 : w10.cell? ⟨gb796, 3, none⟩ = some (.string a0_3) := (blk_cell BK796.out 3).trans rfl; have hfz11_0 := blk_frozen BK796.out 0; have hfz11_1 := blk_frozen BK796.out 1; have hfz11_2 := blk_frozen BK796.out 2; have hfz11_3 := blk_frozen BK796.out 3) | (go_at_call 110; (with_reducible refine (impl_SetOk.calls k _ _ l0_0 true _ ?side1 ?side2 A3.out).mono ?_); (case side1 => repeat (first | exact (Kd.C_below HR0_0.out HB.out) | (with_reducible first | refine ca_ ?_ _ | refine cn_ ?_ _ | refine cd_ ?_))); (case side2 => exact HC0_0.out); rintro e w12 ⟨rfl, hb⟩; have n0_ := Aside0.mk (bb_ BK796.out hb); have n1_ := Aside0.mk (below_step (by repeat (first | (with_reducible first | exact HB.out | apply ba_ | apply bn_ | apply bd_ | refine below_set ?_ GE796.out) | exact HB.out)) hb); clear BK796; clear HB; have BK796 := n0_; have HB := n1_; clear n0_ n1_; (try clear hb); (try clear hb2); (try clear hk); (try clear hi); have hcz13_0 : w12.cell? ⟨gb796, 0, none⟩ = some (.slice A0_0 l0_0.length c0_0) := (blk_cell BK796.out 0).trans rfl; have hcz13_1 : w12.cell? ⟨gb796, 1, none⟩ = some (.int .i64 a0_1) := (blk_cell BK796.out 1).trans rfl; have hcz13_2 : w12.cell? ⟨gb796, 2, none⟩ = some (.int .i64 a0_2) := (blk_cell BK796.out 2).trans rfl; have hcz13_3 : w12.cell? ⟨gb796, 3, none⟩ = some (.string a0_3) := (blk_cell BK796.out 3).trans rfl; have hfz13_0 := blk_frozen BK796.out 0; have hfz13_1 := blk_frozen BK796.out 1; have hfz13_2 := blk_frozen BK796.out 2; have hfz13_3 := blk_frozen BK796.out 3) | (go_at_call 111; (with_reducible refine (impl_in.calls a0_1 0 99999 true _ A5.out).mono ?_); rintro e w' ⟨rfl, ⟨nd, rfl⟩⟩) | (go_at_call 111; (with_reducible refine (impl_in.calls a0_2 a0_1 99999 true _ A7.out).mono ?_); rintro e w' ⟨rfl, ⟨nd, rfl⟩⟩) | (go_at_call 156; (with_reducible refine (impl_PlainOk.calls k a0_3 t800 _ A9.out).mono ?_); rintro e w' ⟨rfl, ⟨nd, rfl⟩⟩))
     go_ret
     exact ⟨by first | rfl | (simp [errW_none, errW_some] <;> rfl) | (simp [*, errW_none, errW_some] <;> rfl), by repeat (first | (with_reducible first | exact HB.out | apply ba_ | apply bn_ | apply bd_ | refine below_set ?_ GE796.out) | exact HB.out)⟩
    replace c8 := Bool.eq_false_iff.mpr c8
    subst c8
    rw [if_neg (show ¬ (false = true) by decide)] at H
    obtain rfl := Option.some.inj H
    go_enter Try.func124, Try.ntmps124
    go_wp2_with (first | ((with_reducible refine gate_dst (N := 1) rfl ?_); refine box_event ?hg (N := 1) ?hd (cs := #[.slice A0_0 l0_0.length c0_0, .int .i64 a0_1, .int .i64 a0_2, .string a0_3]) (t := 44) ?hr ?_; (case hd => rfl); (case hg => rfl); (case hr => first | (go_simp; done) | (go_simp; rfl)); intro gb796 hg w14 hbox hb; have n0_ := Aside0.mk (below_step (by repeat (first | (with_reducible first | exact HB.out | apply ba_ | apply bn_ | apply bd_) | exact HB.out)) hb); have BK796 := Aside0.mk (hbox); have GW796 := Aside0.mk ((by rw [hg]; exact (below_size (by repeat (first | (with_reducible first | exact HB.out | apply ba_ | apply bn_ | apply bd_) | exact HB.out))) : w.heap.size ≤ gb796)); have GE796 := GW796; clear HB; have HB := n0_; clear n0_; clear hb hbox hg; have hcz15_0 : w14.cell? ⟨gb796, 0, none⟩ = some (.slice A0_0 l0_0.length c0_0) := (blk_cell BK796.out 0).trans rfl; have hcz15_1 : w14.cell? ⟨gb796, 1, none⟩ = some (.int .i64 a0_1) := (blk_cell BK796.out 1).trans rfl; have hcz15_2 : w14.cell? ⟨gb796, 2, none⟩ = some (.int .i64 a0_2) := (blk_cell BK796.out 2).trans rfl; have hcz15_3 : w14.cell? ⟨gb796, 3, none⟩ = some (.string a0_3) := (blk_cell BK796.out 3).trans rfl; have hfz15_0 := blk_frozen BK796.out 0; have hfz15_1 := blk_frozen BK796.out 1; have hfz15_2 := blk_frozen BK796.out 2; have hfz15_3 := blk_frozen BK796.out 3) | (go_at_call 110; (with_reducible refine (impl_SetOk.calls k _ _ l0_0 true _ ?side1 ?side2 A3.out).mono ?_); (case side1 => repeat (first | exact (Kd.C_below HR0_0.out HB.out) | (with_reducible first | refine ca_ ?_ _ | refine cn_ ?_ _ | refine cd_ ?_))); (case side2 => exact HC0_0.out); rintro e w16 ⟨rfl, hb⟩; have n0_ := Aside0.mk (bb_ BK796.out hb); have n1_ := Aside0.mk (below_step (by repeat (first | (with_reducible first | exact HB.out | apply ba_ | apply bn_ | apply bd_ | refine below_set ?_ GE796.out) | exact HB.out)) hb); clear BK796; clear HB; have BK796 := n0_; have HB := n1_; clear n0_ n1_; (try clear hb); (try clear hb2); (try clear hk); (try clear hi); have hcz17_0 : w16.cell? ⟨gb796, 0, none⟩ = some (.slice A0_0 l0_0.length c0_0) := (blk_cell BK796.out 0).trans rfl; have hcz17_1 : w16.cell? ⟨gb796, 1, none⟩ = some (.int .i64 a0_1) := (blk_cell BK796.out 1).trans rfl; have hcz17_2 : w16.cell? ⟨gb796, 2, none⟩ = some (.int .i64 a0_2) := (blk_cell BK796.out 2).trans rfl; have hcz17_3 : w16.cell? ⟨gb796, 3, none⟩ = some (.string a0_3) := (blk_cell BK796.out 3).trans rfl; have hfz17_0 := blk_frozen BK796.out 0; have hfz17_1 := blk_frozen BK796.out 1; have hfz17_2 := blk_frozen BK796.out 2; have hfz17_3 := blk_frozen BK796.out 3) | (go_at_call 111; (with_reducible refine (impl_in.calls a0_1 0 99999 true _ A5.out).mono ?_); rintro e w' ⟨rfl, ⟨nd, rfl⟩⟩) | (go_at_call 111; (with_reducible refine (impl_in.calls a0_2 a0_1 99999 false _ A7.out).mono ?_); rintro e w' ⟨rfl, ⟨nd, rfl⟩⟩))
    go_ret
    exact ⟨by first | rfl | (simp [errW_none, errW_some] <;> rfl) | (simp [*, errW_none, errW_some] <;> rfl), by repeat (first | (with_reducible first | exact HB.out | apply ba_ | apply bn_ | apply bd_ | refine below_set ?_ GE796.out) | exact HB.out)⟩
   replace c6 := Bool.eq_false_iff.mpr c6
   subst c6
   rw [if_neg (show ¬ (false = true) by decide)] at H
   obtain rfl := Option.some.inj H
   go_enter Try.func124, Try.ntmps124
   go_wp2_with (first | ((with_reducible refine gate_dst (N := 1) rfl ?_); refine box_event ?hg (N := 1) ?hd (cs := #[.slice A0_0 l0_0.length c0_0, .int .i64 a0_1, .int .i64 a0_2, .string a0_3]) (t := 44) ?hr ?_; (case hd => rfl); (case hg => rfl); (case hr => first | (go_simp; done) | (go_simp; rfl)); intro gb796 hg w18 hbox hb; have n0_ := Aside0.mk (below_step (by repeat (first | (with_reducible first | exact HB.out | apply ba_ | apply bn_ | apply bd_) | exact HB.out)) hb); have BK796 := Aside0.mk (hbox); have GW796 := Aside0.mk ((by rw [hg]; exact (below_size (by repeat (first | (with_reducible first | exact HB.out | apply ba_ | apply bn_ | apply bd_) | exact HB.out))) : w.heap.size ≤ gb796)); have GE796 := GW796; clear HB; have HB := n0_; clear n0_; clear hb hbox hg; have hcz19_0 : w18.cell? ⟨gb796, 0, none⟩ = some (.slice A0_0 l0_0.length c0_0) := (blk_cell BK796.out 0).trans rfl; have hcz19_1 : w18.cell? ⟨gb796, 1, none⟩ = some (.int .i64 a0_1) := (blk_cell BK796.out 1).trans rfl; have hcz19_2 : w18.cell? ⟨gb796, 2, none⟩ = some (.int .i64 a0_2) := (blk_cell BK796.out 2).trans rfl; have hcz19_3 : w18.cell? ⟨gb796, 3, none⟩ = some (.string a0_3) := (blk_cell BK796.out 3).trans rfl; have hfz19_0 := blk_frozen BK796.out 0; have hfz19_1 := blk_frozen BK796.out 1; have hfz19_2 := blk_frozen BK796.out 2; have hfz19_3 := blk_frozen BK796.out 3) | (go_at_call 110; (with_reducible refine (impl_SetOk.calls k _ _ l0_0 true _ ?side1 ?side2 A3.out).mono ?_); (case side1 => repeat (first | exact (Kd.C_below HR0_0.out HB.out) | (with_reducible first | refine ca_ ?_ _ | refine cn_ ?_ _ | refine cd_ ?_))); (case side2 => exact HC0_0.out); rintro e w20 ⟨rfl, hb⟩; have n0_ := Aside0.mk (bb_ BK796.out hb); have n1_ := Aside0.mk (below_step (by repeat (first | (with_reducible first | exact HB.out | apply ba_ | apply bn_ | apply bd_ | refine below_set ?_ GE796.out) | exact HB.out)) hb); clear BK796; clear HB; have BK796 := n0_; have HB := n1_; clear n0_ n1_; (try clear hb); (try clear hb2); (try clear hk); (try clear hi); have hcz21_0 : w20.cell? ⟨gb796, 0, none⟩ = some (.slice A0_0 l0_0.length c0_0) := (blk_cell BK796.out 0).trans rfl; have hcz21_1 : w20.cell? ⟨gb796, 1, none⟩ = some (.int .i64 a0_1) := (blk_cell BK796.out 1).trans rfl; have hcz21_2 : w20.cell? ⟨gb796, 2, none⟩ = some (.int .i64 a0_2) := (blk_cell BK796.out 2).trans rfl; have hcz21_3 : w20.cell? ⟨gb796, 3, none⟩ = some (.string a0_3) := (blk_cell BK796.out 3).trans rfl; have hfz21_0 := blk_frozen BK796.out 0; have hfz21_1 := blk_frozen BK796.out 1; have hfz21_2 := blk_frozen BK796.out 2; have hfz21_3 := blk_frozen BK796.out 3) | (go_at_call 111; (with_reducible refine (impl_in.calls a0_1 0 99999 false _ A5.out).mono ?_); rintro e w' ⟨rfl, ⟨nd, rfl⟩⟩))
   go_ret
   exact ⟨by first | rfl | (simp [errW_none, errW_some] <;> rfl) | (simp [*, errW_none, errW_some] <;> rfl), by repeat (first | (with_reducible first | exact HB.out | apply ba_ | apply bn_ | apply bd_ | refine below_set ?_ GE796.out) | exact HB.out)⟩
  replace c4 := Bool.eq_false_iff.mpr c4
  subst c4
  rw [if_neg (show ¬ (false = true) by decide)] at H
  obtain rfl := Option.some.inj H
  go_enter Try.func124, Try.ntmps124
  go_wp2_with (first | ((with_reducible refine gate_dst (N := 1) rfl ?_); refine box_event ?hg (N := 1) ?hd (cs := #[.slice A0_0 l0_0.length c0_0, .int .i64 a0_1, .int .i64 a0_2, .string a0_3]) (t := 44) ?hr ?_; (case hd => rfl); (case hg => rfl); (case hr => first | (go_simp; done) | (go_simp; rfl)); intro gb796 hg w22 hbox hb; have n0_ := Aside0.mk (below_step (by repeat (first | (with_reducible first | exact HB.out | apply ba_ | apply bn_ | apply bd_) | exact HB.out)) hb); have BK796 := Aside0.mk (hbox); have GW796 := Aside0.mk ((by rw [hg]; exact (below_size (by repeat (first | (with_reducible first | exact HB.out | apply ba_ | apply bn_ | apply bd_) | exact HB.out))) : w.heap.size ≤ gb796)); have GE796 := GW796; clear HB; have HB := n0_; clear n0_; clear hb hbox hg; have hcz23_0 : w22.cell? ⟨gb796, 0, none⟩ = some (.slice A0_0 l0_0.length c0_0) := (blk_cell BK796.out 0).trans rfl; have hcz23_1 : w22.cell? ⟨gb796, 1, none⟩ = some (.int .i64 a0_1) := (blk_cell BK796.out 1).trans rfl; have hcz23_2 : w22.cell? ⟨gb796, 2, none⟩ = some (.int .i64 a0_2) := (blk_cell BK796.out 2).trans rfl; have hcz23_3 : w22.cell? ⟨gb796, 3, none⟩ = some (.string a0_3) := (blk_cell BK796.out 3).trans rfl; have hfz23_0 := blk_frozen BK796.out 0; have hfz23_1 := blk_frozen BK796.out 1; have hfz23_2 := blk_frozen BK796.out 2; have hfz23_3 := blk_frozen BK796.out 3) | (go_at_call 110; (with_reducible refine (impl_SetOk.calls k _ _ l0_0 false _ ?side1 ?side2 A3.out).mono ?_); (case side1 => repeat (first | exact (Kd.C_below HR0_0.out HB.out) | (with_reducible first | refine ca_ ?_ _ | refine cn_ ?_ _ | refine cd_ ?_))); (case side2 => exact HC0_0.out); rintro e w24 ⟨rfl, hb⟩; have n0_ := Aside0.mk (bb_ BK796.out hb); have n1_ := Aside0.mk (below_step (by repeat (first | (with_reducible first | exact HB.out | apply ba_ | apply bn_ | apply bd_ | refine below_set ?_ GE796.out) | exact HB.out)) hb); clear BK796; clear HB; have BK796 := n0_; have HB := n1_; clear n0_ n1_; (try clear hb); (try clear hb2); (try clear hk); (try clear hi)))
  go_ret
  exact ⟨by first | rfl | (simp [errW_none, errW_some] <;> rfl) | (simp [*, errW_none, errW_some] <;> rfl), by repeat (first | (with_reducible first | exact HB.out | apply ba_ | apply bn_ | apply bd_ | refine below_set ?_ GE796.out) | exact HB.out)⟩
 rw [if_neg c2] at H
 have c2b0 : decide (0 < (l0_0.length : Int)) = false := decide_eq_false c2
 have c2b1 : decide (0 < l0_0.length) = false := decide_eq_false (by omega)
 clear c2
 obtain rfl := Option.some.inj H
 go_enter Try.func124, Try.ntmps124
 go_wp2_with (first | ((with_reducible refine gate_dst (N := 1) rfl ?_); refine box_event ?hg (N := 1) ?hd (cs := #[.slice A0_0 l0_0.length c0_0, .int .i64 a0_1, .int .i64 a0_2, .string a0_3]) (t := 44) ?hr ?_; (case hd => rfl); (case hg => rfl); (case hr => first | (go_simp; done) | (go_simp; rfl)); intro gb796 hg w25 hbox hb; have n0_ := Aside0.mk (below_step (by repeat (first | (with_reducible first | exact HB.out | apply ba_ | apply bn_ | apply bd_) | exact HB.out)) hb); have BK796 := Aside0.mk (hbox); have GW796 := Aside0.mk ((by rw [hg]; exact (below_size (by repeat (first | (with_reducible first | exact HB.out | apply ba_ | apply bn_ | apply bd_) | exact HB.out))) : w.heap.size ≤ gb796)); have GE796 := GW796; clear HB; have HB := n0_; clear n0_; clear hb hbox hg; have hcz26_0 : w25.cell? ⟨gb796, 0, none⟩ = some (.slice A0_0 l0_0.length c0_0) := (blk_cell BK796.out 0).trans rfl; have hcz26_1 : w25.cell? ⟨gb796, 1, none⟩ = some (.int .i64 a0_1) := (blk_cell BK796.out 1).trans rfl; have hcz26_2 : w25.cell? ⟨gb796, 2, none⟩ = some (.int .i64 a0_2) := (blk_cell BK796.out 2).trans rfl; have hcz26_3 : w25.cell? ⟨gb796, 3, none⟩ = some (.string a0_3) := (blk_cell BK796.out 3).trans rfl; have hfz26_0 := blk_frozen BK796.out 0; have hfz26_1 := blk_frozen BK796.out 1; have hfz26_2 := blk_frozen BK796.out 2; have hfz26_3 := blk_frozen BK796.out 3))
 go_ret
 exact ⟨by first | rfl | (simp [errW_none, errW_some] <;> rfl) | (simp [*, errW_none, errW_some] <;> rfl), by repeat (first | (with_reducible first | exact HB.out | apply ba_ | apply bn_ | apply bd_ | refine below_set ?_ GE796.out) | exact HB.out)⟩
def impl_alarmsOk.l0 : Nat → List (S44) → Int → Int → Option (Bool)
 | 0, _, _, _ => none
 | k + 1, x5, x6, x7 => if x7 < x6 then (if 0 ≤ x7 then (if x7 < (x5.length : Int) then ((impl_AlarmOk.f k ((rd_T44 x5 x7).f0) ((rd_T44 x5 x7).f1) ((rd_T44 x5 x7).f2) ((rd_T44 x5 x7).f3)).bind fun t1299 => (if t1299 = true then (impl_alarmsOk.l0 k x5 x6 (wrap64 (x7 + 1))) else (some false))) else (none)) else (none)) else (some true)
def impl_alarmsOk.f (k : Nat) (l0 : List (S44)) : Option (Bool) := impl_alarmsOk.l0 k l0 (l0.length : Int) 0
theorem impl_alarmsOk.mono_l : ∀ k, (∀ y0 y1 y2, LeO (impl_alarmsOk.l0 k y0 y1 y2) (impl_alarmsOk.l0 (k + 1) y0 y1 y2))
 | 0 => fun _ _ _ r h => by simp [impl_alarmsOk.l0] at h
 | k + 1 => by
  have ih0 := impl_alarmsOk.mono_l k
  intro y0 y1 y2
  unfold impl_alarmsOk.l0
  repeat' first
  | (with_reducible exact ih0 _ _ _)
  | (with_reducible exact impl_AlarmOk.mono _ _ _ _ _)
  | (with_reducible exact LeO.refl _)
  | (with_reducible exact LeO.none _)
  | (with_reducible refine LeO.ite ?_ ?_)
  | (with_reducible refine LeO.bind ?_ (fun _ => ?_))
  | exact ih0 _ _ _
  | exact impl_AlarmOk.mono _ _ _ _ _
theorem impl_alarmsOk.mono : ∀ a0 k, LeO (impl_alarmsOk.f k a0) (impl_alarmsOk.f (k + 1) a0) := by
 intro a0 k
 have ih0 := impl_alarmsOk.mono_l k
 unfold impl_alarmsOk.f
 repeat' first
   | (with_reducible exact ih0 _ _ _)
   | (with_reducible exact impl_AlarmOk.mono _ _ _ _ _)
   | (with_reducible exact LeO.refl _)
   | (with_reducible exact LeO.none _)
   | (with_reducible refine LeO.ite ?_ ?_)
   | (with_reducible refine LeO.bind ?_ (fun _ => ?_))
   | exact ih0 _ _ _
   | exact impl_AlarmOk.mono _ _ _ _ _
theorem impl_alarmsOk.calls (k : Nat) (A0 : Option Addr) (c0 : Nat) (l0 : List (S44)) (r : Bool) (w : World) (hr0 : Kd.C k44 w A0 l0.length l0) (hc0 : l0.length ≤ c0) (h : impl_alarmsOk.f k l0 = some r) :
  Calls Try.prog 134 #[.slice A0 l0.length c0] w fun e w' => e = .returned (.bool r) ∧ Below w.heap.size w w' := by
 have hu44 := Try.underlying44
 have HR0 := Aside0.mk hr0
 have HC0 := Aside0.mk hc0
 clear hr0 hc0
 have HB := Aside0.mk (Below.refl w.heap.size w)
 have H : (impl_alarmsOk.l0 k l0 (l0.length : Int) 0) = some r := h
 clear h
 have H' := Aside0.mk H
 clear H
 go_enter Try.func134, Try.ntmps134
 go_wp2
 go_loopg [7] k (fun kq v7 w' => ∃ (x7_1 : Int), v7 = .int .i64 x7_1 ∧ Aside0 (impl_alarmsOk.l0 kq l0 (l0.length : Int) x7_1 = some r) ∧ Aside0 (kq ≤ k) ∧ Aside0 (Below w.heap.size w w'))
 case atStart => exact ⟨(0), (by first | rfl | (simp; done) | (simp [*]; done)), H', ⟨Nat.le_refl _⟩, ⟨by repeat (first | (with_reducible first | exact HB.out | apply ba_ | apply bn_ | apply bd_) | exact HB.out)⟩⟩
 case round =>
  clear H'
  try clear c1
  obtain ⟨x7_1, rfl, HA, HK1, HB⟩ := hrel
  cases gk with
  | zero => exact absurd HA.out (by simp [impl_alarmsOk.l0])
  | succ k1 =>
   have H := HA.out
   clear HA
   simp only [impl_alarmsOk.l0] at H
   by_cases c2 : x7_1 < (l0.length : Int)
   ·
    rw [if_pos c2] at H
    have c2b0 := decide_eq_true c2
    clear c2
    by_cases c3 : 0 ≤ x7_1
    ·
     rw [if_pos c3] at H
     have c3b0 := decide_eq_true c3
     clear c3
     by_cases c4 : x7_1 < (l0.length : Int)
     ·
      rw [if_pos c4] at H
      have c4b0 := decide_eq_true c4
      clear c4
      replace H := Option.bind_eq_some_iff.mp H
      obtain ⟨t1299, A50, H⟩ := H
      have A5 := Aside0.mk A50
      clear A50
      by_cases c6 : t1299 = true
      ·
       subst c6
       rw [if_pos rfl] at H
       have H' := Aside0.mk H
       clear H
       have p1297 : 0 ≤ (x7_1 : Int) := of_decide_eq_true (by with_reducible assumption)
       have q1297 : x7_1 < (l0.length : Int) := of_decide_eq_true (by with_reducible assumption)
       obtain ⟨ad1297, A1297_0, c1297_0, e1297, hx1297_0, hx1297_1, hx1297_2, hx1297_3, hl1297_0, hi1297_0⟩ := at_T44 HR0.out x7_1 p1297 q1297
       cases e1297
       replace hx1297_0 := cl_ HB.out hx1297_0
       replace hx1297_1 := cl_ HB.out hx1297_1
       replace hx1297_2 := cl_ HB.out hx1297_2
       replace hx1297_3 := cl_ HB.out hx1297_3
       have HR1297_0 := Aside0.mk hi1297_0
       have HC1297_0 := Aside0.mk hl1297_0
       clear hi1297_0 hl1297_0
       replace p1297 := eq_true p1297
       replace q1297 := eq_true q1297
       go_wp2_with (first | ((with_reducible refine gate_dst (N := 4) rfl ?_); refine box_event ?hg (N := 4) ?hd (cs := #[.slice none 0 0, .int .i64 0, .int .i64 0, .string (⟨#[]⟩ : ByteArray)]) (t := 44) ?hr ?_; (case hd => rfl); (case hg => rfl); (case hr => first | (go_simp; done) | (go_simp; rfl)); intro gb1298 hg w7 hbox hb; have n0_ := Aside0.mk (below_step (by repeat (first | (with_reducible first | exact HB.out | apply ba_ | apply bn_ | apply bd_) | exact HB.out)) hb); have BK1298 := Aside0.mk (hbox); have GW1298 := Aside0.mk ((by rw [hg]; exact (below_size (by repeat (first | (with_reducible first | exact HB.out | apply ba_ | apply bn_ | apply bd_) | exact HB.out))) : w.heap.size ≤ gb1298)); have GE1298 := GW1298; clear HB; have HB := n0_; clear n0_; clear hb hbox hg; have hcz8_0 : w7.cell? ⟨gb1298, 0, none⟩ = some (.slice none 0 0) := (blk_cell BK1298.out 0).trans rfl; have hcz8_1 : w7.cell? ⟨gb1298, 1, none⟩ = some (.int .i64 0) := (blk_cell BK1298.out 1).trans rfl; have hcz8_2 : w7.cell? ⟨gb1298, 2, none⟩ = some (.int .i64 0) := (blk_cell BK1298.out 2).trans rfl; have hcz8_3 : w7.cell? ⟨gb1298, 3, none⟩ = some (.string (⟨#[]⟩ : ByteArray)) := (blk_cell BK1298.out 3).trans rfl; have hfz8_0 := blk_frozen BK1298.out 0; have hfz8_1 := blk_frozen BK1298.out 1; have hfz8_2 := blk_frozen BK1298.out 2; have hfz8_3 := blk_frozen BK1298.out 3) | ((with_reducible refine gate_callee (f := 124) rfl ?_); refine goesL_ (some 12) rfl rfl Try.func124 (by kernel_rfl) rfl #[.agg #[.slice A1297_0 ((rd_T44 l0 x7_1).f0).length c1297_0, .int .i64 ((rd_T44 l0 x7_1).f1), .int .i64 ((rd_T44 l0 x7_1).f2), .string ((rd_T44 l0 x7_1).f3)]] rfl (by (try simp only [mp_]); first | done | rfl | (simp only [List.length_drop, List.length_take]; rfl)) ?_; (with_reducible refine (impl_AlarmOk.calls k1 _ _ ((rd_T44 l0 x7_1).f0) ((rd_T44 l0 x7_1).f1) ((rd_T44 l0 x7_1).f2) ((rd_T44 l0 x7_1).f3) true _ ?side1 ?side2 A5.out).mono ?_); (case side1 => exact Kd.C_below HR1297_0.out (by repeat (first | (with_reducible first | exact HB.out | apply ba_ | apply bn_ | apply bd_ | refine below_set ?_ GE1298.out) | exact HB.out))); (case side2 => exact HC1297_0.out); rintro e w9 ⟨rfl, hb⟩; refine ⟨_, rfl, ?_⟩; have n0_ := Aside0.mk (blk_below (g := gb1298) (o := .cells #[.slice A1297_0 ((rd_T44 l0 x7_1).f0).length c1297_0, .int .i64 ((rd_T44 l0 x7_1).f1), .int .i64 ((rd_T44 l0 x7_1).f2), .string ((rd_T44 l0 x7_1).f3)] 44 (0, 0)) (by (with_reducible repeat (first | refine kn_ ?_ _ | refine kd_ ?_ | refine ka_ ?_ _)); refine blk_put (cs := #[.slice A1297_0 ((rd_T44 l0 x7_1).f0).length c1297_0, .int .i64 ((rd_T44 l0 x7_1).f1), .int .i64 ((rd_T44 l0 x7_1).f2), .string (⟨#[]⟩ : ByteArray)]) ?_ 3 _ rfl; (with_reducible repeat (first | refine kn_ ?_ _ | refine kd_ ?_ | refine ka_ ?_ _)); refine blk_put (cs := #[.slice A1297_0 ((rd_T44 l0 x7_1).f0).length c1297_0, .int .i64 ((rd_T44 l0 x7_1).f1), .int .i64 0, .string (⟨#[]⟩ : ByteArray)]) ?_ 2 _ rfl; (with_reducible repeat (first | refine kn_ ?_ _ | refine kd_ ?_ | refine ka_ ?_ _)); refine blk_put (cs := #[.slice A1297_0 ((rd_T44 l0 x7_1).f0).length c1297_0, .int .i64 0, .int .i64 0, .string (⟨#[]⟩ : ByteArray)]) ?_ 1 _ rfl; (with_reducible repeat (first | refine kn_ ?_ _ | refine kd_ ?_ | refine ka_ ?_ _)); refine blk_put (cs := #[.slice none 0 0, .int .i64 0, .int .i64 0, .string (⟨#[]⟩ : ByteArray)]) ?_ 0 _ rfl; (with_reducible repeat (first | refine kn_ ?_ _ | refine kd_ ?_ | refine ka_ ?_ _)); exact BK1298.out) hb); have n1_ := Aside0.mk (below_step (by repeat (first | (with_reducible first | exact HB.out | apply ba_ | apply bn_ | apply bd_ | refine below_set ?_ GE1298.out) | exact HB.out)) hb); clear BK1298; clear HB; have BK1298 := n0_; have HB := n1_; clear n0_ n1_; (try clear hb); (try clear hb2); (try clear hk); (try clear hi)))
       go_roundg k1
       case measure => have := HK1.out; omega
       case rel => exact ⟨(wrap64 (x7_1 + 1)), (by first | rfl | (simp; done) | (simp [*]; done)), H', ⟨by have := HK1.out; omega⟩, ⟨by repeat (first | (with_reducible first | exact HB.out | apply ba_ | apply bn_ | apply bd_ | refine below_set ?_ GE1298.out) | exact HB.out)⟩⟩
      replace c6 := Bool.eq_false_iff.mpr c6
      subst c6
      rw [if_neg (show ¬ (false = true) by decide)] at H
      obtain rfl := Option.some.inj H
      have p1297 : 0 ≤ (x7_1 : Int) := of_decide_eq_true (by with_reducible assumption)
      have q1297 : x7_1 < (l0.length : Int) := of_decide_eq_true (by with_reducible assumption)
      obtain ⟨ad1297, A1297_0, c1297_0, e1297, hx1297_0, hx1297_1, hx1297_2, hx1297_3, hl1297_0, hi1297_0⟩ := at_T44 HR0.out x7_1 p1297 q1297
      cases e1297
      replace hx1297_0 := cl_ HB.out hx1297_0
      replace hx1297_1 := cl_ HB.out hx1297_1
      replace hx1297_2 := cl_ HB.out hx1297_2
      replace hx1297_3 := cl_ HB.out hx1297_3
      have HR1297_0 := Aside0.mk hi1297_0
      have HC1297_0 := Aside0.mk hl1297_0
      clear hi1297_0 hl1297_0
      replace p1297 := eq_true p1297
      replace q1297 := eq_true q1297
      go_wp2_with (first | ((with_reducible refine gate_dst (N := 4) rfl ?_); refine box_event ?hg (N := 4) ?hd (cs := #[.slice none 0 0, .int .i64 0, .int .i64 0, .string (⟨#[]⟩ : ByteArray)]) (t := 44) ?hr ?_; (case hd => rfl); (case hg => rfl); (case hr => first | (go_simp; done) | (go_simp; rfl)); intro gb1298 hg w10 hbox hb; have n0_ := Aside0.mk (below_step (by repeat (first | (with_reducible first | exact HB.out | apply ba_ | apply bn_ | apply bd_) | exact HB.out)) hb); have BK1298 := Aside0.mk (hbox); have GW1298 := Aside0.mk ((by rw [hg]; exact (below_size (by repeat (first | (with_reducible first | exact HB.out | apply ba_ | apply bn_ | apply bd_) | exact HB.out))) : w.heap.size ≤ gb1298)); have GE1298 := GW1298; clear HB; have HB := n0_; clear n0_; clear hb hbox hg; have hcz11_0 : w10.cell? ⟨gb1298, 0, none⟩ = some (.slice none 0 0) := (blk_cell BK1298.out 0).trans rfl; have hcz11_1 : w10.cell? ⟨gb1298, 1, none⟩ = some (.int .i64 0) := (blk_cell BK1298.out 1).trans rfl; have hcz11_2 : w10.cell? ⟨gb1298, 2, none⟩ = some (.int .i64 0) := (blk_cell BK1298.out 2).trans rfl; have hcz11_3 : w10.cell? ⟨gb1298, 3, none⟩ = some (.string (⟨#[]⟩ : ByteArray)) := (blk_cell BK1298.out 3).trans rfl; have hfz11_0 := blk_frozen BK1298.out 0; have hfz11_1 := blk_frozen BK1298.out 1; have hfz11_2 := blk_frozen BK1298.out 2; have hfz11_3 := blk_frozen BK1298.out 3) | ((with_reducible refine gate_callee (f := 124) rfl ?_); refine goesL_ (some 12) rfl rfl Try.func124 (by kernel_rfl) rfl #[.agg #[.slice A1297_0 ((rd_T44 l0 x7_1).f0).length c1297_0, .int .i64 ((rd_T44 l0 x7_1).f1), .int .i64 ((rd_T44 l0 x7_1).f2), .string ((rd_T44 l0 x7_1).f3)]] rfl (by (try simp only [mp_]); first | done | rfl | (simp only [List.length_drop, List.length_take]; rfl)) ?_; (with_reducible refine (impl_AlarmOk.calls k1 _ _ ((rd_T44 l0 x7_1).f0) ((rd_T44 l0 x7_1).f1) ((rd_T44 l0 x7_1).f2) ((rd_T44 l0 x7_1).f3) false _ ?side1 ?side2 A5.out).mono ?_); (case side1 => exact Kd.C_below HR1297_0.out (by repeat (first | (with_reducible first | exact HB.out | apply ba_ | apply bn_ | apply bd_ | refine below_set ?_ GE1298.out) | exact HB.out))); (case side2 => exact HC1297_0.out); rintro e w12 ⟨rfl, hb⟩; refine ⟨_, rfl, ?_⟩; have n0_ := Aside0.mk (blk_below (g := gb1298) (o := .cells #[.slice A1297_0 ((rd_T44 l0 x7_1).f0).length c1297_0, .int .i64 ((rd_T44 l0 x7_1).f1), .int .i64 ((rd_T44 l0 x7_1).f2), .string ((rd_T44 l0 x7_1).f3)] 44 (0, 0)) (by (with_reducible repeat (first | refine kn_ ?_ _ | refine kd_ ?_ | refine ka_ ?_ _)); refine blk_put (cs := #[.slice A1297_0 ((rd_T44 l0 x7_1).f0).length c1297_0, .int .i64 ((rd_T44 l0 x7_1).f1), .int .i64 ((rd_T44 l0 x7_1).f2), .string (⟨#[]⟩ : ByteArray)]) ?_ 3 _ rfl; (with_reducible repeat (first | refine kn_ ?_ _ | refine kd_ ?_ | refine ka_ ?_ _)); refine blk_put (cs := #[.slice A1297_0 ((rd_T44 l0 x7_1).f0).length c1297_0, .int .i64 ((rd_T44 l0 x7_1).f1), .int .i64 0, .string (⟨#[]⟩ : ByteArray)]) ?_ 2 _ rfl; (with_reducible repeat (first | refine kn_ ?_ _ | refine kd_ ?_ | refine ka_ ?_ _)); refine blk_put (cs := #[.slice A1297_0 ((rd_T44 l0 x7_1).f0).length c1297_0, .int .i64 0, .int .i64 0, .string (⟨#[]⟩ : ByteArray)]) ?_ 1 _ rfl; (with_reducible repeat (first | refine kn_ ?_ _ | refine kd_ ?_ | refine ka_ ?_ _)); refine blk_put (cs := #[.slice none 0 0, .int .i64 0, .int .i64 0, .string (⟨#[]⟩ : ByteArray)]) ?_ 0 _ rfl; (with_reducible repeat (first | refine kn_ ?_ _ | refine kd_ ?_ | refine ka_ ?_ _)); exact BK1298.out) hb); have n1_ := Aside0.mk (below_step (by repeat (first | (with_reducible first | exact HB.out | apply ba_ | apply bn_ | apply bd_ | refine below_set ?_ GE1298.out) | exact HB.out)) hb); clear BK1298; clear HB; have BK1298 := n0_; have HB := n1_; clear n0_ n1_; (try clear hb); (try clear hb2); (try clear hk); (try clear hi)))
      go_ret
      exact ⟨by first | rfl | (simp [errW_none, errW_some] <;> rfl) | (simp [*, errW_none, errW_some] <;> rfl), by repeat (first | (with_reducible first | exact HB.out | apply ba_ | apply bn_ | apply bd_ | refine below_set ?_ GE1298.out) | exact HB.out)⟩
     rw [if_neg c4] at H
     exact absurd H (by simp)
    rw [if_neg c3] at H
    exact absurd H (by simp)
   rw [if_neg c2] at H
   have c2b0 : decide (x7_1 < (l0.length : Int)) = false := decide_eq_false c2
   clear c2
   obtain rfl := Option.some.inj H
   go_wp2
   go_ret
   exact ⟨by first | rfl | (simp [errW_none, errW_some] <;> rfl) | (simp [*, errW_none, errW_some] <;> rfl), by repeat (first | (with_reducible first | exact HB.out | apply ba_ | apply bn_ | apply bd_) | exact HB.out)⟩
def impl_SubOk.f (k : Nat) (l0_0 : List (S44)) (a0_1 : Bool) : Option (Bool) := if a0_1 = true then (some ((l0_0.length : Int) == 0)) else (if (l0_0.length : Int) ≤ 3 then ((impl_alarmsOk.f k l0_0).bind fun t1796 => (some t1796)) else (some false))
theorem impl_SubOk.mono : ∀ a0 a1 k, LeO (impl_SubOk.f k a0 a1) (impl_SubOk.f (k + 1) a0 a1) := by
 intro a0 a1 k
 unfold impl_SubOk.f
 repeat' first
   | (with_reducible exact impl_alarmsOk.mono _ _)
   | (with_reducible exact LeO.refl _)
   | (with_reducible exact LeO.none _)
   | (with_reducible refine LeO.ite ?_ ?_)
   | (with_reducible refine LeO.bind ?_ (fun _ => ?_))
   | exact impl_alarmsOk.mono _ _
theorem impl_SubOk.calls (k : Nat) (A0_0 : Option Addr) (c0_0 : Nat) (l0_0 : List (S44)) (a0_1 : Bool) (r : Bool) (w : World) (hr0_0 : Kd.C k44 w A0_0 l0_0.length l0_0) (hc0_0 : l0_0.length ≤ c0_0) (h : impl_SubOk.f k l0_0 a0_1 = some r) :
  Calls Try.prog 78 #[.agg #[.slice A0_0 l0_0.length c0_0, .bool a0_1]] w fun e w' => e = .returned (.bool r) ∧ Below w.heap.size w w' := by
 have hu39 := Try.underlying39
 have HR0_0 := Aside0.mk hr0_0
 have HC0_0 := Aside0.mk hc0_0
 clear hr0_0 hc0_0
 have HB := Aside0.mk (Below.refl w.heap.size w)
 have H : (if a0_1 = true then (some ((l0_0.length : Int) == 0)) else (if (l0_0.length : Int) ≤ 3 then ((impl_alarmsOk.f k l0_0).bind fun t1796 => (some t1796)) else (some false))) = some r := h
 clear h
 by_cases c2 : a0_1 = true
 ·
  subst c2
  rw [if_pos rfl] at H
  obtain rfl := Option.some.inj H
  go_enter Try.func78, Try.ntmps78
  go_wp2_with (first | ((with_reducible refine gate_dst (N := 1) rfl ?_); refine box_event ?hg (N := 1) ?hd (cs := #[.slice A0_0 l0_0.length c0_0, .bool true]) (t := 39) ?hr ?_; (case hd => rfl); (case hg => rfl); (case hr => first | (go_simp; done) | (go_simp; rfl)); intro gb1795 hg w3 hbox hb; have n0_ := Aside0.mk (below_step (by repeat (first | (with_reducible first | exact HB.out | apply ba_ | apply bn_ | apply bd_) | exact HB.out)) hb); have BK1795 := Aside0.mk (hbox); have GW1795 := Aside0.mk ((by rw [hg]; exact (below_size (by repeat (first | (with_reducible first | exact HB.out | apply ba_ | apply bn_ | apply bd_) | exact HB.out))) : w.heap.size ≤ gb1795)); have GE1795 := GW1795; clear HB; have HB := n0_; clear n0_; clear hb hbox hg; have hcz4_0 : w3.cell? ⟨gb1795, 0, none⟩ = some (.slice A0_0 l0_0.length c0_0) := (blk_cell BK1795.out 0).trans rfl; have hcz4_1 : w3.cell? ⟨gb1795, 1, none⟩ = some (.bool true) := (blk_cell BK1795.out 1).trans rfl; have hfz4_0 := blk_frozen BK1795.out 0; have hfz4_1 := blk_frozen BK1795.out 1))
  go_ret
  exact ⟨by first | rfl | (simp [errW_none, errW_some] <;> rfl) | (simp [*, errW_none, errW_some] <;> rfl), by repeat (first | (with_reducible first | exact HB.out | apply ba_ | apply bn_ | apply bd_ | refine below_set ?_ GE1795.out) | exact HB.out)⟩
 replace c2 := Bool.eq_false_iff.mpr c2
 subst c2
 rw [if_neg (show ¬ (false = true) by decide)] at H
 by_cases c5 : (l0_0.length : Int) ≤ 3
 ·
  rw [if_pos c5] at H
  have c5b0 := decide_eq_true c5
  have c5b1 : decide (l0_0.length ≤ 3) = true := decide_eq_true (by omega)
  clear c5
  replace H := Option.bind_eq_some_iff.mp H
  obtain ⟨t1796, A60, H⟩ := H
  have A6 := Aside0.mk A60
  clear A60
  obtain rfl := Option.some.inj H
  go_enter Try.func78, Try.ntmps78
  go_wp2_with (first | ((with_reducible refine gate_dst (N := 1) rfl ?_); refine box_event ?hg (N := 1) ?hd (cs := #[.slice A0_0 l0_0.length c0_0, .bool false]) (t := 39) ?hr ?_; (case hd => rfl); (case hg => rfl); (case hr => first | (go_simp; done) | (go_simp; rfl)); intro gb1795 hg w7 hbox hb; have n0_ := Aside0.mk (below_step (by repeat (first | (with_reducible first | exact HB.out | apply ba_ | apply bn_ | apply bd_) | exact HB.out)) hb); have BK1795 := Aside0.mk (hbox); have GW1795 := Aside0.mk ((by rw [hg]; exact (below_size (by repeat (first | (with_reducible first | exact HB.out | apply ba_ | apply bn_ | apply bd_) | exact HB.out))) : w.heap.size ≤ gb1795)); have GE1795 := GW1795; clear HB; have HB := n0_; clear n0_; clear hb hbox hg; have hcz8_0 : w7.cell? ⟨gb1795, 0, none⟩ = some (.slice A0_0 l0_0.length c0_0) := (blk_cell BK1795.out 0).trans rfl; have hcz8_1 : w7.cell? ⟨gb1795, 1, none⟩ = some (.bool false) := (blk_cell BK1795.out 1).trans rfl; have hfz8_0 := blk_frozen BK1795.out 0; have hfz8_1 := blk_frozen BK1795.out 1) | (go_at_call 134; (with_reducible refine (impl_alarmsOk.calls k _ _ l0_0 t1796 _ ?side1 ?side2 A6.out).mono ?_); (case side1 => repeat (first | exact (Kd.C_below HR0_0.out HB.out) | (with_reducible first | refine ca_ ?_ _ | refine cn_ ?_ _ | refine cd_ ?_))); (case side2 => exact HC0_0.out); rintro e w9 ⟨rfl, hb⟩; have n0_ := Aside0.mk (bb_ BK1795.out hb); have n1_ := Aside0.mk (below_step (by repeat (first | (with_reducible first | exact HB.out | apply ba_ | apply bn_ | apply bd_ | refine below_set ?_ GE1795.out) | exact HB.out)) hb); clear BK1795; clear HB; have BK1795 := n0_; have HB := n1_; clear n0_ n1_; (try clear hb); (try clear hb2); (try clear hk); (try clear hi)))
  go_ret
  exact ⟨by first | rfl | (simp [errW_none, errW_some] <;> rfl) | (simp [*, errW_none, errW_some] <;> rfl), by repeat (first | (with_reducible first | exact HB.out | apply ba_ | apply bn_ | apply bd_ | refine below_set ?_ GE1795.out) | exact HB.out)⟩
 rw [if_neg c5] at H
 have c5b0 : decide ((l0_0.length : Int) ≤ 3) = false := decide_eq_false c5
 have c5b1 : decide (l0_0.length ≤ 3) = false := decide_eq_false (by omega)
 clear c5
 obtain rfl := Option.some.inj H
 go_enter Try.func78, Try.ntmps78
 go_wp2_with (first | ((with_reducible refine gate_dst (N := 1) rfl ?_); refine box_event ?hg (N := 1) ?hd (cs := #[.slice A0_0 l0_0.length c0_0, .bool false]) (t := 39) ?hr ?_; (case hd => rfl); (case hg => rfl); (case hr => first | (go_simp; done) | (go_simp; rfl)); intro gb1795 hg w10 hbox hb; have n0_ := Aside0.mk (below_step (by repeat (first | (with_reducible first | exact HB.out | apply ba_ | apply bn_ | apply bd_) | exact HB.out)) hb); have BK1795 := Aside0.mk (hbox); have GW1795 := Aside0.mk ((by rw [hg]; exact (below_size (by repeat (first | (with_reducible first | exact HB.out | apply ba_ | apply bn_ | apply bd_) | exact HB.out))) : w.heap.size ≤ gb1795)); have GE1795 := GW1795; clear HB; have HB := n0_; clear n0_; clear hb hbox hg; have hcz11_0 : w10.cell? ⟨gb1795, 0, none⟩ = some (.slice A0_0 l0_0.length c0_0) := (blk_cell BK1795.out 0).trans rfl; have hcz11_1 : w10.cell? ⟨gb1795, 1, none⟩ = some (.bool false) := (blk_cell BK1795.out 1).trans rfl; have hfz11_0 := blk_frozen BK1795.out 0; have hfz11_1 := blk_frozen BK1795.out 1))
 go_ret
 exact ⟨by first | rfl | (simp [errW_none, errW_some] <;> rfl) | (simp [*, errW_none, errW_some] <;> rfl), by repeat (first | (with_reducible first | exact HB.out | apply ba_ | apply bn_ | apply bd_ | refine below_set ?_ GE1795.out) | exact HB.out)⟩
def laws_FnHeards.j0 : Nat → List (S44) → List (S44) → Bool → List (S44) → Bool → Option (Bool)
 | 0, _, _, _, _, _ => none
 | k + 1, x3, x5, x26, x1806000, x1806001 => if x26 = true then (none) else (if x1806001 = true then (if (x3.length : Int) = 0 then (some true) else (some ((x5.length : Int) == 0))) else (if (wrap64 ((x1806000.length : Int) + (x3.length : Int))) ≤ 3 then (if (x5.length : Int) = (wrap64 ((x1806000.length : Int) + (x3.length : Int))) then (if 0 ≤ (x1806000.length : Int) then (if (x1806000.length : Int) ≤ (x5.length : Int) then ((laws_sameList.f k (x5.drop ((x1806000.length : Int) : Int).toNat) x3).bind fun t1818 => (some t1818)) else (none)) else (none)) else (none)) else (if (x3.length : Int) = 0 then (some true) else (some ((x5.length : Int) == 0)))))
def laws_FnHeards.f (k : Nat) (l0 : List Int) : Option (Bool) := (laws_big.f l0).bind fun t1797 => (if t1797 = true then (some true) else ((spec_DrawHeard.f k l0).bind fun bt1798 => ((impl_Heard.f k bt1798.1 bt1798.2.1 bt1798.2.2).bind fun t1806 => ((spec_Heard.f k bt1798.1 bt1798.2.1 bt1798.2.2).bind fun t1809 => ((laws_sameList.f k t1806 t1809).bind fun t1812 => (if t1812 = true then ((impl_SubOk.f k ([] : List (S44)) false).bind fun t1813 => (laws_FnHeards.j0 k bt1798.1 t1806 (!t1813) bt1798.2.1 bt1798.2.2)) else (laws_FnHeards.j0 k bt1798.1 t1806 true bt1798.2.1 bt1798.2.2)))))))
theorem laws_FnHeards.mono_l : ∀ k, (∀ y0 y1 y2 y3 y4, LeO (laws_FnHeards.j0 k y0 y1 y2 y3 y4) (laws_FnHeards.j0 (k + 1) y0 y1 y2 y3 y4))
 | 0 => fun _ _ _ _ _ r h => by simp [laws_FnHeards.j0] at h
 | k + 1 => by
  have ih0 := laws_FnHeards.mono_l k
  intro y0 y1 y2 y3 y4
  unfold laws_FnHeards.j0
  repeat' first
  | (with_reducible exact ih0 _ _ _ _ _)
  | (with_reducible exact impl_Heard.mono _ _ _ _)
  | (with_reducible exact impl_SubOk.mono _ _ _)
  | (with_reducible exact laws_sameList.mono _ _ _)
  | (with_reducible exact spec_DrawHeard.mono _ _)
  | (with_reducible exact spec_Heard.mono _ _ _ _)
  | (with_reducible exact LeO.refl _)
  | (with_reducible exact LeO.none _)
  | (with_reducible refine LeO.ite ?_ ?_)
  | (with_reducible refine LeO.bind ?_ (fun _ => ?_))
  | exact ih0 _ _ _ _ _
  | exact impl_Heard.mono _ _ _ _
  | exact impl_SubOk.mono _ _ _
  | exact laws_sameList.mono _ _ _
  | exact spec_DrawHeard.mono _ _
  | exact spec_Heard.mono _ _ _ _
theorem laws_FnHeards.mono : ∀ a0 k, LeO (laws_FnHeards.f k a0) (laws_FnHeards.f (k + 1) a0) := by
 intro a0 k
 have ih0 := laws_FnHeards.mono_l k
 unfold laws_FnHeards.f
 repeat' first
   | (with_reducible exact ih0 _ _ _ _ _)
   | (with_reducible exact impl_Heard.mono _ _ _ _)
   | (with_reducible exact impl_SubOk.mono _ _ _)
   | (with_reducible exact laws_sameList.mono _ _ _)
   | (with_reducible exact spec_DrawHeard.mono _ _)
   | (with_reducible exact spec_Heard.mono _ _ _ _)
   | (with_reducible exact LeO.refl _)
   | (with_reducible exact LeO.none _)
   | (with_reducible refine LeO.ite ?_ ?_)
   | (with_reducible refine LeO.bind ?_ (fun _ => ?_))
   | exact ih0 _ _ _ _ _
   | exact impl_Heard.mono _ _ _ _
   | exact impl_SubOk.mono _ _ _
   | exact laws_sameList.mono _ _ _
   | exact spec_DrawHeard.mono _ _
   | exact spec_Heard.mono _ _ _ _
theorem laws_FnHeards.calls (k : Nat) (A0 : Option Addr) (c0 : Nat) (l0 : List Int) (r : Bool) (w : World) (hr0 : Kd.C (Kd.int .u8) w A0 l0.length l0) (hc0 : l0.length ≤ c0) (h : laws_FnHeards.f k l0 = some r) :
  Calls Try.prog 13 #[.slice A0 l0.length c0] w fun e w' => e = .returned (.bool r) ∧ Below w.heap.size w w' := by
 have hu39 := Try.underlying39
 have HR0 := Aside0.mk hr0
 have HC0 := Aside0.mk hc0
 clear hr0 hc0
 have HB := Aside0.mk (Below.refl w.heap.size w)
 have H : ((laws_big.f l0).bind fun t1797 => (if t1797 = true then (some true) else ((spec_DrawHeard.f k l0).bind fun bt1798 => ((impl_Heard.f k bt1798.1 bt1798.2.1 bt1798.2.2).bind fun t1806 => ((spec_Heard.f k bt1798.1 bt1798.2.1 bt1798.2.2).bind fun t1809 => ((laws_sameList.f k t1806 t1809).bind fun t1812 => (if t1812 = true then ((impl_SubOk.f k ([] : List (S44)) false).bind fun t1813 => (laws_FnHeards.j0 k bt1798.1 t1806 (!t1813) bt1798.2.1 bt1798.2.2)) else (laws_FnHeards.j0 k bt1798.1 t1806 true bt1798.2.1 bt1798.2.2)))))))) = some r := h
 clear h
 replace H := Option.bind_eq_some_iff.mp H
 obtain ⟨t1797, A20, H⟩ := H
 have A2 := Aside0.mk A20
 clear A20
 by_cases c3 : t1797 = true
 ·
  subst c3
  rw [if_pos rfl] at H
  obtain rfl := Option.some.inj H
  go_enter Try.func13, Try.ntmps13
  go_wp2_with (first | ((with_reducible refine gate_callee (f := 75) rfl ?_); refine goesL_ (some 7) rfl rfl Try.func75 (by kernel_rfl) rfl #[.slice A0 l0.length c0] rfl (by (try simp only [mp_]); first | done | rfl | (simp only [List.length_drop, List.length_take]; rfl)) ?_; (with_reducible refine (laws_big.calls _ _ l0 true _ ?side1 ?side2 A2.out).mono ?_); (case side1 => repeat (first | exact HR0.out | (with_reducible first | refine ca_ ?_ _ | refine cn_ ?_ _ | refine cd_ ?_))); (case side2 => exact HC0.out); rintro e w' ⟨rfl, ⟨nd, rfl⟩⟩; refine ⟨_, rfl, ?_⟩))
  go_ret
  exact ⟨by first | rfl | (simp [errW_none, errW_some] <;> rfl) | (simp [*, errW_none, errW_some] <;> rfl), by repeat (first | (with_reducible first | exact HB.out | apply ba_ | apply bn_ | apply bd_) | exact HB.out)⟩
 replace c3 := Bool.eq_false_iff.mpr c3
 subst c3
 rw [if_neg (show ¬ (false = true) by decide)] at H
 replace H := Option.bind_eq_some_iff.mp H
 obtain ⟨⟨t1798, t1801, t1804⟩, A40, H⟩ := H
 have A4 := Aside0.mk A40
 clear A40
 replace H := Option.bind_eq_some_iff.mp H
 obtain ⟨t1806, A50, H⟩ := H
 have A5 := Aside0.mk A50
 clear A50
 have HC6 := Aside0.mk H
 clear H
 go_enter Try.func13, Try.ntmps13
 go_upto_region 5 with (first | ((with_reducible refine gate_callee (f := 75) rfl ?_); refine goesL_ (some 7) rfl rfl Try.func75 (by kernel_rfl) rfl #[.slice A0 l0.length c0] rfl (by (try simp only [mp_]); first | done | rfl | (simp only [List.length_drop, List.length_take]; rfl)) ?_; (with_reducible refine (laws_big.calls _ _ l0 false _ ?side1 ?side2 A2.out).mono ?_); (case side1 => repeat (first | exact HR0.out | (with_reducible first | refine ca_ ?_ _ | refine cn_ ?_ _ | refine cd_ ?_))); (case side2 => exact HC0.out); rintro e w' ⟨rfl, ⟨nd, rfl⟩⟩; refine ⟨_, rfl, ?_⟩) | ((with_reducible refine gate_callee (f := 76) rfl ?_); refine goesL_ (some 10) rfl rfl Try.func76 (by kernel_rfl) rfl #[.slice A0 l0.length c0] rfl (by (try simp only [mp_]); first | done | rfl | (simp only [List.length_drop, List.length_take]; rfl)) ?_; (with_reducible refine (spec_DrawHeard.calls k _ _ l0 t1798 t1801 t1804 _ ?side1 ?side2 A4.out).mono ?_); (case side1 => repeat (first | exact HR0.out | (with_reducible first | refine ca_ ?_ _ | refine cn_ ?_ _ | refine cd_ ?_))); (case side2 => exact HC0.out); rintro e w7 ⟨v1799, v1802, rfl, ho0, ho1, hb⟩; refine ⟨_, rfl, ?_⟩; have HO1800 := Aside0.mk (Kd.S_lower ho0 (below_size (by repeat (first | (with_reducible first | exact HB.out | apply ba_ | apply bn_ | apply bd_) | exact HB.out)))); have HO1803 := Aside0.mk (Kd.S_lower ho1 (below_size (by repeat (first | (with_reducible first | exact HB.out | apply ba_ | apply bn_ | apply bd_) | exact HB.out)))); have n2_ := Aside0.mk (below_step (by repeat (first | (with_reducible first | exact HB.out | apply ba_ | apply bn_ | apply bd_) | exact HB.out)) hb); clear HB; have HB := n2_; clear n2_; (try clear hb); (try clear hb2); (try clear hk); (try clear hi); (try clear ho0); (try clear ho1)) | ((with_reducible refine gate_dst (N := 4) rfl ?_); refine box_event ?hg (N := 4) ?hd (cs := #[.slice none 0 0, .bool false]) (t := 39) ?hr ?_; (case hd => rfl); (case hg => rfl); (case hr => first | (go_simp; done) | (go_simp; rfl)); intro gb1805 hg w8 hbox hb; have n0_ := Aside0.mk (Kd.S_below (sp_ HO1800.out) hb); have n1_ := Aside0.mk (Kd.S_below (sp_ HO1803.out) hb); have n2_ := Aside0.mk (below_step (by repeat (first | (with_reducible first | exact HB.out | apply ba_ | apply bn_ | apply bd_) | exact HB.out)) hb); have n3_ := Aside0.mk (hbox); have n4_ := Aside0.mk ((by rw [hg]; exact (below_size (by repeat (first | (with_reducible first | exact HB.out | apply ba_ | apply bn_ | apply bd_) | exact HB.out))) : w.heap.size ≤ gb1805)); have n5_ := n4_; clear HO1800; clear HO1803; clear HB; have HO1800 := n0_; have HO1803 := n1_; have HB := n2_; have BK1805 := n3_; have GW1805 := n4_; have GE1805 := n5_; clear n0_ n1_ n2_ n3_ n4_ n5_; clear hb hbox hg; obtain ⟨Ao9, co9, eo9⟩ := Kd.S_slice HO1803.out; subst eo9; have hcz10_0 : w8.cell? ⟨gb1805, 0, none⟩ = some (.slice none 0 0) := (blk_cell BK1805.out 0).trans rfl; have hcz10_1 : w8.cell? ⟨gb1805, 1, none⟩ = some (.bool false) := (blk_cell BK1805.out 1).trans rfl; have hfz10_0 := blk_frozen BK1805.out 0; have hfz10_1 := blk_frozen BK1805.out 1; obtain ⟨Ao11, co11, eo11⟩ := Kd.S_slice HO1800.out; subst eo11) | ((with_reducible refine gate_callee (f := 37) rfl ?_); refine goesL_ (some 15) rfl rfl Try.func37 (by kernel_rfl) rfl #[.slice Ao11 t1798.length co11, .agg #[.slice Ao9 t1801.length co9, .bool t1804]] rfl (by (try simp only [mp_]); first | done | rfl | (simp only [List.length_drop, List.length_take]; rfl)) ?_; (with_reducible refine (impl_Heard.calls k _ _ t1798 _ _ t1801 t1804 t1806 _ ?side1 ?side2 ?side3 ?side4 A5.out).mono ?_); (case side1 => refine (Kd.S_reads' (e := 44) (base := w.heap.size) (ok := fun k_ => some k_ ≠ (.slice Ao9 t1801.length co9 : Value).ownBlock) (n := t1798.length) (c := co11) ?_).2.2; exact (by (with_reducible repeat (first | apply Kd.S_alloc | apply Kd.S_drewN | apply Kd.S_drew)); exact (Kd.S_mono (Kd.S_far (p := ⟨gb1805, 1, none⟩) (Kd.S_far (p := ⟨gb1805, 0, none⟩) (Kd.S_types HO1800.out BK1805.out (by decide)) (fun _ hk => hk.2) (.slice Ao9 t1801.length co9)) (fun _ hk => hk.2) (.bool t1804)) (fun _ h_ => h_.1)))); (case side2 => exact (Kd.S_reads' HO1800.out).2.1); (case side3 => refine (Kd.S_reads' (e := 44) (base := w.heap.size) (ok := fun k_ => some k_ ≠ (.slice Ao11 t1798.length co11 : Value).ownBlock) (n := t1801.length) (c := co9) ?_).2.2; exact (by (with_reducible repeat (first | apply Kd.S_alloc | apply Kd.S_drewN | apply Kd.S_drew)); exact (Kd.S_mono (Kd.S_far (p := ⟨gb1805, 1, none⟩) (Kd.S_far (p := ⟨gb1805, 0, none⟩) (Kd.S_types HO1803.out BK1805.out (by decide)) (fun _ hk => hk.2) (.slice Ao9 t1801.length co9)) (fun _ hk => hk.2) (.bool t1804)) (fun _ h_ => h_.1)))); (case side4 => exact (Kd.S_reads' HO1803.out).2.1); rintro e w12 ⟨v1807, rfl, ho0, hb⟩; refine ⟨_, rfl, ?_⟩; have n0_ := Aside0.mk (Kd.S_elder' (by (with_reducible repeat (first | apply Kd.S_alloc | apply Kd.S_drewN | apply Kd.S_drew)); exact (Kd.S_mono (Kd.S_far (p := ⟨gb1805, 1, none⟩) (Kd.S_far (p := ⟨gb1805, 0, none⟩) (Kd.S_types HO1800.out BK1805.out (by decide)) (fun _ hk => hk.2) (.slice Ao9 t1801.length co9)) (fun _ hk => hk.2) (.bool t1804)) (fun _ h_ => h_.1))) (Kd.S_base ho0) hb); have n1_ := Aside0.mk (Kd.S_elder' (by (with_reducible repeat (first | apply Kd.S_alloc | apply Kd.S_drewN | apply Kd.S_drew)); exact (Kd.S_mono (Kd.S_far (p := ⟨gb1805, 1, none⟩) (Kd.S_far (p := ⟨gb1805, 0, none⟩) (Kd.S_types HO1803.out BK1805.out (by decide)) (fun _ hk => hk.2) (.slice Ao9 t1801.length co9)) (fun _ hk => hk.2) (.bool t1804)) (fun _ h_ => h_.1))) (Kd.S_base ho0) hb); have n2_ := Aside0.mk (Kd.S_lower (Kd.S_new' (Kd.S_new' ho0 (Kd.S_lt (by (with_reducible repeat (first | apply Kd.S_alloc | apply Kd.S_drewN | apply Kd.S_drew)); exact (Kd.S_mono (Kd.S_far (p := ⟨gb1805, 1, none⟩) (Kd.S_far (p := ⟨gb1805, 0, none⟩) (Kd.S_types HO1800.out BK1805.out (by decide)) (fun _ hk => hk.2) (.slice Ao9 t1801.length co9)) (fun _ hk => hk.2) (.bool t1804)) (fun _ h_ => h_.1))))) (Kd.S_lt (by (with_reducible repeat (first | apply Kd.S_alloc | apply Kd.S_drewN | apply Kd.S_drew)); exact (Kd.S_mono (Kd.S_far (p := ⟨gb1805, 1, none⟩) (Kd.S_far (p := ⟨gb1805, 0, none⟩) (Kd.S_types HO1803.out BK1805.out (by decide)) (fun _ hk => hk.2) (.slice Ao9 t1801.length co9)) (fun _ hk => hk.2) (.bool t1804)) (fun _ h_ => h_.1))))) (below_size (by repeat (first | (with_reducible first | exact HB.out | apply ba_ | apply bn_ | apply bd_ | refine below_set ?_ GE1805.out) | exact HB.out)))); have n3_ := Aside0.mk (blk_below (g := gb1805) (o := .cells #[.slice Ao9 t1801.length co9, .bool t1804] 39 (0, 0)) (by (with_reducible repeat (first | refine kn_ ?_ _ | refine kd_ ?_ | refine ka_ ?_ _)); refine blk_put (cs := #[.slice Ao9 t1801.length co9, .bool false]) ?_ 1 _ rfl; (with_reducible repeat (first | refine kn_ ?_ _ | refine kd_ ?_ | refine ka_ ?_ _)); refine blk_put (cs := #[.slice none 0 0, .bool false]) ?_ 0 _ rfl; (with_reducible repeat (first | refine kn_ ?_ _ | refine kd_ ?_ | refine ka_ ?_ _)); exact BK1805.out) hb); have n4_ := Aside0.mk (below_step (by repeat (first | (with_reducible first | exact HB.out | apply ba_ | apply bn_ | apply bd_ | refine below_set ?_ GE1805.out) | exact HB.out)) hb); clear HO1800; clear HO1803; clear BK1805; clear HB; have HO1800 := n0_; have HO1803 := n1_; have HO1808 := n2_; have BK1805 := n3_; have HB := n4_; clear n0_ n1_ n2_ n3_ n4_; (try clear hb); (try clear hb2); (try clear hk); (try clear hi); (try clear ho0)))
 (try simp only [Act.put, List.setIfInBounds_toArray, List.set_cons_zero, List.set_cons_succ])
 go_cut [26] (fun v26 wc => ∃ (kq : Nat) (x26_5 : Bool), v26 = .bool x26_5 ∧ Aside0 (laws_FnHeards.j0 kq t1798 t1806 x26_5 t1801 t1804 = some r) ∧ Aside0 (kq ≤ k) ∧ Aside0 (Kd.S k44 44 wc w.heap.size (fun k_ => some k_ ≠ (v1807 : Value).ownBlock ∧ some k_ ≠ ((.slice Ao9 t1801.length co9) : Value).ownBlock) (.slice Ao11 t1798.length co11) t1798) ∧ Aside0 (Kd.S k44 44 wc w.heap.size (fun k_ => some k_ ≠ ((.slice Ao11 t1798.length co11) : Value).ownBlock ∧ some k_ ≠ ((.slice Ao9 t1801.length co9) : Value).ownBlock) v1807 t1806) ∧ Aside0 (Kd.S k44 44 wc w.heap.size (fun k_ => some k_ ≠ ((.slice Ao11 t1798.length co11) : Value).ownBlock ∧ some k_ ≠ (v1807 : Value).ownBlock) (.slice Ao9 t1801.length co9) t1801) ∧ Aside0 (wc.heap[gb1805]? = some (.cells #[(.slice Ao9 t1801.length co9), .bool t1804] 39 (0, 0))) ∧ Aside0 (Below w.heap.size w wc))
 case first =>
  have H := HC6.out
  clear HC6
  replace H := Option.bind_eq_some_iff.mp H
  obtain ⟨t1809, A130, H⟩ := H
  have A13 := Aside0.mk A130
  clear A130
  replace H := Option.bind_eq_some_iff.mp H
  obtain ⟨t1812, A140, H⟩ := H
  have A14 := Aside0.mk A140
  clear A140
  by_cases c15 : t1812 = true
  ·
   subst c15
   rw [if_pos rfl] at H
   replace H := Option.bind_eq_some_iff.mp H
   obtain ⟨t1813, A160, H⟩ := H
   have A16 := Aside0.mk A160
   clear A160
   have H' := Aside0.mk H
   clear H
   have hcz17_0 : w12.cell? ⟨gb1805, 0, none⟩ = some (.slice Ao9 t1801.length co9) := (blk_cell BK1805.out 0).trans rfl
   have hcz17_1 : w12.cell? ⟨gb1805, 1, none⟩ = some (.bool t1804) := (blk_cell BK1805.out 1).trans rfl
   have hfz17_0 := blk_frozen BK1805.out 0
   have hfz17_1 := blk_frozen BK1805.out 1
   go_wp2_with (first | ((with_reducible refine gate_callee (f := 35) rfl ?_); refine goesL_ (some 19) rfl rfl Try.func35 (by kernel_rfl) rfl #[.slice Ao11 t1798.length co11, .agg #[.slice Ao9 t1801.length co9, .bool t1804]] rfl (by (try simp only [mp_]); first | done | rfl | (simp only [List.length_drop, List.length_take]; rfl)) ?_; (with_reducible refine (spec_Heard.calls k _ _ t1798 _ _ t1801 t1804 t1809 _ ?side1 ?side2 ?side3 ?side4 A13.out).mono ?_); (case side1 => repeat (first | exact (Kd.S_reads' HO1800.out).2.2 | (with_reducible first | refine ca_ ?_ _ | refine cn_ ?_ _ | refine cd_ ?_))); (case side2 => exact (Kd.S_reads' HO1800.out).2.1); (case side3 => repeat (first | exact (Kd.S_reads' HO1803.out).2.2 | (with_reducible first | refine ca_ ?_ _ | refine cn_ ?_ _ | refine cd_ ?_))); (case side4 => exact (Kd.S_reads' HO1803.out).2.1); rintro e w18 ⟨v1810, rfl, ho0, hb⟩; refine ⟨_, rfl, ?_⟩; have n0_ := Aside0.mk (Kd.S_elder' (sp_ HO1800.out) (Kd.S_base ho0) hb); have n1_ := Aside0.mk (Kd.S_elder' (sp_ HO1803.out) (Kd.S_base ho0) hb); have n2_ := Aside0.mk (Kd.S_elder' (sp_ HO1808.out) (Kd.S_base ho0) hb); have n3_ := Aside0.mk (Kd.S_lower (Kd.S_new' (Kd.S_new' (Kd.S_new' ho0 (Kd.S_lt (sp_ HO1800.out))) (Kd.S_lt (sp_ HO1803.out))) (Kd.S_lt (sp_ HO1808.out))) (below_size (by repeat (first | (with_reducible first | exact HB.out | apply ba_ | apply bn_ | apply bd_ | refine below_set ?_ GE1805.out) | exact HB.out)))); have n4_ := Aside0.mk (bb_ BK1805.out hb); have n5_ := Aside0.mk (below_step (by repeat (first | (with_reducible first | exact HB.out | apply ba_ | apply bn_ | apply bd_ | refine below_set ?_ GE1805.out) | exact HB.out)) hb); clear HO1800; clear HO1803; clear HO1808; clear BK1805; clear HB; have HO1800 := n0_; have HO1803 := n1_; have HO1808 := n2_; have HO1811 := n3_; have BK1805 := n4_; have HB := n5_; clear n0_ n1_ n2_ n3_ n4_ n5_; (try clear hb); (try clear hb2); (try clear hk); (try clear hi); (try clear ho0); obtain ⟨Ao19, co19, eo19⟩ := Kd.S_slice HO1808.out; subst eo19; obtain ⟨Ao20, co20, eo20⟩ := Kd.S_slice HO1811.out; subst eo20) | ((with_reducible refine gate_callee (f := 77) rfl ?_); refine goesL_ (some 20) rfl rfl Try.func77 (by kernel_rfl) rfl #[.slice Ao19 t1806.length co19, .slice Ao20 t1809.length co20] rfl (by (try simp only [mp_]); first | done | rfl | (simp only [List.length_drop, List.length_take]; rfl)) ?_; (with_reducible refine (laws_sameList.calls k _ _ t1806 _ _ t1809 true _ ?side1 ?side2 ?side3 ?side4 A14.out).mono ?_); (case side1 => repeat (first | exact (Kd.S_reads' HO1808.out).2.2 | (with_reducible first | refine ca_ ?_ _ | refine cn_ ?_ _ | refine cd_ ?_))); (case side2 => exact (Kd.S_reads' HO1808.out).2.1); (case side3 => repeat (first | exact (Kd.S_reads' HO1811.out).2.2 | (with_reducible first | refine ca_ ?_ _ | refine cn_ ?_ _ | refine cd_ ?_))); (case side4 => exact (Kd.S_reads' HO1811.out).2.1); rintro e w21 ⟨rfl, hb⟩; refine ⟨_, rfl, ?_⟩; have n0_ := Aside0.mk (Kd.S_below (sp_ HO1800.out) hb); have n1_ := Aside0.mk (Kd.S_below (sp_ HO1803.out) hb); have n2_ := Aside0.mk (Kd.S_below (sp_ HO1808.out) hb); have n3_ := Aside0.mk (Kd.S_below (sp_ HO1811.out) hb); have n4_ := Aside0.mk (bb_ BK1805.out hb); have n5_ := Aside0.mk (below_step (by repeat (first | (with_reducible first | exact HB.out | apply ba_ | apply bn_ | apply bd_ | refine below_set ?_ GE1805.out) | exact HB.out)) hb); clear HO1800; clear HO1803; clear HO1808; clear HO1811; clear BK1805; clear HB; have HO1800 := n0_; have HO1803 := n1_; have HO1808 := n2_; have HO1811 := n3_; have BK1805 := n4_; have HB := n5_; clear n0_ n1_ n2_ n3_ n4_ n5_; (try clear hb); (try clear hb2); (try clear hk); (try clear hi)) | (go_at_call 78; (refine (impl_SubOk.calls k _ _ ([] : List (S44)) false t1813 _ ?side1 ?side2 A16.out).mono ?_); (case side1 => exact Kd.C_nil _ _); (case side2 => exact Nat.le_refl _); rintro e w22 ⟨rfl, hb⟩; have n0_ := Aside0.mk (Kd.S_below (sp_ HO1800.out) hb); have n1_ := Aside0.mk (Kd.S_below (sp_ HO1803.out) hb); have n2_ := Aside0.mk (Kd.S_below (sp_ HO1808.out) hb); have n3_ := Aside0.mk (Kd.S_below (sp_ HO1811.out) hb); have n4_ := Aside0.mk (bb_ BK1805.out hb); have n5_ := Aside0.mk (below_step (by repeat (first | (with_reducible first | exact HB.out | apply ba_ | apply bn_ | apply bd_ | refine below_set ?_ GE1805.out) | exact HB.out)) hb); clear HO1800; clear HO1803; clear HO1808; clear HO1811; clear BK1805; clear HB; have HO1800 := n0_; have HO1803 := n1_; have HO1808 := n2_; have HO1811 := n3_; have BK1805 := n4_; have HB := n5_; clear n0_ n1_ n2_ n3_ n4_ n5_; (try clear hb); (try clear hb2); (try clear hk); (try clear hi)))
   go_meet
   case rel => exact ⟨_, (!t1813), (by first | rfl | (simp; done) | (simp [*]; done)), H', ⟨by first | omega | exact Nat.le_refl _⟩, ⟨by (with_reducible repeat (first | apply Kd.S_alloc | apply Kd.S_drewN | apply Kd.S_drew)); exact Kd.S_mono HO1800.out (fun _ hk => ⟨hk.1.2, hk.1.1⟩)⟩, ⟨by (with_reducible repeat (first | apply Kd.S_alloc | apply Kd.S_drewN | apply Kd.S_drew)); exact Kd.S_mono HO1808.out (fun _ hk => ⟨hk.1.1.2, hk.1.2⟩)⟩, ⟨by (with_reducible repeat (first | apply Kd.S_alloc | apply Kd.S_drewN | apply Kd.S_drew)); exact Kd.S_mono HO1803.out (fun _ hk => ⟨hk.1.1, hk.1.2⟩)⟩, ⟨by (with_reducible repeat (first | refine kn_ ?_ _ | refine kd_ ?_ | refine ka_ ?_ _)); exact BK1805.out⟩, ⟨by repeat (first | (with_reducible first | exact HB.out | apply ba_ | apply bn_ | apply bd_ | refine below_set ?_ GE1805.out) | exact HB.out)⟩⟩
  replace c15 := Bool.eq_false_iff.mpr c15
  subst c15
  rw [if_neg (show ¬ (false = true) by decide)] at H
  have H' := Aside0.mk H
  clear H
  have hcz23_0 : w12.cell? ⟨gb1805, 0, none⟩ = some (.slice Ao9 t1801.length co9) := (blk_cell BK1805.out 0).trans rfl
  have hcz23_1 : w12.cell? ⟨gb1805, 1, none⟩ = some (.bool t1804) := (blk_cell BK1805.out 1).trans rfl
  have hfz23_0 := blk_frozen BK1805.out 0
  have hfz23_1 := blk_frozen BK1805.out 1
  go_wp2_with (first | ((with_reducible refine gate_callee (f := 35) rfl ?_); refine goesL_ (some 19) rfl rfl Try.func35 (by kernel_rfl) rfl #[.slice Ao11 t1798.length co11, .agg #[.slice Ao9 t1801.length co9, .bool t1804]] rfl (by (try simp only [mp_]); first | done | rfl | (simp only [List.length_drop, List.length_take]; rfl)) ?_; (with_reducible refine (spec_Heard.calls k _ _ t1798 _ _ t1801 t1804 t1809 _ ?side1 ?side2 ?side3 ?side4 A13.out).mono ?_); (case side1 => repeat (first | exact (Kd.S_reads' HO1800.out).2.2 | (with_reducible first | refine ca_ ?_ _ | refine cn_ ?_ _ | refine cd_ ?_))); (case side2 => exact (Kd.S_reads' HO1800.out).2.1); (case side3 => repeat (first | exact (Kd.S_reads' HO1803.out).2.2 | (with_reducible first | refine ca_ ?_ _ | refine cn_ ?_ _ | refine cd_ ?_))); (case side4 => exact (Kd.S_reads' HO1803.out).2.1); rintro e w24 ⟨v1810, rfl, ho0, hb⟩; refine ⟨_, rfl, ?_⟩; have n0_ := Aside0.mk (Kd.S_elder' (sp_ HO1800.out) (Kd.S_base ho0) hb); have n1_ := Aside0.mk (Kd.S_elder' (sp_ HO1803.out) (Kd.S_base ho0) hb); have n2_ := Aside0.mk (Kd.S_elder' (sp_ HO1808.out) (Kd.S_base ho0) hb); have n3_ := Aside0.mk (Kd.S_lower (Kd.S_new' (Kd.S_new' (Kd.S_new' ho0 (Kd.S_lt (sp_ HO1800.out))) (Kd.S_lt (sp_ HO1803.out))) (Kd.S_lt (sp_ HO1808.out))) (below_size (by repeat (first | (with_reducible first | exact HB.out | apply ba_ | apply bn_ | apply bd_ | refine below_set ?_ GE1805.out) | exact HB.out)))); have n4_ := Aside0.mk (bb_ BK1805.out hb); have n5_ := Aside0.mk (below_step (by repeat (first | (with_reducible first | exact HB.out | apply ba_ | apply bn_ | apply bd_ | refine below_set ?_ GE1805.out) | exact HB.out)) hb); clear HO1800; clear HO1803; clear HO1808; clear BK1805; clear HB; have HO1800 := n0_; have HO1803 := n1_; have HO1808 := n2_; have HO1811 := n3_; have BK1805 := n4_; have HB := n5_; clear n0_ n1_ n2_ n3_ n4_ n5_; (try clear hb); (try clear hb2); (try clear hk); (try clear hi); (try clear ho0); obtain ⟨Ao25, co25, eo25⟩ := Kd.S_slice HO1808.out; subst eo25; obtain ⟨Ao26, co26, eo26⟩ := Kd.S_slice HO1811.out; subst eo26) | ((with_reducible refine gate_callee (f := 77) rfl ?_); refine goesL_ (some 20) rfl rfl Try.func77 (by kernel_rfl) rfl #[.slice Ao25 t1806.length co25, .slice Ao26 t1809.length co26] rfl (by (try simp only [mp_]); first | done | rfl | (simp only [List.length_drop, List.length_take]; rfl)) ?_; (with_reducible refine (laws_sameList.calls k _ _ t1806 _ _ t1809 false _ ?side1 ?side2 ?side3 ?side4 A14.out).mono ?_); (case side1 => repeat (first | exact (Kd.S_reads' HO1808.out).2.2 | (with_reducible first | refine ca_ ?_ _ | refine cn_ ?_ _ | refine cd_ ?_))); (case side2 => exact (Kd.S_reads' HO1808.out).2.1); (case side3 => repeat (first | exact (Kd.S_reads' HO1811.out).2.2 | (with_reducible first | refine ca_ ?_ _ | refine cn_ ?_ _ | refine cd_ ?_))); (case side4 => exact (Kd.S_reads' HO1811.out).2.1); rintro e w27 ⟨rfl, hb⟩; refine ⟨_, rfl, ?_⟩; have n0_ := Aside0.mk (Kd.S_below (sp_ HO1800.out) hb); have n1_ := Aside0.mk (Kd.S_below (sp_ HO1803.out) hb); have n2_ := Aside0.mk (Kd.S_below (sp_ HO1808.out) hb); have n3_ := Aside0.mk (Kd.S_below (sp_ HO1811.out) hb); have n4_ := Aside0.mk (bb_ BK1805.out hb); have n5_ := Aside0.mk (below_step (by repeat (first | (with_reducible first | exact HB.out | apply ba_ | apply bn_ | apply bd_ | refine below_set ?_ GE1805.out) | exact HB.out)) hb); clear HO1800; clear HO1803; clear HO1808; clear HO1811; clear BK1805; clear HB; have HO1800 := n0_; have HO1803 := n1_; have HO1808 := n2_; have HO1811 := n3_; have BK1805 := n4_; have HB := n5_; clear n0_ n1_ n2_ n3_ n4_ n5_; (try clear hb); (try clear hb2); (try clear hk); (try clear hi)))
  go_meet
  case rel => exact ⟨_, (true), (by first | rfl | (simp; done) | (simp [*]; done)), H', ⟨by first | omega | exact Nat.le_refl _⟩, ⟨by (with_reducible repeat (first | apply Kd.S_alloc | apply Kd.S_drewN | apply Kd.S_drew)); exact Kd.S_mono HO1800.out (fun _ hk => ⟨hk.1.2, hk.1.1⟩)⟩, ⟨by (with_reducible repeat (first | apply Kd.S_alloc | apply Kd.S_drewN | apply Kd.S_drew)); exact Kd.S_mono HO1808.out (fun _ hk => ⟨hk.1.1.2, hk.1.2⟩)⟩, ⟨by (with_reducible repeat (first | apply Kd.S_alloc | apply Kd.S_drewN | apply Kd.S_drew)); exact Kd.S_mono HO1803.out (fun _ hk => ⟨hk.1.1, hk.1.2⟩)⟩, ⟨by (with_reducible repeat (first | refine kn_ ?_ _ | refine kd_ ?_ | refine ka_ ?_ _)); exact BK1805.out⟩, ⟨by repeat (first | (with_reducible first | exact HB.out | apply ba_ | apply bn_ | apply bd_ | refine below_set ?_ GE1805.out) | exact HB.out)⟩⟩
 case rest =>
  clear HC6
  try clear c1
  try clear p2
  try clear c3
  try clear c7
  try clear c13
  try clear c15
  try clear hcz10_0
  try clear hcz10_1
  try clear hcz17_0
  try clear hcz17_1
  try clear hcz23_0
  try clear hcz23_1
  try clear hfz10_0
  try clear hfz10_1
  try clear hfz17_0
  try clear hfz17_1
  try clear hfz23_0
  try clear hfz23_1
  obtain ⟨kq, x26_5, rfl, HA, HJ5, HO_3, HO_5, HO_1806000, BK1805, HB⟩ := hcut
  cases kq with
  | zero => exact absurd HA.out (by simp [laws_FnHeards.j0])
  | succ kj5 =>
   have H := HA.out
   clear HA
   simp only [laws_FnHeards.j0] at H
   by_cases c28 : x26_5 = true
   ·
    subst c28
    rw [if_pos rfl] at H
    exact absurd H (by simp)
   replace c28 := Bool.eq_false_iff.mpr c28
   subst c28
   rw [if_neg (show ¬ (false = true) by decide)] at H
   by_cases c29 : t1804 = true
   ·
    subst c29
    rw [if_pos rfl] at H
    by_cases c30 : (t1798.length : Int) = 0
    ·
     rw [if_pos c30] at H
     have c30b0 : ((t1798.length : Int) == 0) = true := beq_iff_eq.mpr c30
     have c30b1 : ((t1798.length : Int) != 0) = false := bne_eq_false_iff_eq.mpr c30
     clear c30
     obtain rfl := Option.some.inj H
     have hcz31_0 : wc.cell? ⟨gb1805, 0, none⟩ = some (.slice Ao9 t1801.length co9) := (blk_cell BK1805.out 0).trans rfl
     have hcz31_1 : wc.cell? ⟨gb1805, 1, none⟩ = some (.bool true) := (blk_cell BK1805.out 1).trans rfl
     have hfz31_0 := blk_frozen BK1805.out 0
     have hfz31_1 := blk_frozen BK1805.out 1
     go_wp2
     go_ret
     exact ⟨by first | rfl | (simp [errW_none, errW_some] <;> rfl) | (simp [*, errW_none, errW_some] <;> rfl), by repeat (first | (with_reducible first | exact HB.out | apply ba_ | apply bn_ | apply bd_ | refine below_set ?_ GE1805.out) | exact HB.out)⟩
    rw [if_neg c30] at H
    have c30b0 : ((t1798.length : Int) == 0) = false := beq_eq_false_iff_ne.mpr c30
    have c30b1 : ((t1798.length : Int) != 0) = true := bne_iff_ne.mpr c30
    have c30b2 : ¬ (t1798 = []) := fun h_ => c30 (by rw [h_]; rfl)
    obtain rfl := Option.some.inj H
    have hcz32_0 : wc.cell? ⟨gb1805, 0, none⟩ = some (.slice Ao9 t1801.length co9) := (blk_cell BK1805.out 0).trans rfl
    have hcz32_1 : wc.cell? ⟨gb1805, 1, none⟩ = some (.bool true) := (blk_cell BK1805.out 1).trans rfl
    have hfz32_0 := blk_frozen BK1805.out 0
    have hfz32_1 := blk_frozen BK1805.out 1
    obtain ⟨Ao33, co33, eo33⟩ := Kd.S_slice HO_5.out
    subst eo33
    go_wp2
    go_ret
    exact ⟨by first | rfl | (simp [errW_none, errW_some] <;> rfl) | (simp [*, errW_none, errW_some] <;> rfl), by repeat (first | (with_reducible first | exact HB.out | apply ba_ | apply bn_ | apply bd_ | refine below_set ?_ GE1805.out) | exact HB.out)⟩
   replace c29 := Bool.eq_false_iff.mpr c29
   subst c29
   rw [if_neg (show ¬ (false = true) by decide)] at H
   by_cases c34 : (wrap64 ((t1801.length : Int) + (t1798.length : Int))) ≤ 3
   ·
    rw [if_pos c34] at H
    have c34b0 := decide_eq_true c34
    clear c34
    by_cases c35 : (t1806.length : Int) = (wrap64 ((t1801.length : Int) + (t1798.length : Int)))
    ·
     rw [if_pos c35] at H
     have c35b0 : ((t1806.length : Int) == (wrap64 ((t1801.length : Int) + (t1798.length : Int)))) = true := beq_iff_eq.mpr c35
     have c35b1 : ((t1806.length : Int) != (wrap64 ((t1801.length : Int) + (t1798.length : Int)))) = false := bne_eq_false_iff_eq.mpr c35
     clear c35
     by_cases c36 : 0 ≤ (t1801.length : Int)
     ·
      rw [if_pos c36] at H
      have c36b0 := eq_true c36
      have c36b1 := decide_eq_true c36
      clear c36
      by_cases c37 : (t1801.length : Int) ≤ (t1806.length : Int)
      ·
       rw [if_pos c37] at H
       have c37b0 := eq_true c37
       have c37b1 := decide_eq_true c37
       clear c37
       obtain ⟨y1814, hy1814⟩ : ∃ y_ : List (S44), y_ = (t1806.drop ((t1801.length : Int) : Int).toNat) := ⟨_, rfl⟩
       replace H : ((laws_sameList.f kj5 y1814 t1798).bind fun t1818 => (some t1818)) = some r := by first | (rw [hy1814]; with_reducible exact H) | (have H2_ := (Option.bind_some _ _).symm.trans H; rw [hy1814]; with_reducible exact H2_) | (have H2_ := (Option.bind_some _ _).symm.trans H; with_reducible exact H2_) | with_reducible exact H | (rw [hy1814]; exact H) | exact H
       have Ny1814 := Aside0.mk hy1814
       clear hy1814
       replace H := Option.bind_eq_some_iff.mp H
       obtain ⟨t1818, A380, H⟩ := H
       have A38 := Aside0.mk A380
       clear A380
       obtain rfl := Option.some.inj H
       have hcz39_0 : wc.cell? ⟨gb1805, 0, none⟩ = some (.slice Ao9 t1801.length co9) := (blk_cell BK1805.out 0).trans rfl
       have hcz39_1 : wc.cell? ⟨gb1805, 1, none⟩ = some (.bool false) := (blk_cell BK1805.out 1).trans rfl
       have hfz39_0 := blk_frozen BK1805.out 0
       have hfz39_1 := blk_frozen BK1805.out 1
       obtain ⟨Ao40, co40, eo40⟩ := Kd.S_slice HO_5.out
       subst eo40
       have q41 : ((t1801.length : Int) : Int) ≤ ((t1806.length : Int) : Int) := of_decide_eq_true (by with_reducible assumption)
       obtain ⟨i041, hi041, _, hsz41, _⟩ := info_parts info44
       have hroom41 : t1806.length ≤ co40 := (Kd.S_reads' HO_5.out).2.1
       have hC41 : Kd.C k44 _ Ao40 t1806.length t1806 := (Kd.S_reads' HO_5.out).2.2
       have q041 : (0 : Int) ≤ ((t1801.length : Int) : Int) := of_decide_eq_true (by with_reducible assumption)
       have hcut41 := cut_from (P := Try.prog) 37 44 .i64 Try.underlying37 hi041 4 hsz41 Ao40 t1806.length co40 (t1801.length : Int) q041 q41
       have hr41 := Kd.C_drop (m := ((t1801.length : Int) : Int).toNat) (c := co40) hC41 (by omega) hroom41
       obtain ⟨A41, hA41⟩ : ∃ A1, A1 = (if co40 = ((t1801.length : Int) : Int).toNat then Ao40 else (Ao40 : Option Addr).map (·.add (((t1801.length : Int) : Int).toNat * 4))) := ⟨_, rfl⟩
       obtain ⟨c41, hc41⟩ : ∃ c1, c1 = co40 - ((t1801.length : Int) : Int).toNat := ⟨_, rfl⟩
       have hy41 : y1814.length = t1806.length - ((t1801.length : Int) : Int).toNat := (by rw [Ny1814.out, List.length_drop] <;> omega)
       rw [show (t1806).drop ((t1801.length : Int) : Int).toNat = y1814 from Ny1814.out.symm] at hr41
       replace hr41 : Kd.C k44 _ A41 y1814.length y1814 := (by rw [hA41]; exact hr41)
       rw [← hy41, ← hA41, ← hc41] at hcut41
       have HR1817 := Aside0.mk hr41
       have HC1817 := Aside0.mk (show y1814.length ≤ c41 from by rw [hy41, hc41]; exact Nat.sub_le_sub_right hroom41 _)
       clear hr41 hC41 hroom41 hi041 hsz41 hc41
       have KY41 := Aside0.mk hy41
       have KA41 := Aside0.mk hA41
       clear hy41 hA41
       have KL41 := Aside0.mk (show ((t1801.length : Int) : Int).toNat ≤ t1806.length from by omega)
       replace q41 := eq_true q41
       go_wp2_with (first | (go_at_call 77; (with_reducible refine (laws_sameList.calls kj5 _ _ y1814 _ _ t1798 t1818 _ ?side1 ?side2 ?side3 ?side4 A38.out).mono ?_); (case side1 => repeat (first | exact (by repeat (first | (with_reducible exact HR1817.out) | (with_reducible first | refine ca_ ?_ _ | refine cn_ ?_ _ | refine cd_ ?_) | exact HR1817.out)) | (with_reducible first | refine ca_ ?_ _ | refine cn_ ?_ _ | refine cd_ ?_))); (case side2 => exact HC1817.out); (case side3 => repeat (first | exact (Kd.S_reads' HO_3.out).2.2 | (with_reducible first | refine ca_ ?_ _ | refine cn_ ?_ _ | refine cd_ ?_))); (case side4 => exact (Kd.S_reads' HO_3.out).2.1); rintro e w42 ⟨rfl, hb⟩; have n0_ := Aside0.mk (Kd.S_below (sp_ HO_3.out) hb); have n1_ := Aside0.mk (Kd.S_below (sp_ HO_5.out) hb); have n2_ := Aside0.mk (Kd.S_below (sp_ HO_1806000.out) hb); have n3_ := Aside0.mk (bb_ BK1805.out hb); have n4_ := Aside0.mk (Kd.C_below (by repeat (first | (with_reducible exact HR1817.out) | (with_reducible first | refine ca_ ?_ _ | refine cn_ ?_ _ | refine cd_ ?_) | exact HR1817.out)) hb); have n5_ := Aside0.mk (below_step (by repeat (first | (with_reducible first | exact HB.out | apply ba_ | apply bn_ | apply bd_ | refine below_set ?_ GE1805.out) | exact HB.out)) hb); clear HO_3; clear HO_5; clear HO_1806000; clear BK1805; clear HR1817; clear HB; have HO_3 := n0_; have HO_5 := n1_; have HO_1806000 := n2_; have BK1805 := n3_; have HR1817 := n4_; have HB := n5_; clear n0_ n1_ n2_ n3_ n4_ n5_; (try clear hb); (try clear hb2); (try clear hk); (try clear hi)))
       go_ret
       exact ⟨by first | rfl | (simp [errW_none, errW_some] <;> rfl) | (simp [*, errW_none, errW_some] <;> rfl), by repeat (first | (with_reducible first | exact HB.out | apply ba_ | apply bn_ | apply bd_ | refine below_set ?_ GE1805.out) | exact HB.out)⟩
      rw [if_neg c37] at H
      exact absurd H (by simp)
     rw [if_neg c36] at H
     exact absurd H (by simp)
    rw [if_neg c35] at H
    exact absurd H (by simp)
   rw [if_neg c34] at H
   have c34b0 : decide ((wrap64 ((t1801.length : Int) + (t1798.length : Int))) ≤ 3) = false := decide_eq_false c34
   clear c34
   by_cases c43 : (t1798.length : Int) = 0
   ·
    rw [if_pos c43] at H
    have c43b0 : ((t1798.length : Int) == 0) = true := beq_iff_eq.mpr c43
    have c43b1 : ((t1798.length : Int) != 0) = false := bne_eq_false_iff_eq.mpr c43
    clear c43
    obtain rfl := Option.some.inj H
    have hcz44_0 : wc.cell? ⟨gb1805, 0, none⟩ = some (.slice Ao9 t1801.length co9) := (blk_cell BK1805.out 0).trans rfl
    have hcz44_1 : wc.cell? ⟨gb1805, 1, none⟩ = some (.bool false) := (blk_cell BK1805.out 1).trans rfl
    have hfz44_0 := blk_frozen BK1805.out 0
    have hfz44_1 := blk_frozen BK1805.out 1
    go_wp2
    go_ret
    exact ⟨by first | rfl | (simp [errW_none, errW_some] <;> rfl) | (simp [*, errW_none, errW_some] <;> rfl), by repeat (first | (with_reducible first | exact HB.out | apply ba_ | apply bn_ | apply bd_ | refine below_set ?_ GE1805.out) | exact HB.out)⟩
   rw [if_neg c43] at H
   have c43b0 : ((t1798.length : Int) == 0) = false := beq_eq_false_iff_ne.mpr c43
   have c43b1 : ((t1798.length : Int) != 0) = true := bne_iff_ne.mpr c43
   have c43b2 : ¬ (t1798 = []) := fun h_ => c43 (by rw [h_]; rfl)
   obtain rfl := Option.some.inj H
   have hcz45_0 : wc.cell? ⟨gb1805, 0, none⟩ = some (.slice Ao9 t1801.length co9) := (blk_cell BK1805.out 0).trans rfl
   have hcz45_1 : wc.cell? ⟨gb1805, 1, none⟩ = some (.bool false) := (blk_cell BK1805.out 1).trans rfl
   have hfz45_0 := blk_frozen BK1805.out 0
   have hfz45_1 := blk_frozen BK1805.out 1
   obtain ⟨Ao46, co46, eo46⟩ := Kd.S_slice HO_5.out
   subst eo46
   go_wp2
   go_ret
   exact ⟨by first | rfl | (simp [errW_none, errW_some] <;> rfl) | (simp [*, errW_none, errW_some] <;> rfl), by repeat (first | (with_reducible first | exact HB.out | apply ba_ | apply bn_ | apply bd_ | refine below_set ?_ GE1805.out) | exact HB.out)⟩

/-- THE ONE PURE STATEMENT of laws_FnHeards: yours. -/
def laws_FnHeards.Pure : Prop := ∀ (l0 : List Int), l0.length ≤ maxLen → l0.length * 1 ≤ 140737488351232 → (∀ x ∈ l0, (Lit.int .u8 x).wf = true) → ∃ k, laws_FnHeards.f k l0 = some true
theorem laws_FnHeards.walk (P : laws_FnHeards.Pure) (a0 : Option Addr) (len0 cap0 : Nat) (z0 : List Int) (w : World) (w0 : (a0 = none ∧ len0 = 0 ∧ cap0 = 0 ∧ z0 = []) ∨ ∃ x, a0 = some x ∧ len0 ≤ cap0 ∧ cap0 ≤ maxLen ∧ z0.length = cap0 ∧ (∀ i, i < z0.length → w.cell? (x.add i) = some (.int .u8 (z0.getD i 0))) ∧ ∀ n ∈ z0, (Lit.int .u8 n).wf = true) (y0 : len0 * 1 ≤ 140737488351232) :
  Calls Try.prog 13 #[.slice a0 len0 cap0] w fun e w' => e = .returned (.bool true) ∧ Below w.heap.size w w' := by
 obtain ⟨l0, rfl, hr0, hm0, hw0, hc0⟩ := ReadsInt.ofRowC w0
 obtain ⟨k, h⟩ := P l0 hm0 y0 hw0
 refine (laws_FnHeards.calls k _ _ l0 true w (Kd.C_of_reads (d := (0 : Int)) (h1 := fun _ => rfl) hr0) hc0 h).mono ?_
 rintro e w' ⟨rfl, hd⟩
 exact ⟨rfl, hd⟩
end Go.Proofs.Ytfholjcelnkleaa.Print
end
section
namespace Go.Proofs.Ytfholjcelnkleaa.Print
open Go.RowKit Go.Proofs.YtfholjcelnkleaaV.PrintWords Go.Proofs.YtfholjcelnkleaaV.PrintLast Go.Proofs.YtfholjcelnkleaaV.PrintMore
set_option linter.unusedVariables false
set_option linter.unusedSimpArgs false
theorem wrap_id {x : Int} (h1 : -9223372036854775808 ≤ x) (h2 : x ≤ 9223372036854775807) : wrap64 x = x := by unfold wrap64; omega
theorem wrap_up (n : Nat) (h : n < 9223372036854775807) : wrap64 ((n : Int) + 1) = ((n + 1 : Nat) : Int) := by unfold wrap64; omega
theorem lt_mid {α : Type} (pre suf : List α) (y : α) : (pre.length : Int) < ((pre ++ y :: suf).length : Int) := by simp only [List.length_append, List.length_cons]; omega
theorem not_lt_end {α : Type} (pre : List α) : ¬ ((pre.length : Int) < ((pre ++ []).length : Int)) := by simp
theorem nn (n : Nat) : (0 : Int) ≤ (n : Int) := by omega
theorem mid_assoc {α : Type} (pre suf : List α) (y : α) : pre ++ y :: suf = (pre ++ [y]) ++ suf := by simp
/-- A loop that goes on or stops with an answer. -/
def scan {ρ : Type} (step : Nat → Option ρ) (fin : ρ) : Nat → Nat → ρ
  | 0, _ => fin
  | d + 1, i => match step i with
    | some r => r
    | none => scan step fin d (i + 1)
/-- What one round does. -/
def goOn {ρ : Type} (o : Option ρ) (next : Option ρ) : Option ρ := match o with
  | some r => some r
  | none => next
theorem scan_ev2 {ρ : Type} {F : Nat → Int → Option ρ} {n : Nat} {step : Nat → Option ρ} {fin : ρ} (hend : ∃ K, ∀ k, K ≤ k → F (k + 1) (n : Int) = some fin)
    (hstep : ∀ i, i < n → ∃ K, ∀ k, K ≤ k → F (k + 1) (i : Int) = goOn (step i) (F k ((i + 1 : Nat) : Int))) : ∀ d i, d + i = n → Ev (fun k => F k (i : Int)) (scan step fin d i)
  | 0, i, h => by
    obtain rfl : i = n := by omega
    obtain ⟨K, hK⟩ := hend
    refine ⟨K + 1, fun k hk => ?_⟩
    obtain ⟨m, rfl⟩ : ∃ m, k = m + 1 := ⟨k - 1, by omega⟩
    exact hK m (by omega)
  | d + 1, i, h => by
    obtain ⟨K, hK⟩ := hstep i (by omega)
    unfold scan
    cases hs : step i with
    | some r =>
      refine ⟨K + 1, fun k hk => ?_⟩
      obtain ⟨m, rfl⟩ : ∃ m, k = m + 1 := ⟨k - 1, by omega⟩
      have := hK m (by omega)
      rw [hs] at this
      exact this
    | none =>
      obtain ⟨K', hK'⟩ := scan_ev2 hend hstep d (i + 1) (by omega)
      refine ⟨max K K' + 1, fun k hk => ?_⟩
      obtain ⟨m, rfl⟩ : ∃ m, k = m + 1 := ⟨k - 1, by omega⟩
      have := hK m (by omega)
      rw [hs] at this
      exact this.trans (hK' m (by omega))
theorem scan_ev {ρ : Type} {F : Nat → Int → Option ρ} {n : Nat} {step : Nat → Option ρ} {fin : ρ} (hend : ∀ k, F (k + 1) (n : Int) = some fin)
    (hstep : ∀ i, i < n → ∃ K, ∀ k, K ≤ k → F (k + 1) (i : Int) = goOn (step i) (F k ((i + 1 : Nat) : Int))) : ∀ d i, d + i = n → Ev (fun k => F k (i : Int)) (scan step fin d i) := scan_ev2 ⟨0, fun k _ => hend k⟩ hstep
/-- Two lists of one length, element by element. -/
theorem scan_same {α β : Type} [DecidableEq β] (f : α → β) (z : α) : ∀ (a b pa pb : List α), a.length = b.length → pa.length = pb.length →
    scan (fun i => if f ((pa ++ a).getD i z) = f ((pb ++ b).getD i z) then none else some false) true a.length pa.length = decide (a.map f = b.map f)
  | [], [], pa, pb, _, _ => by simp [scan]
  | [], _ :: _, _, _, h, _ => by simp at h
  | _ :: _, [], _, _, h, _ => by simp at h
  | x :: a, y :: b, pa, pb, h, h2 => by
    have ih := scan_same f z a b (pa ++ [x]) (pb ++ [y]) (by simpa using h) (by simp [h2])
    simp only [List.append_assoc, List.singleton_append, List.length_append, List.length_singleton] at ih
    simp only [List.length_cons, scan]
    rw [show (pa ++ x :: a).getD pa.length z = x by simp, show (pb ++ y :: b).getD pa.length z = y by rw [h2]; simp]
    by_cases he : f x = f y
    · simp only [if_pos he]; rw [ih]; simp [he]
    · simp [he]
theorem scan_same0 {α β : Type} [DecidableEq β] (f : α → β) (z : α) (a b : List α) (h : a.length = b.length) : scan (fun i => if f (a.getD i z) = f (b.getD i z) then none else some false) true a.length 0 = decide (a.map f = b.map f) := scan_same f z a b [] [] h rfl
theorem getD_eq {α : Type} (l : List α) (i : Nat) (z : α) (h : i < l.length) : l.getD i z = l[i] := by simp [List.getD_eq_getElem?_getD, List.getElem?_eq_getElem h]
theorem getD_mem {α : Type} (l : List α) (i : Nat) (z : α) (h : i < l.length) : l.getD i z ∈ l := by rw [getD_eq l i z h]; exact List.getElem_mem h
def WiLabel (x : S164) : Prop := x.f0.size ≤ 4000000 ∧ x.f1.size ≤ 4000000
def WiAlarm (x : S44) : Prop := (x.f0.length ≤ 4000000 ∧ ∀ y ∈ x.f0, WiLabel y) ∧ True ∧ True ∧ x.f3.size ≤ 4000000
theorem and_top (x : Int) (m : Nat) (hm : m < 9223372036854775808) : 0 ≤ Go.bits .and .i64 x (m : Int) ∧ Go.bits .and .i64 x (m : Int) ≤ m := by
  have h1 : (BitVec.ofInt 64 x &&& BitVec.ofInt 64 (m : Int)).toNat ≤ m := by
    rw [BitVec.toNat_and]
    refine Nat.le_trans Nat.and_le_right ?_
    rw [BitVec.ofInt_natCast, BitVec.toNat_ofNat]
    exact Nat.mod_le _ _
  have h2 : Go.bits .and .i64 x (m : Int) = ((BitVec.ofInt 64 x &&& BitVec.ofInt 64 (m : Int)).toNat : Int) := by
    show IntKind.i64.wrap ((BitVec.ofInt 64 x &&& BitVec.ofInt 64 (m : Int)).toNat : Int) = _
    rw [IntKind.wrap_i64]
    omega
  rw [h2]; omega
theorem dNew_l0 (l : List Int) (hl : l.length ≤ 1048576) : ∀ (n i : Nat) (h : Int), l.length ≤ i + n → ∃ s, Ev (fun k => spec_l1New.l0 k l h (i : Int)) (l, 0, s)
  | 0, i, h, hn => ⟨h, 1, fun k hk => by
    obtain ⟨k, rfl⟩ : ∃ m, k = m + 1 := ⟨k - 1, by omega⟩
    simp only [spec_l1New.l0]; rw [if_neg (by omega)]⟩
  | n + 1, i, h, hn => by
    by_cases c : (i : Int) < (l.length : Int)
    · by_cases c2 : (i : Int) < 4000
      · obtain ⟨s, K, g⟩ := dNew_l0 l hl n (i + 1) (Go.bits .and .i64 (wrap64 ((wrap64 ((wrap64 (h * 137)) + (wrap64 (rd l (i : Int))))) + 11)) 1073741823) (by omega)
        refine ⟨s, K + 1, fun k hk => ?_⟩
        obtain ⟨k, rfl⟩ : ∃ m, k = m + 1 := ⟨k - 1, by omega⟩
        have e := g k (by omega)
        simp only at e
        simp only [spec_l1New.l0]
        rw [if_pos c, if_pos c2, if_pos (by omega), wrap_up i (by omega), e]
      · refine ⟨h, 1, fun k hk => ?_⟩
        obtain ⟨k, rfl⟩ : ∃ m, k = m + 1 := ⟨k - 1, by omega⟩
        simp only [spec_l1New.l0]; rw [if_pos c, if_neg c2]
    · refine ⟨h, 1, fun k hk => ?_⟩
      obtain ⟨k, rfl⟩ : ∃ m, k = m + 1 := ⟨k - 1, by omega⟩
      simp only [spec_l1New.l0]; rw [if_neg c]
theorem dNew (l : List Int) (hl : l.length ≤ 1048576) : ∃ s, Ev (fun k => spec_l1New.f k l) (l, 0, s) := by
  obtain ⟨s, g⟩ := dNew_l0 l hl l.length 0 (wrap64 (140873 + (l.length : Int))) (by omega)
  exact ⟨s, g⟩
section
variable (l : List Int) (hl : l.length ≤ 1048576)
include hl
theorem dByte (p s : Int) (hp : 0 ≤ p) : ∃ v p' s', spec_l1Byte.f l p s = some (v, p', s') ∧ 0 ≤ p' ∧ 0 ≤ v ∧ v < 256 := by
  unfold spec_l1Byte.f
  have a1 := fun x => and_top x 255 (by decide)
  by_cases c : p < (l.length : Int)
  · rw [if_pos c, if_pos hp]
    refine ⟨_, _, _, rfl, by rw [wrap_id (by omega) (by omega)]; omega, (a1 _).1, by have := (a1 (wrap64 ((Go.bits .and .i64 (Go.bits .xor .i64 ((wrap64 ((wrap64 (s * 6364136223846793005)) + 1442695040888963407)) / 8589934592) ((wrap64 ((wrap64 (s * 6364136223846793005)) + 1442695040888963407)) / 140737488355328)) 255) + (wrap64 (rd l p))))).2; exact Int.lt_of_le_of_lt this (by decide)⟩
  · rw [if_neg c]
    exact ⟨_, _, _, rfl, hp, (a1 _).1, Int.lt_of_le_of_lt (a1 _).2 (by decide)⟩
theorem dBelow (p s a : Int) (hp : 0 ≤ p) (h0 : 0 < a) (h1 : a ≤ 256) : ∃ v p' s', spec_l1Below.f l p s a = some (v, p', s') ∧ 0 ≤ p' ∧ 0 ≤ v ∧ v < a := by
  obtain ⟨v, p', s', e, q, v0, _⟩ := dByte l hl p s hp
  refine ⟨Int.tmod v a, p', s', ?_, q, Int.tmod_nonneg _ v0, Int.tmod_lt_of_pos _ h0⟩
  simp only [spec_l1Below.f]
  rw [if_neg (by omega), if_pos h1, e, Option.bind_some, if_neg (by omega)]
theorem dOnce (p s a : Int) (hp : 0 ≤ p) (h0 : 0 < a) (h1 : a ≤ 256) : ∃ v p' s', spec_l1Once.f l p s a = some (v, p', s') ∧ 0 ≤ p' := by
  obtain ⟨v, p', s', e, q, _, _⟩ := dBelow l hl p s a hp h0 h1
  exact ⟨v == 0, p', s', by simp only [spec_l1Once.f, e, Option.bind_some], q⟩
theorem dStr (p s : Int) (m : List ByteArray) (hp : 0 ≤ p) (h0 : 0 < m.length) (h1 : m.length ≤ 256) : ∃ v p' s', spec_l1Str.f l p s m = some (v, p', s') ∧ 0 ≤ p' ∧ v ∈ m := by
  obtain ⟨v, p', s', e, q, v0, v1⟩ := dBelow l hl p s (m.length : Int) hp (by omega) (by omega)
  refine ⟨rdOf ByteArray.empty m v, p', s', ?_, q, ?_⟩
  · simp only [spec_l1Str.f, e, Option.bind_some]
    rw [if_pos v0, if_pos v1]
  · show m.getD v.toNat _ ∈ m
    exact getD_mem m v.toNat _ (by omega)
theorem dInt (p s : Int) (m : List Int) (hp : 0 ≤ p) (h0 : 0 < m.length) (h1 : m.length ≤ 256) : ∃ v p' s', spec_l1Int.f l p s m = some (v, p', s') ∧ 0 ≤ p' ∧ v ∈ m := by
  obtain ⟨v, p', s', e, q, v0, v1⟩ := dBelow l hl p s (m.length : Int) hp (by omega) (by omega)
  refine ⟨rd m v, p', s', ?_, q, ?_⟩
  · simp only [spec_l1Int.f, e, Option.bind_some]
    rw [if_pos v0, if_pos v1]
  · show m.getD v.toNat _ ∈ m
    exact getD_mem m v.toNat _ (by omega)
/-- A short list of labels. -/
def ShortL (n : Nat) (x : List S164) : Prop := x.length ≤ n ∧ ∀ y ∈ x, WiLabel y
theorem dLabels_l0 (m : List ByteArray) (hm : ∀ v ∈ m, v.size ≤ 4000000) (hm2 : m.length ≤ 100) : ∀ (n i : Nat) (x : List S164) (p s : Int), 0 ≤ p → m.length ≤ i + n → x.length + n ≤ 100 → (∀ y ∈ x, WiLabel y) →
    ∃ r p' s', Ev (fun k => spec_l2Draw.l0 k x m (m.length : Int) (i : Int) l p s) (r, p', s') ∧ 0 ≤ p' ∧ ShortL (x.length + n) r ∧ x.length ≤ r.length
  | 0, i, x, p, s, hp, hi, hx, hw => ⟨x, p, s, ⟨1, fun k hk => by
    obtain ⟨k, rfl⟩ : ∃ j, k = j + 1 := ⟨k - 1, by omega⟩
    simp only [spec_l2Draw.l0]; rw [if_neg (by omega)]⟩, hp, ⟨by omega, hw⟩, Nat.le_refl _⟩
  | n + 1, i, x, p, s, hp, hi, hx, hw => by
    by_cases c : (i : Int) < (m.length : Int)
    · obtain ⟨v, p1, s1, e1, q1⟩ := dOnce l hl p s 4 hp (by decide) (by decide)
      cases v with
      | true =>
        obtain ⟨u, p2, s2, e2, q2, u2⟩ := dStr l hl p1 s1 [(⟨#[49]⟩ : ByteArray), (⟨#[50]⟩ : ByteArray)] q1 (by decide) (by decide)
        obtain ⟨r, p', s', ⟨K, g⟩, q, w, w2⟩ := dLabels_l0 m hm hm2 n (i + 1) (x ++ [(⟨rdOf ByteArray.empty m (i : Int), u⟩ : S164)]) p2 s2 q2 (by omega) (by simp only [List.length_append, List.length_singleton]; omega) (fun y hy => by
          rcases List.mem_append.1 hy with h | h
          · exact hw y h
          · rw [List.mem_singleton.1 h]
            refine ⟨hm _ ?_, ?_⟩
            · show m.getD (i : Int).toNat _ ∈ m
              exact getD_mem m _ _ (by omega)
            · exact (show ∀ v ∈ [(⟨#[49]⟩ : ByteArray), (⟨#[50]⟩ : ByteArray)], v.size ≤ 4000000 by decide) u u2)
        refine ⟨r, p', s', ⟨K + 1, fun k hk => ?_⟩, q, ⟨by have := w.1; simp only [List.length_append, List.length_singleton] at this; omega, w.2⟩, by simp only [List.length_append, List.length_singleton] at w2; omega⟩
        obtain ⟨k, rfl⟩ : ∃ j, k = j + 1 := ⟨k - 1, by omega⟩
        have e := g k (by omega)
        simp only at e
        simp only [spec_l2Draw.l0]
        rw [if_pos c, if_pos (by omega), if_pos c, e1]
        simp only [Option.bind_some, if_true]
        rw [e2]
        simp only [Option.bind_some]
        rw [if_pos (by omega), wrap_up i (by omega), e]
      | false =>
        obtain ⟨r, p', s', ⟨K, g⟩, q, w, w2⟩ := dLabels_l0 m hm hm2 n (i + 1) x p1 s1 q1 (by omega) (by omega) hw
        refine ⟨r, p', s', ⟨K + 1, fun k hk => ?_⟩, q, ⟨by have := w.1; omega, w.2⟩, w2⟩
        obtain ⟨k, rfl⟩ : ∃ j, k = j + 1 := ⟨k - 1, by omega⟩
        have e := g k (by omega)
        simp only at e
        simp only [spec_l2Draw.l0]
        rw [if_pos c, if_pos (by omega), if_pos c, e1]
        simp only [Option.bind_some, Bool.false_eq_true, if_false]
        rw [wrap_up i (by omega), e]
    · refine ⟨x, p, s, ⟨1, fun k hk => ?_⟩, hp, ⟨by omega, hw⟩, Nat.le_refl _⟩
      obtain ⟨k, rfl⟩ : ∃ j, k = j + 1 := ⟨k - 1, by omega⟩
      simp only [spec_l2Draw.l0]; rw [if_neg c]
theorem dLabels (p s : Int) (hp : 0 ≤ p) : ∃ r p' s', Ev (fun k => spec_l2Draw.f k l p s) (r, p', s') ∧ 0 ≤ p' ∧ ShortL 4 r ∧ 1 ≤ r.length := by
  obtain ⟨u, p1, s1, e1, q1, u1⟩ := dStr l hl p s [(⟨#[97]⟩ : ByteArray), (⟨#[98]⟩ : ByteArray), (⟨#[99]⟩ : ByteArray)] hp (by decide) (by decide)
  have hu := (show ∀ v ∈ [(⟨#[97]⟩ : ByteArray), (⟨#[98]⟩ : ByteArray), (⟨#[99]⟩ : ByteArray)], v.size ≤ 4000000 by decide) u u1
  obtain ⟨r, p', s', ⟨K, g⟩, q, w, w2⟩ := dLabels_l0 l hl [(⟨#[104, 111, 115, 116]⟩ : ByteArray), (⟨#[115, 101, 118]⟩ : ByteArray), (⟨#[122, 111, 110, 101]⟩ : ByteArray)] (by decide) (by decide) 3 0 [(⟨(⟨#[97, 112, 112]⟩ : ByteArray), u⟩ : S164)] p1 s1 q1 (by decide) (by simp only [List.length_singleton]; omega) (fun y hy => by
    rw [List.mem_singleton.1 hy]; exact ⟨(show (⟨#[97, 112, 112]⟩ : ByteArray).size ≤ 4000000 by decide), hu⟩)
  refine ⟨r, p', s', ⟨K, fun k hk => ?_⟩, q, w, w2⟩
  have e := g k hk
  simp only at e
  simp only [spec_l2Draw.f, e1, Option.bind_some]
  exact e
theorem dPlain (p s : Int) (hp : 0 ≤ p) : ∃ v p' s', spec_l1Plain.f l p s = some (v, p', s') ∧ 0 ≤ p' ∧ v.size ≤ 4000000 := by
  obtain ⟨u, p1, s1, e1, q1, u1⟩ := dStr l hl p s [(⟨#[97]⟩ : ByteArray), (⟨#[98]⟩ : ByteArray), (⟨#[120, 32, 121]⟩ : ByteArray), (⟨#[]⟩ : ByteArray), (⟨#[99, 114, 105, 116]⟩ : ByteArray), (⟨#[125, 45]⟩ : ByteArray)] hp (by decide) (by decide)
  refine ⟨u, p1, s1, by simp only [spec_l1Plain.f, e1, Option.bind_some], q1, ?_⟩
  exact (show ∀ v ∈ [(⟨#[97]⟩ : ByteArray), (⟨#[98]⟩ : ByteArray), (⟨#[120, 32, 121]⟩ : ByteArray), (⟨#[]⟩ : ByteArray), (⟨#[99, 114, 105, 116]⟩ : ByteArray), (⟨#[125, 45]⟩ : ByteArray)], v.size ≤ 4000000 by decide) u u1
/-- A drawn alarm. -/
def ShortA (a : S44) : Prop := a.f0.length ≤ 100 ∧ WiAlarm a
omit hl in
theorem shortA_mk {n : Nat} {r : List S164} (b c : Int) {t : ByteArray} (h : ShortL n r) (hn : n ≤ 100) (ht : t.size ≤ 4000000) : ShortA ⟨r, b, c, t⟩ :=
  ⟨Nat.le_trans h.1 hn, ⟨⟨Nat.le_trans h.1 (Nat.le_trans hn (by decide)), h.2⟩, trivial, trivial, ht⟩⟩
theorem dAlarm (p s : Int) (hp : 0 ≤ p) : ∃ (a : S44) (p' s' : Int), Ev (fun k => spec_l4Draw.f k l p s) (a.f0, a.f1, a.f2, a.f3, p', s') ∧ 0 ≤ p' ∧ ShortL 4 a.f0 ∧ 1 ≤ a.f0.length ∧ a.f3.size ≤ 4000000 := by
  obtain ⟨r, p1, s1, ⟨K, g⟩, q1, w, w2⟩ := dLabels l hl p s hp
  obtain ⟨b, p2, s2, e2, q2, _, _⟩ := dBelow l hl p1 s1 8 q1 (by decide) (by decide)
  obtain ⟨t, p3, s3, e3, q3, ht⟩ := dPlain l hl p2 s2 q2
  obtain ⟨c, p4, s4, e4, q4, _⟩ := dInt l hl p3 s3 [0, 2, 5, 20, 60] q3 (by decide) (by decide)
  refine ⟨⟨r, b, wrap64 (b + c), t⟩, p4, s4, ⟨K, fun k hk => ?_⟩, q4, w, w2, ht⟩
  have e := g k hk
  simp only at e
  simp only [spec_l4Draw.f, e, Option.bind_some, e2, e3, e4]
theorem dAnyPlain (p s : Int) (hp : 0 ≤ p) : ∃ v p' s', spec_l1AnyPlain.f l p s = some (v, p', s') ∧ 0 ≤ p' ∧ v.size ≤ 4000000 := by
  obtain ⟨v, p1, s1, e1, q1⟩ := dOnce l hl p s 2 hp (by decide) (by decide)
  cases v with
  | true =>
    obtain ⟨u, p2, s2, e2, q2, u2⟩ := dPlain l hl p1 s1 q1
    exact ⟨u, p2, s2, by simp only [spec_l1AnyPlain.f, e1, Option.bind_some, if_true, e2], q2, u2⟩
  | false =>
    obtain ⟨u, p2, s2, e2, q2, u2⟩ := dStr l hl p1 s1 [(⟨#[34]⟩ : ByteArray), (⟨#[92]⟩ : ByteArray), (⟨#[127]⟩ : ByteArray), (⟨#[31]⟩ : ByteArray), (⟨#[116, 119, 101, 108, 118, 101, 32, 98, 121, 116, 101, 115]⟩ : ByteArray), (⟨#[116, 104, 105, 114, 116, 101, 101, 110, 98, 121, 116, 101, 115]⟩ : ByteArray), (⟨#[126]⟩ : ByteArray), (⟨#[125]⟩ : ByteArray), (⟨#[44, 32, 98, 61]⟩ : ByteArray), (⟨#[125, 32, 49, 45, 50]⟩ : ByteArray)] q1 (by decide) (by decide)
    refine ⟨u, p2, s2, by simp only [spec_l1AnyPlain.f, e1, Option.bind_some, Bool.false_eq_true, if_false, e2], q2, ?_⟩
    exact (show ∀ v ∈ [(⟨#[34]⟩ : ByteArray), (⟨#[92]⟩ : ByteArray), (⟨#[127]⟩ : ByteArray), (⟨#[31]⟩ : ByteArray), (⟨#[116, 119, 101, 108, 118, 101, 32, 98, 121, 116, 101, 115]⟩ : ByteArray), (⟨#[116, 104, 105, 114, 116, 101, 101, 110, 98, 121, 116, 101, 115]⟩ : ByteArray), (⟨#[126]⟩ : ByteArray), (⟨#[125]⟩ : ByteArray), (⟨#[44, 32, 98, 61]⟩ : ByteArray), (⟨#[125, 32, 49, 45, 50]⟩ : ByteArray)], v.size ≤ 4000000 by decide) u u2
theorem dNames (p s : Int) (hp : 0 ≤ p) : ∃ v p' s', spec_l1Names.f l p s = some (v, p', s') ∧ 0 ≤ p' ∧ v.size ≤ 4000000 := by
  obtain ⟨u, p1, s1, e1, q1, u1⟩ := dStr l hl p s [(⟨#[97, 112, 112]⟩ : ByteArray), (⟨#[104, 111, 115, 116]⟩ : ByteArray), (⟨#[115, 101, 118]⟩ : ByteArray), (⟨#[122, 111, 110, 101]⟩ : ByteArray)] hp (by decide) (by decide)
  refine ⟨u, p1, s1, by simp only [spec_l1Names.f, e1, Option.bind_some], q1, ?_⟩
  exact (show ∀ v ∈ [(⟨#[97, 112, 112]⟩ : ByteArray), (⟨#[104, 111, 115, 116]⟩ : ByteArray), (⟨#[115, 101, 118]⟩ : ByteArray), (⟨#[122, 111, 110, 101]⟩ : ByteArray)], v.size ≤ 4000000 by decide) u u1
theorem dAnyName (p s : Int) (hp : 0 ≤ p) : ∃ v p' s', spec_l1AnyName.f l p s = some (v, p', s') ∧ 0 ≤ p' ∧ v.size ≤ 4000000 := by
  obtain ⟨v, p1, s1, e1, q1⟩ := dOnce l hl p s 2 hp (by decide) (by decide)
  cases v with
  | true =>
    obtain ⟨u, p2, s2, e2, q2, u2⟩ := dNames l hl p1 s1 q1
    exact ⟨u, p2, s2, by simp only [spec_l1AnyName.f, e1, Option.bind_some, if_true, e2], q2, u2⟩
  | false =>
    obtain ⟨u, p2, s2, e2, q2, u2⟩ := dStr l hl p1 s1 [(⟨#[]⟩ : ByteArray), (⟨#[65]⟩ : ByteArray), (⟨#[110, 105, 110, 101, 99, 104, 97, 114, 115]⟩ : ByteArray), (⟨#[101, 105, 103, 104, 116, 97, 98, 99]⟩ : ByteArray), (⟨#[97, 32, 98]⟩ : ByteArray), (⟨#[97, 49]⟩ : ByteArray)] q1 (by decide) (by decide)
    refine ⟨u, p2, s2, by simp only [spec_l1AnyName.f, e1, Option.bind_some, Bool.false_eq_true, if_false, e2], q2, ?_⟩
    exact (show ∀ v ∈ [(⟨#[]⟩ : ByteArray), (⟨#[65]⟩ : ByteArray), (⟨#[110, 105, 110, 101, 99, 104, 97, 114, 115]⟩ : ByteArray), (⟨#[101, 105, 103, 104, 116, 97, 98, 99]⟩ : ByteArray), (⟨#[97, 32, 98]⟩ : ByteArray), (⟨#[97, 49]⟩ : ByteArray)], v.size ≤ 4000000 by decide) u u2
omit hl in
theorem shortL_add {n m : Nat} {a b : List S164} (ha : ShortL n a) (hb : ShortL m b) : ShortL (n + m) (a ++ b) :=
  ⟨by have := ha.1; have := hb.1; simp only [List.length_append]; omega, fun y hy => (List.mem_append.1 hy).elim (ha.2 y) (hb.2 y)⟩
omit hl in
theorem shortL_one (y : S164) (h : WiLabel y) : ShortL 1 [y] := ⟨Nat.le_refl _, fun z hz => by rw [List.mem_singleton.1 hz]; exact h⟩
omit hl in
theorem shortL_up {n m : Nat} {a : List S164} (h : ShortL n a) (hm : n ≤ m) : ShortL m a := ⟨Nat.le_trans h.1 hm, h.2⟩
theorem dAnyLabels (p s : Int) (hp : 0 ≤ p) : ∃ r p' s', Ev (fun k => spec_l2Any.f k l p s) (r, p', s') ∧ 0 ≤ p' ∧ ShortL 8 r := by
  obtain ⟨r, p1, s1, ⟨K, g⟩, q1, w, w2⟩ := dLabels l hl p s hp
  obtain ⟨b, p2, s2, e2, q2, _, _⟩ := dBelow l hl p1 s1 10 q1 (by decide) (by decide)
  have lr := w.1
  have l0 : (0 : Int) < (r.length : Int) := by omega
  have m0 : WiLabel (rd_T164 r 0) := w.2 _ (getD_mem r 0 _ (by omega))
  by_cases c0 : b = 0
  · obtain ⟨t, p3, s3, e3, q3, ht⟩ := dAnyName l hl p2 s2 q2
    obtain ⟨u, p4, s4, e4, q4, hu⟩ := dAnyPlain l hl p3 s3 q3
    refine ⟨r ++ [(⟨t, u⟩ : S164)], p4, s4, ⟨K, fun k hk => ?_⟩, q4, shortL_up (shortL_add w (shortL_one _ ⟨ht, hu⟩)) (by decide)⟩
    have e := g k hk
    simp only at e
    simp only [spec_l2Any.f, e, Option.bind_some, e2, if_pos c0, e3, e4]
    rw [if_pos (by omega)]
  by_cases c1 : b = 1
  · refine ⟨[(⟨(⟨#[122, 122]⟩ : ByteArray), (⟨#[49]⟩ : ByteArray)⟩ : S164)] ++ r, p2, s2, ⟨K, fun k hk => ?_⟩, q2, shortL_up (shortL_add (shortL_one _ (by constructor <;> decide)) w) (by decide)⟩
    have e := g k hk
    simp only at e
    simp only [spec_l2Any.f, e, Option.bind_some, e2, if_neg c0, if_pos c1]
    rw [if_pos (by simp only [List.length_singleton]; omega)]
  by_cases c2 : b = 2
  · refine ⟨r ++ [(⟨(rd_T164 r 0).f0, (rd_T164 r 0).f1⟩ : S164)], p2, s2, ⟨K, fun k hk => ?_⟩, q2, shortL_up (shortL_add w (shortL_one _ m0)) (by decide)⟩
    have e := g k hk
    simp only at e
    simp only [spec_l2Any.f, e, Option.bind_some, e2, if_neg c0, if_neg c1, if_pos c2]
    rw [if_pos l0, if_pos (by omega)]
  by_cases c3 : b = 3
  · refine ⟨r ++ [(⟨(⟨#[122, 117]⟩ : ByteArray), (⟨#[]⟩ : ByteArray)⟩ : S164), (⟨(⟨#[122, 118]⟩ : ByteArray), (⟨#[]⟩ : ByteArray)⟩ : S164), (⟨(⟨#[122, 119]⟩ : ByteArray), (⟨#[]⟩ : ByteArray)⟩ : S164), (⟨(⟨#[122, 120]⟩ : ByteArray), (⟨#[]⟩ : ByteArray)⟩ : S164)], p2, s2, ⟨K, fun k hk => ?_⟩, q2, shortL_add (m := 4) w ⟨Nat.le_refl 4, fun y hy => ?_⟩⟩
    · have e := g k hk
      simp only at e
      simp only [spec_l2Any.f, e, Option.bind_some, e2, if_neg c0, if_neg c1, if_neg c2, if_pos c3]
      rw [if_pos (by simp only [List.length_cons, List.length_nil]; omega)]
    · simp only [List.mem_cons, List.not_mem_nil, or_false] at hy
      rcases hy with rfl | rfl | rfl | rfl <;> (constructor <;> decide)
  by_cases c4 : b = 4
  · obtain ⟨u, p4, s4, e4, q4, hu⟩ := dAnyPlain l hl p2 s2 q2
    refine ⟨r.set (0 : Int).toNat (⟨(rd_T164 r 0).f0, u⟩ : S164), p4, s4, ⟨K, fun k hk => ?_⟩, q4, ⟨by rw [List.length_set]; omega, fun y hy => ?_⟩⟩
    · have e := g k hk
      simp only at e
      simp only [spec_l2Any.f, e, Option.bind_some, e2, if_neg c0, if_neg c1, if_neg c2, if_neg c3, if_pos c4, e4]
      rw [if_pos l0]
    · rcases List.mem_or_eq_of_mem_set hy with h | h
      · exact w.2 y h
      · rw [h]; exact ⟨m0.1, hu⟩
  by_cases c5 : b = 5
  · refine ⟨[], p2, s2, ⟨K, fun k hk => ?_⟩, q2, ⟨Nat.zero_le _, fun y hy => by simp at hy⟩⟩
    have e := g k hk
    simp only at e
    simp only [spec_l2Any.f, e, Option.bind_some, e2, if_neg c0, if_neg c1, if_neg c2, if_neg c3, if_neg c4, if_pos c5]
  · refine ⟨r, p2, s2, ⟨K, fun k hk => ?_⟩, q2, shortL_up w (by decide)⟩
    have e := g k hk
    simp only at e
    simp only [spec_l2Any.f, e, Option.bind_some, e2, if_neg c0, if_neg c1, if_neg c2, if_neg c3, if_neg c4, if_neg c5]
theorem dRaw (p s : Int) (hp : 0 ≤ p) : ∃ v p' s', spec_l1Raw.f l p s = some (v, p', s') ∧ 0 ≤ p' := by
  obtain ⟨v, p1, s1, e1, q1⟩ := dOnce l hl p s 2 hp (by decide) (by decide)
  cases v with
  | true =>
    obtain ⟨u, p2, s2, e2, q2, _⟩ := dInt l hl p1 s1 [(-1), 0, 1, 2, 255, 256, 65535, 2147483647, 2147483648, 4294967295, 4294967296, (-2147483648), 9223372036854775807, (-9223372036854775808)] q1 (by decide) (by decide)
    exact ⟨u, p2, s2, by simp only [spec_l1Raw.f, e1, Option.bind_some, if_true, spec_l1Odd.f, e2], q2⟩
  | false =>
    obtain ⟨u, p2, s2, e2, q2, _⟩ := dInt l hl p1 s1 [(-1), 0, 1, 3, 99999, 100000] q1 (by decide) (by decide)
    exact ⟨u, p2, s2, by simp only [spec_l1Raw.f, e1, Option.bind_some, Bool.false_eq_true, if_false, e2], q2⟩
theorem dAnyAlarm (p s : Int) (hp : 0 ≤ p) : ∃ (a : S44) (p' s' : Int), Ev (fun k => spec_l4Any.f k l p s) (a.f0, a.f1, a.f2, a.f3, p', s') ∧ 0 ≤ p' ∧ ShortA a := by
  obtain ⟨a, p1, s1, ⟨K, g⟩, q1, w, w2, ht⟩ := dAlarm l hl p s hp
  obtain ⟨b, p2, s2, e2, q2, _, _⟩ := dBelow l hl p1 s1 12 q1 (by decide) (by decide)
  by_cases c0 : b = 0
  · obtain ⟨r, p3, s3, ⟨K3, g3⟩, q3, w3⟩ := dAnyLabels l hl p2 s2 q2
    refine ⟨⟨r, a.f1, a.f2, a.f3⟩, p3, s3, ⟨K + K3, fun k hk => ?_⟩, q3, shortA_mk _ _ w3 (by decide) ht⟩
    have e := g k (by omega)
    have e3 := g3 k (by omega)
    simp only at e e3
    simp only [spec_l4Any.f, e, Option.bind_some, e2, if_pos c0, e3]
  by_cases c1 : b = 1
  · obtain ⟨u, p3, s3, e3, q3, _⟩ := dInt l hl p2 s2 [(-1), 99999, 100000] q2 (by decide) (by decide)
    refine ⟨⟨a.f0, u, a.f2, a.f3⟩, p3, s3, ⟨K, fun k hk => ?_⟩, q3, shortA_mk _ _ w (by decide) ht⟩
    have e := g k (by omega)
    simp only at e
    simp only [spec_l4Any.f, e, Option.bind_some, e2, if_neg c0, if_pos c1, e3]
  by_cases c2 : b = 2
  · obtain ⟨u, p3, s3, e3, q3⟩ := dRaw l hl p2 s2 q2
    refine ⟨⟨a.f0, a.f1, u, a.f3⟩, p3, s3, ⟨K, fun k hk => ?_⟩, q3, shortA_mk _ _ w (by decide) ht⟩
    have e := g k (by omega)
    simp only at e
    simp only [spec_l4Any.f, e, Option.bind_some, e2, if_neg c0, if_neg c1, if_pos c2, e3]
  by_cases c3 : b = 3
  · obtain ⟨u, p3, s3, e3, q3, hu⟩ := dAnyPlain l hl p2 s2 q2
    refine ⟨⟨a.f0, a.f1, a.f2, u⟩, p3, s3, ⟨K, fun k hk => ?_⟩, q3, shortA_mk _ _ w (by decide) hu⟩
    have e := g k (by omega)
    simp only at e
    simp only [spec_l4Any.f, e, Option.bind_some, e2, if_neg c0, if_neg c1, if_neg c2, if_pos c3, e3]
  · refine ⟨a, p2, s2, ⟨K, fun k hk => ?_⟩, q2, shortA_mk _ _ w (by decide) ht⟩
    have e := g k (by omega)
    simp only at e
    simp only [spec_l4Any.f, e, Option.bind_some, e2, if_neg c0, if_neg c1, if_neg c2, if_neg c3]
end
section
variable (l : List Int) (hl : l.length ≤ 1048576)
include hl
/-- A drawn list of alarms. -/
def ShortAs (n : Nat) (x : List S44) : Prop := x.length ≤ n ∧ ∀ y ∈ x, ShortA y
theorem dList_l0 : ∀ (n : Nat) (x : List S44) (p s : Int), 0 ≤ p → x.length + n ≤ 1000 → (∀ y ∈ x, ShortA y) →
    ∃ r p' s', Ev (fun k => spec_l5List.l0 k x (n : Int) l p s) (r, p', s') ∧ 0 ≤ p' ∧ ShortAs (x.length + n) r
  | 0, x, p, s, hp, hx, hw => ⟨x, p, s, ⟨1, fun k hk => by
    obtain ⟨k, rfl⟩ : ∃ j, k = j + 1 := ⟨k - 1, by omega⟩
    simp only [spec_l5List.l0]; rw [if_neg (by omega)]⟩, hp, ⟨by omega, hw⟩⟩
  | n + 1, x, p, s, hp, hx, hw => by
    obtain ⟨a, p1, s1, ⟨K1, g1⟩, q1, w, w2, ht⟩ := dAlarm l hl p s hp
    obtain ⟨r, p', s', ⟨K, g⟩, q, wr⟩ := dList_l0 n (x ++ [a]) p1 s1 q1 (by simp only [List.length_append, List.length_singleton]; omega) (fun y hy => by
      rcases List.mem_append.1 hy with h | h
      · exact hw y h
      · rw [List.mem_singleton.1 h]; exact shortA_mk _ _ w (by decide) ht)
    refine ⟨r, p', s', ⟨K + K1 + 1, fun k hk => ?_⟩, q, ⟨by have := wr.1; simp only [List.length_append, List.length_singleton] at this; omega, wr.2⟩⟩
    obtain ⟨k, rfl⟩ : ∃ j, k = j + 1 := ⟨k - 1, by omega⟩
    have e := g k (by omega)
    have e1 := g1 k (by omega)
    simp only at e e1
    simp only [spec_l5List.l0]
    rw [if_pos (by omega), e1]
    simp only [Option.bind_some]
    rw [if_pos (by omega), show wrap64 (((n + 1 : Nat) : Int) - 1) = (n : Int) by rw [wrap_id (by omega) (by omega)]; omega, e]
theorem dList (p s : Int) (hp : 0 ≤ p) : ∃ r p' s', Ev (fun k => spec_l5List.f k l p s) (r, p', s') ∧ 0 ≤ p' ∧ ShortAs 5 r := by
  obtain ⟨b, p2, s2, e2, q2, b0, b1⟩ := dBelow l hl p s 6 hp (by decide) (by decide)
  obtain ⟨n, rfl⟩ : ∃ n : Nat, b = (n : Int) := ⟨b.toNat, by omega⟩
  obtain ⟨r, p', s', ⟨K, g⟩, q, w⟩ := dList_l0 l hl n [] p2 s2 q2 (by simp only [List.length_nil]; omega) (fun y hy => by simp at hy)
  refine ⟨r, p', s', ⟨K, fun k hk => ?_⟩, q, ⟨by have := w.1; simp only [List.length_nil] at this; omega, w.2⟩⟩
  have e := g k hk
  simp only at e
  simp only [spec_l5List.f, e2, Option.bind_some, e]
end
theorem rdmmAlarm (pre suf : List S44) (y : S44) : rd_T44 (pre ++ y :: suf) (pre.length : Int) = y := by unfold rd_T44; simp
theorem specL4Copy_ev (x : S44) (h : x.f0.length ≤ 5000000) : spec_l4Copy.f x.f0 x.f1 x.f2 x.f3 = some (x.f0, x.f1, x.f2, x.f3) := by
  simp only [spec_l4Copy.f, Option.bind_some, List.nil_append, List.length_nil]
  exact if_pos (by omega)
theorem implCopySet_ev (l : List S164) (h : l.length ≤ 5000000) : impl_copySet.f l = some l := by
  simp only [impl_copySet.f, List.nil_append, List.length_nil]
  exact if_pos (by omega)
theorem implCopyAlarm_ev (x : S44) (h : x.f0.length ≤ 5000000) : impl_copyAlarm.f x.f0 x.f1 x.f2 x.f3 = some (x.f0, x.f1, x.f2, x.f3) := by
  simp only [impl_copyAlarm.f, implCopySet_ev x.f0 h, Option.bind_some]
theorem specL4All_l0 : ∀ (suf pre : List S44), (pre ++ suf).length ≤ 5000000 → (∀ y ∈ suf, y.f0.length ≤ 5000000) → Ev (fun k => spec_l4All.l0 k (pre ++ suf) pre (pre.length : Int)) (pre ++ suf)
  | [], pre, h, hW => by
    refine Ev.step (f := fun _ => some (pre ++ [])) (fun k => ?_) (Ev.now _)
    simp only [spec_l4All.l0]
    rw [if_neg (not_lt_end pre), List.append_nil]
  | y :: suf, pre, h, hW => by
    have ih := specL4All_l0 suf (pre ++ [y]) (by simpa using h) (fun z hz => hW z (List.mem_cons_of_mem _ hz))
    have hp : pre.length < 5000000 := by simp at h; omega
    refine Ev.step (f := fun k => spec_l4All.l0 k ((pre ++ [y]) ++ suf) (pre ++ [y]) ((pre ++ [y]).length : Int)) (fun k => ?_) (by rw [mid_assoc pre suf y]; exact ih)
    simp only [spec_l4All.l0]
    rw [if_pos (lt_mid pre suf y)]
    simp only [nn, if_true, rdmmAlarm, specL4Copy_ev y (hW y List.mem_cons_self), Option.bind_some, wrap_up pre.length (by omega)]
    rw [if_pos (by omega)]
    congr 1
    · simp
    · simp
theorem specL4All_ev (l : List S44) (h : l.length ≤ 5000000) (hW : ∀ y ∈ l, y.f0.length ≤ 5000000) : Ev (fun k => spec_l4All.f k l) l :=
  Ev.congr (fun k => by unfold spec_l4All.f; rfl) (specL4All_l0 l [] (by simpa using h) hW)
theorem implCopyAlarms_l0 : ∀ (suf pre : List S44), (pre ++ suf).length ≤ 5000000 → (∀ y ∈ suf, y.f0.length ≤ 5000000) → Ev (fun k => impl_copyAlarms.l0 k pre (pre ++ suf) ((pre ++ suf).length : Int) (pre.length : Int)) (pre ++ suf)
  | [], pre, h, hW => by
    refine Ev.step (f := fun _ => some (pre ++ [])) (fun k => ?_) (Ev.now _)
    simp only [impl_copyAlarms.l0]
    rw [if_neg (by simp), List.append_nil]
  | y :: suf, pre, h, hW => by
    have ih := implCopyAlarms_l0 suf (pre ++ [y]) (by simpa using h) (fun z hz => hW z (List.mem_cons_of_mem _ hz))
    have hp : pre.length < 5000000 := by simp at h; omega
    refine Ev.step (f := fun k => impl_copyAlarms.l0 k (pre ++ [y]) ((pre ++ [y]) ++ suf) (((pre ++ [y]) ++ suf).length : Int) ((pre ++ [y]).length : Int)) (fun k => ?_) (by rw [mid_assoc pre suf y]; exact ih)
    simp only [impl_copyAlarms.l0]
    rw [if_pos (lt_mid pre suf y)]
    simp only [nn, if_true, rdmmAlarm, implCopyAlarm_ev y (hW y List.mem_cons_self), Option.bind_some, wrap_up pre.length (by omega)]
    rw [if_pos (lt_mid pre suf y), if_pos (by omega)]
    congr 1
    · simp
    · simp
    · simp
theorem implCopyAlarms_ev (l : List S44) (h : l.length ≤ 5000000) (hW : ∀ y ∈ l, y.f0.length ≤ 5000000) : Ev (fun k => impl_copyAlarms.f k l) l :=
  Ev.congr (fun k => by unfold impl_copyAlarms.f; rfl) (implCopyAlarms_l0 l [] (by simpa using h) hW)
/-- What every row below is at most. -/
def OkAlarms (l : List S44) : Prop := l.length ≤ 5000000 ∧ ∀ y ∈ l, y.f0.length ≤ 5000000
def tell (s : S39) (a : S44) : S39 := if s.f1 = true then s else if (s.f0.length : Int) ≥ 3 then ⟨[], true⟩ else ⟨s.f0 ++ [a], s.f1⟩
theorem implCopySub_ev (s : S39) (h : OkAlarms s.f0) : Ev (fun k => impl_copySub.f k s.f0 s.f1) (s.f0, s.f1) := by
  obtain ⟨K, g⟩ := implCopyAlarms_ev s.f0 h.1 h.2
  exact ⟨K, fun k hk => by simp only [impl_copySub.f, g k hk, Option.bind_some]⟩
theorem specL9Copy_ev (s : S39) (h : OkAlarms s.f0) : Ev (fun k => spec_l9Copy.f k s.f0 s.f1) (s.f0, s.f1) := by
  obtain ⟨K, g⟩ := specL4All_ev s.f0 h.1 h.2
  exact ⟨K, fun k hk => by simp only [spec_l9Copy.f, g k hk, Option.bind_some]⟩
theorem implTell_ev (s : S39) (a : S44) (h : OkAlarms s.f0) (ha : a.f0.length ≤ 5000000) : Ev (fun k => impl_Tell.f k s.f0 s.f1 a.f0 a.f1 a.f2 a.f3) ((tell s a).f0, (tell s a).f1) := by
  obtain ⟨K, g⟩ := implCopySub_ev s h
  have h1 := h.1
  refine ⟨K, fun k hk => ?_⟩
  have e := g k hk
  simp only at e
  simp only [impl_Tell.f, e, Option.bind_some, implCopyAlarm_ev a ha, tell]
  by_cases c : s.f1 = true
  · simp only [if_pos c]
  · simp only [if_neg c]
    by_cases c2 : (s.f0.length : Int) ≥ 3
    · simp only [if_pos c2]
    · simp only [if_neg c2]
      rw [if_pos (by omega)]
theorem specTell_ev (s : S39) (a : S44) (h : OkAlarms s.f0) (ha : a.f0.length ≤ 5000000) : Ev (fun k => spec_Tell.f k s.f0 s.f1 a.f0 a.f1 a.f2 a.f3) ((tell s a).f0, (tell s a).f1) := by
  obtain ⟨K, g⟩ := specL9Copy_ev s h
  have h1 := h.1
  refine ⟨K, fun k hk => ?_⟩
  have e := g k hk
  simp only at e
  simp only [spec_Tell.f, e, Option.bind_some, specL4Copy_ev a ha, tell]
  by_cases c : s.f1 = true
  · simp only [if_pos c]
  · simp only [if_neg c]
    by_cases c2 : (s.f0.length : Int) ≥ 3
    · simp only [if_pos c2]
    · simp only [if_neg c2]
      rw [if_pos (by omega)]
theorem tell_or (s : S39) (a : S44) : (∀ y ∈ (tell s a).f0, y ∈ s.f0 ∨ y = a) ∧ ((tell s a).f0.length ≤ s.f0.length ∨ (tell s a).f0.length ≤ 3) := by
  unfold tell
  split
  · exact ⟨fun y hy => .inl hy, .inl (Nat.le_refl _)⟩
  · split
    · exact ⟨fun y hy => by simp at hy, .inl (by simp)⟩
    · refine ⟨fun y hy => ?_, .inr ?_⟩
      · rcases List.mem_append.1 hy with h | h
        · exact .inl h
        · exact .inr (List.mem_singleton.1 h)
      · simp only [List.length_append, List.length_singleton]; omega
theorem tell_ok {s : S39} {a : S44} (h : OkAlarms s.f0) (ha : a.f0.length ≤ 5000000) : OkAlarms (tell s a).f0 := by
  obtain ⟨h1, h2⟩ := tell_or s a
  refine ⟨by have := h.1; rcases h2 with h2 | h2 <;> omega, fun y hy => ?_⟩
  rcases h1 y hy with h | rfl
  · exact (by assumption : OkAlarms s.f0).2 y h
  · exact ha
def heard (l : List S44) (s : S39) : List S44 := if (l.foldl tell s).f1 = true then [] else (l.foldl tell s).f0
theorem implHeard_l0 : ∀ (suf pre : List S44) (s : S39), (pre ++ suf).length ≤ 5000000 → (∀ y ∈ suf, y.f0.length ≤ 5000000) → OkAlarms s.f0 → Ev (fun k => impl_Heard.l0 k (pre ++ suf) ((pre ++ suf).length : Int) (pre.length : Int) s.f0 s.f1) (heard suf s)
  | [], pre, s, h, hW, hs => by
    refine Ev.step (f := fun _ => some (heard [] s)) (fun k => ?_) (Ev.now _)
    simp only [impl_Heard.l0]
    rw [if_neg (by simp)]
    simp only [heard, List.foldl_nil]
    by_cases c : s.f1 = true <;> simp [c]
  | y :: suf, pre, s, h, hW, hs => by
    have hy := hW y List.mem_cons_self
    obtain ⟨K, g⟩ := implHeard_l0 suf (pre ++ [y]) (tell s y) (by simpa using h) (fun z hz => hW z (List.mem_cons_of_mem _ hz)) (tell_ok hs hy)
    obtain ⟨K2, g2⟩ := implTell_ev s y hs hy
    have hp : pre.length < 5000000 := by simp at h; omega
    refine ⟨K + K2 + 1, fun k hk => ?_⟩
    obtain ⟨k, rfl⟩ : ∃ m, k = m + 1 := ⟨k - 1, by omega⟩
    have e := g k (by omega)
    have e2 := g2 k (by omega)
    simp only at e e2
    rw [← mid_assoc pre suf y] at e
    simp only [impl_Heard.l0]
    rw [if_pos (lt_mid pre suf y)]
    simp only [nn, if_true, rdmmAlarm, wrap_up pre.length (by omega)]
    rw [if_pos (lt_mid pre suf y), e2]
    simp only [Option.bind_some]
    rw [show ((pre.length + 1 : Nat) : Int) = ((pre ++ [y]).length : Int) by simp, e]
    rfl
theorem implHeard_ev (l : List S44) (s : S39) (h : OkAlarms l) (hs : OkAlarms s.f0) : Ev (fun k => impl_Heard.f k l s.f0 s.f1) (heard l s) := by
  obtain ⟨K, g⟩ := implCopySub_ev s hs
  obtain ⟨K2, g2⟩ := implHeard_l0 l [] s (by simpa using h.1) h.2 hs
  refine ⟨K + K2, fun k hk => ?_⟩
  have e := g k (by omega)
  have e2 := g2 k (by omega)
  simp only [List.nil_append, List.length_nil, Int.ofNat_zero] at e e2
  simp only [impl_Heard.f, e, Option.bind_some]
  exact e2
theorem specHeard_l0 : ∀ (suf pre : List S44) (s : S39), (pre ++ suf).length ≤ 5000000 → (∀ y ∈ suf, y.f0.length ≤ 5000000) → OkAlarms s.f0 → Ev (fun k => spec_Heard.l0 k (pre ++ suf) (pre.length : Int) s.f0 s.f1) (heard suf s)
  | [], pre, s, h, hW, hs => by
    obtain ⟨K, g⟩ := specL4All_ev s.f0 hs.1 hs.2
    refine ⟨K + 1, fun k hk => ?_⟩
    obtain ⟨k, rfl⟩ : ∃ m, k = m + 1 := ⟨k - 1, by omega⟩
    have e := g k (by omega)
    simp only at e
    simp only [spec_Heard.l0]
    rw [if_neg (not_lt_end pre), e]
    simp only [heard, List.foldl_nil, Option.bind_some]
    by_cases c : s.f1 = true <;> simp [c]
  | y :: suf, pre, s, h, hW, hs => by
    have hy := hW y List.mem_cons_self
    obtain ⟨K, g⟩ := specHeard_l0 suf (pre ++ [y]) (tell s y) (by simpa using h) (fun z hz => hW z (List.mem_cons_of_mem _ hz)) (tell_ok hs hy)
    obtain ⟨K2, g2⟩ := specTell_ev s y hs hy
    have hp : pre.length < 5000000 := by simp at h; omega
    refine ⟨K + K2 + 1, fun k hk => ?_⟩
    obtain ⟨k, rfl⟩ : ∃ m, k = m + 1 := ⟨k - 1, by omega⟩
    have e := g k (by omega)
    have e2 := g2 k (by omega)
    simp only at e e2
    rw [← mid_assoc pre suf y] at e
    simp only [spec_Heard.l0]
    rw [if_pos (lt_mid pre suf y)]
    simp only [nn, if_true, rdmmAlarm, wrap_up pre.length (by omega)]
    rw [e2]
    simp only [Option.bind_some]
    rw [show ((pre.length + 1 : Nat) : Int) = ((pre ++ [y]).length : Int) by simp, e]
    rfl
theorem specHeard_ev (l : List S44) (s : S39) (h : OkAlarms l) (hs : OkAlarms s.f0) : Ev (fun k => spec_Heard.f k l s.f0 s.f1) (heard l s) := by
  obtain ⟨K, g⟩ := specL9Copy_ev s hs
  obtain ⟨K2, g2⟩ := specHeard_l0 l [] s (by simpa using h.1) h.2 hs
  refine ⟨K + K2, fun k hk => ?_⟩
  have e := g k (by omega)
  have e2 := g2 k (by omega)
  simp only [List.nil_append, List.length_nil, Int.ofNat_zero] at e e2
  simp only [spec_Heard.f, e, Option.bind_some]
  exact e2
theorem fold_or : ∀ (l : List S44) (s : S39), (∀ y ∈ (l.foldl tell s).f0, y ∈ s.f0 ∨ y ∈ l) ∧ ((l.foldl tell s).f0.length ≤ s.f0.length ∨ (l.foldl tell s).f0.length ≤ 3)
  | [], s => ⟨fun y hy => .inl hy, .inl (Nat.le_refl _)⟩
  | a :: l, s => by
    obtain ⟨h1, h2⟩ := fold_or l (tell s a)
    obtain ⟨h3, h4⟩ := tell_or s a
    refine ⟨fun y hy => ?_, ?_⟩
    · rcases h1 y hy with h | h
      · rcases h3 y h with h | rfl
        · exact .inl h
        · exact .inr List.mem_cons_self
      · exact .inr (List.mem_cons_of_mem _ h)
    · rw [List.foldl_cons]; omega
theorem heard_or (l : List S44) (s : S39) : (∀ y ∈ heard l s, y ∈ s.f0 ∨ y ∈ l) ∧ ((heard l s).length ≤ s.f0.length ∨ (heard l s).length ≤ 3) := by
  unfold heard
  split
  · exact ⟨fun y hy => by simp at hy, .inl (by simp)⟩
  · exact fold_or l s
section
variable (l : List Int) (hl : l.length ≤ 1048576)
include hl
omit hl in
theorem ok_short {n : Nat} {x : List S44} (h : ShortAs n x) (hn : n ≤ 1000) : OkAlarms x :=
  ⟨Nat.le_trans h.1 (Nat.le_trans hn (by decide)), fun y hy => Nat.le_trans (h.2 y hy).1 (by decide)⟩
theorem dSub_l0 : ∀ (n : Nat) (x : S39) (p s : Int), 0 ≤ p → n ≤ 100 → ShortAs 3 x.f0 →
    ∃ (r : S39) (p' s' : Int), Ev (fun k => spec_l9Draw.l0 k (n : Int) l p s x.f0 x.f1) (r.f0, r.f1, p', s') ∧ 0 ≤ p' ∧ ShortAs 3 r.f0
  | 0, x, p, s, hp, hn, hw => ⟨x, p, s, ⟨1, fun k hk => by
    obtain ⟨k, rfl⟩ : ∃ j, k = j + 1 := ⟨k - 1, by omega⟩
    simp only [spec_l9Draw.l0]; rw [if_neg (by omega)]⟩, hp, hw⟩
  | n + 1, x, p, s, hp, hn, hw => by
    obtain ⟨a, p1, s1, ⟨K1, g1⟩, q1, w, w2, ht⟩ := dAlarm l hl p s hp
    have ha : ShortA a := shortA_mk _ _ w (by decide) ht
    obtain ⟨K2, g2⟩ := specTell_ev x a (ok_short hw (by decide)) (Nat.le_trans ha.1 (by decide))
    obtain ⟨t1, t2⟩ := tell_or x a
    obtain ⟨r, p', s', ⟨K, g⟩, q, wr⟩ := dSub_l0 n (tell x a) p1 s1 q1 (by omega) ⟨by have := hw.1; omega, fun y hy => by
      rcases t1 y hy with h | h
      · exact hw.2 y h
      · rw [h]; exact ha⟩
    refine ⟨r, p', s', ⟨K + K1 + K2 + 1, fun k hk => ?_⟩, q, wr⟩
    obtain ⟨k, rfl⟩ : ∃ j, k = j + 1 := ⟨k - 1, by omega⟩
    have e := g k (by omega)
    have e1 := g1 k (by omega)
    have e2 := g2 k (by omega)
    simp only at e e1 e2
    simp only [spec_l9Draw.l0]
    rw [if_pos (by omega), e1]
    simp only [Option.bind_some]
    rw [e2]
    simp only [Option.bind_some]
    rw [show wrap64 (((n + 1 : Nat) : Int) - 1) = (n : Int) by rw [wrap_id (by omega) (by omega)]; omega, e]
theorem dSub (p s : Int) (hp : 0 ≤ p) : ∃ (r : S39) (p' s' : Int), Ev (fun k => spec_l9Draw.f k l p s) (r.f0, r.f1, p', s') ∧ 0 ≤ p' ∧ ShortAs 3 r.f0 := by
  obtain ⟨b, p2, s2, e2, q2, b0, b1⟩ := dBelow l hl p s 6 hp (by decide) (by decide)
  obtain ⟨n, rfl⟩ : ∃ n : Nat, b = (n : Int) := ⟨b.toNat, by omega⟩
  obtain ⟨r, p', s', ⟨K, g⟩, q, w⟩ := dSub_l0 l hl n ⟨[], false⟩ p2 s2 q2 (by omega) ⟨by simp, fun y hy => by simp at hy⟩
  refine ⟨r, p', s', ⟨K, fun k hk => ?_⟩, q, w⟩
  have e := g k hk
  simp only at e
  simp only [spec_l9Draw.f, e2, Option.bind_some, e]
theorem dAnySub (p s : Int) (hp : 0 ≤ p) : ∃ (r : S39) (p' s' : Int), Ev (fun k => spec_l9Any.f k l p s) (r.f0, r.f1, p', s') ∧ 0 ≤ p' ∧ ShortAs 4 r.f0 := by
  obtain ⟨r, p1, s1, ⟨K, g⟩, q1, w⟩ := dSub l hl p s hp
  obtain ⟨b, p2, s2, e2, q2, _, _⟩ := dBelow l hl p1 s1 10 q1 (by decide) (by decide)
  have lr := w.1
  by_cases c0 : b = 0
  · refine ⟨⟨r.f0, !r.f1⟩, p2, s2, ⟨K, fun k hk => ?_⟩, q2, ⟨Nat.le_trans lr (by decide), w.2⟩⟩
    have e := g k hk
    simp only at e
    simp only [spec_l9Any.f, e, Option.bind_some, e2, if_pos c0]
  by_cases c1 : b = 1
  · obtain ⟨a, p3, s3, ⟨K3, g3⟩, q3, ha⟩ := dAnyAlarm l hl p2 s2 q2
    refine ⟨⟨r.f0 ++ [a], r.f1⟩, p3, s3, ⟨K + K3, fun k hk => ?_⟩, q3, ⟨by simp only [List.length_append, List.length_singleton]; omega, fun y hy => ?_⟩⟩
    · have e := g k (by omega)
      have e3 := g3 k (by omega)
      simp only at e e3
      simp only [spec_l9Any.f, e, Option.bind_some, e2, if_neg c0, if_pos c1, e3]
      rw [if_pos (by omega)]
    · rcases List.mem_append.1 hy with h | h
      · exact w.2 y h
      · rw [List.mem_singleton.1 h]; exact ha
  · refine ⟨r, p2, s2, ⟨K, fun k hk => ?_⟩, q2, ⟨Nat.le_trans lr (by decide), w.2⟩⟩
    have e := g k hk
    simp only at e
    simp only [spec_l9Any.f, e, Option.bind_some, e2, if_neg c0, if_neg c1]
end
theorem rdnLabel (l : List S164) (i : Nat) : rd_T164 l (i : Int) = l.getD i z164 := by unfold rd_T164; simp
theorem rdnAlarm (l : List S44) (i : Nat) : rd_T44 l (i : Int) = l.getD i z44 := by unfold rd_T44; simp
/-- A label as two lists of bytes; an alarm as what it holds. -/
def lab (x : S164) : List UInt8 × List UInt8 := (x.f0.toList, x.f1.toList)
def sameSet (a b : List S164) : Bool := decide (a.map lab = b.map lab)
theorem map_ne_of_length {α β : Type} {f : α → β} {a b : List α} (h : ¬ a.length = b.length) : ¬ (a.map f = b.map f) := fun e => h (by simpa using congrArg List.length e)
theorem labNe (x y : S164) : ((!(x.f0.toList == y.f0.toList) || (!(x.f1.toList == y.f1.toList))) = true) ↔ ¬ lab x = lab y := by
  unfold lab
  simp only [Prod.mk.injEq, Bool.or_eq_true, Bool.not_eq_true', beq_eq_false_iff_ne]
  constructor
  · rintro (h | h) ⟨h1, h2⟩
    · exact h h1
    · exact h h2
  · intro h
    by_cases h1 : x.f0.toList = y.f0.toList
    · exact .inr fun h2 => h ⟨h1, h2⟩
    · exact .inl h1
theorem implSameSet_ev (a b : List S164) (h : a.length < 4611686018427387904) : Ev (fun k => impl_SameSet.f k a b) (sameSet a b) := by
  unfold impl_SameSet.f sameSet
  by_cases hl : a.length = b.length
  · simp only [if_pos (show (a.length : Int) = (b.length : Int) by omega)]
    rw [← scan_same0 lab z164 a b hl]
    refine scan_ev (F := fun k i => impl_SameSet.l0 k a b (a.length : Int) i) (n := a.length) (fun k => ?_) (fun i hi => ⟨0, fun k _ => ?_⟩) a.length 0 (by omega)
    · simp only [impl_SameSet.l0]; rw [if_neg (by omega)]
    · simp only [impl_SameSet.l0]
      rw [if_pos (by omega), if_pos (by omega), if_pos (by omega), if_pos (by omega), rdnLabel, rdnLabel, wrap_up i (by omega)]
      by_cases hc : lab (a.getD i z164) = lab (b.getD i z164)
      · rw [if_neg (fun e => (labNe _ _).1 e hc), if_pos hc]; rfl
      · rw [if_pos ((labNe _ _).2 hc), if_neg hc]; rfl
  · simp only [if_neg (show ¬ (a.length : Int) = (b.length : Int) by omega), decide_eq_false (map_ne_of_length hl)]
    exact Ev.now _
def alm (x : S44) : List (List UInt8 × List UInt8) × Int × Int × List UInt8 := (x.f0.map lab, x.f1, x.f2, x.f3.toList)
def sameAlarm (a b : S44) : Bool := decide (alm a = alm b)
def sameAlarms (a b : List S44) : Bool := decide (a.map alm = b.map alm)
theorem sameAlarm_eq (x y : S44) : sameAlarm x y = (sameSet x.f0 y.f0 && (decide (x.f1 = y.f1) && (decide (x.f2 = y.f2) && (x.f3.toList == y.f3.toList)))) := by
  unfold sameAlarm sameSet alm
  simp only [Prod.mk.injEq]
  rw [Bool.eq_iff_iff]
  simp
theorem implSameAlarm_ev (x y : S44) (h : x.f0.length < 4611686018427387904) : Ev (fun k => impl_SameAlarm.f k x.f0 x.f1 x.f2 x.f3 y.f0 y.f1 y.f2 y.f3) (sameAlarm x y) := by
  obtain ⟨K, hK⟩ := implSameSet_ev x.f0 y.f0 h
  refine ⟨K, fun k hk => ?_⟩
  have h2 := hK k hk
  simp only at h2
  rw [sameAlarm_eq]
  simp only [impl_SameAlarm.f, h2, Option.bind_some]
  cases sameSet x.f0 y.f0 <;> by_cases h3 : x.f1 = y.f1 <;> by_cases h4 : x.f2 = y.f2 <;> simp [h3, h4]
theorem lawsSameList_ev (a b : List S44) (h : a.length ≤ 5000000 ∧ ∀ y ∈ a, y.f0.length ≤ 5000000) : Ev (fun k => laws_sameList.f k a b) (sameAlarms a b) := by
  have h1 := h.1
  unfold laws_sameList.f sameAlarms
  by_cases hl : a.length = b.length
  · simp only [if_pos (show (a.length : Int) = (b.length : Int) by omega)]
    rw [← scan_same0 alm z44 a b hl]
    refine scan_ev (F := fun k i => laws_sameList.l0 k a b i) (n := a.length) (fun k => ?_) (fun i hi => ?_) a.length 0 (by omega)
    · simp only [laws_sameList.l0]; rw [if_neg (by omega)]
    · have hw := h.2 _ (getD_mem a i z44 hi)
      obtain ⟨K, hK⟩ := implSameAlarm_ev (a.getD i z44) (b.getD i z44) (by omega)
      refine ⟨K, fun k hk => ?_⟩
      have h2 := hK k hk
      simp only at h2
      simp only [laws_sameList.l0]
      rw [if_pos (by omega), if_pos (by omega), if_pos (by omega), rdnAlarm, rdnAlarm, wrap_up i (by omega), h2, Option.bind_some]
      unfold sameAlarm
      by_cases hc : alm (a.getD i z44) = alm (b.getD i z44)
      · rw [decide_eq_true hc, if_pos hc]; rfl
      · rw [decide_eq_false hc, if_neg hc]; rfl
  · simp only [if_neg (show ¬ (a.length : Int) = (b.length : Int) by omega), decide_eq_false (map_ne_of_length hl)]
    exact Ev.now _
theorem lawsSameList_refl (a : List S44) (h : a.length ≤ 5000000 ∧ ∀ y ∈ a, y.f0.length ≤ 5000000) : Ev (fun k => laws_sameList.f k a a) true := by
  have e := lawsSameList_ev a a h
  rwa [show sameAlarms a a = true from decide_eq_true rfl] at e
end Go.Proofs.Ytfholjcelnkleaa.Print
end
section
/- The law FnHeards answers true for all arguments that can be read: the pure statement, without Go and memory. No condition. -/
namespace Go.Proofs.Ytfholjcelnkleaa.Print
open Go.RowKit Go.Proofs.YtfholjcelnkleaaV.PrintWords Go.Proofs.YtfholjcelnkleaaV.PrintLast Go.Proofs.YtfholjcelnkleaaV.PrintMore
set_option linter.unusedVariables false
set_option linter.unusedSimpArgs false
theorem foldl_lag : ∀ (l : List S44) (s : S39), s.f1 = true → l.foldl tell s = s
  | [], s, h => rfl
  | a :: l, s, h => by
    have e : tell s a = s := by unfold tell; rw [if_pos h]
    rw [List.foldl_cons, e]; exact foldl_lag l s h
theorem foldl_fit : ∀ (l : List S44) (q : List S44), q.length + l.length ≤ 3 → l.foldl tell ⟨q, false⟩ = ⟨q ++ l, false⟩
  | [], q, h => by simp
  | a :: l, q, h => by
    simp only [List.length_cons] at h
    have e : tell ⟨q, false⟩ a = ⟨q ++ [a], false⟩ := by
      unfold tell
      rw [if_neg (by simp), if_neg (by show ¬ ((q.length : Int) ≥ 3); omega)]
    rw [List.foldl_cons, e, foldl_fit l (q ++ [a]) (by simp only [List.length_append, List.length_singleton]; omega)]
    simp
theorem foldl_over : ∀ (l : List S44) (q : List S44), l ≠ [] → 3 < q.length + l.length → (l.foldl tell ⟨q, false⟩).f1 = true
  | [], q, h, _ => absurd rfl h
  | a :: l, q, _, h => by
    simp only [List.length_cons] at h
    rw [List.foldl_cons]
    by_cases c : (q.length : Int) ≥ 3
    · have e : tell ⟨q, false⟩ a = ⟨[], true⟩ := by
        unfold tell
        rw [if_neg (by simp), if_pos c]
      rw [e, foldl_lag l _ rfl]
    · have e : tell ⟨q, false⟩ a = ⟨q ++ [a], false⟩ := by
        unfold tell
        rw [if_neg (by simp), if_neg c]
      rw [e]
      refine foldl_over l (q ++ [a]) (fun h0 => ?_) (by simp only [List.length_append, List.length_singleton]; omega)
      rw [h0] at h; simp only [List.length_nil] at h; omega
theorem heard_ok {l : List S44} {s : S39} (hl : OkAlarms l) (h : OkAlarms s.f0) : OkAlarms (heard l s) := by
  obtain ⟨h1, h2⟩ := heard_or l s
  refine ⟨by have := h.1; rcases h2 with h2 | h2 <;> omega, fun y hy => ?_⟩
  rcases h1 y hy with h3 | h3
  · exact h.2 y h3
  · exact hl.2 y h3
theorem subOk0_ev : Ev (fun k => impl_SubOk.f k ([] : List S44) false) true := by
  refine ⟨1, fun k hk => ?_⟩
  obtain ⟨k, rfl⟩ : ∃ j, k = j + 1 := ⟨k - 1, by omega⟩
  simp [impl_SubOk.f, impl_alarmsOk.f, impl_alarmsOk.l0]
theorem drawHeard_ev (l0 : List Int) (h : l0.length ≤ 1048576) : ∃ (l : List S44) (s : S39), Ev (fun k => spec_DrawHeard.f k l0) (l, s.f0, s.f1) ∧ ShortAs 5 l ∧ ShortAs 4 s.f0 := by
  obtain ⟨s0, K0, g0⟩ := dNew l0 h
  obtain ⟨l, p1, s1, ⟨K1, g1⟩, q1, w1⟩ := dList l0 h 0 s0 (by decide)
  obtain ⟨s, p2, s2, ⟨K2, g2⟩, q2, w2⟩ := dAnySub l0 h p1 s1 q1
  refine ⟨l, s, ⟨K0 + K1 + K2, fun k hk => ?_⟩, w1, w2⟩
  have e0 := g0 k (by omega)
  have e1 := g1 k (by omega)
  have e2 := g2 k (by omega)
  simp only at e0 e1 e2
  simp only [spec_DrawHeard.f, e0, Option.bind_some, e1, e2]
theorem pure_FnHeards : laws_FnHeards.Pure := by
  intro l0 h0 h1 h2
  by_cases c : (l0.length : Int) > 1048576
  · exact ⟨0, by simp [laws_FnHeards.f, laws_big.f, c]⟩
  obtain ⟨l, s, ⟨K, g⟩, wl, ws⟩ := drawHeard_ev l0 (by omega)
  have ol := ok_short wl (by decide)
  have os := ok_short ws (by decide)
  obtain ⟨K1, g1⟩ := implHeard_ev l s ol os
  obtain ⟨K2, g2⟩ := specHeard_ev l s ol os
  obtain ⟨K3, g3⟩ := lawsSameList_refl (heard l s) (heard_ok ol os)
  obtain ⟨K4, g4⟩ := subOk0_ev
  obtain ⟨K5, g5⟩ := lawsSameList_refl l ol
  have e := g (K + K1 + K2 + K3 + K4 + K5 + 1) (by omega)
  have e1 := g1 (K + K1 + K2 + K3 + K4 + K5 + 1) (by omega)
  have e2 := g2 (K + K1 + K2 + K3 + K4 + K5 + 1) (by omega)
  have e3 := g3 (K + K1 + K2 + K3 + K4 + K5 + 1) (by omega)
  have e4 := g4 (K + K1 + K2 + K3 + K4 + K5 + 1) (by omega)
  have e5 := g5 (K + K1 + K2 + K3 + K4 + K5) (by omega)
  simp only at e e1 e2 e3 e4 e5
  refine ⟨K + K1 + K2 + K3 + K4 + K5 + 1, ?_⟩
  simp only [laws_FnHeards.f, laws_big.f, Option.bind_some, decide_eq_false c, Bool.false_eq_true, if_false, e, e1, e2, e3, if_true, e4, Bool.not_true, laws_FnHeards.j0]
  obtain ⟨q, lag⟩ := s
  have hq := ws.1
  have hl5 := wl.1
  simp only at hq
  cases lag with
  | true =>
    have e6 : heard l ⟨q, true⟩ = [] := by unfold heard; rw [foldl_lag l _ rfl]; rfl
    simp [e6]
  | false =>
    have ew : wrap64 ((q.length : Int) + (l.length : Int)) = (q.length : Int) + (l.length : Int) := wrap_id (by omega) (by omega)
    simp only [ew]
    by_cases cf : (q.length : Int) + (l.length : Int) ≤ 3
    · have e6 : heard l ⟨q, false⟩ = q ++ l := by unfold heard; rw [foldl_fit l q (by omega)]; rfl
      have e7 : (q ++ l).drop ((q.length : Int)).toNat = l := by rw [Int.toNat_natCast]; simp
      simp only [Bool.false_eq_true, if_false, if_pos cf, e6]
      rw [if_pos (by simp only [List.length_append]; omega), if_pos (by omega), if_pos (by simp only [List.length_append]; omega), e7, e5]
      rfl
    · by_cases cl : l = []
      · subst cl
        have cf2 : ¬ (q.length : Int) ≤ 3 := by simpa using cf
        simp [cf2]
      · have e6 : heard l ⟨q, false⟩ = [] := by unfold heard; rw [if_pos (foldl_over l q cl (by omega))]
        simp [cf, e6]
end Go.Proofs.Ytfholjcelnkleaa.Print
namespace Go.Proofs.Ytfholjcelnkleaa.Pure
theorem FnHeards : Go.Proofs.Ytfholjcelnkleaa.Print.laws_FnHeards.Pure := Go.Proofs.Ytfholjcelnkleaa.Print.pure_FnHeards
end Go.Proofs.Ytfholjcelnkleaa.Pure
namespace Go.Proofs.Ytfholjcelnkleaa.Print

end Go.Proofs.Ytfholjcelnkleaa.Print
end
