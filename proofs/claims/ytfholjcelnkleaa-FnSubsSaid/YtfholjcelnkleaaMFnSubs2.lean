import Derived.Test.YtfholjcelnkleaaMFnSubs1
import Derived.Laws.Cover1
section
namespace Go.Proofs.Ytfholjcelnkleaa.Print
open Go.RowKit Go.Proofs.YtfholjcelnkleaaV.PrintWords Go.Proofs.YtfholjcelnkleaaV.PrintLast Go.Proofs.YtfholjcelnkleaaV.PrintMore
attribute [local go_sem] max2_int min2_int max_two min_two max_three min_three max_four min_four
set_option linter.unusedVariables false
set_option linter.unusedSimpArgs false
set_option maxHeartbeats 8000000
set_option maxRecDepth 100000
def impl_SetOk.l0 : Nat → List (S164) → List (S164) → Int → Int → Option (Bool)
 | 0, _, _, _, _ => none
 | k + 1, x0, x5, x6, x7 => if x7 < x6 then (if 0 ≤ x7 then (if x7 < (x5.length : Int) then (if x7 ≥ 4 then (some false) else ((impl_LabelOk.f k ((rd_T164 x5 x7).f0) ((rd_T164 x5 x7).f1)).bind fun t794 => (if t794 = true then (if x7 > 0 then (if 0 ≤ (wrap64 (x7 - 1)) then (if (wrap64 (x7 - 1)) < (x0.length : Int) then (if ((Op.bytesLess (((rd_T164 x0 (wrap64 (x7 - 1))).f0).toList) (((rd_T164 x5 x7).f0).toList)) = true) then (impl_SetOk.l0 k x0 x5 x6 (wrap64 (x7 + 1))) else (some false)) else (none)) else (none)) else (impl_SetOk.l0 k x0 x5 x6 (wrap64 (x7 + 1)))) else (some false)))) else (none)) else (none)) else (some true)
def impl_SetOk.f (k : Nat) (l0 : List (S164)) : Option (Bool) := impl_SetOk.l0 k l0 l0 (l0.length : Int) 0
theorem impl_SetOk.mono_l : ∀ k, (∀ y0 y1 y2 y3, LeO (impl_SetOk.l0 k y0 y1 y2 y3) (impl_SetOk.l0 (k + 1) y0 y1 y2 y3))
 | 0 => fun _ _ _ _ r h => by simp [impl_SetOk.l0] at h
 | k + 1 => by
  have ih0 := impl_SetOk.mono_l k
  intro y0 y1 y2 y3
  unfold impl_SetOk.l0
  repeat' first
  | (with_reducible exact ih0 _ _ _ _)
  | (with_reducible exact impl_LabelOk.mono _ _ _)
  | (with_reducible exact LeO.refl _)
  | (with_reducible exact LeO.none _)
  | (with_reducible refine LeO.ite ?_ ?_)
  | (with_reducible refine LeO.bind ?_ (fun _ => ?_))
  | exact ih0 _ _ _ _
  | exact impl_LabelOk.mono _ _ _
theorem impl_SetOk.mono : ∀ a0 k, LeO (impl_SetOk.f k a0) (impl_SetOk.f (k + 1) a0) := by
 intro a0 k
 have ih0 := impl_SetOk.mono_l k
 unfold impl_SetOk.f
 repeat' first | (with_reducible first | exact ih0 _ _ _ _ | exact impl_LabelOk.mono _ _ _ | exact LeO.refl _ | exact LeO.none _ | refine LeO.ite ?_ ?_ | refine LeO.bind ?_ (fun _ => ?_)) | exact ih0 _ _ _ _ | exact impl_LabelOk.mono _ _ _
def impl_SetOk.T4 : Bool × List (List Nat × List Nat) := (true, [([], []), ([0], [0]), ([1], [1]), ([2], [2]), ([3, 2, 2], [2, 3]), ([4, 2], [2, 4]), ([2, 5], [2, 5]), ([6, 4], [6]), ([7], [7]), ([8, 7], [7, 8]), ([9, 7, 7], [7, 9]), ([10], [10]), ([10], [10]), ([12, 10], [10, 12]), ([11, 13, 10], [10, 11, 13]), ([14, 10], [10, 14]), ([15, 10], [10, 15]), ([10], [10]), ([17, 10], [10, 17]), ([16, 18, 10], [10, 16, 18]), ([10, 19, 7], [7, 10, 19]), ([7, 20], [7, 20])])
def impl_SetOk.B4 : List Nat := [0, 1, 3, 7, 15, 31, 63, 127, 255, 511, 1023, 2047, 2047, 6143, 16383, 32767, 65535, 2047, 133119, 524287, 1048575, 2097151]
theorem impl_SetOk.tab4 : rtab .any (opsOf Try.f110 4) = impl_SetOk.T4 := by kernel_rfl
theorem impl_SetOk.bits4 : waitsOk impl_SetOk.T4.2 impl_SetOk.B4 = true := by kernel_rfl
theorem impl_SetOk.calls (k : Nat) (A0 : Option Addr) (c0 : Nat) (l0 : List (S164)) (r : Bool) (w : World) (hr0 : Kd.C k164 w A0 l0.length l0) (hc0 : l0.length ≤ c0) (h : impl_SetOk.f k l0 = some r) :
  Calls Try.prog 110 #[.slice A0 l0.length c0] w fun e w' => e = .returned (.bool r) ∧ Below w.heap.size w w' := by
 have hu164 := Try.underlying164
 have HR0 := Aside0.mk hr0
 have HC0 := Aside0.mk hc0
 clear hr0 hc0
 have HB := Aside0.mk (Below.refl w.heap.size w)
 have H : (impl_SetOk.l0 k l0 l0 (l0.length : Int) 0) = some r := h
 clear h
 have H' := Aside0.mk H
 clear H
 go_enter Try.func110, Try.ntmps110
 go_wp2
 go_loopg [7] k (fun kq v7 w' => ∃ (x7_1 : Int), v7 = .int .i64 x7_1 ∧ Aside0 (impl_SetOk.l0 kq l0 l0 (l0.length : Int) x7_1 = some r) ∧ Aside0 (kq ≤ k) ∧ Aside0 (Below w.heap.size w w'))
 case atStart => exact ⟨(0), (by first | rfl | (simp; done) | (simp [*]; done)), H', ⟨Nat.le_refl _⟩, ⟨by exact hs_ HB.out⟩⟩
 case round =>
  clear H'
  try clear c1
  obtain ⟨x7_1, rfl, HA, HK1, HB⟩ := hrel
  cases gk with
  | zero => exact absurd HA.out (by simp [impl_SetOk.l0])
  | succ k1 =>
   have H := HA.out
   clear HA
   simp only [impl_SetOk.l0] at H
   by_cases c2 : x7_1 < (l0.length : Int)
   ·
    rw [if_pos c2] at H
    have c2b0 := decide_eq_true c2
    clear c2
    by_cases c3 : 0 ≤ x7_1
    ·
     rw [if_pos c3] at H
     have c3b0 := decide_eq_true c3
     clear c3
     by_cases c4 : x7_1 < (l0.length : Int)
     ·
      rw [if_pos c4] at H
      have c4b0 := decide_eq_true c4
      clear c4
      by_cases c5 : x7_1 ≥ 4
      ·
       rw [if_pos c5] at H
       have c5b0 : decide (4 ≤ x7_1) = true := decide_eq_true c5
       clear c5
       obtain rfl := Option.some.inj H
       have p792 : 0 ≤ (x7_1 : Int) := of_decide_eq_true (by with_reducible assumption)
       have q792 : x7_1 < (l0.length : Int) := of_decide_eq_true (by with_reducible assumption)
       obtain ⟨ad792, e792, hx792_0, hx792_1⟩ := at_T164 HR0.out x7_1 p792 q792
       cases e792
       replace hx792_0 := cl_ HB.out hx792_0
       replace hx792_1 := cl_ HB.out hx792_1
       replace p792 := eq_true p792
       replace q792 := eq_true q792
       try go_wp2_with (first | ((with_reducible refine gd_ 4 rfl ?_); refine bv_ 4 #[.string (⟨#[]⟩ : ByteArray), .string (⟨#[]⟩ : ByteArray)] 164 ?_; intro gb793 hg w6 hbox hb; have BK793 := Aside0.mk (hbox); have GW793 := Aside0.mk ((gw_ hg (hs_ HB.out))); replace HB := st_ HB hb; have GE793 := Ge_.mk GW793.out; clear hb hbox hg; obtain ⟨z7_0, z7_1, y7_0, y7_1⟩ := bc2_ BK793.out))
       generalize hw_ : ((w6.setCell ⟨gb793, 0, none⟩ (.string ((rd_T164 l0 x7_1).f0))).setCell ⟨gb793, 1, none⟩ (.string ((rd_T164 l0 x7_1).f1))) = w8
       have n0_ : Aside0 (w8.heap[gb793]? = some (.cells #[.string ((rd_T164 l0 x7_1).f0), .string ((rd_T164 l0 x7_1).f1)] 164 (0, 0))) := ⟨by rw [← hw_]; exact (bp_ BK793.out)⟩
       have n1_ : Aside0 (Below w.heap.size w w8) := ⟨by rw [← hw_]; exact (hs_ HB.out)⟩
       clear hw_
       (try clear BK793)
       (try clear HB)
       have BK793 := n0_
       have HB := n1_
       clear n0_ n1_
       replace BK793 := Aside0.mk (blk_drew BK793.out)
       replace HB := Aside0.mk (bd_ HB.out)
       refine start_ (n := 22) (S := fun w' => True) (ds := []) #[f_,f_,f_,f_,f_,f_,f_,f_,f_,f_,f_,f_,f_,f_,f_,f_,f_,f_,f_,f_,f_,f_] (by kernel_rfl) rfl rfl trivial (fun hHeld => ?_); refine with_tabW impl_SetOk.tab4 impl_SetOk.bits4 (fun HT_ HW_ => ?_)
       generalize w8.drew = w9 at BK793 HB hHeld ⊢
       refine pw_ 0 12 (b_ 1 21) rfl rfl HT_.out ?_
       refine pw_ 1 13 (b_ 2 20) rfl rfl HT_.out ?_
       refine pw_ 2 14 (b_ 3 19) rfl rfl HT_.out ?_
       refine pv_ 3 15 ?_ (b_ 4 18) rfl rfl HT_.out ?_ ?_; rotate_left; simp only [fr_]; rfl
       refine pv_ 4 16 ?_ (b_ 5 17) rfl rfl HT_.out ?_ ?_; rotate_left; simp only [fr_]; rfl
       refine pv_ 5 17 ?_ (b_ 6 16) rfl rfl HT_.out ?_ ?_; rotate_left; simp only [fr_]; rfl
       refine pw_ 6 18 (b_ 7 15) rfl rfl HT_.out ?_
       refine pw_ 7 19 (b_ 8 14) rfl rfl HT_.out ?_
       refine pv_ 8 20 ?_ (b_ 9 13) rfl rfl HT_.out ?_ ?_; rotate_left; simp only [fr_]; rfl
       refine pv_ 9 21 ?_ (b_ 10 12) rfl rfl HT_.out ?_ ?_; rotate_left; simp only [fr_]; rfl
       refine pv_ 10 22 ?_ (b_ 11 11) rfl rfl HT_.out ?_ ?_; rotate_left; simp only [fr_]; rfl
       refine pv_ 11 23 ?_ (b_ 12 10) rfl rfl HT_.out ?_ ?_; rotate_left; simp only [fr_]; rfl
       refine pv_ 12 24 ?_ (b_ 13 9) rfl rfl HT_.out ?_ ?_; rotate_left; simp only [fr_]; rfl
       refine pv_ 13 25 ?_ (b_ 14 8) rfl rfl HT_.out ?_ ?_; rotate_left; simp only [fr_]; rfl
       refine pv_ 14 26 ?_ (b_ 15 7) rfl rfl HT_.out ?_ ?_; rotate_left; simp only [fr_]; rfl
       refine pv_ 15 27 ?_ (b_ 16 6) rfl rfl HT_.out ?_ ?_; rotate_left; simp only [fr_]; rfl
       refine pv_ 16 28 ?_ (b_ 17 5) rfl rfl HT_.out ?_ ?_; rotate_left; simp only [fr_]; rfl
       refine pv_ 17 29 ?_ (b_ 18 4) rfl rfl HT_.out ?_ ?_; rotate_left; simp only [fr_]; rfl
       refine pv_ 18 30 ?_ (b_ 19 3) rfl rfl HT_.out ?_ ?_; rotate_left; simp only [fr_]; rfl
       refine pv_ 19 31 ?_ (b_ 20 2) rfl rfl HT_.out ?_ ?_; rotate_left; simp only [fr_]; rfl
       refine pv_ 20 32 ?_ (b_ 21 1) rfl rfl HT_.out ?_ ?_; rotate_left; simp only [fr_]; rfl
       refine pw_ 21 33 (b_ 22 0) rfl rfl HT_.out ?_
       refine done_ (done_of HT_.out (by kernel_rfl)) ?_
       try go_wp2
       go_ret
       exact an_ (by exact hs_ HB.out)
      rw [if_neg c5] at H
      have c5b0 : decide (4 ≤ x7_1) = false := decide_eq_false c5
      clear c5
      replace H := Option.bind_eq_some_iff.mp H
      obtain ⟨t794, A100, H⟩ := H
      have A10 := Aside0.mk A100
      clear A100
      by_cases c11 : t794 = true
      ·
       subst c11
       rw [if_pos rfl] at H
       by_cases c12 : x7_1 > 0
       ·
        rw [if_pos c12] at H
        have c12b0 : decide (0 < x7_1) = true := decide_eq_true c12
        clear c12
        obtain ⟨ji13, hji13⟩ : ∃ j_ : Int, (wrap64 (x7_1 - 1)) = j_ := ⟨_, rfl⟩
        replace H : (if 0 ≤ (ji13) then (if (ji13) < (l0.length : Int) then (if ((Op.bytesLess (((rd_T164 l0 (ji13)).f0).toList) (((rd_T164 l0 x7_1).f0).toList)) = true) then (impl_SetOk.l0 k1 l0 l0 (l0.length : Int) (wrap64 (x7_1 + 1))) else (some false)) else (none)) else (none)) = some r := by first | (rw [hji13] at H; exact H) | (simp only [hji13] at H ⊢; exact H)
        (try rw [hji13] at A10)
        have hji13w : (IntKind.i64.wrap (x7_1 - 1)) = ji13 := (i64_w _).trans hji13
        by_cases c14 : 0 ≤ (ji13)
        ·
         rw [if_pos c14] at H
         have c14b0 := decide_eq_true c14
         clear c14
         by_cases c15 : (ji13) < (l0.length : Int)
         ·
          rw [if_pos c15] at H
          have c15b0 := decide_eq_true c15
          clear c15
          by_cases c16 : ((Op.bytesLess (((rd_T164 l0 (ji13)).f0).toList) (((rd_T164 l0 x7_1).f0).toList)) = true)
          ·
           rw [if_pos c16] at H
           have c16b0 : (Op.bytesLess (((rd_T164 l0 (ji13)).f0).toList) (((rd_T164 l0 x7_1).f0).toList)) = true := c16
           clear c16
           have H' := Aside0.mk H
           clear H
           have p792 : 0 ≤ (x7_1 : Int) := of_decide_eq_true (by with_reducible assumption)
           have q792 : x7_1 < (l0.length : Int) := of_decide_eq_true (by with_reducible assumption)
           obtain ⟨ad792, e792, hx792_0, hx792_1⟩ := at_T164 HR0.out x7_1 p792 q792
           cases e792
           replace hx792_0 := cl_ HB.out hx792_0
           replace hx792_1 := cl_ HB.out hx792_1
           replace p792 := eq_true p792
           replace q792 := eq_true q792
           try go_wp2_with (first | ((with_reducible refine gd_ 4 rfl ?_); refine bv_ 4 #[.string (⟨#[]⟩ : ByteArray), .string (⟨#[]⟩ : ByteArray)] 164 ?_; intro gb793 hg w17 hbox hb; have BK793 := Aside0.mk (hbox); have GW793 := Aside0.mk ((gw_ hg (hs_ HB.out))); replace HB := st_ HB hb; have GE793 := Ge_.mk GW793.out; clear hb hbox hg; obtain ⟨z18_0, z18_1, y18_0, y18_1⟩ := bc2_ BK793.out))
           generalize hw_ : ((w17.setCell ⟨gb793, 0, none⟩ (.string ((rd_T164 l0 x7_1).f0))).setCell ⟨gb793, 1, none⟩ (.string ((rd_T164 l0 x7_1).f1))) = w19
           have n0_ : Aside0 (w19.heap[gb793]? = some (.cells #[.string ((rd_T164 l0 x7_1).f0), .string ((rd_T164 l0 x7_1).f1)] 164 (0, 0))) := ⟨by rw [← hw_]; exact (bp_ BK793.out)⟩
           have n1_ : Aside0 (Below w.heap.size w w19) := ⟨by rw [← hw_]; exact (hs_ HB.out)⟩
           clear hw_
           (try clear BK793)
           (try clear HB)
           have BK793 := n0_
           have HB := n1_
           clear n0_ n1_
           replace BK793 := Aside0.mk (blk_drew BK793.out)
           replace HB := Aside0.mk (bd_ HB.out)
           have p795 : 0 ≤ ((ji13) : Int) := of_decide_eq_true (by with_reducible assumption)
           have q795 : (ji13) < (l0.length : Int) := of_decide_eq_true (by with_reducible assumption)
           obtain ⟨ad795, e795, hx795_0, hx795_1⟩ := at_T164 HR0.out (ji13) p795 q795
           have hw795_1 := hx795_1
           have hw795_0 := hx795_0
           obtain rfl : ad792 = ad795 := (by injection e795)
           replace hx795_0 := cl_ HB.out hx795_0
           replace hx795_1 := cl_ HB.out hx795_1
           replace p795 := eq_true p795
           replace q795 := eq_true q795
           refine start_ (n := 22) (S := fun w' => w'.cell? ⟨gb793, 0, none⟩ = some (.string ((rd_T164 l0 x7_1).f0)) ∧ w'.cell? ⟨gb793, 1, none⟩ = some (.string ((rd_T164 l0 x7_1).f1)) ∧ w'.cell? (ad792.add (((ji13)).toNat * 2)) = some (.string ((rd_T164 l0 (ji13)).f0)) ∧ w'.cell? ⟨(ad792.add (((ji13)).toNat * 2)).block, (ad792.add (((ji13)).toNat * 2)).off + 1, none⟩ = some (.string ((rd_T164 l0 (ji13)).f1))) (ds := []) #[f_,f_,f_,f_,f_,f_,f_,f_,f_,f_,f_,f_,f_,f_,f_,f_,f_,f_,f_,f_,f_,f_] (by kernel_rfl) rfl rfl ⟨bx_ BK793.out 0, bx_ BK793.out 1, ((HB.out.cell (World.block_lt_of_cell? w _ hw795_0)).trans hw795_0), ((HB.out.cell (World.block_lt_of_cell? w _ hw795_1)).trans hw795_1)⟩ (fun hHeld => ?_); refine with_tabW impl_SetOk.tab4 impl_SetOk.bits4 (fun HT_ HW_ => ?_)
           generalize w19.drew = w20 at BK793 HB hx795_0 hx795_1 hHeld ⊢
           refine pw_ 0 12 (b_ 1 21) rfl rfl HT_.out ?_
           refine pw_ 1 13 (b_ 2 20) rfl rfl HT_.out ?_
           refine pw_ 2 14 (b_ 3 19) rfl rfl HT_.out ?_
           refine take_ (i := 3) (N := some 15) (v := ?_) (a' := ?_) #[t_,t_,t_,t_,f_,f_,f_,f_,f_,f_,f_,f_,f_,f_,f_,f_,f_,f_,f_,f_,f_,f_] rfl rfl (take_ofW HT_.out HW_.out (by kernel_rfl)) (fun _ _ _ h => h) (Or.inl ⟨by rfl, ?_⟩) hHeld ?_ ?_
           rotate_left
           ·
            rintro w' ⟨s0, s1, s2, s3⟩
            go_simp
            with_reducible rfl
           rotate_left
           ·
            simp only [fr_]
            rfl
           refine one_ (i := 4) (N := some 16) #[t_,t_,t_,t_,t_,f_,f_,f_,f_,f_,f_,f_,f_,f_,f_,f_,f_,f_,f_,f_,f_,f_] rfl rfl (one_of HT_.out (by kernel_rfl)) (by decide) (fun K hK => ?_)
           refine gs_ Try.func152 #[.agg #[.string ((rd_T164 l0 x7_1).f0), .string ((rd_T164 l0 x7_1).f1)]] ?_
           with_reducible refine (impl_LabelOk.calls k1 ((rd_T164 l0 x7_1).f0) ((rd_T164 l0 x7_1).f1) true _ A10.out).mono ?_
           rintro e w21 ⟨rfl, hb⟩
           refine ⟨_, rfl, ?_⟩
           replace BK793 := bk2_ BK793 hb
           replace HB := st_ HB hb
           (try clear hb)
           (try clear hk)
           refine hK.out _ _ ⟨bx_ BK793.out 0, bx_ BK793.out 1, ((HB.out.cell (World.block_lt_of_cell? w _ hw795_0)).trans hw795_0), ((HB.out.cell (World.block_lt_of_cell? w _ hw795_1)).trans hw795_1)⟩ (fun hHeld => ?_)
           clear hK K
           refine norm_ (a' := ?_) ?_ ?_
           rotate_left
           ·
            show Act.put _ (some 16) _ = _
            simp only [fr_]
            rfl
           refine pw_ 5 17 (b_ 6 16) rfl rfl HT_.out ?_
           refine pw_ 6 18 (b_ 7 15) rfl rfl HT_.out ?_
           refine pw_ 7 19 (b_ 8 14) rfl rfl HT_.out ?_
           refine pw_ 8 20 (b_ 9 13) rfl rfl HT_.out ?_
           refine pw_ 9 21 (b_ 10 12) rfl rfl HT_.out ?_
           refine pw_ 10 22 (b_ 11 11) rfl rfl HT_.out ?_
           refine pw_ 11 23 (b_ 12 10) rfl rfl HT_.out ?_
           refine pw_ 12 24 (b_ 13 9) rfl rfl HT_.out ?_
           refine pw_ 13 25 (b_ 14 8) rfl rfl HT_.out ?_
           refine pw_ 14 26 (b_ 15 7) rfl rfl HT_.out ?_
           refine pw_ 15 27 (b_ 16 6) rfl rfl HT_.out ?_
           refine pw_ 17 29 #[t_,t_,t_,t_,t_,t_,t_,t_,t_,t_,t_,t_,t_,t_,t_,t_,f_,t_,f_,f_,f_,f_] rfl rfl HT_.out ?_
           refine take_ (i := 16) (N := some 28) (v := ?_) (a' := ?_) #[t_,t_,t_,t_,t_,t_,t_,t_,t_,t_,t_,t_,t_,t_,t_,t_,t_,t_,f_,f_,f_,f_] rfl rfl (take_ofW HT_.out HW_.out (by kernel_rfl)) (fun _ _ _ h => h) (Or.inl ⟨by rfl, ?_⟩) hHeld ?_ ?_
           rotate_left
           ·
            rintro w' ⟨s0, s1, s2, s3⟩
            go_simp
            with_reducible rfl
           rotate_left
           ·
            simp only [fr_]
            rfl
           refine take_ (i := 18) (N := some 30) (v := ?_) (a' := ?_) #[t_,t_,t_,t_,t_,t_,t_,t_,t_,t_,t_,t_,t_,t_,t_,t_,t_,t_,t_,f_,f_,f_] rfl rfl (take_ofW HT_.out HW_.out (by kernel_rfl)) (fun _ _ _ h => h) (Or.inl ⟨by rfl, ?_⟩) hHeld ?_ ?_
           rotate_left
           ·
            rintro w' ⟨s0, s1, s2, s3⟩
            go_simp
            with_reducible rfl
           rotate_left
           ·
            simp only [fr_]
            rfl
           refine pw_ 19 31 (b_ 20 2) rfl rfl HT_.out ?_
           refine pw_ 20 32 (b_ 21 1) rfl rfl HT_.out ?_
           refine pw_ 21 33 (b_ 22 0) rfl rfl HT_.out ?_
           refine done_ (done_of HT_.out (by kernel_rfl)) ?_
           try go_wp2
           go_roundg k1
           case measure => have := HK1.out; omega
           case rel => exact ⟨(wrap64 (x7_1 + 1)), (by first | rfl | (simp; done) | (simp [*]; done)), H', ⟨by have := HK1.out; omega⟩, ⟨by exact hs_ HB.out⟩⟩
          rw [if_neg c16] at H
          have c16b0 : (Op.bytesLess (((rd_T164 l0 (ji13)).f0).toList) (((rd_T164 l0 x7_1).f0).toList)) = false := by simpa using c16
          clear c16
          obtain rfl := Option.some.inj H
          have p792 : 0 ≤ (x7_1 : Int) := of_decide_eq_true (by with_reducible assumption)
          have q792 : x7_1 < (l0.length : Int) := of_decide_eq_true (by with_reducible assumption)
          obtain ⟨ad792, e792, hx792_0, hx792_1⟩ := at_T164 HR0.out x7_1 p792 q792
          cases e792
          replace hx792_0 := cl_ HB.out hx792_0
          replace hx792_1 := cl_ HB.out hx792_1
          replace p792 := eq_true p792
          replace q792 := eq_true q792
          try go_wp2_with (first | ((with_reducible refine gd_ 4 rfl ?_); refine bv_ 4 #[.string (⟨#[]⟩ : ByteArray), .string (⟨#[]⟩ : ByteArray)] 164 ?_; intro gb793 hg w22 hbox hb; have BK793 := Aside0.mk (hbox); have GW793 := Aside0.mk ((gw_ hg (hs_ HB.out))); replace HB := st_ HB hb; have GE793 := Ge_.mk GW793.out; clear hb hbox hg; obtain ⟨z23_0, z23_1, y23_0, y23_1⟩ := bc2_ BK793.out))
          generalize hw_ : ((w22.setCell ⟨gb793, 0, none⟩ (.string ((rd_T164 l0 x7_1).f0))).setCell ⟨gb793, 1, none⟩ (.string ((rd_T164 l0 x7_1).f1))) = w24
          have n0_ : Aside0 (w24.heap[gb793]? = some (.cells #[.string ((rd_T164 l0 x7_1).f0), .string ((rd_T164 l0 x7_1).f1)] 164 (0, 0))) := ⟨by rw [← hw_]; exact (bp_ BK793.out)⟩
          have n1_ : Aside0 (Below w.heap.size w w24) := ⟨by rw [← hw_]; exact (hs_ HB.out)⟩
          clear hw_
          (try clear BK793)
          (try clear HB)
          have BK793 := n0_
          have HB := n1_
          clear n0_ n1_
          replace BK793 := Aside0.mk (blk_drew BK793.out)
          replace HB := Aside0.mk (bd_ HB.out)
          have p795 : 0 ≤ ((ji13) : Int) := of_decide_eq_true (by with_reducible assumption)
          have q795 : (ji13) < (l0.length : Int) := of_decide_eq_true (by with_reducible assumption)
          obtain ⟨ad795, e795, hx795_0, hx795_1⟩ := at_T164 HR0.out (ji13) p795 q795
          have hw795_1 := hx795_1
          have hw795_0 := hx795_0
          obtain rfl : ad792 = ad795 := (by injection e795)
          replace hx795_0 := cl_ HB.out hx795_0
          replace hx795_1 := cl_ HB.out hx795_1
          replace p795 := eq_true p795
          replace q795 := eq_true q795
          refine start_ (n := 22) (S := fun w' => w'.cell? ⟨gb793, 0, none⟩ = some (.string ((rd_T164 l0 x7_1).f0)) ∧ w'.cell? ⟨gb793, 1, none⟩ = some (.string ((rd_T164 l0 x7_1).f1)) ∧ w'.cell? (ad792.add (((ji13)).toNat * 2)) = some (.string ((rd_T164 l0 (ji13)).f0)) ∧ w'.cell? ⟨(ad792.add (((ji13)).toNat * 2)).block, (ad792.add (((ji13)).toNat * 2)).off + 1, none⟩ = some (.string ((rd_T164 l0 (ji13)).f1))) (ds := []) #[f_,f_,f_,f_,f_,f_,f_,f_,f_,f_,f_,f_,f_,f_,f_,f_,f_,f_,f_,f_,f_,f_] (by kernel_rfl) rfl rfl ⟨bx_ BK793.out 0, bx_ BK793.out 1, ((HB.out.cell (World.block_lt_of_cell? w _ hw795_0)).trans hw795_0), ((HB.out.cell (World.block_lt_of_cell? w _ hw795_1)).trans hw795_1)⟩ (fun hHeld => ?_); refine with_tabW impl_SetOk.tab4 impl_SetOk.bits4 (fun HT_ HW_ => ?_)
          generalize w24.drew = w25 at BK793 HB hx795_0 hx795_1 hHeld ⊢
          refine pw_ 0 12 (b_ 1 21) rfl rfl HT_.out ?_
          refine pw_ 1 13 (b_ 2 20) rfl rfl HT_.out ?_
          refine pw_ 2 14 (b_ 3 19) rfl rfl HT_.out ?_
          refine take_ (i := 3) (N := some 15) (v := ?_) (a' := ?_) #[t_,t_,t_,t_,f_,f_,f_,f_,f_,f_,f_,f_,f_,f_,f_,f_,f_,f_,f_,f_,f_,f_] rfl rfl (take_ofW HT_.out HW_.out (by kernel_rfl)) (fun _ _ _ h => h) (Or.inl ⟨by rfl, ?_⟩) hHeld ?_ ?_
          rotate_left
          ·
           rintro w' ⟨s0, s1, s2, s3⟩
           go_simp
           with_reducible rfl
          rotate_left
          ·
           simp only [fr_]
           rfl
          refine one_ (i := 4) (N := some 16) #[t_,t_,t_,t_,t_,f_,f_,f_,f_,f_,f_,f_,f_,f_,f_,f_,f_,f_,f_,f_,f_,f_] rfl rfl (one_of HT_.out (by kernel_rfl)) (by decide) (fun K hK => ?_)
          refine gs_ Try.func152 #[.agg #[.string ((rd_T164 l0 x7_1).f0), .string ((rd_T164 l0 x7_1).f1)]] ?_
          with_reducible refine (impl_LabelOk.calls k1 ((rd_T164 l0 x7_1).f0) ((rd_T164 l0 x7_1).f1) true _ A10.out).mono ?_
          rintro e w26 ⟨rfl, hb⟩
          refine ⟨_, rfl, ?_⟩
          replace BK793 := bk2_ BK793 hb
          replace HB := st_ HB hb
          (try clear hb)
          (try clear hk)
          refine hK.out _ _ ⟨bx_ BK793.out 0, bx_ BK793.out 1, ((HB.out.cell (World.block_lt_of_cell? w _ hw795_0)).trans hw795_0), ((HB.out.cell (World.block_lt_of_cell? w _ hw795_1)).trans hw795_1)⟩ (fun hHeld => ?_)
          clear hK K
          refine norm_ (a' := ?_) ?_ ?_
          rotate_left
          ·
           show Act.put _ (some 16) _ = _
           simp only [fr_]
           rfl
          refine pw_ 5 17 (b_ 6 16) rfl rfl HT_.out ?_
          refine pw_ 6 18 (b_ 7 15) rfl rfl HT_.out ?_
          refine pw_ 7 19 (b_ 8 14) rfl rfl HT_.out ?_
          refine pw_ 8 20 (b_ 9 13) rfl rfl HT_.out ?_
          refine pw_ 9 21 (b_ 10 12) rfl rfl HT_.out ?_
          refine pw_ 10 22 (b_ 11 11) rfl rfl HT_.out ?_
          refine pw_ 11 23 (b_ 12 10) rfl rfl HT_.out ?_
          refine pw_ 12 24 (b_ 13 9) rfl rfl HT_.out ?_
          refine pw_ 13 25 (b_ 14 8) rfl rfl HT_.out ?_
          refine pw_ 14 26 (b_ 15 7) rfl rfl HT_.out ?_
          refine pw_ 15 27 (b_ 16 6) rfl rfl HT_.out ?_
          refine pw_ 17 29 #[t_,t_,t_,t_,t_,t_,t_,t_,t_,t_,t_,t_,t_,t_,t_,t_,f_,t_,f_,f_,f_,f_] rfl rfl HT_.out ?_
          refine take_ (i := 16) (N := some 28) (v := ?_) (a' := ?_) #[t_,t_,t_,t_,t_,t_,t_,t_,t_,t_,t_,t_,t_,t_,t_,t_,t_,t_,f_,f_,f_,f_] rfl rfl (take_ofW HT_.out HW_.out (by kernel_rfl)) (fun _ _ _ h => h) (Or.inl ⟨by rfl, ?_⟩) hHeld ?_ ?_
          rotate_left
          ·
           rintro w' ⟨s0, s1, s2, s3⟩
           go_simp
           with_reducible rfl
          rotate_left
          ·
           simp only [fr_]
           rfl
          refine take_ (i := 18) (N := some 30) (v := ?_) (a' := ?_) #[t_,t_,t_,t_,t_,t_,t_,t_,t_,t_,t_,t_,t_,t_,t_,t_,t_,t_,t_,f_,f_,f_] rfl rfl (take_ofW HT_.out HW_.out (by kernel_rfl)) (fun _ _ _ h => h) (Or.inl ⟨by rfl, ?_⟩) hHeld ?_ ?_
          rotate_left
          ·
           rintro w' ⟨s0, s1, s2, s3⟩
           go_simp
           with_reducible rfl
          rotate_left
          ·
           simp only [fr_]
           rfl
          refine pw_ 19 31 (b_ 20 2) rfl rfl HT_.out ?_
          refine pw_ 20 32 (b_ 21 1) rfl rfl HT_.out ?_
          refine pw_ 21 33 (b_ 22 0) rfl rfl HT_.out ?_
          refine done_ (done_of HT_.out (by kernel_rfl)) ?_
          try go_wp2
          go_ret
          exact ⟨by first | rfl | (simp [errW_none, errW_some] <;> rfl) | (simp only [← hji13]; first | rfl | (simp [errW_none, errW_some] <;> rfl)) | (simp [*, errW_none, errW_some] <;> rfl), by exact hs_ HB.out⟩
         rw [if_neg c15] at H
         exact absurd H (by simp)
        rw [if_neg c14] at H
        exact absurd H (by simp)
       rw [if_neg c12] at H
       have c12b0 : decide (0 < x7_1) = false := decide_eq_false c12
       clear c12
       have H' := Aside0.mk H
       clear H
       have p792 : 0 ≤ (x7_1 : Int) := of_decide_eq_true (by with_reducible assumption)
       have q792 : x7_1 < (l0.length : Int) := of_decide_eq_true (by with_reducible assumption)
       obtain ⟨ad792, e792, hx792_0, hx792_1⟩ := at_T164 HR0.out x7_1 p792 q792
       cases e792
       replace hx792_0 := cl_ HB.out hx792_0
       replace hx792_1 := cl_ HB.out hx792_1
       replace p792 := eq_true p792
       replace q792 := eq_true q792
       try go_wp2_with (first | ((with_reducible refine gd_ 4 rfl ?_); refine bv_ 4 #[.string (⟨#[]⟩ : ByteArray), .string (⟨#[]⟩ : ByteArray)] 164 ?_; intro gb793 hg w27 hbox hb; have BK793 := Aside0.mk (hbox); have GW793 := Aside0.mk ((gw_ hg (hs_ HB.out))); replace HB := st_ HB hb; have GE793 := Ge_.mk GW793.out; clear hb hbox hg; obtain ⟨z28_0, z28_1, y28_0, y28_1⟩ := bc2_ BK793.out))
       generalize hw_ : ((w27.setCell ⟨gb793, 0, none⟩ (.string ((rd_T164 l0 x7_1).f0))).setCell ⟨gb793, 1, none⟩ (.string ((rd_T164 l0 x7_1).f1))) = w29
       have n0_ : Aside0 (w29.heap[gb793]? = some (.cells #[.string ((rd_T164 l0 x7_1).f0), .string ((rd_T164 l0 x7_1).f1)] 164 (0, 0))) := ⟨by rw [← hw_]; exact (bp_ BK793.out)⟩
       have n1_ : Aside0 (Below w.heap.size w w29) := ⟨by rw [← hw_]; exact (hs_ HB.out)⟩
       clear hw_
       (try clear BK793)
       (try clear HB)
       have BK793 := n0_
       have HB := n1_
       clear n0_ n1_
       replace BK793 := Aside0.mk (blk_drew BK793.out)
       replace HB := Aside0.mk (bd_ HB.out)
       refine start_ (n := 22) (S := fun w' => w'.cell? ⟨gb793, 0, none⟩ = some (.string ((rd_T164 l0 x7_1).f0)) ∧ w'.cell? ⟨gb793, 1, none⟩ = some (.string ((rd_T164 l0 x7_1).f1))) (ds := []) #[f_,f_,f_,f_,f_,f_,f_,f_,f_,f_,f_,f_,f_,f_,f_,f_,f_,f_,f_,f_,f_,f_] (by kernel_rfl) rfl rfl ⟨bx_ BK793.out 0, bx_ BK793.out 1⟩ (fun hHeld => ?_); refine with_tabW impl_SetOk.tab4 impl_SetOk.bits4 (fun HT_ HW_ => ?_)
       generalize w29.drew = w30 at BK793 HB hHeld ⊢
       refine pw_ 0 12 (b_ 1 21) rfl rfl HT_.out ?_
       refine pw_ 1 13 (b_ 2 20) rfl rfl HT_.out ?_
       refine pw_ 2 14 (b_ 3 19) rfl rfl HT_.out ?_
       refine take_ (i := 3) (N := some 15) (v := ?_) (a' := ?_) #[t_,t_,t_,t_,f_,f_,f_,f_,f_,f_,f_,f_,f_,f_,f_,f_,f_,f_,f_,f_,f_,f_] rfl rfl (take_ofW HT_.out HW_.out (by kernel_rfl)) (fun _ _ _ h => h) (Or.inl ⟨by rfl, ?_⟩) hHeld ?_ ?_
       rotate_left
       ·
        rintro w' ⟨s0, s1⟩
        go_simp
        with_reducible rfl
       rotate_left
       ·
        simp only [fr_]
        rfl
       refine one_ (i := 4) (N := some 16) #[t_,t_,t_,t_,t_,f_,f_,f_,f_,f_,f_,f_,f_,f_,f_,f_,f_,f_,f_,f_,f_,f_] rfl rfl (one_of HT_.out (by kernel_rfl)) (by decide) (fun K hK => ?_)
       refine gs_ Try.func152 #[.agg #[.string ((rd_T164 l0 x7_1).f0), .string ((rd_T164 l0 x7_1).f1)]] ?_
       with_reducible refine (impl_LabelOk.calls k1 ((rd_T164 l0 x7_1).f0) ((rd_T164 l0 x7_1).f1) true _ A10.out).mono ?_
       rintro e w31 ⟨rfl, hb⟩
       refine ⟨_, rfl, ?_⟩
       replace BK793 := bk2_ BK793 hb
       replace HB := st_ HB hb
       (try clear hb)
       (try clear hk)
       refine hK.out _ _ ⟨bx_ BK793.out 0, bx_ BK793.out 1⟩ (fun hHeld => ?_)
       clear hK K
       refine norm_ (a' := ?_) ?_ ?_
       rotate_left
       ·
        show Act.put _ (some 16) _ = _
        simp only [fr_]
        rfl
       refine pw_ 5 17 (b_ 6 16) rfl rfl HT_.out ?_
       refine pw_ 6 18 (b_ 7 15) rfl rfl HT_.out ?_
       refine pw_ 7 19 (b_ 8 14) rfl rfl HT_.out ?_
       refine pw_ 8 20 (b_ 9 13) rfl rfl HT_.out ?_
       refine pw_ 9 21 (b_ 10 12) rfl rfl HT_.out ?_
       refine pw_ 10 22 (b_ 11 11) rfl rfl HT_.out ?_
       refine pv_ 11 23 ?_ (b_ 12 10) rfl rfl HT_.out ?_ ?_; rotate_left; simp only [fr_]; rfl
       refine pv_ 12 24 ?_ (b_ 13 9) rfl rfl HT_.out ?_ ?_; rotate_left; simp only [fr_]; rfl
       refine pv_ 13 25 ?_ (b_ 14 8) rfl rfl HT_.out ?_ ?_; rotate_left; simp only [fr_]; rfl
       refine pv_ 14 26 ?_ (b_ 15 7) rfl rfl HT_.out ?_ ?_; rotate_left; simp only [fr_]; rfl
       refine pv_ 15 27 ?_ (b_ 16 6) rfl rfl HT_.out ?_ ?_; rotate_left; simp only [fr_]; rfl
       refine pv_ 16 28 ?_ (b_ 17 5) rfl rfl HT_.out ?_ ?_; rotate_left; simp only [fr_]; rfl
       refine pv_ 17 29 ?_ (b_ 18 4) rfl rfl HT_.out ?_ ?_; rotate_left; simp only [fr_]; rfl
       refine pv_ 18 30 ?_ (b_ 19 3) rfl rfl HT_.out ?_ ?_; rotate_left; simp only [fr_]; rfl
       refine pv_ 19 31 ?_ (b_ 20 2) rfl rfl HT_.out ?_ ?_; rotate_left; simp only [fr_]; rfl
       refine pw_ 20 32 (b_ 21 1) rfl rfl HT_.out ?_
       refine pw_ 21 33 (b_ 22 0) rfl rfl HT_.out ?_
       refine done_ (done_of HT_.out (by kernel_rfl)) ?_
       try go_wp2
       go_roundg k1
       case measure => have := HK1.out; omega
       case rel => exact ⟨(wrap64 (x7_1 + 1)), (by first | rfl | (simp; done) | (simp [*]; done)), H', ⟨by have := HK1.out; omega⟩, ⟨by exact hs_ HB.out⟩⟩
      replace c11 := Bool.eq_false_iff.mpr c11
      subst c11
      rw [if_neg (show ¬ (false = true) by decide)] at H
      obtain rfl := Option.some.inj H
      have p792 : 0 ≤ (x7_1 : Int) := of_decide_eq_true (by with_reducible assumption)
      have q792 : x7_1 < (l0.length : Int) := of_decide_eq_true (by with_reducible assumption)
      obtain ⟨ad792, e792, hx792_0, hx792_1⟩ := at_T164 HR0.out x7_1 p792 q792
      cases e792
      replace hx792_0 := cl_ HB.out hx792_0
      replace hx792_1 := cl_ HB.out hx792_1
      replace p792 := eq_true p792
      replace q792 := eq_true q792
      try go_wp2_with (first | ((with_reducible refine gd_ 4 rfl ?_); refine bv_ 4 #[.string (⟨#[]⟩ : ByteArray), .string (⟨#[]⟩ : ByteArray)] 164 ?_; intro gb793 hg w32 hbox hb; have BK793 := Aside0.mk (hbox); have GW793 := Aside0.mk ((gw_ hg (hs_ HB.out))); replace HB := st_ HB hb; have GE793 := Ge_.mk GW793.out; clear hb hbox hg; obtain ⟨z33_0, z33_1, y33_0, y33_1⟩ := bc2_ BK793.out))
      generalize hw_ : ((w32.setCell ⟨gb793, 0, none⟩ (.string ((rd_T164 l0 x7_1).f0))).setCell ⟨gb793, 1, none⟩ (.string ((rd_T164 l0 x7_1).f1))) = w34
      have n0_ : Aside0 (w34.heap[gb793]? = some (.cells #[.string ((rd_T164 l0 x7_1).f0), .string ((rd_T164 l0 x7_1).f1)] 164 (0, 0))) := ⟨by rw [← hw_]; exact (bp_ BK793.out)⟩
      have n1_ : Aside0 (Below w.heap.size w w34) := ⟨by rw [← hw_]; exact (hs_ HB.out)⟩
      clear hw_
      (try clear BK793)
      (try clear HB)
      have BK793 := n0_
      have HB := n1_
      clear n0_ n1_
      replace BK793 := Aside0.mk (blk_drew BK793.out)
      replace HB := Aside0.mk (bd_ HB.out)
      refine start_ (n := 22) (S := fun w' => w'.cell? ⟨gb793, 0, none⟩ = some (.string ((rd_T164 l0 x7_1).f0)) ∧ w'.cell? ⟨gb793, 1, none⟩ = some (.string ((rd_T164 l0 x7_1).f1))) (ds := []) #[f_,f_,f_,f_,f_,f_,f_,f_,f_,f_,f_,f_,f_,f_,f_,f_,f_,f_,f_,f_,f_,f_] (by kernel_rfl) rfl rfl ⟨bx_ BK793.out 0, bx_ BK793.out 1⟩ (fun hHeld => ?_); refine with_tabW impl_SetOk.tab4 impl_SetOk.bits4 (fun HT_ HW_ => ?_)
      generalize w34.drew = w35 at BK793 HB hHeld ⊢
      refine pw_ 0 12 (b_ 1 21) rfl rfl HT_.out ?_
      refine pw_ 1 13 (b_ 2 20) rfl rfl HT_.out ?_
      refine pw_ 2 14 (b_ 3 19) rfl rfl HT_.out ?_
      refine take_ (i := 3) (N := some 15) (v := ?_) (a' := ?_) #[t_,t_,t_,t_,f_,f_,f_,f_,f_,f_,f_,f_,f_,f_,f_,f_,f_,f_,f_,f_,f_,f_] rfl rfl (take_ofW HT_.out HW_.out (by kernel_rfl)) (fun _ _ _ h => h) (Or.inl ⟨by rfl, ?_⟩) hHeld ?_ ?_
      rotate_left
      ·
       rintro w' ⟨s0, s1⟩
       go_simp
       with_reducible rfl
      rotate_left
      ·
       simp only [fr_]
       rfl
      refine one_ (i := 4) (N := some 16) #[t_,t_,t_,t_,t_,f_,f_,f_,f_,f_,f_,f_,f_,f_,f_,f_,f_,f_,f_,f_,f_,f_] rfl rfl (one_of HT_.out (by kernel_rfl)) (by decide) (fun K hK => ?_)
      refine gs_ Try.func152 #[.agg #[.string ((rd_T164 l0 x7_1).f0), .string ((rd_T164 l0 x7_1).f1)]] ?_
      with_reducible refine (impl_LabelOk.calls k1 ((rd_T164 l0 x7_1).f0) ((rd_T164 l0 x7_1).f1) false _ A10.out).mono ?_
      rintro e w36 ⟨rfl, hb⟩
      refine ⟨_, rfl, ?_⟩
      replace BK793 := bk2_ BK793 hb
      replace HB := st_ HB hb
      (try clear hb)
      (try clear hk)
      refine hK.out _ _ ⟨bx_ BK793.out 0, bx_ BK793.out 1⟩ (fun hHeld => ?_)
      clear hK K
      refine norm_ (a' := ?_) ?_ ?_
      rotate_left
      ·
       show Act.put _ (some 16) _ = _
       simp only [fr_]
       rfl
      refine pw_ 5 17 (b_ 6 16) rfl rfl HT_.out ?_
      refine pw_ 6 18 (b_ 7 15) rfl rfl HT_.out ?_
      refine pw_ 7 19 (b_ 8 14) rfl rfl HT_.out ?_
      refine pv_ 8 20 ?_ (b_ 9 13) rfl rfl HT_.out ?_ ?_; rotate_left; simp only [fr_]; rfl
      refine pv_ 9 21 ?_ (b_ 10 12) rfl rfl HT_.out ?_ ?_; rotate_left; simp only [fr_]; rfl
      refine pv_ 10 22 ?_ (b_ 11 11) rfl rfl HT_.out ?_ ?_; rotate_left; simp only [fr_]; rfl
      refine pv_ 11 23 ?_ (b_ 12 10) rfl rfl HT_.out ?_ ?_; rotate_left; simp only [fr_]; rfl
      refine pv_ 12 24 ?_ (b_ 13 9) rfl rfl HT_.out ?_ ?_; rotate_left; simp only [fr_]; rfl
      refine pv_ 13 25 ?_ (b_ 14 8) rfl rfl HT_.out ?_ ?_; rotate_left; simp only [fr_]; rfl
      refine pv_ 14 26 ?_ (b_ 15 7) rfl rfl HT_.out ?_ ?_; rotate_left; simp only [fr_]; rfl
      refine pv_ 15 27 ?_ (b_ 16 6) rfl rfl HT_.out ?_ ?_; rotate_left; simp only [fr_]; rfl
      refine pv_ 16 28 ?_ (b_ 17 5) rfl rfl HT_.out ?_ ?_; rotate_left; simp only [fr_]; rfl
      refine pv_ 17 29 ?_ (b_ 18 4) rfl rfl HT_.out ?_ ?_; rotate_left; simp only [fr_]; rfl
      refine pv_ 18 30 ?_ (b_ 19 3) rfl rfl HT_.out ?_ ?_; rotate_left; simp only [fr_]; rfl
      refine pv_ 19 31 ?_ (b_ 20 2) rfl rfl HT_.out ?_ ?_; rotate_left; simp only [fr_]; rfl
      refine pv_ 20 32 ?_ (b_ 21 1) rfl rfl HT_.out ?_ ?_; rotate_left; simp only [fr_]; rfl
      refine pw_ 21 33 (b_ 22 0) rfl rfl HT_.out ?_
      refine done_ (done_of HT_.out (by kernel_rfl)) ?_
      try go_wp2
      go_ret
      exact an_ (by exact hs_ HB.out)
     rw [if_neg c4] at H
     exact absurd H (by simp)
    rw [if_neg c3] at H
    exact absurd H (by simp)
   rw [if_neg c2] at H
   have c2b0 : decide (x7_1 < (l0.length : Int)) = false := decide_eq_false c2
   clear c2
   obtain rfl := Option.some.inj H
   go_wp2
   go_ret
   exact an_ (by exact hs_ HB.out)
def impl_AlarmOk.f (k : Nat) (l0_0 : List (S164)) (a0_1 : Int) (a0_2 : Int) (a0_3 : ByteArray) : Option (Bool) := if (l0_0.length : Int) > 0 then ((impl_SetOk.f k l0_0).bind fun t797 => (if t797 = true then ((impl_in.f a0_1 0 99999).bind fun t798 => (if t798 = true then ((impl_in.f a0_2 a0_1 99999).bind fun t799 => (if t799 = true then ((impl_PlainOk.f k a0_3).bind fun t800 => (some t800)) else (some false))) else (some false))) else (some false))) else (some false)
theorem impl_AlarmOk.mono : ∀ a0 a1 a2 a3 k, LeO (impl_AlarmOk.f k a0 a1 a2 a3) (impl_AlarmOk.f (k + 1) a0 a1 a2 a3) := by
 intro a0 a1 a2 a3 k
 unfold impl_AlarmOk.f
 repeat' first | (with_reducible first | exact impl_PlainOk.mono _ _ | exact impl_SetOk.mono _ _ | exact LeO.refl _ | exact LeO.none _ | refine LeO.ite ?_ ?_ | refine LeO.bind ?_ (fun _ => ?_)) | exact impl_PlainOk.mono _ _ | exact impl_SetOk.mono _ _
theorem impl_AlarmOk.calls (k : Nat) (A0_0 : Option Addr) (c0_0 : Nat) (l0_0 : List (S164)) (a0_1 : Int) (a0_2 : Int) (a0_3 : ByteArray) (r : Bool) (w : World) (hr0_0 : Kd.C k164 w A0_0 l0_0.length l0_0) (hc0_0 : l0_0.length ≤ c0_0) (h : impl_AlarmOk.f k l0_0 a0_1 a0_2 a0_3 = some r) :
  Calls Try.prog 124 #[.agg #[.slice A0_0 l0_0.length c0_0, .int .i64 a0_1, .int .i64 a0_2, .string a0_3]] w fun e w' => e = .returned (.bool r) ∧ Below w.heap.size w w' := by
 have hu44 := Try.underlying44
 have HR0_0 := Aside0.mk hr0_0
 have HC0_0 := Aside0.mk hc0_0
 clear hr0_0 hc0_0
 have HB := Aside0.mk (Below.refl w.heap.size w)
 have H : (if (l0_0.length : Int) > 0 then ((impl_SetOk.f k l0_0).bind fun t797 => (if t797 = true then ((impl_in.f a0_1 0 99999).bind fun t798 => (if t798 = true then ((impl_in.f a0_2 a0_1 99999).bind fun t799 => (if t799 = true then ((impl_PlainOk.f k a0_3).bind fun t800 => (some t800)) else (some false))) else (some false))) else (some false))) else (some false)) = some r := h
 clear h
 by_cases c2 : (l0_0.length : Int) > 0
 ·
  rw [if_pos c2] at H
  have c2b0 : decide (0 < (l0_0.length : Int)) = true := decide_eq_true c2
  have c2b1 : decide (0 < l0_0.length) = true := decide_eq_true (by omega)
  clear c2
  replace H := Option.bind_eq_some_iff.mp H
  obtain ⟨t797, A30, H⟩ := H
  have A3 := Aside0.mk A30
  clear A30
  by_cases c4 : t797 = true
  ·
   subst c4
   rw [if_pos rfl] at H
   replace H := Option.bind_eq_some_iff.mp H
   obtain ⟨t798, A50, H⟩ := H
   have A5 := Aside0.mk A50
   clear A50
   by_cases c6 : t798 = true
   ·
    subst c6
    rw [if_pos rfl] at H
    replace H := Option.bind_eq_some_iff.mp H
    obtain ⟨t799, A70, H⟩ := H
    have A7 := Aside0.mk A70
    clear A70
    by_cases c8 : t799 = true
    ·
     subst c8
     rw [if_pos rfl] at H
     replace H := Option.bind_eq_some_iff.mp H
     obtain ⟨t800, A90, H⟩ := H
     have A9 := Aside0.mk A90
     clear A90
     obtain rfl := Option.some.inj H
     go_enter Try.func124, Try.ntmps124
     go_wp2_with (first | ((with_reducible refine gd_ 1 rfl ?_); refine bv_ 1 #[.slice A0_0 l0_0.length c0_0, .int .i64 a0_1, .int .i64 a0_2, .string a0_3] 44 ?_; intro gb796 hg w10 hbox hb; have BK796 := Aside0.mk (hbox); have GW796 := Aside0.mk ((gw_ hg (hs_ HB.out))); replace HB := st_ HB hb; have GE796 := Ge_.mk GW796.out; clear hb hbox hg; obtain ⟨z11_0, z11_1, z11_2, z11_3, y11_0, y11_1, y11_2, y11_3⟩ := bc4_ BK796.out) | (go_at_call 110; (with_reducible refine (impl_SetOk.calls k _ _ l0_0 true _ ?side1 ?side2 A3.out).mono ?_); (case side1 => exact cp_ ((Kd.C_below HR0_0.out HB.out))); (case side2 => exact HC0_0.out); rintro e w12 ⟨rfl, hb⟩; replace BK796 := bk2_ BK796 hb; replace HB := st_ HB hb; (try clear hb); (try clear hk); obtain ⟨z13_0, z13_1, z13_2, z13_3, y13_0, y13_1, y13_2, y13_3⟩ := bc4_ BK796.out) | (go_at_call 111; (with_reducible refine (impl_in.calls a0_1 0 99999 true _ A5.out).mono ?_); rintro e w' ⟨rfl, ⟨nd, rfl⟩⟩) | (go_at_call 111; (with_reducible refine (impl_in.calls a0_2 a0_1 99999 true _ A7.out).mono ?_); rintro e w' ⟨rfl, ⟨nd, rfl⟩⟩) | (go_at_call 156; (with_reducible refine (impl_PlainOk.calls k a0_3 t800 _ A9.out).mono ?_); rintro e w' ⟨rfl, ⟨nd, rfl⟩⟩))
     go_ret
     exact an_ (by exact hs_ HB.out)
    replace c8 := Bool.eq_false_iff.mpr c8
    subst c8
    rw [if_neg (show ¬ (false = true) by decide)] at H
    obtain rfl := Option.some.inj H
    go_enter Try.func124, Try.ntmps124
    go_wp2_with (first | ((with_reducible refine gd_ 1 rfl ?_); refine bv_ 1 #[.slice A0_0 l0_0.length c0_0, .int .i64 a0_1, .int .i64 a0_2, .string a0_3] 44 ?_; intro gb796 hg w14 hbox hb; have BK796 := Aside0.mk (hbox); have GW796 := Aside0.mk ((gw_ hg (hs_ HB.out))); replace HB := st_ HB hb; have GE796 := Ge_.mk GW796.out; clear hb hbox hg; obtain ⟨z15_0, z15_1, z15_2, z15_3, y15_0, y15_1, y15_2, y15_3⟩ := bc4_ BK796.out) | (go_at_call 110; (with_reducible refine (impl_SetOk.calls k _ _ l0_0 true _ ?side1 ?side2 A3.out).mono ?_); (case side1 => exact cp_ ((Kd.C_below HR0_0.out HB.out))); (case side2 => exact HC0_0.out); rintro e w16 ⟨rfl, hb⟩; replace BK796 := bk2_ BK796 hb; replace HB := st_ HB hb; (try clear hb); (try clear hk); obtain ⟨z17_0, z17_1, z17_2, z17_3, y17_0, y17_1, y17_2, y17_3⟩ := bc4_ BK796.out) | (go_at_call 111; (with_reducible refine (impl_in.calls a0_1 0 99999 true _ A5.out).mono ?_); rintro e w' ⟨rfl, ⟨nd, rfl⟩⟩) | (go_at_call 111; (with_reducible refine (impl_in.calls a0_2 a0_1 99999 false _ A7.out).mono ?_); rintro e w' ⟨rfl, ⟨nd, rfl⟩⟩))
    go_ret
    exact an_ (by exact hs_ HB.out)
   replace c6 := Bool.eq_false_iff.mpr c6
   subst c6
   rw [if_neg (show ¬ (false = true) by decide)] at H
   obtain rfl := Option.some.inj H
   go_enter Try.func124, Try.ntmps124
   go_wp2_with (first | ((with_reducible refine gd_ 1 rfl ?_); refine bv_ 1 #[.slice A0_0 l0_0.length c0_0, .int .i64 a0_1, .int .i64 a0_2, .string a0_3] 44 ?_; intro gb796 hg w18 hbox hb; have BK796 := Aside0.mk (hbox); have GW796 := Aside0.mk ((gw_ hg (hs_ HB.out))); replace HB := st_ HB hb; have GE796 := Ge_.mk GW796.out; clear hb hbox hg; obtain ⟨z19_0, z19_1, z19_2, z19_3, y19_0, y19_1, y19_2, y19_3⟩ := bc4_ BK796.out) | (go_at_call 110; (with_reducible refine (impl_SetOk.calls k _ _ l0_0 true _ ?side1 ?side2 A3.out).mono ?_); (case side1 => exact cp_ ((Kd.C_below HR0_0.out HB.out))); (case side2 => exact HC0_0.out); rintro e w20 ⟨rfl, hb⟩; replace BK796 := bk2_ BK796 hb; replace HB := st_ HB hb; (try clear hb); (try clear hk); obtain ⟨z21_0, z21_1, z21_2, z21_3, y21_0, y21_1, y21_2, y21_3⟩ := bc4_ BK796.out) | (go_at_call 111; (with_reducible refine (impl_in.calls a0_1 0 99999 false _ A5.out).mono ?_); rintro e w' ⟨rfl, ⟨nd, rfl⟩⟩))
   go_ret
   exact an_ (by exact hs_ HB.out)
  replace c4 := Bool.eq_false_iff.mpr c4
  subst c4
  rw [if_neg (show ¬ (false = true) by decide)] at H
  obtain rfl := Option.some.inj H
  go_enter Try.func124, Try.ntmps124
  go_wp2_with (first | ((with_reducible refine gd_ 1 rfl ?_); refine bv_ 1 #[.slice A0_0 l0_0.length c0_0, .int .i64 a0_1, .int .i64 a0_2, .string a0_3] 44 ?_; intro gb796 hg w22 hbox hb; have BK796 := Aside0.mk (hbox); have GW796 := Aside0.mk ((gw_ hg (hs_ HB.out))); replace HB := st_ HB hb; have GE796 := Ge_.mk GW796.out; clear hb hbox hg; obtain ⟨z23_0, z23_1, z23_2, z23_3, y23_0, y23_1, y23_2, y23_3⟩ := bc4_ BK796.out) | (go_at_call 110; (with_reducible refine (impl_SetOk.calls k _ _ l0_0 false _ ?side1 ?side2 A3.out).mono ?_); (case side1 => exact cp_ ((Kd.C_below HR0_0.out HB.out))); (case side2 => exact HC0_0.out); rintro e w24 ⟨rfl, hb⟩; replace BK796 := bk2_ BK796 hb; replace HB := st_ HB hb; (try clear hb); (try clear hk)))
  go_ret
  exact an_ (by exact hs_ HB.out)
 rw [if_neg c2] at H
 have c2b0 : decide (0 < (l0_0.length : Int)) = false := decide_eq_false c2
 have c2b1 : decide (0 < l0_0.length) = false := decide_eq_false (by omega)
 clear c2
 obtain rfl := Option.some.inj H
 go_enter Try.func124, Try.ntmps124
 go_wp2_with (first | ((with_reducible refine gd_ 1 rfl ?_); refine bv_ 1 #[.slice A0_0 l0_0.length c0_0, .int .i64 a0_1, .int .i64 a0_2, .string a0_3] 44 ?_; intro gb796 hg w25 hbox hb; have BK796 := Aside0.mk (hbox); have GW796 := Aside0.mk ((gw_ hg (hs_ HB.out))); replace HB := st_ HB hb; have GE796 := Ge_.mk GW796.out; clear hb hbox hg; obtain ⟨z26_0, z26_1, z26_2, z26_3, y26_0, y26_1, y26_2, y26_3⟩ := bc4_ BK796.out))
 go_ret
 exact an_ (by exact hs_ HB.out)
def impl_alarmsOk.l0 : Nat → List (S44) → Int → Int → Option (Bool)
 | 0, _, _, _ => none
 | k + 1, x5, x6, x7 => if x7 < x6 then (if 0 ≤ x7 then (if x7 < (x5.length : Int) then ((impl_AlarmOk.f k ((rd_T44 x5 x7).f0) ((rd_T44 x5 x7).f1) ((rd_T44 x5 x7).f2) ((rd_T44 x5 x7).f3)).bind fun t1299 => (if t1299 = true then (impl_alarmsOk.l0 k x5 x6 (wrap64 (x7 + 1))) else (some false))) else (none)) else (none)) else (some true)
def impl_alarmsOk.f (k : Nat) (l0 : List (S44)) : Option (Bool) := impl_alarmsOk.l0 k l0 (l0.length : Int) 0
theorem impl_alarmsOk.mono_l : ∀ k, (∀ y0 y1 y2, LeO (impl_alarmsOk.l0 k y0 y1 y2) (impl_alarmsOk.l0 (k + 1) y0 y1 y2))
 | 0 => fun _ _ _ r h => by simp [impl_alarmsOk.l0] at h
 | k + 1 => by
  have ih0 := impl_alarmsOk.mono_l k
  intro y0 y1 y2
  unfold impl_alarmsOk.l0
  repeat' first
  | (with_reducible exact ih0 _ _ _)
  | (with_reducible exact impl_AlarmOk.mono _ _ _ _ _)
  | (with_reducible exact LeO.refl _)
  | (with_reducible exact LeO.none _)
  | (with_reducible refine LeO.ite ?_ ?_)
  | (with_reducible refine LeO.bind ?_ (fun _ => ?_))
  | exact ih0 _ _ _
  | exact impl_AlarmOk.mono _ _ _ _ _
theorem impl_alarmsOk.mono : ∀ a0 k, LeO (impl_alarmsOk.f k a0) (impl_alarmsOk.f (k + 1) a0) := by
 intro a0 k
 have ih0 := impl_alarmsOk.mono_l k
 unfold impl_alarmsOk.f
 repeat' first | (with_reducible first | exact ih0 _ _ _ | exact impl_AlarmOk.mono _ _ _ _ _ | exact LeO.refl _ | exact LeO.none _ | refine LeO.ite ?_ ?_ | refine LeO.bind ?_ (fun _ => ?_)) | exact ih0 _ _ _ | exact impl_AlarmOk.mono _ _ _ _ _
theorem impl_alarmsOk.calls (k : Nat) (A0 : Option Addr) (c0 : Nat) (l0 : List (S44)) (r : Bool) (w : World) (hr0 : Kd.C k44 w A0 l0.length l0) (hc0 : l0.length ≤ c0) (h : impl_alarmsOk.f k l0 = some r) :
  Calls Try.prog 134 #[.slice A0 l0.length c0] w fun e w' => e = .returned (.bool r) ∧ Below w.heap.size w w' := by
 have hu44 := Try.underlying44
 have HR0 := Aside0.mk hr0
 have HC0 := Aside0.mk hc0
 clear hr0 hc0
 have HB := Aside0.mk (Below.refl w.heap.size w)
 have H : (impl_alarmsOk.l0 k l0 (l0.length : Int) 0) = some r := h
 clear h
 have H' := Aside0.mk H
 clear H
 go_enter Try.func134, Try.ntmps134
 go_wp2
 go_loopg [7] k (fun kq v7 w' => ∃ (x7_1 : Int), v7 = .int .i64 x7_1 ∧ Aside0 (impl_alarmsOk.l0 kq l0 (l0.length : Int) x7_1 = some r) ∧ Aside0 (kq ≤ k) ∧ Aside0 (Below w.heap.size w w'))
 case atStart => exact ⟨(0), (by first | rfl | (simp; done) | (simp [*]; done)), H', ⟨Nat.le_refl _⟩, ⟨by exact hs_ HB.out⟩⟩
 case round =>
  clear H'
  try clear c1
  obtain ⟨x7_1, rfl, HA, HK1, HB⟩ := hrel
  cases gk with
  | zero => exact absurd HA.out (by simp [impl_alarmsOk.l0])
  | succ k1 =>
   have H := HA.out
   clear HA
   simp only [impl_alarmsOk.l0] at H
   by_cases c2 : x7_1 < (l0.length : Int)
   ·
    rw [if_pos c2] at H
    have c2b0 := decide_eq_true c2
    clear c2
    by_cases c3 : 0 ≤ x7_1
    ·
     rw [if_pos c3] at H
     have c3b0 := decide_eq_true c3
     clear c3
     by_cases c4 : x7_1 < (l0.length : Int)
     ·
      rw [if_pos c4] at H
      have c4b0 := decide_eq_true c4
      clear c4
      replace H := Option.bind_eq_some_iff.mp H
      obtain ⟨t1299, A50, H⟩ := H
      have A5 := Aside0.mk A50
      clear A50
      by_cases c6 : t1299 = true
      ·
       subst c6
       rw [if_pos rfl] at H
       have H' := Aside0.mk H
       clear H
       have p1297 : 0 ≤ (x7_1 : Int) := of_decide_eq_true (by with_reducible assumption)
       have q1297 : x7_1 < (l0.length : Int) := of_decide_eq_true (by with_reducible assumption)
       obtain ⟨ad1297, A1297_0, c1297_0, e1297, hx1297_0, hx1297_1, hx1297_2, hx1297_3, hl1297_0, hi1297_0⟩ := at_T44 HR0.out x7_1 p1297 q1297
       cases e1297
       replace hx1297_0 := cl_ HB.out hx1297_0
       replace hx1297_1 := cl_ HB.out hx1297_1
       replace hx1297_2 := cl_ HB.out hx1297_2
       replace hx1297_3 := cl_ HB.out hx1297_3
       have HR1297_0 := Aside0.mk hi1297_0
       have HC1297_0 := Aside0.mk hl1297_0
       clear hi1297_0 hl1297_0
       replace p1297 := eq_true p1297
       replace q1297 := eq_true q1297
       go_wp2_with (first | ((with_reducible refine gd_ 4 rfl ?_); refine bv_ 4 #[.slice none 0 0, .int .i64 0, .int .i64 0, .string (⟨#[]⟩ : ByteArray)] 44 ?_; intro gb1298 hg w7 hbox hb; have BK1298 := Aside0.mk (hbox); have GW1298 := Aside0.mk ((gw_ hg (hs_ HB.out))); replace HB := st_ HB hb; have GE1298 := Ge_.mk GW1298.out; clear hb hbox hg; obtain ⟨z8_0, z8_1, z8_2, z8_3, y8_0, y8_1, y8_2, y8_3⟩ := bc4_ BK1298.out) | ((with_reducible refine gate_callee (f := 124) rfl ?_); refine gl_ (some 12) Try.func124 #[.agg #[.slice A1297_0 ((rd_T44 l0 x7_1).f0).length c1297_0, .int .i64 ((rd_T44 l0 x7_1).f1), .int .i64 ((rd_T44 l0 x7_1).f2), .string ((rd_T44 l0 x7_1).f3)]] ?_; (with_reducible refine (impl_AlarmOk.calls k1 _ _ ((rd_T44 l0 x7_1).f0) ((rd_T44 l0 x7_1).f1) ((rd_T44 l0 x7_1).f2) ((rd_T44 l0 x7_1).f3) true _ ?side1 ?side2 A5.out).mono ?_); (case side1 => exact Kd.C_below HR1297_0.out (hs_ HB.out)); (case side2 => exact HC1297_0.out); rintro e w9 ⟨rfl, hb⟩; refine ⟨_, rfl, ?_⟩; replace BK1298 := Aside0.mk (blk_below (g := gb1298) (o := .cells #[.slice A1297_0 ((rd_T44 l0 x7_1).f0).length c1297_0, .int .i64 ((rd_T44 l0 x7_1).f1), .int .i64 ((rd_T44 l0 x7_1).f2), .string ((rd_T44 l0 x7_1).f3)] 44 (0, 0)) (bp_ BK1298.out) hb); replace HB := st_ HB hb; (try clear hb); (try clear hk)))
       go_roundg k1
       case measure => have := HK1.out; omega
       case rel => exact ⟨(wrap64 (x7_1 + 1)), (by first | rfl | (simp; done) | (simp [*]; done)), H', ⟨by have := HK1.out; omega⟩, ⟨by exact hs_ HB.out⟩⟩
      replace c6 := Bool.eq_false_iff.mpr c6
      subst c6
      rw [if_neg (show ¬ (false = true) by decide)] at H
      obtain rfl := Option.some.inj H
      have p1297 : 0 ≤ (x7_1 : Int) := of_decide_eq_true (by with_reducible assumption)
      have q1297 : x7_1 < (l0.length : Int) := of_decide_eq_true (by with_reducible assumption)
      obtain ⟨ad1297, A1297_0, c1297_0, e1297, hx1297_0, hx1297_1, hx1297_2, hx1297_3, hl1297_0, hi1297_0⟩ := at_T44 HR0.out x7_1 p1297 q1297
      cases e1297
      replace hx1297_0 := cl_ HB.out hx1297_0
      replace hx1297_1 := cl_ HB.out hx1297_1
      replace hx1297_2 := cl_ HB.out hx1297_2
      replace hx1297_3 := cl_ HB.out hx1297_3
      have HR1297_0 := Aside0.mk hi1297_0
      have HC1297_0 := Aside0.mk hl1297_0
      clear hi1297_0 hl1297_0
      replace p1297 := eq_true p1297
      replace q1297 := eq_true q1297
      go_wp2_with (first | ((with_reducible refine gd_ 4 rfl ?_); refine bv_ 4 #[.slice none 0 0, .int .i64 0, .int .i64 0, .string (⟨#[]⟩ : ByteArray)] 44 ?_; intro gb1298 hg w10 hbox hb; have BK1298 := Aside0.mk (hbox); have GW1298 := Aside0.mk ((gw_ hg (hs_ HB.out))); replace HB := st_ HB hb; have GE1298 := Ge_.mk GW1298.out; clear hb hbox hg; obtain ⟨z11_0, z11_1, z11_2, z11_3, y11_0, y11_1, y11_2, y11_3⟩ := bc4_ BK1298.out) | ((with_reducible refine gate_callee (f := 124) rfl ?_); refine gl_ (some 12) Try.func124 #[.agg #[.slice A1297_0 ((rd_T44 l0 x7_1).f0).length c1297_0, .int .i64 ((rd_T44 l0 x7_1).f1), .int .i64 ((rd_T44 l0 x7_1).f2), .string ((rd_T44 l0 x7_1).f3)]] ?_; (with_reducible refine (impl_AlarmOk.calls k1 _ _ ((rd_T44 l0 x7_1).f0) ((rd_T44 l0 x7_1).f1) ((rd_T44 l0 x7_1).f2) ((rd_T44 l0 x7_1).f3) false _ ?side1 ?side2 A5.out).mono ?_); (case side1 => exact Kd.C_below HR1297_0.out (hs_ HB.out)); (case side2 => exact HC1297_0.out); rintro e w12 ⟨rfl, hb⟩; refine ⟨_, rfl, ?_⟩; replace BK1298 := Aside0.mk (blk_below (g := gb1298) (o := .cells #[.slice A1297_0 ((rd_T44 l0 x7_1).f0).length c1297_0, .int .i64 ((rd_T44 l0 x7_1).f1), .int .i64 ((rd_T44 l0 x7_1).f2), .string ((rd_T44 l0 x7_1).f3)] 44 (0, 0)) (bp_ BK1298.out) hb); replace HB := st_ HB hb; (try clear hb); (try clear hk)))
      go_ret
      exact an_ (by exact hs_ HB.out)
     rw [if_neg c4] at H
     exact absurd H (by simp)
    rw [if_neg c3] at H
    exact absurd H (by simp)
   rw [if_neg c2] at H
   have c2b0 : decide (x7_1 < (l0.length : Int)) = false := decide_eq_false c2
   clear c2
   obtain rfl := Option.some.inj H
   go_wp2
   go_ret
   exact an_ (by exact hs_ HB.out)
def impl_SubOk.f (k : Nat) (l0_0 : List (S44)) (a0_1 : Bool) : Option (Bool) := if a0_1 = true then (some ((l0_0.length : Int) == 0)) else (if (l0_0.length : Int) ≤ 3 then ((impl_alarmsOk.f k l0_0).bind fun t1861 => (some t1861)) else (some false))
theorem impl_SubOk.mono : ∀ a0 a1 k, LeO (impl_SubOk.f k a0 a1) (impl_SubOk.f (k + 1) a0 a1) := by
 intro a0 a1 k
 unfold impl_SubOk.f
 repeat' first | (with_reducible first | exact impl_alarmsOk.mono _ _ | exact LeO.refl _ | exact LeO.none _ | refine LeO.ite ?_ ?_ | refine LeO.bind ?_ (fun _ => ?_)) | exact impl_alarmsOk.mono _ _
theorem impl_SubOk.calls (k : Nat) (A0_0 : Option Addr) (c0_0 : Nat) (l0_0 : List (S44)) (a0_1 : Bool) (r : Bool) (w : World) (hr0_0 : Kd.C k44 w A0_0 l0_0.length l0_0) (hc0_0 : l0_0.length ≤ c0_0) (h : impl_SubOk.f k l0_0 a0_1 = some r) :
  Calls Try.prog 78 #[.agg #[.slice A0_0 l0_0.length c0_0, .bool a0_1]] w fun e w' => e = .returned (.bool r) ∧ Below w.heap.size w w' := by
 have hu39 := Try.underlying39
 have HR0_0 := Aside0.mk hr0_0
 have HC0_0 := Aside0.mk hc0_0
 clear hr0_0 hc0_0
 have HB := Aside0.mk (Below.refl w.heap.size w)
 have H : (if a0_1 = true then (some ((l0_0.length : Int) == 0)) else (if (l0_0.length : Int) ≤ 3 then ((impl_alarmsOk.f k l0_0).bind fun t1861 => (some t1861)) else (some false))) = some r := h
 clear h
 by_cases c2 : a0_1 = true
 ·
  subst c2
  rw [if_pos rfl] at H
  obtain rfl := Option.some.inj H
  go_enter Try.func78, Try.ntmps78
  go_wp2_with (first | ((with_reducible refine gd_ 1 rfl ?_); refine bv_ 1 #[.slice A0_0 l0_0.length c0_0, .bool true] 39 ?_; intro gb1860 hg w3 hbox hb; have BK1860 := Aside0.mk (hbox); have GW1860 := Aside0.mk ((gw_ hg (hs_ HB.out))); replace HB := st_ HB hb; have GE1860 := Ge_.mk GW1860.out; clear hb hbox hg; obtain ⟨z4_0, z4_1, y4_0, y4_1⟩ := bc2_ BK1860.out))
  go_ret
  exact an_ (by exact hs_ HB.out)
 replace c2 := Bool.eq_false_iff.mpr c2
 subst c2
 rw [if_neg (show ¬ (false = true) by decide)] at H
 by_cases c5 : (l0_0.length : Int) ≤ 3
 ·
  rw [if_pos c5] at H
  have c5b0 := decide_eq_true c5
  have c5b1 : decide (l0_0.length ≤ 3) = true := decide_eq_true (by omega)
  clear c5
  replace H := Option.bind_eq_some_iff.mp H
  obtain ⟨t1861, A60, H⟩ := H
  have A6 := Aside0.mk A60
  clear A60
  obtain rfl := Option.some.inj H
  go_enter Try.func78, Try.ntmps78
  go_wp2_with (first | ((with_reducible refine gd_ 1 rfl ?_); refine bv_ 1 #[.slice A0_0 l0_0.length c0_0, .bool false] 39 ?_; intro gb1860 hg w7 hbox hb; have BK1860 := Aside0.mk (hbox); have GW1860 := Aside0.mk ((gw_ hg (hs_ HB.out))); replace HB := st_ HB hb; have GE1860 := Ge_.mk GW1860.out; clear hb hbox hg; obtain ⟨z8_0, z8_1, y8_0, y8_1⟩ := bc2_ BK1860.out) | (go_at_call 134; (with_reducible refine (impl_alarmsOk.calls k _ _ l0_0 t1861 _ ?side1 ?side2 A6.out).mono ?_); (case side1 => exact cp_ ((Kd.C_below HR0_0.out HB.out))); (case side2 => exact HC0_0.out); rintro e w9 ⟨rfl, hb⟩; replace BK1860 := bk2_ BK1860 hb; replace HB := st_ HB hb; (try clear hb); (try clear hk)))
  go_ret
  exact an_ (by exact hs_ HB.out)
 rw [if_neg c5] at H
 have c5b0 : decide ((l0_0.length : Int) ≤ 3) = false := decide_eq_false c5
 have c5b1 : decide (l0_0.length ≤ 3) = false := decide_eq_false (by omega)
 clear c5
 obtain rfl := Option.some.inj H
 go_enter Try.func78, Try.ntmps78
 go_wp2_with (first | ((with_reducible refine gd_ 1 rfl ?_); refine bv_ 1 #[.slice A0_0 l0_0.length c0_0, .bool false] 39 ?_; intro gb1860 hg w10 hbox hb; have BK1860 := Aside0.mk (hbox); have GW1860 := Aside0.mk ((gw_ hg (hs_ HB.out))); replace HB := st_ HB hb; have GE1860 := Ge_.mk GW1860.out; clear hb hbox hg; obtain ⟨z11_0, z11_1, y11_0, y11_1⟩ := bc2_ BK1860.out))
 go_ret
 exact an_ (by exact hs_ HB.out)
/-- A state of type 173 at block g of W; what its slices lead to came in by w0. -/
def IsS173 (w0 W : World) (g : Nat) (f0 : List Int) (f1 : Int) (f2 : Int) : Prop := ∃ A0 c0, W.heap[g]? = some (.cells #[.slice A0 f0.length c0, .int .i64 f1, .int .i64 f2] 173 (0, 0)) ∧ w0.heap.size ≤ g ∧ Kd.C (Kd.int .u8) w0 A0 f0.length f0
theorem IsS173.grown {w0 W : World} {g : Nat} {f0 : List Int} {f1 : Int} {f2 : Int} {W1 : World} {row : Option Nat} (h : IsS173 w0 W g f0 f1 f2) (hw : W.grownBy W1 row) (hne : some g ≠ row) : IsS173 w0 W1 g f0 f1 f2 := by
 obtain ⟨A0, c0, hb, hg, hr0⟩ := h
 exact ⟨A0, c0, blk_grown hb hw hne, hg, hr0⟩
theorem IsS173.kept {w0 W : World} {g : Nat} {f0 : List Int} {f1 : Int} {f2 : Int} {W1 : World} {S : Nat → Prop} (h : IsS173 w0 W g f0 f1 f2) (hk : Kept W W1 S) (hne : ¬ S g) : IsS173 w0 W1 g f0 f1 f2 := by
 obtain ⟨A0, c0, hb, hg, hr0⟩ := h
 exact ⟨A0, c0, blk_kept hb hk hne, hg, hr0⟩
theorem IsS173.below {w0 W : World} {g : Nat} {f0 : List Int} {f1 : Int} {f2 : Int} {W1 : World} (h : IsS173 w0 W g f0 f1 f2) (hw : Below W.heap.size W W1) : IsS173 w0 W1 g f0 f1 f2 := h.grown (grown_of_below hw none) (by simp)
theorem IsS173.alloc {w0 W : World} {g : Nat} {f0 : List Int} {f1 : Int} {f2 : Int} (h : IsS173 w0 W g f0 f1 f2) (o : Obj) : IsS173 w0 (W.alloc o) g f0 f1 f2 := h.below (ba_ (Below.refl _ _) o)
theorem IsS173.drewN {w0 W : World} {g : Nat} {f0 : List Int} {f1 : Int} {f2 : Int} (h : IsS173 w0 W g f0 f1 f2) (m : Nat) : IsS173 w0 (W.drewN m) g f0 f1 f2 := h
theorem IsS173.drew {w0 W : World} {g : Nat} {f0 : List Int} {f1 : Int} {f2 : Int} (h : IsS173 w0 W g f0 f1 f2) : IsS173 w0 W.drew g f0 f1 f2 := h
theorem IsS173.at_ {w0 W : World} {g : Nat} {f0 : List Int} {f1 : Int} {f2 : Int} {w' : World} {m : Nat} (hq : W.drewN m = w') (h : IsS173 w0 W g f0 f1 f2) : IsS173 w0 w' g f0 f1 f2 := by subst hq; exact IsS173.drewN h m
theorem IsS173.apart {w0 W : World} {g : Nat} {f0 : List Int} {f1 : Int} {f2 : Int} {α : Type} {d : Kd α} {e : Nat} {base : Nat} {ok : Nat → Prop} {v : Value} {xs : List α} (h : IsS173 w0 W g f0 f1 f2) (ho : d.R e W base ok v xs) (ht : ∀ q, q ∈ e :: d.E → q ≠ 173) : d.R e W base (fun k => ok k ∧ k ≠ g) v xs := by
 obtain ⟨A0, c0, hb, hg, hr0⟩ := h
 exact Kd.R_types ho hb ht
theorem IsS173.own_ne {w0 W : World} {g : Nat} {f0 : List Int} {f1 : Int} {f2 : Int} {α : Type} {d : Kd α} {e : Nat} {base : Nat} {ok : Nat → Prop} {v : Value} {xs : List α} (h : IsS173 w0 W g f0 f1 f2) (ho : d.R e W base ok v xs) (ht : e ≠ 173) : some g ≠ v.ownBlock := by
 obtain ⟨A0, c0, hb, hg, hr0⟩ := h
 exact Kd.R_ne ho hb ht
theorem IsS173.apartS {w0 W : World} {g : Nat} {f0 : List Int} {f1 : Int} {f2 : Int} {α : Type} {d : Kd α} {e : Nat} {base : Nat} {ok : Nat → Prop} {v : Value} {xs : List α} (h : IsS173 w0 W g f0 f1 f2) (ho : d.S e W base ok v xs) (ht : ∀ q, q ∈ e :: d.E → q ≠ 173) : d.S e W base (fun k => ok k ∧ k ≠ g) v xs := by
 obtain ⟨A0, c0, hb, hg, hr0⟩ := h
 exact Kd.S_types ho hb ht
theorem IsS173.own_neS {w0 W : World} {g : Nat} {f0 : List Int} {f1 : Int} {f2 : Int} {α : Type} {d : Kd α} {e : Nat} {base : Nat} {ok : Nat → Prop} {v : Value} {xs : List α} (h : IsS173 w0 W g f0 f1 f2) (ho : d.S e W base ok v xs) (ht : e ≠ 173) : some g ≠ v.ownBlock := by
 obtain ⟨A0, c0, hb, hg, hr0⟩ := h
 exact Kd.S_ne ho hb ht
theorem IsS173.lt {w0 W : World} {g : Nat} {f0 : List Int} {f1 : Int} {f2 : Int} (h : IsS173 w0 W g f0 f1 f2) : g < W.heap.size := by
 obtain ⟨A0, c0, hb, hg, hr0⟩ := h
 exact blk_lt hb
theorem IsS173.ge {w0 W : World} {g : Nat} {f0 : List Int} {f1 : Int} {f2 : Int} (h : IsS173 w0 W g f0 f1 f2) : w0.heap.size ≤ g := by
 obtain ⟨A0, c0, hb, hg, hr0⟩ := h
 exact hg
theorem IsS173.ne_blk {w0 W : World} {g : Nat} {f0 : List Int} {f1 : Int} {f2 : Int} {a : Nat} {cs : Array Value} {t : TypeId} {fr : Nat × Nat} (h : IsS173 w0 W g f0 f1 f2) (hb2 : W.heap[a]? = some (.cells cs t fr)) (ht : t ≠ 173) : g ≠ a := by
 obtain ⟨A0, c0, hb, hg, hr0⟩ := h
 rintro rfl
 rw [hb] at hb2
 injection hb2 with hb2
 injection hb2 with _ ht2
 exact ht ht2.symm
theorem IsS173.far {w0 W : World} {g : Nat} {f0 : List Int} {f1 : Int} {f2 : Int} {p : Addr} (h : IsS173 w0 W g f0 f1 f2) (hne : g ≠ p.block) (u : Value) : IsS173 w0 (W.setCell p u) g f0 f1 f2 := by
 obtain ⟨A0, c0, hb, hg, hr0⟩ := h
 exact ⟨A0, c0, blk_far hb hne u, hg, hr0⟩
theorem cellS173_0 {W : World} {g : Nat} {A0 : Option Addr} {c0 : Nat} {f0 : List Int} {f1 : Int} {f2 : Int} (h : W.heap[g]? = some (.cells #[.slice A0 f0.length c0, .int .i64 f1, .int .i64 f2] 173 (0, 0))) : W.cell? ⟨g, 0, none⟩ = some (.slice A0 f0.length c0) := (blk_cell h 0).trans rfl
theorem cellS173_1 {W : World} {g : Nat} {A0 : Option Addr} {c0 : Nat} {f0 : List Int} {f1 : Int} {f2 : Int} (h : W.heap[g]? = some (.cells #[.slice A0 f0.length c0, .int .i64 f1, .int .i64 f2] 173 (0, 0))) : W.cell? ⟨g, 1, none⟩ = some (.int .i64 f1) := (blk_cell h 1).trans rfl
theorem IsS173.set_1 {w0 W : World} {g : Nat} {f0 : List Int} {f1 : Int} {f2 : Int} (h : IsS173 w0 W g f0 f1 f2) (x : Int) : IsS173 w0 (W.setCell ⟨g, 1, none⟩ (.int .i64 x)) g f0 x f2 := by
 obtain ⟨A0, c0, hb, hg, hr0⟩ := h
 exact ⟨A0, c0, by simpa using blk_set hb 1 (.int .i64 x), hg, hr0⟩
theorem cellS173_2 {W : World} {g : Nat} {A0 : Option Addr} {c0 : Nat} {f0 : List Int} {f1 : Int} {f2 : Int} (h : W.heap[g]? = some (.cells #[.slice A0 f0.length c0, .int .i64 f1, .int .i64 f2] 173 (0, 0))) : W.cell? ⟨g, 2, none⟩ = some (.int .i64 f2) := (blk_cell h 2).trans rfl
theorem IsS173.set_2 {w0 W : World} {g : Nat} {f0 : List Int} {f1 : Int} {f2 : Int} (h : IsS173 w0 W g f0 f1 f2) (x : Int) : IsS173 w0 (W.setCell ⟨g, 2, none⟩ (.int .i64 x)) g f0 f1 x := by
 obtain ⟨A0, c0, hb, hg, hr0⟩ := h
 exact ⟨A0, c0, by simpa using blk_set hb 2 (.int .i64 x), hg, hr0⟩
def spec_l1New.l0 : Nat → List Int → Int → Int → Option (List Int × Int × Int)
 | 0, _, _, _ => none
 | k + 1, x0, x3, x4 => if x4 < (x0.length : Int) then (if x4 < 4000 then (if 0 ≤ x4 then (spec_l1New.l0 k x0 (Go.bits .and .i64 (wrap64 ((wrap64 ((wrap64 (x3 * 137)) + (wrap64 (rd x0 x4)))) + 11)) 1073741823) (wrap64 (x4 + 1))) else (none)) else (some (x0, 0, x3))) else (some (x0, 0, x3))
def spec_l1New.f (k : Nat) (l0 : List Int) : Option (List Int × Int × Int) := spec_l1New.l0 k l0 (wrap64 (140873 + (l0.length : Int))) 0
theorem spec_l1New.mono_l : ∀ k, (∀ y0 y1 y2, LeO (spec_l1New.l0 k y0 y1 y2) (spec_l1New.l0 (k + 1) y0 y1 y2))
 | 0 => fun _ _ _ r h => by simp [spec_l1New.l0] at h
 | k + 1 => by
  have ih0 := spec_l1New.mono_l k
  intro y0 y1 y2
  unfold spec_l1New.l0
  repeat' first
  | (with_reducible exact ih0 _ _ _)
  | (with_reducible exact LeO.refl _)
  | (with_reducible exact LeO.none _)
  | (with_reducible refine LeO.ite ?_ ?_)
  | (with_reducible refine LeO.bind ?_ (fun _ => ?_))
  | exact ih0 _ _ _
theorem spec_l1New.mono : ∀ a0 k, LeO (spec_l1New.f k a0) (spec_l1New.f (k + 1) a0) := by
 intro a0 k
 have ih0 := spec_l1New.mono_l k
 unfold spec_l1New.f
 repeat' first | (with_reducible first | exact ih0 _ _ _ | exact LeO.refl _ | exact LeO.none _ | refine LeO.ite ?_ ?_ | refine LeO.bind ?_ (fun _ => ?_)) | exact ih0 _ _ _
theorem spec_l1New.calls (k : Nat) (A0 : Option Addr) (c0 : Nat) (l0 : List Int) (r1 : List Int) (r2 : Int) (r3 : Int) (w0 w : World) (hB : Below w0.heap.size w0 w) (hr0 : Kd.C (Kd.int .u8) w0 A0 l0.length l0) (hc0 : l0.length ≤ c0) (h : spec_l1New.f k l0 = some (r1, r2, r3)) :
  Calls Try.prog 131 #[.slice A0 l0.length c0] w fun e w' => ∃ g_ : Nat, e = .returned (.pointer (some ⟨g_, 0, none⟩)) ∧ IsS173 w0 w' g_ r1 r2 r3 ∧ Below w0.heap.size w0 w' ∧ Below w.heap.size w w' := by
 have hu173 := Try.underlying173
 have HR0 := Aside0.mk hr0
 have HC0 := Aside0.mk hc0
 clear hr0 hc0
 have HBW := Aside0.mk (Below.refl w.heap.size w)
 have HW0 := Aside0.mk hB.size
 have HB := Aside0.mk hB
 clear hB
 have H : (spec_l1New.l0 k l0 (wrap64 (140873 + (l0.length : Int))) 0) = some (r1, r2, r3) := h
 clear h
 have H' := Aside0.mk H
 clear H
 go_enter Try.func131, Try.ntmps131
 go_wp2
 go_loopg [3, 4] k (fun kq v3 v4 w' => ∃ (x3_1 : Int) (x4_1 : Int), v3 = .int .i64 x3_1 ∧ v4 = .int .i64 x4_1 ∧ Aside0 (spec_l1New.l0 kq l0 x3_1 x4_1 = some (r1, r2, r3)) ∧ Aside0 (kq ≤ k) ∧ Aside0 (Below w.heap.size w w') ∧ Aside0 (Below w0.heap.size w0 w'))
 case atStart => exact ⟨(wrap64 (140873 + (l0.length : Int))), (0), (by first | rfl | (simp; done) | (simp [*]; done)), (by first | rfl | (simp; done) | (simp [*]; done)), H', ⟨Nat.le_refl _⟩, ⟨by repeat (first | (with_reducible first | exact HBW.out | apply ba_ | apply bn_ | apply bd_) | exact HBW.out)⟩, ⟨by exact hs_ HB.out⟩⟩
 case round =>
  clear H'
  try clear c1
  obtain ⟨x3_1, x4_1, rfl, rfl, HA, HK1, HBW, HB⟩ := hrel
  cases gk with
  | zero => exact absurd HA.out (by simp [spec_l1New.l0])
  | succ k1 =>
   have H := HA.out
   clear HA
   simp only [spec_l1New.l0] at H
   by_cases c2 : x4_1 < (l0.length : Int)
   ·
    rw [if_pos c2] at H
    have c2b0 := decide_eq_true c2
    clear c2
    by_cases c3 : x4_1 < 4000
    ·
     rw [if_pos c3] at H
     have c3b0 := decide_eq_true c3
     clear c3
     by_cases c4 : 0 ≤ x4_1
     ·
      rw [if_pos c4] at H
      have c4b0 := decide_eq_true c4
      clear c4
      have H' := Aside0.mk H
      clear H
      have p1588 : 0 ≤ (x4_1 : Int) := of_decide_eq_true (by with_reducible assumption)
      have q1588 : x4_1 < (l0.length : Int) := of_decide_eq_true (by with_reducible assumption)
      obtain ⟨ad1588, e1588, hx1588_0⟩ := Kd.at_int HR0.out x4_1 p1588 q1588
      cases e1588
      replace hx1588_0 := pw_cell_below HB.out hx1588_0
      replace p1588 := eq_true p1588
      replace q1588 := eq_true q1588
      go_wp2
      go_roundg k1
      case measure => have := HK1.out; omega
      case rel => exact ⟨(Go.bits .and .i64 (wrap64 ((wrap64 ((wrap64 (x3_1 * 137)) + (wrap64 (rd l0 x4_1)))) + 11)) 1073741823), (wrap64 (x4_1 + 1)), (by first | rfl | (simp; done) | (simp [*]; done)), (by first | rfl | (simp; done) | (simp [*]; done)), H', ⟨by have := HK1.out; omega⟩, ⟨by repeat (first | (with_reducible first | exact HBW.out | apply ba_ | apply bn_ | apply bd_) | exact HBW.out)⟩, ⟨by exact hs_ HB.out⟩⟩
     rw [if_neg c4] at H
     exact absurd H (by simp)
    rw [if_neg c3] at H
    have c3b0 : decide (x4_1 < 4000) = false := decide_eq_false c3
    clear c3
    simp only [Option.some.injEq, Prod.mk.injEq] at H
    obtain ⟨rfl, rfl, rfl⟩ := H
    go_wp2_with (first | ((with_reducible refine gd_ 31 rfl ?_); refine bv_ 31 #[.slice A0 l0.length c0, .int .i64 0, .int .i64 x3_1] 173 ?_; intro gb1589 hg w5 hbox hb; replace HB := st_ HB hb; have BK1589 := Aside0.mk (hbox); have GW1589 := Aside0.mk ((by rw [hg]; exact (below_size (by repeat (first | (with_reducible first | exact HBW.out | apply ba_ | apply bn_ | apply bd_) | exact HBW.out))) : w.heap.size ≤ gb1589)); replace HBW := Aside0.mk (below_step HBW.out hb); have GE1589 := Ge_.mk (Nat.le_trans HW0.out GW1589.out); clear hb hbox hg))
    go_ret
    exact ⟨_, rfl, (show IsS173 w0 _ gb1589 l0 0 x3_1 from ⟨_, _, by (with_reducible repeat (first | refine kn_ ?_ _ | refine kd_ ?_ | refine ka_ ?_ _)); exact BK1589.out, GE1589.out, HR0.out⟩), by exact hs_ HB.out, by repeat (first | (with_reducible first | exact HBW.out | apply ba_ | apply bn_ | apply bd_ | apply bs_ GW1589) | exact HBW.out)⟩
   rw [if_neg c2] at H
   have c2b0 : decide (x4_1 < (l0.length : Int)) = false := decide_eq_false c2
   clear c2
   simp only [Option.some.injEq, Prod.mk.injEq] at H
   obtain ⟨rfl, rfl, rfl⟩ := H
   go_wp2_with (first | ((with_reducible refine gd_ 31 rfl ?_); refine bv_ 31 #[.slice A0 l0.length c0, .int .i64 0, .int .i64 x3_1] 173 ?_; intro gb1590 hg w6 hbox hb; replace HB := st_ HB hb; have BK1590 := Aside0.mk (hbox); have GW1590 := Aside0.mk ((by rw [hg]; exact (below_size (by repeat (first | (with_reducible first | exact HBW.out | apply ba_ | apply bn_ | apply bd_) | exact HBW.out))) : w.heap.size ≤ gb1590)); replace HBW := Aside0.mk (below_step HBW.out hb); have GE1590 := Ge_.mk (Nat.le_trans HW0.out GW1590.out); clear hb hbox hg))
   go_ret
   exact ⟨_, rfl, (show IsS173 w0 _ gb1590 l0 0 x3_1 from ⟨_, _, by (with_reducible repeat (first | refine kn_ ?_ _ | refine kd_ ?_ | refine ka_ ?_ _)); exact BK1590.out, GE1590.out, HR0.out⟩), by exact hs_ HB.out, by repeat (first | (with_reducible first | exact HBW.out | apply ba_ | apply bn_ | apply bd_ | apply bs_ GW1590) | exact HBW.out)⟩
def spec_l1Byte.f (s0_0 : List Int) (s0_1 : Int) (s0_2 : Int) : Option (Int × Int × Int) := if s0_1 < (s0_0.length : Int) then (if 0 ≤ s0_1 then (some (Go.bits .and .i64 (wrap64 ((Go.bits .and .i64 (Go.bits .xor .i64 ((wrap64 ((wrap64 (s0_2 * 6364136223846793005)) + 1442695040888963407)) / 8589934592) ((wrap64 ((wrap64 (s0_2 * 6364136223846793005)) + 1442695040888963407)) / 140737488355328)) 255) + (wrap64 (rd s0_0 s0_1)))) 255, wrap64 (s0_1 + 1), wrap64 ((wrap64 (s0_2 * 6364136223846793005)) + 1442695040888963407))) else (none)) else (some (Go.bits .and .i64 (Go.bits .xor .i64 ((wrap64 ((wrap64 (s0_2 * 6364136223846793005)) + 1442695040888963407)) / 8589934592) ((wrap64 ((wrap64 (s0_2 * 6364136223846793005)) + 1442695040888963407)) / 140737488355328)) 255, s0_1, wrap64 ((wrap64 (s0_2 * 6364136223846793005)) + 1442695040888963407)))
theorem spec_l1Byte.calls (g : Nat) (s0_0 : List Int) (s0_1 : Int) (s0_2 : Int) (r1 : Int) (r2 : Int) (r3 : Int) (w0 w : World) (hI : IsS173 w0 w g s0_0 s0_1 s0_2) (hB : Below w0.heap.size w0 w) (h : spec_l1Byte.f s0_0 s0_1 s0_2 = some (r1, r2, r3)) :
  Calls Try.prog 163 #[.pointer (some ⟨g, 0, none⟩)] w fun e w' => e = .returned (.int .i64 r1) ∧ IsS173 w0 w' g s0_0 r2 r3 ∧ Below w0.heap.size w0 w' ∧ KeepBut w w' g none := by
 have HI0 := Aside0.mk hI
 have HK := Aside0.mk (KeepBut.refl w g none)
 have HL := Aside0.mk hB.size
 clear hI
 have HW0 := Aside0.mk hB.size
 have HB := Aside0.mk hB
 clear hB
 have H : (if s0_1 < (s0_0.length : Int) then (if 0 ≤ s0_1 then (some (Go.bits .and .i64 (wrap64 ((Go.bits .and .i64 (Go.bits .xor .i64 ((wrap64 ((wrap64 (s0_2 * 6364136223846793005)) + 1442695040888963407)) / 8589934592) ((wrap64 ((wrap64 (s0_2 * 6364136223846793005)) + 1442695040888963407)) / 140737488355328)) 255) + (wrap64 (rd s0_0 s0_1)))) 255, wrap64 (s0_1 + 1), wrap64 ((wrap64 (s0_2 * 6364136223846793005)) + 1442695040888963407))) else (none)) else (some (Go.bits .and .i64 (Go.bits .xor .i64 ((wrap64 ((wrap64 (s0_2 * 6364136223846793005)) + 1442695040888963407)) / 8589934592) ((wrap64 ((wrap64 (s0_2 * 6364136223846793005)) + 1442695040888963407)) / 140737488355328)) 255, s0_1, wrap64 ((wrap64 (s0_2 * 6364136223846793005)) + 1442695040888963407)))) = some (r1, r2, r3) := h
 clear h
 by_cases c2 : s0_1 < (s0_0.length : Int)
 ·
  rw [if_pos c2] at H
  have c2b0 := decide_eq_true c2
  clear c2
  by_cases c3 : 0 ≤ s0_1
  ·
   rw [if_pos c3] at H
   have c3b0 := decide_eq_true c3
   clear c3
   simp only [Option.some.injEq, Prod.mk.injEq] at H
   obtain ⟨rfl, rfl, rfl⟩ := H
   obtain ⟨ASz4_0, cSz4_0, HGz4, hgz4, HSz4_0⟩ := HI0.out
   have z4_0 := cellS173_0 HGz4
   have z4_1 := cellS173_1 HGz4
   have z4_2 := cellS173_2 HGz4
   have y4_1 := blk_frozen HGz4 1
   have y4_2 := blk_frozen HGz4 2
   clear HGz4 hgz4
   have p1591 : 0 ≤ (s0_1 : Int) := of_decide_eq_true (by with_reducible assumption)
   have q1591 : s0_1 < (s0_0.length : Int) := of_decide_eq_true (by with_reducible assumption)
   obtain ⟨ad1591, e1591, hx1591_0⟩ := Kd.at_int HSz4_0 s0_1 p1591 q1591
   cases e1591
   have hn1591_0 : ad1591.block ≠ g := Nat.ne_of_lt (Nat.lt_of_lt_of_le (by have := World.block_lt_of_cell? _ _ hx1591_0; first | rwa [add_block] at this | exact this) (IsS173.ge HI0.out))
   replace hx1591_0 := pw_cell_below HB.out hx1591_0
   replace hx1591_0 := (cell_far (p := ⟨g, 2, none⟩) (by first | (rw [add_block]; exact hn1591_0) | (show (Addr.add _ _).block ≠ _; rw [add_block]; exact hn1591_0) | exact hn1591_0) (.int .i64 (wrap64 ((wrap64 (s0_2 * 6364136223846793005)) + 1442695040888963407)))).trans hx1591_0
   (try have hy1591_0 := fun (n_ : Nat) => (show (((w.drewN n_).setCell ⟨g, 2, none⟩ (.int .i64 (wrap64 ((wrap64 (s0_2 * 6364136223846793005)) + 1442695040888963407))))).cell? _ = some _ from hx1591_0))
   clear hn1591_0
   replace p1591 := eq_true p1591
   replace q1591 := eq_true q1591
   go_enter Try.func163, Try.ntmps163
   go_wp2
   repeat (go_quiet (fail); try go_wp2)
   go_ret
   exact an_ ⟨by repeat (first | (with_reducible first | exact HI0.out | apply IsS173.alloc | apply IsS173.drewN | apply IsS173.drew | apply IsS173.set_1 | apply IsS173.set_2) | exact HI0.out), by repeat (first | (with_reducible first | exact HB.out | apply ba_ | apply bn_ | apply bd_ | refine below_set ?_ (IsS173.ge HI0.out)) | exact HB.out), by repeat (first | (with_reducible first | exact HK.out | apply KeepBut.set_ | apply keep_drewN | apply keep_drew | apply keep_alloc) | exact HK.out)⟩
  rw [if_neg c3] at H
  exact absurd H (by simp)
 rw [if_neg c2] at H
 have c2b0 : decide (s0_1 < (s0_0.length : Int)) = false := decide_eq_false c2
 clear c2
 simp only [Option.some.injEq, Prod.mk.injEq] at H
 obtain ⟨rfl, rfl, rfl⟩ := H
 obtain ⟨ASz5_0, cSz5_0, HGz5, hgz5, HSz5_0⟩ := HI0.out
 have z5_0 := cellS173_0 HGz5
 have z5_1 := cellS173_1 HGz5
 have z5_2 := cellS173_2 HGz5
 have y5_1 := blk_frozen HGz5 1
 have y5_2 := blk_frozen HGz5 2
 clear HGz5 hgz5
 go_enter Try.func163, Try.ntmps163
 go_wp2
 repeat (go_quiet (fail); try go_wp2)
 go_ret
 exact an_ ⟨by repeat (first | (with_reducible first | exact HI0.out | apply IsS173.alloc | apply IsS173.drewN | apply IsS173.drew | apply IsS173.set_1 | apply IsS173.set_2) | exact HI0.out), by repeat (first | (with_reducible first | exact HB.out | apply ba_ | apply bn_ | apply bd_ | refine below_set ?_ (IsS173.ge HI0.out)) | exact HB.out), by repeat (first | (with_reducible first | exact HK.out | apply KeepBut.set_ | apply keep_drewN | apply keep_drew | apply keep_alloc) | exact HK.out)⟩
def spec_l1Below.f (s0_0 : List Int) (s0_1 : Int) (s0_2 : Int) (a1 : Int) : Option (Int × Int × Int) := if a1 ≤ 0 then (some (0, s0_1, s0_2)) else (if a1 ≤ 256 then ((spec_l1Byte.f s0_0 s0_1 s0_2).bind fun bt1592 => (if a1 = 0 then (none) else (some (Int.tmod bt1592.1 a1, bt1592.2.1, bt1592.2.2)))) else ((spec_l1Byte.f s0_0 s0_1 s0_2).bind fun bt1595 => ((spec_l1Byte.f s0_0 bt1595.2.1 bt1595.2.2).bind fun bt1598 => ((spec_l1Byte.f s0_0 bt1598.2.1 bt1598.2.2).bind fun bt1601 => (if a1 = 0 then (none) else (some (Int.tmod (wrap64 ((wrap64 ((wrap64 (bt1595.1 * 65536)) + (wrap64 (bt1598.1 * 256)))) + bt1601.1)) a1, bt1601.2.1, bt1601.2.2)))))))
theorem spec_l1Below.calls (g : Nat) (s0_0 : List Int) (s0_1 : Int) (s0_2 : Int) (a1 : Int) (r1 : Int) (r2 : Int) (r3 : Int) (w0 w : World) (hI : IsS173 w0 w g s0_0 s0_1 s0_2) (hB : Below w0.heap.size w0 w) (h : spec_l1Below.f s0_0 s0_1 s0_2 a1 = some (r1, r2, r3)) :
  Calls Try.prog 137 #[.pointer (some ⟨g, 0, none⟩), .int .i64 a1] w fun e w' => e = .returned (.int .i64 r1) ∧ IsS173 w0 w' g s0_0 r2 r3 ∧ Below w0.heap.size w0 w' ∧ KeepBut w w' g none := by
 have HI0 := Aside0.mk hI
 have HK := Aside0.mk (KeepBut.refl w g none)
 have HL := Aside0.mk hB.size
 clear hI
 have HW0 := Aside0.mk hB.size
 have HB := Aside0.mk hB
 clear hB
 have H : (if a1 ≤ 0 then (some (0, s0_1, s0_2)) else (if a1 ≤ 256 then ((spec_l1Byte.f s0_0 s0_1 s0_2).bind fun bt1592 => (if a1 = 0 then (none) else (some (Int.tmod bt1592.1 a1, bt1592.2.1, bt1592.2.2)))) else ((spec_l1Byte.f s0_0 s0_1 s0_2).bind fun bt1595 => ((spec_l1Byte.f s0_0 bt1595.2.1 bt1595.2.2).bind fun bt1598 => ((spec_l1Byte.f s0_0 bt1598.2.1 bt1598.2.2).bind fun bt1601 => (if a1 = 0 then (none) else (some (Int.tmod (wrap64 ((wrap64 ((wrap64 (bt1595.1 * 65536)) + (wrap64 (bt1598.1 * 256)))) + bt1601.1)) a1, bt1601.2.1, bt1601.2.2)))))))) = some (r1, r2, r3) := h
 clear h
 by_cases c3 : a1 ≤ 0
 ·
  rw [if_pos c3] at H
  have c3b0 := decide_eq_true c3
  clear c3
  simp only [Option.some.injEq, Prod.mk.injEq] at H
  obtain ⟨rfl, rfl, rfl⟩ := H
  go_enter Try.func137, Try.ntmps137
  go_wp2
  go_ret
  exact an_ ⟨by repeat (first | (with_reducible first | exact HI0.out | apply IsS173.alloc | apply IsS173.drewN | apply IsS173.drew | apply IsS173.set_1 | apply IsS173.set_2) | exact HI0.out), by repeat (first | (with_reducible first | exact HB.out | apply ba_ | apply bn_ | apply bd_ | refine below_set ?_ (IsS173.ge HI0.out)) | exact HB.out), by repeat (first | (with_reducible first | exact HK.out | apply KeepBut.set_ | apply keep_drewN | apply keep_drew | apply keep_alloc) | exact HK.out)⟩
 rw [if_neg c3] at H
 have c3b0 : decide (a1 ≤ 0) = false := decide_eq_false c3
 clear c3
 by_cases c4 : a1 ≤ 256
 ·
  rw [if_pos c4] at H
  have c4b0 := decide_eq_true c4
  clear c4
  replace H := Option.bind_eq_some_iff.mp H
  obtain ⟨⟨t1592, t1593, t1594⟩, A50, H⟩ := H
  have A5 := Aside0.mk A50
  clear A50
  by_cases c6 : a1 = 0
  ·
   rw [if_pos c6] at H
   exact absurd H (by simp)
  rw [if_neg c6] at H
  have c6b0 : (a1 == 0) = false := beq_eq_false_iff_ne.mpr c6
  have c6b1 : (a1 != 0) = true := bne_iff_ne.mpr c6
  simp only [Option.some.injEq, Prod.mk.injEq] at H
  obtain ⟨rfl, rfl, rfl⟩ := H
  go_enter Try.func137, Try.ntmps137
  go_wp2_with (first | ((with_reducible refine gate_callee (f := 163) rfl ?_); refine gl_ (some 13) Try.func163 #[.pointer (some ⟨g, 0, none⟩)] ?_; (with_reducible refine (spec_l1Byte.calls g s0_0 s0_1 s0_2 t1592 t1593 t1594 w0 _ ?side1 ?side2 A5.out).mono ?_); (case side1 => repeat (first | (with_reducible first | exact HI0.out | apply IsS173.alloc | apply IsS173.drewN | apply IsS173.drew | apply IsS173.set_1 | apply IsS173.set_2) | exact HI0.out)); (case side2 => repeat (first | (with_reducible first | exact HB.out | apply ba_ | apply bn_ | apply bd_ | refine below_set ?_ (IsS173.ge HI0.out)) | exact HB.out)); rintro e w7 ⟨rfl, hi, hb, hk⟩; refine ⟨_, rfl, ?_⟩; replace HK := Aside0.mk (KeepBut.trans (by repeat (first | (with_reducible first | exact HK.out | apply KeepBut.set_ | apply keep_drewN | apply keep_drew | apply keep_alloc) | exact HK.out)) hk (.inl rfl)); replace HB := Aside0.mk (hb); replace HI0 := Aside0.mk (hi); (try clear hb); (try clear hk); (try clear hi)))
  go_ret
  exact an_ ⟨by repeat (first | (with_reducible first | exact HI0.out | apply IsS173.alloc | apply IsS173.drewN | apply IsS173.drew | apply IsS173.set_1 | apply IsS173.set_2) | exact HI0.out), by repeat (first | (with_reducible first | exact HB.out | apply ba_ | apply bn_ | apply bd_ | refine below_set ?_ (IsS173.ge HI0.out)) | exact HB.out), by repeat (first | (with_reducible first | exact HK.out | apply KeepBut.set_ | apply keep_drewN | apply keep_drew | apply keep_alloc) | exact HK.out)⟩
 rw [if_neg c4] at H
 have c4b0 : decide (a1 ≤ 256) = false := decide_eq_false c4
 clear c4
 replace H := Option.bind_eq_some_iff.mp H
 obtain ⟨⟨t1595, t1596, t1597⟩, A80, H⟩ := H
 have A8 := Aside0.mk A80
 clear A80
 replace H := Option.bind_eq_some_iff.mp H
 obtain ⟨⟨t1598, t1599, t1600⟩, A90, H⟩ := H
 have A9 := Aside0.mk A90
 clear A90
 replace H := Option.bind_eq_some_iff.mp H
 obtain ⟨⟨t1601, t1602, t1603⟩, A100, H⟩ := H
 have A10 := Aside0.mk A100
 clear A100
 by_cases c11 : a1 = 0
 ·
  rw [if_pos c11] at H
  exact absurd H (by simp)
 rw [if_neg c11] at H
 have c11b0 : (a1 == 0) = false := beq_eq_false_iff_ne.mpr c11
 have c11b1 : (a1 != 0) = true := bne_iff_ne.mpr c11
 simp only [Option.some.injEq, Prod.mk.injEq] at H
 obtain ⟨rfl, rfl, rfl⟩ := H
 go_enter Try.func137, Try.ntmps137
 go_wp2_with (first | ((with_reducible refine gate_callee (f := 163) rfl ?_); refine gl_ (some 17) Try.func163 #[.pointer (some ⟨g, 0, none⟩)] ?_; (with_reducible refine (spec_l1Byte.calls g s0_0 s0_1 s0_2 t1595 t1596 t1597 w0 _ ?side1 ?side2 A8.out).mono ?_); (case side1 => repeat (first | (with_reducible first | exact HI0.out | apply IsS173.alloc | apply IsS173.drewN | apply IsS173.drew | apply IsS173.set_1 | apply IsS173.set_2) | exact HI0.out)); (case side2 => repeat (first | (with_reducible first | exact HB.out | apply ba_ | apply bn_ | apply bd_ | refine below_set ?_ (IsS173.ge HI0.out)) | exact HB.out)); rintro e w12 ⟨rfl, hi, hb, hk⟩; refine ⟨_, rfl, ?_⟩; replace HK := Aside0.mk (KeepBut.trans (by repeat (first | (with_reducible first | exact HK.out | apply KeepBut.set_ | apply keep_drewN | apply keep_drew | apply keep_alloc) | exact HK.out)) hk (.inl rfl)); replace HB := Aside0.mk (hb); replace HI0 := Aside0.mk (hi); (try clear hb); (try clear hk); (try clear hi)) | ((with_reducible refine gate_callee (f := 163) rfl ?_); refine gl_ (some 19) Try.func163 #[.pointer (some ⟨g, 0, none⟩)] ?_; (with_reducible refine (spec_l1Byte.calls g s0_0 t1596 t1597 t1598 t1599 t1600 w0 _ ?side1 ?side2 A9.out).mono ?_); (case side1 => repeat (first | (with_reducible first | exact HI0.out | apply IsS173.alloc | apply IsS173.drewN | apply IsS173.drew | apply IsS173.set_1 | apply IsS173.set_2) | exact HI0.out)); (case side2 => repeat (first | (with_reducible first | exact HB.out | apply ba_ | apply bn_ | apply bd_ | refine below_set ?_ (IsS173.ge HI0.out)) | exact HB.out)); rintro e w13 ⟨rfl, hi, hb, hk⟩; refine ⟨_, rfl, ?_⟩; replace HK := Aside0.mk (KeepBut.trans (by repeat (first | (with_reducible first | exact HK.out | apply KeepBut.set_ | apply keep_drewN | apply keep_drew | apply keep_alloc) | exact HK.out)) hk (.inl rfl)); replace HB := Aside0.mk (hb); replace HI0 := Aside0.mk (hi); (try clear hb); (try clear hk); (try clear hi)) | ((with_reducible refine gate_callee (f := 163) rfl ?_); refine gl_ (some 21) Try.func163 #[.pointer (some ⟨g, 0, none⟩)] ?_; (with_reducible refine (spec_l1Byte.calls g s0_0 t1599 t1600 t1601 t1602 t1603 w0 _ ?side1 ?side2 A10.out).mono ?_); (case side1 => repeat (first | (with_reducible first | exact HI0.out | apply IsS173.alloc | apply IsS173.drewN | apply IsS173.drew | apply IsS173.set_1 | apply IsS173.set_2) | exact HI0.out)); (case side2 => repeat (first | (with_reducible first | exact HB.out | apply ba_ | apply bn_ | apply bd_ | refine below_set ?_ (IsS173.ge HI0.out)) | exact HB.out)); rintro e w14 ⟨rfl, hi, hb, hk⟩; refine ⟨_, rfl, ?_⟩; replace HK := Aside0.mk (KeepBut.trans (by repeat (first | (with_reducible first | exact HK.out | apply KeepBut.set_ | apply keep_drewN | apply keep_drew | apply keep_alloc) | exact HK.out)) hk (.inl rfl)); replace HB := Aside0.mk (hb); replace HI0 := Aside0.mk (hi); (try clear hb); (try clear hk); (try clear hi)))
 go_ret
 exact an_ ⟨by repeat (first | (with_reducible first | exact HI0.out | apply IsS173.alloc | apply IsS173.drewN | apply IsS173.drew | apply IsS173.set_1 | apply IsS173.set_2) | exact HI0.out), by repeat (first | (with_reducible first | exact HB.out | apply ba_ | apply bn_ | apply bd_ | refine below_set ?_ (IsS173.ge HI0.out)) | exact HB.out), by repeat (first | (with_reducible first | exact HK.out | apply KeepBut.set_ | apply keep_drewN | apply keep_drew | apply keep_alloc) | exact HK.out)⟩
def spec_l1Once.f (s0_0 : List Int) (s0_1 : Int) (s0_2 : Int) (a1 : Int) : Option (Bool × Int × Int) := (spec_l1Below.f s0_0 s0_1 s0_2 a1).bind fun bt1604 => (some ((bt1604.1 == 0), bt1604.2.1, bt1604.2.2))
theorem spec_l1Once.calls (g : Nat) (s0_0 : List Int) (s0_1 : Int) (s0_2 : Int) (a1 : Int) (r1 : Bool) (r2 : Int) (r3 : Int) (w0 w : World) (hI : IsS173 w0 w g s0_0 s0_1 s0_2) (hB : Below w0.heap.size w0 w) (h : spec_l1Once.f s0_0 s0_1 s0_2 a1 = some (r1, r2, r3)) :
  Calls Try.prog 136 #[.pointer (some ⟨g, 0, none⟩), .int .i64 a1] w fun e w' => e = .returned (.bool r1) ∧ IsS173 w0 w' g s0_0 r2 r3 ∧ Below w0.heap.size w0 w' ∧ KeepBut w w' g none := by
 have HI0 := Aside0.mk hI
 have HK := Aside0.mk (KeepBut.refl w g none)
 have HL := Aside0.mk hB.size
 clear hI
 have HW0 := Aside0.mk hB.size
 have HB := Aside0.mk hB
 clear hB
 have H : ((spec_l1Below.f s0_0 s0_1 s0_2 a1).bind fun bt1604 => (some ((bt1604.1 == 0), bt1604.2.1, bt1604.2.2))) = some (r1, r2, r3) := h
 clear h
 replace H := Option.bind_eq_some_iff.mp H
 obtain ⟨⟨t1604, t1605, t1606⟩, A30, H⟩ := H
 have A3 := Aside0.mk A30
 clear A30
 simp only [Option.some.injEq, Prod.mk.injEq] at H
 obtain ⟨rfl, rfl, rfl⟩ := H
 go_enter Try.func136, Try.ntmps136
 go_wp2_with (first | ((with_reducible refine gate_callee (f := 137) rfl ?_); refine gl_ (some 7) Try.func137 #[.pointer (some ⟨g, 0, none⟩), .int .i64 a1] ?_; (with_reducible refine (spec_l1Below.calls g s0_0 s0_1 s0_2 a1 t1604 t1605 t1606 w0 _ ?side1 ?side2 A3.out).mono ?_); (case side1 => repeat (first | (with_reducible first | exact HI0.out | apply IsS173.alloc | apply IsS173.drewN | apply IsS173.drew | apply IsS173.set_1 | apply IsS173.set_2) | exact HI0.out)); (case side2 => repeat (first | (with_reducible first | exact HB.out | apply ba_ | apply bn_ | apply bd_ | refine below_set ?_ (IsS173.ge HI0.out)) | exact HB.out)); rintro e w4 ⟨rfl, hi, hb, hk⟩; refine ⟨_, rfl, ?_⟩; replace HK := Aside0.mk (KeepBut.trans (by repeat (first | (with_reducible first | exact HK.out | apply KeepBut.set_ | apply keep_drewN | apply keep_drew | apply keep_alloc) | exact HK.out)) hk (.inl rfl)); replace HB := Aside0.mk (hb); replace HI0 := Aside0.mk (hi); (try clear hb); (try clear hk); (try clear hi)))
 go_ret
 exact an_ ⟨by repeat (first | (with_reducible first | exact HI0.out | apply IsS173.alloc | apply IsS173.drewN | apply IsS173.drew | apply IsS173.set_1 | apply IsS173.set_2) | exact HI0.out), by repeat (first | (with_reducible first | exact HB.out | apply ba_ | apply bn_ | apply bd_ | refine below_set ?_ (IsS173.ge HI0.out)) | exact HB.out), by repeat (first | (with_reducible first | exact HK.out | apply KeepBut.set_ | apply keep_drewN | apply keep_drew | apply keep_alloc) | exact HK.out)⟩
def spec_l1Str.f (s0_0 : List Int) (s0_1 : Int) (s0_2 : Int) (l1 : List ByteArray) : Option (ByteArray × Int × Int) := (spec_l1Below.f s0_0 s0_1 s0_2 (l1.length : Int)).bind fun bt1607 => (if 0 ≤ bt1607.1 then (if bt1607.1 < (l1.length : Int) then (some (rdOf ByteArray.empty l1 bt1607.1, bt1607.2.1, bt1607.2.2)) else (none)) else (none))
theorem spec_l1Str.calls (g : Nat) (s0_0 : List Int) (s0_1 : Int) (s0_2 : Int) (A1 : Option Addr) (c1 : Nat) (l1 : List ByteArray) (r1 : ByteArray) (r2 : Int) (r3 : Int) (w0 w : World) (hI : IsS173 w0 w g s0_0 s0_1 s0_2) (hB : Below w0.heap.size w0 w) (hr1 : Kd.C Kd.string w A1 l1.length l1) (hc1 : l1.length ≤ c1) (hf1 : ∀ ad, A1 = some ad → 0 < l1.length → ad.block ≠ g) (h : spec_l1Str.f s0_0 s0_1 s0_2 l1 = some (r1, r2, r3)) :
  Calls Try.prog 174 #[.pointer (some ⟨g, 0, none⟩), .slice A1 l1.length c1] w fun e w' => e = .returned (.string r1) ∧ IsS173 w0 w' g s0_0 r2 r3 ∧ Below w0.heap.size w0 w' ∧ KeepBut w w' g none := by
 have HR1 := Aside0.mk hr1
 have HC1 := Aside0.mk hc1
 clear hr1 hc1
 have HI0 := Aside0.mk hI
 have HK := Aside0.mk (KeepBut.refl w g none)
 have HL := Aside0.mk hB.size
 clear hI
 have HW0 := Aside0.mk hB.size
 have HB := Aside0.mk hB
 clear hB
 have H : ((spec_l1Below.f s0_0 s0_1 s0_2 (l1.length : Int)).bind fun bt1607 => (if 0 ≤ bt1607.1 then (if bt1607.1 < (l1.length : Int) then (some (rdOf ByteArray.empty l1 bt1607.1, bt1607.2.1, bt1607.2.2)) else (none)) else (none))) = some (r1, r2, r3) := h
 clear h
 replace H := Option.bind_eq_some_iff.mp H
 obtain ⟨⟨t1607, t1608, t1609⟩, A30, H⟩ := H
 have A3 := Aside0.mk A30
 clear A30
 by_cases c4 : 0 ≤ t1607
 ·
  rw [if_pos c4] at H
  have c4b0 := decide_eq_true c4
  clear c4
  by_cases c5 : t1607 < (l1.length : Int)
  ·
   rw [if_pos c5] at H
   have c5b0 := decide_eq_true c5
   clear c5
   simp only [Option.some.injEq, Prod.mk.injEq] at H
   obtain ⟨rfl, rfl, rfl⟩ := H
   go_enter Try.func174, Try.ntmps174
   go_wp2_with (first | ((with_reducible refine gate_callee (f := 137) rfl ?_); refine gl_ (some 9) Try.func137 #[.pointer (some ⟨g, 0, none⟩), .int .i64 (l1.length : Int)] ?_; (with_reducible refine (spec_l1Below.calls g s0_0 s0_1 s0_2 (l1.length : Int) t1607 t1608 t1609 w0 _ ?side1 ?side2 A3.out).mono ?_); (case side1 => repeat (first | (with_reducible first | exact HI0.out | apply IsS173.alloc | apply IsS173.drewN | apply IsS173.drew | apply IsS173.set_1 | apply IsS173.set_2) | exact HI0.out)); (case side2 => repeat (first | (with_reducible first | exact HB.out | apply ba_ | apply bn_ | apply bd_ | refine below_set ?_ (IsS173.ge HI0.out)) | exact HB.out)); rintro e w6 ⟨rfl, hi, hb, hk⟩; refine ⟨_, rfl, ?_⟩; replace HK := Aside0.mk (KeepBut.trans (by repeat (first | (with_reducible first | exact HK.out | apply KeepBut.set_ | apply keep_drewN | apply keep_drew | apply keep_alloc) | exact HK.out)) hk (.inl rfl)); replace HB := Aside0.mk (hb); replace HI0 := Aside0.mk (hi); (try clear hb); (try clear hk); (try clear hi); have p1610 : 0 ≤ (t1607 : Int) := of_decide_eq_true (by with_reducible assumption); have q1610 : t1607 < (l1.length : Int) := of_decide_eq_true (by with_reducible assumption); obtain ⟨ad1610, e1610, hx1610_0⟩ := Kd.at_string HR1.out t1607 p1610 q1610; cases e1610; replace hx1610_0 := keep_cell HK.out hx1610_0 (by first | (rw [add_block]; exact hf1 _ rfl (by omega)) | exact hf1 _ rfl (by omega) | exact hf1 ad1610 rfl (by omega)); replace p1610 := eq_true p1610; replace q1610 := eq_true q1610))
   go_ret
   exact an_ ⟨by repeat (first | (with_reducible first | exact HI0.out | apply IsS173.alloc | apply IsS173.drewN | apply IsS173.drew | apply IsS173.set_1 | apply IsS173.set_2) | exact HI0.out), by repeat (first | (with_reducible first | exact HB.out | apply ba_ | apply bn_ | apply bd_ | refine below_set ?_ (IsS173.ge HI0.out)) | exact HB.out), by repeat (first | (with_reducible first | exact HK.out | apply KeepBut.set_ | apply keep_drewN | apply keep_drew | apply keep_alloc) | exact HK.out)⟩
  rw [if_neg c5] at H
  exact absurd H (by simp)
 rw [if_neg c4] at H
 exact absurd H (by simp)
def spec_l2Draw.l0 : Nat → List (S164) → List ByteArray → Int → Int → List Int → Int → Int → Option ((List (S164)) × Int × Int)
 | 0, _, _, _, _, _, _, _ => none
 | k + 1, x3, x11, x12, x13, x1000, x1001, x1002 => if x13 < x12 then (if 0 ≤ x13 then (if x13 < (x11.length : Int) then ((spec_l1Once.f x1000 x1001 x1002 4).bind fun bt1624 => (if bt1624.1 = true then ((spec_l1Str.f x1000 bt1624.2.1 bt1624.2.2 (([(⟨#[49]⟩ : ByteArray), (⟨#[50]⟩ : ByteArray)] : List ByteArray))).bind fun bt1630 => (if x3.length < 4398046511104 then (spec_l2Draw.l0 k (x3 ++ [(⟨rdOf ByteArray.empty x11 x13, bt1630.1⟩ : S164)]) x11 x12 (wrap64 (x13 + 1)) x1000 bt1630.2.1 bt1630.2.2) else (none))) else (spec_l2Draw.l0 k x3 x11 x12 (wrap64 (x13 + 1)) x1000 bt1624.2.1 bt1624.2.2))) else (none)) else (none)) else (some (x3, x1001, x1002))
def spec_l2Draw.f (k : Nat) (s0_0 : List Int) (s0_1 : Int) (s0_2 : Int) : Option ((List (S164)) × Int × Int) := (spec_l1Str.f s0_0 s0_1 s0_2 (([(⟨#[97]⟩ : ByteArray), (⟨#[98]⟩ : ByteArray), (⟨#[99]⟩ : ByteArray)] : List ByteArray))).bind fun bt1614 => ((some (([(⟨#[104, 111, 115, 116]⟩ : ByteArray), (⟨#[115, 101, 118]⟩ : ByteArray), (⟨#[122, 111, 110, 101]⟩ : ByteArray)] : List ByteArray) : List ByteArray)).bind fun y1620 => (spec_l2Draw.l0 k (([(⟨(⟨#[97, 112, 112]⟩ : ByteArray), bt1614.1⟩ : S164)] : List (S164))) y1620 (y1620.length : Int) 0 s0_0 bt1614.2.1 bt1614.2.2))
theorem spec_l2Draw.mono_l : ∀ k, (∀ y0 y1 y2 y3 y4 y5 y6, LeO (spec_l2Draw.l0 k y0 y1 y2 y3 y4 y5 y6) (spec_l2Draw.l0 (k + 1) y0 y1 y2 y3 y4 y5 y6))
 | 0 => fun _ _ _ _ _ _ _ r h => by simp [spec_l2Draw.l0] at h
 | k + 1 => by
  have ih0 := spec_l2Draw.mono_l k
  intro y0 y1 y2 y3 y4 y5 y6
  unfold spec_l2Draw.l0
  repeat' first
  | (with_reducible exact ih0 _ _ _ _ _ _ _)
  | (with_reducible exact LeO.refl _)
  | (with_reducible exact LeO.none _)
  | (with_reducible refine LeO.ite ?_ ?_)
  | (with_reducible refine LeO.bind ?_ (fun _ => ?_))
  | exact ih0 _ _ _ _ _ _ _
theorem spec_l2Draw.mono : ∀ a0 a1 a2 k, LeO (spec_l2Draw.f k a0 a1 a2) (spec_l2Draw.f (k + 1) a0 a1 a2) := by
 intro a0 a1 a2 k
 have ih0 := spec_l2Draw.mono_l k
 unfold spec_l2Draw.f
 repeat' first | (with_reducible first | exact ih0 _ _ _ _ _ _ _ | exact LeO.refl _ | exact LeO.none _ | refine LeO.ite ?_ ?_ | refine LeO.bind ?_ (fun _ => ?_)) | exact ih0 _ _ _ _ _ _ _
theorem spec_l2Draw.calls (k : Nat) (g : Nat) (s0_0 : List Int) (s0_1 : Int) (s0_2 : Int) (r1 : List (S164)) (r2 : Int) (r3 : Int) (w0 w : World) (hI : IsS173 w0 w g s0_0 s0_1 s0_2) (hB : Below w0.heap.size w0 w) (h : spec_l2Draw.f k s0_0 s0_1 s0_2 = some (r1, r2, r3)) :
  Calls Try.prog 160 #[.pointer (some ⟨g, 0, none⟩)] w fun e w' => ∃ v0_ : Value, e = .returned (v0_) ∧ Kd.R k164 164 w' w.heap.size (fun _ => True) v0_ r1 ∧ IsS173 w0 w' g s0_0 r2 r3 ∧ Below w0.heap.size w0 w' ∧ KeepBut w w' g none := by
 have hu164 := Try.underlying164
 have HI0 := Aside0.mk hI
 have HK := Aside0.mk (KeepBut.refl w g none)
 have HL := Aside0.mk hB.size
 clear hI
 have HW0 := Aside0.mk hB.size
 have HB := Aside0.mk hB
 clear hB
 have H : ((spec_l1Str.f s0_0 s0_1 s0_2 (([(⟨#[97]⟩ : ByteArray), (⟨#[98]⟩ : ByteArray), (⟨#[99]⟩ : ByteArray)] : List ByteArray))).bind fun bt1614 => ((some (([(⟨#[104, 111, 115, 116]⟩ : ByteArray), (⟨#[115, 101, 118]⟩ : ByteArray), (⟨#[122, 111, 110, 101]⟩ : ByteArray)] : List ByteArray) : List ByteArray)).bind fun y1620 => (spec_l2Draw.l0 k (([(⟨(⟨#[97, 112, 112]⟩ : ByteArray), bt1614.1⟩ : S164)] : List (S164))) y1620 (y1620.length : Int) 0 s0_0 bt1614.2.1 bt1614.2.2))) = some (r1, r2, r3) := h
 clear h
 obtain ⟨y1611, hy1611⟩ : ∃ y_ : List ByteArray, y_ = (([(⟨#[97]⟩ : ByteArray), (⟨#[98]⟩ : ByteArray), (⟨#[99]⟩ : ByteArray)] : List ByteArray)) := ⟨_, rfl⟩
 replace H : ((spec_l1Str.f s0_0 s0_1 s0_2 y1611).bind fun bt1614 => ((some (([(⟨#[104, 111, 115, 116]⟩ : ByteArray), (⟨#[115, 101, 118]⟩ : ByteArray), (⟨#[122, 111, 110, 101]⟩ : ByteArray)] : List ByteArray) : List ByteArray)).bind fun y1620 => (spec_l2Draw.l0 k (([(⟨(⟨#[97, 112, 112]⟩ : ByteArray), bt1614.1⟩ : S164)] : List (S164))) y1620 (y1620.length : Int) 0 s0_0 bt1614.2.1 bt1614.2.2))) = some (r1, r2, r3) := by first | (rw [hy1611]; with_reducible exact H) | (have H2_ := (Option.bind_some _ _).symm.trans H; rw [hy1611]; with_reducible exact H2_) | (have H2_ := (Option.bind_some _ _).symm.trans H; with_reducible exact H2_) | with_reducible exact H | (rw [hy1611]; exact H) | exact H
 have Ny1611 := Aside0.mk hy1611
 clear hy1611
 replace H := Option.bind_eq_some_iff.mp H
 obtain ⟨⟨t1614, t1615, t1616⟩, A20, H⟩ := H
 have A2 := Aside0.mk A20
 clear A20
 obtain ⟨y1617, hy1617⟩ : ∃ y_ : List (S164), y_ = (([(⟨(⟨#[97, 112, 112]⟩ : ByteArray), t1614⟩ : S164)] : List (S164))) := ⟨_, rfl⟩
 replace H : ((some (([(⟨#[104, 111, 115, 116]⟩ : ByteArray), (⟨#[115, 101, 118]⟩ : ByteArray), (⟨#[122, 111, 110, 101]⟩ : ByteArray)] : List ByteArray) : List ByteArray)).bind fun y1620 => (spec_l2Draw.l0 k y1617 y1620 (y1620.length : Int) 0 s0_0 t1615 t1616)) = some (r1, r2, r3) := by first | (rw [hy1617]; with_reducible exact H) | (have H2_ := (Option.bind_some _ _).symm.trans H; rw [hy1617]; with_reducible exact H2_) | (have H2_ := (Option.bind_some _ _).symm.trans H; with_reducible exact H2_) | with_reducible exact H | (rw [hy1617]; exact H) | exact H
 have Ny1617 := Aside0.mk hy1617
 clear hy1617
 obtain ⟨y1620, hy1620⟩ : ∃ y_ : List ByteArray, y_ = (([(⟨#[104, 111, 115, 116]⟩ : ByteArray), (⟨#[115, 101, 118]⟩ : ByteArray), (⟨#[122, 111, 110, 101]⟩ : ByteArray)] : List ByteArray)) := ⟨_, rfl⟩
 replace H : (spec_l2Draw.l0 k y1617 y1620 (y1620.length : Int) 0 s0_0 t1615 t1616) = some (r1, r2, r3) := by first | (rw [hy1620]; with_reducible exact H) | (have H2_ := (Option.bind_some _ _).symm.trans H; rw [hy1620]; with_reducible exact H2_) | (have H2_ := (Option.bind_some _ _).symm.trans H; with_reducible exact H2_) | with_reducible exact H | (rw [hy1620]; exact H) | exact H
 have Ny1620 := Aside0.mk hy1620
 clear hy1620
 have H' := Aside0.mk H
 clear H
 go_enter Try.func160, Try.ntmps160
 go_wp2_with (first | ((with_reducible refine gd_ 7 rfl ?_); refine Kd.R_lit Kd.string _ 9 ?hg (N := 7) ?hd (xs := ([(⟨#[97]⟩ : ByteArray), (⟨#[98]⟩ : ByteArray), (⟨#[99]⟩ : ByteArray)] : List ByteArray)) (inner := [.string (⟨#[97]⟩ : ByteArray), .string (⟨#[98]⟩ : ByteArray), .string (⟨#[99]⟩ : ByteArray)]) (ok := fun _ => True) (okp := fun _ => True) ?hr ?hp (fun _ hk => hk) trivial (Below.refl _ _) (Nat.le_refl _) (by simp) ?_; (case hd => rfl); (case hg => rfl); (case hr => first | (go_simp; done) | (go_simp; rfl)); (case hp => exact (Reps.one (show Kd.M Kd.string _ _ _ (⟨#[97]⟩ : ByteArray) [.string (⟨#[97]⟩ : ByteArray)] from rfl) (Reps.one (show Kd.M Kd.string _ _ _ (⟨#[98]⟩ : ByteArray) [.string (⟨#[98]⟩ : ByteArray)] from rfl) (Reps.one (show Kd.M Kd.string _ _ _ (⟨#[99]⟩ : ByteArray) [.string (⟨#[99]⟩ : ByteArray)] from rfl) (Reps.none _ _))))); intro v1612 w3 ho4 hb hg_ hnew_; clear hg_ hnew_; (first | rw [← Ny1611.out] at ho4 | (simp only [Int.reduceToNat] at ho4; rw [← Ny1611.out] at ho4)); have HO1613 := Aside0.mk (Kd.R_lower ho4 (keep_size (w := w) (g := g) (row := none) (by repeat (first | (with_reducible first | exact HK.out | apply KeepBut.set_ | apply keep_drewN | apply keep_drew | apply keep_alloc) | exact HK.out)))); have n1_ := Aside0.mk (IsS173.below (by repeat (first | (with_reducible first | exact HI0.out | apply IsS173.alloc | apply IsS173.drewN | apply IsS173.drew | apply IsS173.set_1 | apply IsS173.set_2) | exact HI0.out)) hb); have n2_ := Aside0.mk (KeepBut.trans (by repeat (first | (with_reducible first | exact HK.out | apply KeepBut.set_ | apply keep_drewN | apply keep_drew | apply keep_alloc) | exact HK.out)) (KeepBut.of_below hb g none) (.inl rfl)); have n3_ := Aside0.mk (below_step (by repeat (first | (with_reducible first | exact HB.out | apply ba_ | apply bn_ | apply bd_ | refine below_set ?_ (IsS173.ge HI0.out)) | exact HB.out)) hb); clear HI0 HK HB; have HI0 := n1_; have HK := n2_; have HB := n3_; clear n1_ n2_ n3_; clear hb ho4; obtain ⟨Ao5, co5, eo5⟩ := Kd.R_slice HO1613.out; subst eo5) | ((with_reducible refine gate_callee (f := 174) rfl ?_); refine gl_ (some 8) Try.func174 #[.pointer (some ⟨g, 0, none⟩), .slice Ao5 y1611.length co5] ?_; (with_reducible refine (spec_l1Str.calls g s0_0 s0_1 s0_2 _ _ y1611 t1614 t1615 t1616 w0 _ ?side1 ?side2 ?side3 ?side4 ?side5 A2.out).mono ?_); (case side1 => repeat (first | (with_reducible first | exact HI0.out | apply IsS173.alloc | apply IsS173.drewN | apply IsS173.drew | apply IsS173.set_1 | apply IsS173.set_2) | exact HI0.out)); (case side2 => repeat (first | (with_reducible first | exact HB.out | apply ba_ | apply bn_ | apply bd_ | refine below_set ?_ (IsS173.ge HI0.out)) | exact HB.out)); (case side3 => exact cp_ ((Kd.R_reads' HO1613.out).2.2)); (case side4 => exact (Kd.R_reads' HO1613.out).2.1); (case side5 => exact far_slice (IsS173.own_ne HI0.out HO1613.out (by decide))); rintro e w6 ⟨rfl, hi, hb, hk⟩; refine ⟨_, rfl, ?_⟩; replace HO1613 := Aside0.mk (Kd.R_mono (Kd.R_keep (IsS173.apart (show IsS173 w0 _ g s0_0 s0_1 s0_2 from by repeat (first | (with_reducible first | exact HI0.out | apply IsS173.alloc | apply IsS173.drewN | apply IsS173.drew | apply IsS173.set_1 | apply IsS173.set_2) | exact HI0.out)) (rp_ HO1613.out) (by decide)) hk (fun _ h => h.2)) (fun _ h => h.1)); replace HK := Aside0.mk (KeepBut.trans (by repeat (first | (with_reducible first | exact HK.out | apply KeepBut.set_ | apply keep_drewN | apply keep_drew | apply keep_alloc) | exact HK.out)) hk (.inl rfl)); replace HB := Aside0.mk (hb); replace HI0 := Aside0.mk (hi); (try clear hb); (try clear hk); (try clear hi)) | ((with_reducible refine gd_ 10 rfl ?_); refine Kd.R_lit k164 _ 164 ?hg (N := 10) ?hd (xs := ([(⟨(⟨#[97, 112, 112]⟩ : ByteArray), t1614⟩ : S164)] : List (S164))) (inner := [.string (⟨#[97, 112, 112]⟩ : ByteArray), .string t1614]) (ok := fun _ => True) (okp := fun _ => True) ?hr ?hp (fun _ hk => hk) trivial (Below.refl _ _) (Nat.le_refl _) (by simp) ?_; (case hd => rfl); (case hg => rfl); (case hr => first | (go_simp; done) | (go_simp; rfl)); (case hp => exact (Reps.c2 (show Kd.M k164 _ _ _ (⟨(⟨#[97, 112, 112]⟩ : ByteArray), t1614⟩ : S164) [.string (⟨#[97, 112, 112]⟩ : ByteArray), .string t1614] from (k164_mkM _ _ _ (⟨(⟨#[97, 112, 112]⟩ : ByteArray), t1614⟩ : S164) )) (Reps.none _ _))); intro v1618 w7 ho8 hb hg_ hnew_; clear hg_ hnew_; (first | rw [← Ny1617.out] at ho8 | (simp only [Int.reduceToNat] at ho8; rw [← Ny1617.out] at ho8)); replace HO1613 := Aside0.mk (Kd.R_below (rp_ HO1613.out) hb); have HO1619 := Aside0.mk (Kd.R_lower ho8 (keep_size (w := w) (g := g) (row := none) (by repeat (first | (with_reducible first | exact HK.out | apply KeepBut.set_ | apply keep_drewN | apply keep_drew | apply keep_alloc) | exact HK.out)))); replace HK := Aside0.mk (KeepBut.trans (by repeat (first | (with_reducible first | exact HK.out | apply KeepBut.set_ | apply keep_drewN | apply keep_drew | apply keep_alloc) | exact HK.out)) (KeepBut.of_below hb g none) (.inl rfl)); replace HB := Aside0.mk (below_step (by repeat (first | (with_reducible first | exact HB.out | apply ba_ | apply bn_ | apply bd_ | refine below_set ?_ (IsS173.ge HI0.out)) | exact HB.out)) hb); replace HI0 := Aside0.mk (IsS173.below (by repeat (first | (with_reducible first | exact HI0.out | apply IsS173.alloc | apply IsS173.drewN | apply IsS173.drew | apply IsS173.set_1 | apply IsS173.set_2) | exact HI0.out)) hb); clear hb ho8) | ((with_reducible refine gd_ 11 rfl ?_); refine Kd.R_lit Kd.string _ 9 ?hg (N := 11) ?hd (xs := ([(⟨#[104, 111, 115, 116]⟩ : ByteArray), (⟨#[115, 101, 118]⟩ : ByteArray), (⟨#[122, 111, 110, 101]⟩ : ByteArray)] : List ByteArray)) (inner := [.string (⟨#[104, 111, 115, 116]⟩ : ByteArray), .string (⟨#[115, 101, 118]⟩ : ByteArray), .string (⟨#[122, 111, 110, 101]⟩ : ByteArray)]) (ok := fun _ => True) (okp := fun _ => True) ?hr ?hp (fun _ hk => hk) trivial (Below.refl _ _) (Nat.le_refl _) (by simp) ?_; (case hd => rfl); (case hg => rfl); (case hr => first | (go_simp; done) | (go_simp; rfl)); (case hp => exact (Reps.one (show Kd.M Kd.string _ _ _ (⟨#[104, 111, 115, 116]⟩ : ByteArray) [.string (⟨#[104, 111, 115, 116]⟩ : ByteArray)] from rfl) (Reps.one (show Kd.M Kd.string _ _ _ (⟨#[115, 101, 118]⟩ : ByteArray) [.string (⟨#[115, 101, 118]⟩ : ByteArray)] from rfl) (Reps.one (show Kd.M Kd.string _ _ _ (⟨#[122, 111, 110, 101]⟩ : ByteArray) [.string (⟨#[122, 111, 110, 101]⟩ : ByteArray)] from rfl) (Reps.none _ _))))); intro v1621 w9 ho10 hb hg_ hnew_; clear hg_ hnew_; (first | rw [← Ny1620.out] at ho10 | (simp only [Int.reduceToNat] at ho10; rw [← Ny1620.out] at ho10)); replace HO1619 := Aside0.mk (Kd.R_below (rp_ HO1619.out) hb); have HO1622 := Aside0.mk (Kd.R_lower (Kd.R_new' ho10 (Kd.R_lt (rp_ HO1613.out))) (keep_size (w := w) (g := g) (row := none) (by repeat (first | (with_reducible first | exact HK.out | apply KeepBut.set_ | apply keep_drewN | apply keep_drew | apply keep_alloc) | exact HK.out)))); replace HO1613 := Aside0.mk (Kd.R_elder' (rp_ HO1613.out) (Kd.R_base ho10) hb); replace HK := Aside0.mk (KeepBut.trans (by repeat (first | (with_reducible first | exact HK.out | apply KeepBut.set_ | apply keep_drewN | apply keep_drew | apply keep_alloc) | exact HK.out)) (KeepBut.of_below hb g none) (.inl rfl)); replace HB := Aside0.mk (below_step (by repeat (first | (with_reducible first | exact HB.out | apply ba_ | apply bn_ | apply bd_ | refine below_set ?_ (IsS173.ge HI0.out)) | exact HB.out)) hb); replace HI0 := Aside0.mk (IsS173.below (by repeat (first | (with_reducible first | exact HI0.out | apply IsS173.alloc | apply IsS173.drewN | apply IsS173.drew | apply IsS173.set_1 | apply IsS173.set_2) | exact HI0.out)) hb); clear hb ho10; obtain ⟨Ao11, co11, eo11⟩ := Kd.R_slice HO1622.out; subst eo11))
 go_loopg [3, 13] k (fun kq v3 v13 w' => ∃ (x3_1 : List (S164)) (x13_1 : Int) (x1001_1 : Int) (x1002_1 : Int), v13 = .int .i64 x13_1 ∧ Aside0 (spec_l2Draw.l0 kq x3_1 y1620 (y1620.length : Int) x13_1 s0_0 x1001_1 x1002_1 = some (r1, r2, r3)) ∧ Aside0 (kq ≤ k) ∧ Aside0 (Kd.R k164 164 w' w.heap.size (fun _ => True) v3 x3_1) ∧ Aside0 (Kd.R Kd.string 9 w' w.heap.size (fun _ => True) (.slice Ao11 y1620.length co11) y1620) ∧ Aside0 (IsS173 w0 w' g s0_0 x1001_1 x1002_1) ∧ Aside0 (KeepBut w w' g none) ∧ Aside0 (Below w0.heap.size w0 w'))
 case atStart => exact ⟨(y1617), (0), (t1615), (t1616), (by first | rfl | (simp; done) | (simp [*]; done)), H', ⟨Nat.le_refl _⟩, ⟨by (with_reducible repeat (first | apply Kd.R_alloc | apply Kd.R_drewN | apply Kd.R_drew)); exact HO1619.out⟩, ⟨by (with_reducible repeat (first | apply Kd.R_alloc | apply Kd.R_drewN | apply Kd.R_drew)); exact Kd.R_mono HO1622.out (fun _ hk => trivial)⟩, ⟨by repeat (first | (with_reducible first | exact HI0.out | apply IsS173.alloc | apply IsS173.drewN | apply IsS173.drew | apply IsS173.set_1 | apply IsS173.set_2) | exact HI0.out)⟩, ⟨by repeat (first | (with_reducible first | exact HK.out | apply KeepBut.set_ | apply keep_drewN | apply keep_drew | apply keep_alloc) | exact HK.out)⟩, ⟨by repeat (first | (with_reducible first | exact HB.out | apply ba_ | apply bn_ | apply bd_ | refine below_set ?_ (IsS173.ge HI0.out)) | exact HB.out)⟩⟩
 case round =>
  clear H'
  try clear c1
  try clear c2
  try clear p2
  obtain ⟨x3_1, x13_1, x1001_1, x1002_1, rfl, HA, HK1, HO_3, HO_11, HI0, HK, HB⟩ := hrel
  cases gk with
  | zero => exact absurd HA.out (by simp [spec_l2Draw.l0])
  | succ k1 =>
   have H := HA.out
   clear HA
   simp only [spec_l2Draw.l0] at H
   by_cases c12 : x13_1 < (y1620.length : Int)
   ·
    rw [if_pos c12] at H
    have c12b0 := decide_eq_true c12
    clear c12
    by_cases c13 : 0 ≤ x13_1
    ·
     rw [if_pos c13] at H
     have c13b0 := decide_eq_true c13
     clear c13
     by_cases c14 : x13_1 < (y1620.length : Int)
     ·
      rw [if_pos c14] at H
      have c14b0 := decide_eq_true c14
      clear c14
      replace H := Option.bind_eq_some_iff.mp H
      obtain ⟨⟨t1624, t1625, t1626⟩, A150, H⟩ := H
      have A15 := Aside0.mk A150
      clear A150
      by_cases c16 : t1624 = true
      ·
       subst c16
       rw [if_pos rfl] at H
       obtain ⟨y1627, hy1627⟩ : ∃ y_ : List ByteArray, y_ = (([(⟨#[49]⟩ : ByteArray), (⟨#[50]⟩ : ByteArray)] : List ByteArray)) := ⟨_, rfl⟩
       replace H : ((spec_l1Str.f s0_0 t1625 t1626 y1627).bind fun bt1630 => (if x3_1.length < 4398046511104 then (spec_l2Draw.l0 k1 (x3_1 ++ [(⟨rdOf ByteArray.empty y1620 x13_1, bt1630.1⟩ : S164)]) y1620 (y1620.length : Int) (wrap64 (x13_1 + 1)) s0_0 bt1630.2.1 bt1630.2.2) else (none))) = some (r1, r2, r3) := by first | (rw [hy1627]; with_reducible exact H) | (have H2_ := (Option.bind_some _ _).symm.trans H; rw [hy1627]; with_reducible exact H2_) | (have H2_ := (Option.bind_some _ _).symm.trans H; with_reducible exact H2_) | with_reducible exact H | (rw [hy1627]; exact H) | exact H
       have Ny1627 := Aside0.mk hy1627
       clear hy1627
       replace H := Option.bind_eq_some_iff.mp H
       obtain ⟨⟨t1630, t1631, t1632⟩, A170, H⟩ := H
       have A17 := Aside0.mk A170
       clear A170
       by_cases c18 : x3_1.length < 4398046511104
       ·
        rw [if_pos c18] at H
        have LMc18 := Aside0.mk c18
        clear c18
        obtain ⟨y1633, hy1633⟩ : ∃ y_ : List (S164), y_ = (x3_1 ++ [(⟨rdOf ByteArray.empty y1620 x13_1, t1630⟩ : S164)]) := ⟨_, rfl⟩
        replace H : (spec_l2Draw.l0 k1 y1633 y1620 (y1620.length : Int) (wrap64 (x13_1 + 1)) s0_0 t1631 t1632) = some (r1, r2, r3) := by first | (rw [hy1633]; with_reducible exact H) | (have H2_ := (Option.bind_some _ _).symm.trans H; rw [hy1633]; with_reducible exact H2_) | (have H2_ := (Option.bind_some _ _).symm.trans H; with_reducible exact H2_) | with_reducible exact H | (rw [hy1633]; exact H) | exact H
        have Ny1633 := Aside0.mk hy1633
        clear hy1633
        have H' := Aside0.mk H
        clear H
        have p1623 : 0 ≤ (x13_1 : Int) := of_decide_eq_true (by with_reducible assumption)
        have q1623 : x13_1 < (y1620.length : Int) := of_decide_eq_true (by with_reducible assumption)
        obtain ⟨ad1623, e1623, hx1623_0⟩ := Kd.at_string (Kd.R_reads' HO_11.out).2.2 x13_1 p1623 q1623
        cases e1623
        replace p1623 := eq_true p1623
        replace q1623 := eq_true q1623
        go_wp2_with (first | ((with_reducible refine gate_callee (f := 136) rfl ?_); refine gl_ (some 18) Try.func136 #[.pointer (some ⟨g, 0, none⟩), .int .i64 4] ?_; (with_reducible refine (spec_l1Once.calls g s0_0 x1001_1 x1002_1 4 true t1625 t1626 w0 _ ?side1 ?side2 A15.out).mono ?_); (case side1 => repeat (first | (with_reducible first | exact HI0.out | apply IsS173.alloc | apply IsS173.drewN | apply IsS173.drew | apply IsS173.set_1 | apply IsS173.set_2) | exact HI0.out)); (case side2 => repeat (first | (with_reducible first | exact HB.out | apply ba_ | apply bn_ | apply bd_ | refine below_set ?_ (IsS173.ge HI0.out)) | exact HB.out)); rintro e w19 ⟨rfl, hi, hb, hk⟩; refine ⟨_, rfl, ?_⟩; replace HO_3 := Aside0.mk (Kd.R_mono (Kd.R_keep (IsS173.apart (show IsS173 w0 _ g s0_0 x1001_1 x1002_1 from by repeat (first | (with_reducible first | exact HI0.out | apply IsS173.alloc | apply IsS173.drewN | apply IsS173.drew | apply IsS173.set_1 | apply IsS173.set_2) | exact HI0.out)) (rp_ HO_3.out) (by decide)) hk (fun _ h => h.2)) (fun _ h => h.1)); replace HO_11 := Aside0.mk (Kd.R_mono (Kd.R_keep (IsS173.apart (show IsS173 w0 _ g s0_0 x1001_1 x1002_1 from by repeat (first | (with_reducible first | exact HI0.out | apply IsS173.alloc | apply IsS173.drewN | apply IsS173.drew | apply IsS173.set_1 | apply IsS173.set_2) | exact HI0.out)) (rp_ HO_11.out) (by decide)) hk (fun _ h => h.2)) (fun _ h => h.1)); replace HK := Aside0.mk (KeepBut.trans (by repeat (first | (with_reducible first | exact HK.out | apply KeepBut.set_ | apply keep_drewN | apply keep_drew | apply keep_alloc) | exact HK.out)) hk (.inl rfl)); replace HB := Aside0.mk (hb); replace HI0 := Aside0.mk (hi); (try clear hb); (try clear hk); (try clear hi)) | ((with_reducible refine gd_ 22 rfl ?_); refine Kd.R_lit Kd.string _ 9 ?hg (N := 22) ?hd (xs := ([(⟨#[49]⟩ : ByteArray), (⟨#[50]⟩ : ByteArray)] : List ByteArray)) (inner := [.string (⟨#[49]⟩ : ByteArray), .string (⟨#[50]⟩ : ByteArray)]) (ok := fun _ => True) (okp := fun _ => True) ?hr ?hp (fun _ hk => hk) trivial (Below.refl _ _) (Nat.le_refl _) (by simp) ?_; (case hd => rfl); (case hg => rfl); (case hr => first | (go_simp; done) | (go_simp; rfl)); (case hp => exact (Reps.one (show Kd.M Kd.string _ _ _ (⟨#[49]⟩ : ByteArray) [.string (⟨#[49]⟩ : ByteArray)] from rfl) (Reps.one (show Kd.M Kd.string _ _ _ (⟨#[50]⟩ : ByteArray) [.string (⟨#[50]⟩ : ByteArray)] from rfl) (Reps.none _ _)))); intro v1628 w20 ho21 hb hg_ hnew_; clear hg_ hnew_; (first | rw [← Ny1627.out] at ho21 | (simp only [Int.reduceToNat] at ho21; rw [← Ny1627.out] at ho21)); replace HO_3 := Aside0.mk (Kd.R_below (rp_ HO_3.out) hb); have HO1629 := Aside0.mk (Kd.R_lower (Kd.R_new' ho21 (Kd.R_lt (rp_ HO_11.out))) (keep_size (w := w) (g := g) (row := none) (by repeat (first | (with_reducible first | exact HK.out | apply KeepBut.set_ | apply keep_drewN | apply keep_drew | apply keep_alloc) | exact HK.out)))); replace HO_11 := Aside0.mk (Kd.R_elder' (rp_ HO_11.out) (Kd.R_base ho21) hb); replace HK := Aside0.mk (KeepBut.trans (by repeat (first | (with_reducible first | exact HK.out | apply KeepBut.set_ | apply keep_drewN | apply keep_drew | apply keep_alloc) | exact HK.out)) (KeepBut.of_below hb g none) (.inl rfl)); replace HB := Aside0.mk (below_step (by repeat (first | (with_reducible first | exact HB.out | apply ba_ | apply bn_ | apply bd_ | refine below_set ?_ (IsS173.ge HI0.out)) | exact HB.out)) hb); replace HI0 := Aside0.mk (IsS173.below (by repeat (first | (with_reducible first | exact HI0.out | apply IsS173.alloc | apply IsS173.drewN | apply IsS173.drew | apply IsS173.set_1 | apply IsS173.set_2) | exact HI0.out)) hb); clear hb ho21; obtain ⟨Ao22, co22, eo22⟩ := Kd.R_slice HO1629.out; subst eo22) | ((with_reducible refine gate_callee (f := 174) rfl ?_); refine gl_ (some 23) Try.func174 #[.pointer (some ⟨g, 0, none⟩), .slice Ao22 y1627.length co22] ?_; (with_reducible refine (spec_l1Str.calls g s0_0 t1625 t1626 _ _ y1627 t1630 t1631 t1632 w0 _ ?side1 ?side2 ?side3 ?side4 ?side5 A17.out).mono ?_); (case side1 => repeat (first | (with_reducible first | exact HI0.out | apply IsS173.alloc | apply IsS173.drewN | apply IsS173.drew | apply IsS173.set_1 | apply IsS173.set_2) | exact HI0.out)); (case side2 => repeat (first | (with_reducible first | exact HB.out | apply ba_ | apply bn_ | apply bd_ | refine below_set ?_ (IsS173.ge HI0.out)) | exact HB.out)); (case side3 => exact cp_ ((Kd.R_reads' HO1629.out).2.2)); (case side4 => exact (Kd.R_reads' HO1629.out).2.1); (case side5 => exact far_slice (IsS173.own_ne HI0.out HO1629.out (by decide))); rintro e w23 ⟨rfl, hi, hb, hk⟩; refine ⟨_, rfl, ?_⟩; replace HO_3 := Aside0.mk (Kd.R_mono (Kd.R_keep (IsS173.apart (show IsS173 w0 _ g s0_0 t1625 t1626 from by repeat (first | (with_reducible first | exact HI0.out | apply IsS173.alloc | apply IsS173.drewN | apply IsS173.drew | apply IsS173.set_1 | apply IsS173.set_2) | exact HI0.out)) (rp_ HO_3.out) (by decide)) hk (fun _ h => h.2)) (fun _ h => h.1)); replace HO_11 := Aside0.mk (Kd.R_mono (Kd.R_keep (IsS173.apart (show IsS173 w0 _ g s0_0 t1625 t1626 from by repeat (first | (with_reducible first | exact HI0.out | apply IsS173.alloc | apply IsS173.drewN | apply IsS173.drew | apply IsS173.set_1 | apply IsS173.set_2) | exact HI0.out)) (rp_ HO_11.out) (by decide)) hk (fun _ h => h.2)) (fun _ h => h.1)); replace HO1629 := Aside0.mk (Kd.R_mono (Kd.R_keep (IsS173.apart (show IsS173 w0 _ g s0_0 t1625 t1626 from by repeat (first | (with_reducible first | exact HI0.out | apply IsS173.alloc | apply IsS173.drewN | apply IsS173.drew | apply IsS173.set_1 | apply IsS173.set_2) | exact HI0.out)) (rp_ HO1629.out) (by decide)) hk (fun _ h => h.2)) (fun _ h => h.1)); replace HK := Aside0.mk (KeepBut.trans (by repeat (first | (with_reducible first | exact HK.out | apply KeepBut.set_ | apply keep_drewN | apply keep_drew | apply keep_alloc) | exact HK.out)) hk (.inl rfl)); replace HB := Aside0.mk (hb); replace HI0 := Aside0.mk (hi); (try clear hb); (try clear hk); (try clear hi)) | ((with_reducible refine gate_builtin (b := .append) (xs := #[.tmp 19, .tmp 25]) rfl ?_); at_builtin; refine Kd.R_append k164 w.heap.size rfl (.tmp 19) (.tmp 25) 42 164 (.agg #[(.string ⟨#[]⟩), (.string ⟨#[]⟩)]) 32 rfl Try.underlying42 info164 rfl (by decide) (by omega) u3 x3_1 (⟨rdOf ByteArray.empty y1620 x13_1, t1630⟩ : S164) [.string (rdOf ByteArray.empty y1620 x13_1), .string t1630] (fun _ => True) (fun _ => False) rfl rfl ?aP (fun _ hk => hk.elim) ?aF ?aO (Below.refl _ _) ?aS ?aL ?_; (case aP => exact k164_mkM _ _ _ (⟨rdOf ByteArray.empty y1620 x13_1, t1630⟩ : S164)); (case aF => exact (fun _ _ => trivial)); (case aO => exact (rp_ HO_3.out)); (case aS => exact (keep_size (w := w) (g := g) (row := none) (by repeat (first | (with_reducible first | exact HK.out | apply KeepBut.set_ | apply keep_drewN | apply keep_drew | apply keep_alloc) | exact HK.out)))); (case aL => have := LMc18.out; omega); intro v1634 w24 ho hb hg hat; rw [← Ny1633.out] at ho; replace HO_11 := Aside0.mk (Kd.R_over' (rp_ HO_11.out) (Kd.R_typed (rp_ HO_3.out)) (by decide) hg); replace HO1629 := Aside0.mk (Kd.R_over' (rp_ HO1629.out) (Kd.R_typed (rp_ HO_3.out)) (by decide) hg); replace HB := Aside0.mk (below_weaken (by repeat (first | (with_reducible first | exact HB.out | apply ba_ | apply bn_ | apply bd_ | refine below_set ?_ (IsS173.ge HI0.out)) | exact HB.out)) HL.out hb); replace HI0 := Aside0.mk (IsS173.grown (by repeat (first | (with_reducible first | exact HI0.out | apply IsS173.alloc | apply IsS173.drewN | apply IsS173.drew | apply IsS173.set_1 | apply IsS173.set_2) | exact HI0.out)) hg (IsS173.own_ne HI0.out HO_3.out (by decide))); replace HK := Aside0.mk (KeepBut.trans (by repeat (first | (with_reducible first | exact HK.out | apply KeepBut.set_ | apply keep_drewN | apply keep_drew | apply keep_alloc) | exact HK.out)) (KeepBut.of_grown hg g) (Kd.R_base2 HO_3.out)); have HO1635 := Aside0.mk (ho); clear HO_3; clear ho hb hg hat))
        go_roundg k1
        case measure => have := HK1.out; omega
        case rel => exact ⟨(y1633), (wrap64 (x13_1 + 1)), (t1631), (t1632), (by first | rfl | (simp; done) | (simp [*]; done)), H', ⟨by have := HK1.out; omega⟩, ⟨by (with_reducible repeat (first | apply Kd.R_alloc | apply Kd.R_drewN | apply Kd.R_drew)); exact HO1635.out⟩, ⟨by (with_reducible repeat (first | apply Kd.R_alloc | apply Kd.R_drewN | apply Kd.R_drew)); exact Kd.R_mono HO_11.out (fun _ hk => trivial)⟩, ⟨by repeat (first | (with_reducible first | exact HI0.out | apply IsS173.alloc | apply IsS173.drewN | apply IsS173.drew | apply IsS173.set_1 | apply IsS173.set_2) | exact HI0.out)⟩, ⟨by repeat (first | (with_reducible first | exact HK.out | apply KeepBut.set_ | apply keep_drewN | apply keep_drew | apply keep_alloc) | exact HK.out)⟩, ⟨by repeat (first | (with_reducible first | exact HB.out | apply ba_ | apply bn_ | apply bd_ | refine below_set ?_ (IsS173.ge HI0.out)) | exact HB.out)⟩⟩
       rw [if_neg c18] at H
       exact absurd H (by simp)
      replace c16 := Bool.eq_false_iff.mpr c16
      subst c16
      rw [if_neg (show ¬ (false = true) by decide)] at H
      have H' := Aside0.mk H
      clear H
      have p1623 : 0 ≤ (x13_1 : Int) := of_decide_eq_true (by with_reducible assumption)
      have q1623 : x13_1 < (y1620.length : Int) := of_decide_eq_true (by with_reducible assumption)
      obtain ⟨ad1623, e1623, hx1623_0⟩ := Kd.at_string (Kd.R_reads' HO_11.out).2.2 x13_1 p1623 q1623
      cases e1623
      replace p1623 := eq_true p1623
      replace q1623 := eq_true q1623
      go_wp2_with (first | ((with_reducible refine gate_callee (f := 136) rfl ?_); refine gl_ (some 18) Try.func136 #[.pointer (some ⟨g, 0, none⟩), .int .i64 4] ?_; (with_reducible refine (spec_l1Once.calls g s0_0 x1001_1 x1002_1 4 false t1625 t1626 w0 _ ?side1 ?side2 A15.out).mono ?_); (case side1 => repeat (first | (with_reducible first | exact HI0.out | apply IsS173.alloc | apply IsS173.drewN | apply IsS173.drew | apply IsS173.set_1 | apply IsS173.set_2) | exact HI0.out)); (case side2 => repeat (first | (with_reducible first | exact HB.out | apply ba_ | apply bn_ | apply bd_ | refine below_set ?_ (IsS173.ge HI0.out)) | exact HB.out)); rintro e w25 ⟨rfl, hi, hb, hk⟩; refine ⟨_, rfl, ?_⟩; replace HO_3 := Aside0.mk (Kd.R_mono (Kd.R_keep (IsS173.apart (show IsS173 w0 _ g s0_0 x1001_1 x1002_1 from by repeat (first | (with_reducible first | exact HI0.out | apply IsS173.alloc | apply IsS173.drewN | apply IsS173.drew | apply IsS173.set_1 | apply IsS173.set_2) | exact HI0.out)) (rp_ HO_3.out) (by decide)) hk (fun _ h => h.2)) (fun _ h => h.1)); replace HO_11 := Aside0.mk (Kd.R_mono (Kd.R_keep (IsS173.apart (show IsS173 w0 _ g s0_0 x1001_1 x1002_1 from by repeat (first | (with_reducible first | exact HI0.out | apply IsS173.alloc | apply IsS173.drewN | apply IsS173.drew | apply IsS173.set_1 | apply IsS173.set_2) | exact HI0.out)) (rp_ HO_11.out) (by decide)) hk (fun _ h => h.2)) (fun _ h => h.1)); replace HK := Aside0.mk (KeepBut.trans (by repeat (first | (with_reducible first | exact HK.out | apply KeepBut.set_ | apply keep_drewN | apply keep_drew | apply keep_alloc) | exact HK.out)) hk (.inl rfl)); replace HB := Aside0.mk (hb); replace HI0 := Aside0.mk (hi); (try clear hb); (try clear hk); (try clear hi)))
      go_roundg k1
      case measure => have := HK1.out; omega
      case rel => exact ⟨(x3_1), (wrap64 (x13_1 + 1)), (t1625), (t1626), (by first | rfl | (simp; done) | (simp [*]; done)), H', ⟨by have := HK1.out; omega⟩, ⟨by (with_reducible repeat (first | apply Kd.R_alloc | apply Kd.R_drewN | apply Kd.R_drew)); exact HO_3.out⟩, ⟨by (with_reducible repeat (first | apply Kd.R_alloc | apply Kd.R_drewN | apply Kd.R_drew)); exact HO_11.out⟩, ⟨by repeat (first | (with_reducible first | exact HI0.out | apply IsS173.alloc | apply IsS173.drewN | apply IsS173.drew | apply IsS173.set_1 | apply IsS173.set_2) | exact HI0.out)⟩, ⟨by repeat (first | (with_reducible first | exact HK.out | apply KeepBut.set_ | apply keep_drewN | apply keep_drew | apply keep_alloc) | exact HK.out)⟩, ⟨by repeat (first | (with_reducible first | exact HB.out | apply ba_ | apply bn_ | apply bd_ | refine below_set ?_ (IsS173.ge HI0.out)) | exact HB.out)⟩⟩
     rw [if_neg c14] at H
     exact absurd H (by simp)
    rw [if_neg c13] at H
    exact absurd H (by simp)
   rw [if_neg c12] at H
   have c12b0 : decide (x13_1 < (y1620.length : Int)) = false := decide_eq_false c12
   clear c12
   simp only [Option.some.injEq, Prod.mk.injEq] at H
   obtain ⟨rfl, rfl, rfl⟩ := H
   go_wp2
   go_ret
   exact ⟨_, by first | rfl | (simp [errW_none, errW_some] <;> rfl) | (simp [*, errW_none, errW_some] <;> rfl), by (with_reducible repeat (first | apply Kd.R_alloc | apply Kd.R_drewN | apply Kd.R_drew)); exact HO_3.out, by repeat (first | (with_reducible first | exact HI0.out | apply IsS173.alloc | apply IsS173.drewN | apply IsS173.drew | apply IsS173.set_1 | apply IsS173.set_2) | exact HI0.out), by repeat (first | (with_reducible first | exact HB.out | apply ba_ | apply bn_ | apply bd_ | refine below_set ?_ (IsS173.ge HI0.out)) | exact HB.out), by repeat (first | (with_reducible first | exact HK.out | apply KeepBut.set_ | apply keep_drewN | apply keep_drew | apply keep_alloc) | exact HK.out)⟩
def spec_l1Plain.f (s0_0 : List Int) (s0_1 : Int) (s0_2 : Int) : Option (ByteArray × Int × Int) := (spec_l1Str.f s0_0 s0_1 s0_2 (([(⟨#[97]⟩ : ByteArray), (⟨#[98]⟩ : ByteArray), (⟨#[120, 32, 121]⟩ : ByteArray), (⟨#[]⟩ : ByteArray), (⟨#[99, 114, 105, 116]⟩ : ByteArray), (⟨#[125, 45]⟩ : ByteArray)] : List ByteArray))).bind fun bt1639 => (some (bt1639.1, bt1639.2.1, bt1639.2.2))
theorem spec_l1Plain.calls (g : Nat) (s0_0 : List Int) (s0_1 : Int) (s0_2 : Int) (r1 : ByteArray) (r2 : Int) (r3 : Int) (w0 w : World) (hI : IsS173 w0 w g s0_0 s0_1 s0_2) (hB : Below w0.heap.size w0 w) (h : spec_l1Plain.f s0_0 s0_1 s0_2 = some (r1, r2, r3)) :
  Calls Try.prog 161 #[.pointer (some ⟨g, 0, none⟩)] w fun e w' => e = .returned (.string r1) ∧ IsS173 w0 w' g s0_0 r2 r3 ∧ Below w0.heap.size w0 w' ∧ KeepBut w w' g none := by
 have HI0 := Aside0.mk hI
 have HK := Aside0.mk (KeepBut.refl w g none)
 have HL := Aside0.mk hB.size
 clear hI
 have HW0 := Aside0.mk hB.size
 have HB := Aside0.mk hB
 clear hB
 have H : ((spec_l1Str.f s0_0 s0_1 s0_2 (([(⟨#[97]⟩ : ByteArray), (⟨#[98]⟩ : ByteArray), (⟨#[120, 32, 121]⟩ : ByteArray), (⟨#[]⟩ : ByteArray), (⟨#[99, 114, 105, 116]⟩ : ByteArray), (⟨#[125, 45]⟩ : ByteArray)] : List ByteArray))).bind fun bt1639 => (some (bt1639.1, bt1639.2.1, bt1639.2.2))) = some (r1, r2, r3) := h
 clear h
 obtain ⟨y1636, hy1636⟩ : ∃ y_ : List ByteArray, y_ = (([(⟨#[97]⟩ : ByteArray), (⟨#[98]⟩ : ByteArray), (⟨#[120, 32, 121]⟩ : ByteArray), (⟨#[]⟩ : ByteArray), (⟨#[99, 114, 105, 116]⟩ : ByteArray), (⟨#[125, 45]⟩ : ByteArray)] : List ByteArray)) := ⟨_, rfl⟩
 replace H : ((spec_l1Str.f s0_0 s0_1 s0_2 y1636).bind fun bt1639 => (some (bt1639.1, bt1639.2.1, bt1639.2.2))) = some (r1, r2, r3) := by first | (rw [hy1636]; with_reducible exact H) | (have H2_ := (Option.bind_some _ _).symm.trans H; rw [hy1636]; with_reducible exact H2_) | (have H2_ := (Option.bind_some _ _).symm.trans H; with_reducible exact H2_) | with_reducible exact H | (rw [hy1636]; exact H) | exact H
 have Ny1636 := Aside0.mk hy1636
 clear hy1636
 replace H := Option.bind_eq_some_iff.mp H
 obtain ⟨⟨t1639, t1640, t1641⟩, A20, H⟩ := H
 have A2 := Aside0.mk A20
 clear A20
 simp only [Option.some.injEq, Prod.mk.injEq] at H
 obtain ⟨rfl, rfl, rfl⟩ := H
 go_enter Try.func161, Try.ntmps161
 go_wp2_with (first | ((with_reducible refine gd_ 4 rfl ?_); refine Kd.R_lit Kd.string _ 9 ?hg (N := 4) ?hd (xs := ([(⟨#[97]⟩ : ByteArray), (⟨#[98]⟩ : ByteArray), (⟨#[120, 32, 121]⟩ : ByteArray), (⟨#[]⟩ : ByteArray), (⟨#[99, 114, 105, 116]⟩ : ByteArray), (⟨#[125, 45]⟩ : ByteArray)] : List ByteArray)) (inner := [.string (⟨#[97]⟩ : ByteArray), .string (⟨#[98]⟩ : ByteArray), .string (⟨#[120, 32, 121]⟩ : ByteArray), .string (⟨#[]⟩ : ByteArray), .string (⟨#[99, 114, 105, 116]⟩ : ByteArray), .string (⟨#[125, 45]⟩ : ByteArray)]) (ok := fun _ => True) (okp := fun _ => True) ?hr ?hp (fun _ hk => hk) trivial (Below.refl _ _) (Nat.le_refl _) (by simp) ?_; (case hd => rfl); (case hg => rfl); (case hr => first | (go_simp; done) | (go_simp; rfl)); (case hp => exact (Reps.one (show Kd.M Kd.string _ _ _ (⟨#[97]⟩ : ByteArray) [.string (⟨#[97]⟩ : ByteArray)] from rfl) (Reps.one (show Kd.M Kd.string _ _ _ (⟨#[98]⟩ : ByteArray) [.string (⟨#[98]⟩ : ByteArray)] from rfl) (Reps.one (show Kd.M Kd.string _ _ _ (⟨#[120, 32, 121]⟩ : ByteArray) [.string (⟨#[120, 32, 121]⟩ : ByteArray)] from rfl) (Reps.one (show Kd.M Kd.string _ _ _ (⟨#[]⟩ : ByteArray) [.string (⟨#[]⟩ : ByteArray)] from rfl) (Reps.one (show Kd.M Kd.string _ _ _ (⟨#[99, 114, 105, 116]⟩ : ByteArray) [.string (⟨#[99, 114, 105, 116]⟩ : ByteArray)] from rfl) (Reps.one (show Kd.M Kd.string _ _ _ (⟨#[125, 45]⟩ : ByteArray) [.string (⟨#[125, 45]⟩ : ByteArray)] from rfl) (Reps.none _ _)))))))); intro v1637 w3 ho4 hb hg_ hnew_; clear hg_ hnew_; (first | rw [← Ny1636.out] at ho4 | (simp only [Int.reduceToNat] at ho4; rw [← Ny1636.out] at ho4)); have HO1638 := Aside0.mk (Kd.R_lower ho4 (keep_size (w := w) (g := g) (row := none) (by repeat (first | (with_reducible first | exact HK.out | apply KeepBut.set_ | apply keep_drewN | apply keep_drew | apply keep_alloc) | exact HK.out)))); have n1_ := Aside0.mk (IsS173.below (by repeat (first | (with_reducible first | exact HI0.out | apply IsS173.alloc | apply IsS173.drewN | apply IsS173.drew | apply IsS173.set_1 | apply IsS173.set_2) | exact HI0.out)) hb); have n2_ := Aside0.mk (KeepBut.trans (by repeat (first | (with_reducible first | exact HK.out | apply KeepBut.set_ | apply keep_drewN | apply keep_drew | apply keep_alloc) | exact HK.out)) (KeepBut.of_below hb g none) (.inl rfl)); have n3_ := Aside0.mk (below_step (by repeat (first | (with_reducible first | exact HB.out | apply ba_ | apply bn_ | apply bd_ | refine below_set ?_ (IsS173.ge HI0.out)) | exact HB.out)) hb); clear HI0 HK HB; have HI0 := n1_; have HK := n2_; have HB := n3_; clear n1_ n2_ n3_; clear hb ho4; obtain ⟨Ao5, co5, eo5⟩ := Kd.R_slice HO1638.out; subst eo5) | ((with_reducible refine gate_callee (f := 174) rfl ?_); refine gl_ (some 5) Try.func174 #[.pointer (some ⟨g, 0, none⟩), .slice Ao5 y1636.length co5] ?_; (with_reducible refine (spec_l1Str.calls g s0_0 s0_1 s0_2 _ _ y1636 t1639 t1640 t1641 w0 _ ?side1 ?side2 ?side3 ?side4 ?side5 A2.out).mono ?_); (case side1 => repeat (first | (with_reducible first | exact HI0.out | apply IsS173.alloc | apply IsS173.drewN | apply IsS173.drew | apply IsS173.set_1 | apply IsS173.set_2) | exact HI0.out)); (case side2 => repeat (first | (with_reducible first | exact HB.out | apply ba_ | apply bn_ | apply bd_ | refine below_set ?_ (IsS173.ge HI0.out)) | exact HB.out)); (case side3 => exact cp_ ((Kd.R_reads' HO1638.out).2.2)); (case side4 => exact (Kd.R_reads' HO1638.out).2.1); (case side5 => exact far_slice (IsS173.own_ne HI0.out HO1638.out (by decide))); rintro e w6 ⟨rfl, hi, hb, hk⟩; refine ⟨_, rfl, ?_⟩; replace HO1638 := Aside0.mk (Kd.R_mono (Kd.R_keep (IsS173.apart (show IsS173 w0 _ g s0_0 s0_1 s0_2 from by repeat (first | (with_reducible first | exact HI0.out | apply IsS173.alloc | apply IsS173.drewN | apply IsS173.drew | apply IsS173.set_1 | apply IsS173.set_2) | exact HI0.out)) (rp_ HO1638.out) (by decide)) hk (fun _ h => h.2)) (fun _ h => h.1)); replace HK := Aside0.mk (KeepBut.trans (by repeat (first | (with_reducible first | exact HK.out | apply KeepBut.set_ | apply keep_drewN | apply keep_drew | apply keep_alloc) | exact HK.out)) hk (.inl rfl)); replace HB := Aside0.mk (hb); replace HI0 := Aside0.mk (hi); (try clear hb); (try clear hk); (try clear hi)))
 go_ret
 exact an_ ⟨by repeat (first | (with_reducible first | exact HI0.out | apply IsS173.alloc | apply IsS173.drewN | apply IsS173.drew | apply IsS173.set_1 | apply IsS173.set_2) | exact HI0.out), by repeat (first | (with_reducible first | exact HB.out | apply ba_ | apply bn_ | apply bd_ | refine below_set ?_ (IsS173.ge HI0.out)) | exact HB.out), by repeat (first | (with_reducible first | exact HK.out | apply KeepBut.set_ | apply keep_drewN | apply keep_drew | apply keep_alloc) | exact HK.out)⟩
def spec_l1Int.f (s0_0 : List Int) (s0_1 : Int) (s0_2 : Int) (l1 : List Int) : Option (Int × Int × Int) := (spec_l1Below.f s0_0 s0_1 s0_2 (l1.length : Int)).bind fun bt1642 => (if 0 ≤ bt1642.1 then (if bt1642.1 < (l1.length : Int) then (some (rd l1 bt1642.1, bt1642.2.1, bt1642.2.2)) else (none)) else (none))
theorem spec_l1Int.calls (g : Nat) (s0_0 : List Int) (s0_1 : Int) (s0_2 : Int) (A1 : Option Addr) (c1 : Nat) (l1 : List Int) (r1 : Int) (r2 : Int) (r3 : Int) (w0 w : World) (hI : IsS173 w0 w g s0_0 s0_1 s0_2) (hB : Below w0.heap.size w0 w) (hr1 : Kd.C (Kd.int .i64) w A1 l1.length l1) (hc1 : l1.length ≤ c1) (hf1 : ∀ ad, A1 = some ad → 0 < l1.length → ad.block ≠ g) (h : spec_l1Int.f s0_0 s0_1 s0_2 l1 = some (r1, r2, r3)) :
  Calls Try.prog 162 #[.pointer (some ⟨g, 0, none⟩), .slice A1 l1.length c1] w fun e w' => e = .returned (.int .i64 r1) ∧ IsS173 w0 w' g s0_0 r2 r3 ∧ Below w0.heap.size w0 w' ∧ KeepBut w w' g none := by
 have HR1 := Aside0.mk hr1
 have HC1 := Aside0.mk hc1
 clear hr1 hc1
 have HI0 := Aside0.mk hI
 have HK := Aside0.mk (KeepBut.refl w g none)
 have HL := Aside0.mk hB.size
 clear hI
 have HW0 := Aside0.mk hB.size
 have HB := Aside0.mk hB
 clear hB
 have H : ((spec_l1Below.f s0_0 s0_1 s0_2 (l1.length : Int)).bind fun bt1642 => (if 0 ≤ bt1642.1 then (if bt1642.1 < (l1.length : Int) then (some (rd l1 bt1642.1, bt1642.2.1, bt1642.2.2)) else (none)) else (none))) = some (r1, r2, r3) := h
 clear h
 replace H := Option.bind_eq_some_iff.mp H
 obtain ⟨⟨t1642, t1643, t1644⟩, A30, H⟩ := H
 have A3 := Aside0.mk A30
 clear A30
 by_cases c4 : 0 ≤ t1642
 ·
  rw [if_pos c4] at H
  have c4b0 := decide_eq_true c4
  clear c4
  by_cases c5 : t1642 < (l1.length : Int)
  ·
   rw [if_pos c5] at H
   have c5b0 := decide_eq_true c5
   clear c5
   simp only [Option.some.injEq, Prod.mk.injEq] at H
   obtain ⟨rfl, rfl, rfl⟩ := H
   go_enter Try.func162, Try.ntmps162
   go_wp2_with (first | ((with_reducible refine gate_callee (f := 137) rfl ?_); refine gl_ (some 9) Try.func137 #[.pointer (some ⟨g, 0, none⟩), .int .i64 (l1.length : Int)] ?_; (with_reducible refine (spec_l1Below.calls g s0_0 s0_1 s0_2 (l1.length : Int) t1642 t1643 t1644 w0 _ ?side1 ?side2 A3.out).mono ?_); (case side1 => repeat (first | (with_reducible first | exact HI0.out | apply IsS173.alloc | apply IsS173.drewN | apply IsS173.drew | apply IsS173.set_1 | apply IsS173.set_2) | exact HI0.out)); (case side2 => repeat (first | (with_reducible first | exact HB.out | apply ba_ | apply bn_ | apply bd_ | refine below_set ?_ (IsS173.ge HI0.out)) | exact HB.out)); rintro e w6 ⟨rfl, hi, hb, hk⟩; refine ⟨_, rfl, ?_⟩; replace HK := Aside0.mk (KeepBut.trans (by repeat (first | (with_reducible first | exact HK.out | apply KeepBut.set_ | apply keep_drewN | apply keep_drew | apply keep_alloc) | exact HK.out)) hk (.inl rfl)); replace HB := Aside0.mk (hb); replace HI0 := Aside0.mk (hi); (try clear hb); (try clear hk); (try clear hi); have p1645 : 0 ≤ (t1642 : Int) := of_decide_eq_true (by with_reducible assumption); have q1645 : t1642 < (l1.length : Int) := of_decide_eq_true (by with_reducible assumption); obtain ⟨ad1645, e1645, hx1645_0⟩ := Kd.at_int HR1.out t1642 p1645 q1645; cases e1645; replace hx1645_0 := keep_cell HK.out hx1645_0 (by first | (rw [add_block]; exact hf1 _ rfl (by omega)) | exact hf1 _ rfl (by omega) | exact hf1 ad1645 rfl (by omega)); replace p1645 := eq_true p1645; replace q1645 := eq_true q1645))
   go_ret
   exact an_ ⟨by repeat (first | (with_reducible first | exact HI0.out | apply IsS173.alloc | apply IsS173.drewN | apply IsS173.drew | apply IsS173.set_1 | apply IsS173.set_2) | exact HI0.out), by repeat (first | (with_reducible first | exact HB.out | apply ba_ | apply bn_ | apply bd_ | refine below_set ?_ (IsS173.ge HI0.out)) | exact HB.out), by repeat (first | (with_reducible first | exact HK.out | apply KeepBut.set_ | apply keep_drewN | apply keep_drew | apply keep_alloc) | exact HK.out)⟩
  rw [if_neg c5] at H
  exact absurd H (by simp)
 rw [if_neg c4] at H
 exact absurd H (by simp)
def spec_l4Draw.f (k : Nat) (s0_0 : List Int) (s0_1 : Int) (s0_2 : Int) : Option ((List (S164)) × Int × Int × ByteArray × Int × Int) := (spec_l2Draw.f k s0_0 s0_1 s0_2).bind fun bt1647 => ((spec_l1Below.f s0_0 bt1647.2.1 bt1647.2.2 8).bind fun bt1652 => ((spec_l1Plain.f s0_0 bt1652.2.1 bt1652.2.2).bind fun bt1655 => ((spec_l1Int.f s0_0 bt1655.2.1 bt1655.2.2 (([0, 2, 5, 20, 60] : List Int))).bind fun bt1662 => (some (bt1647.1, bt1652.1, wrap64 (bt1652.1 + bt1662.1), bt1655.1, bt1662.2.1, bt1662.2.2)))))
theorem spec_l4Draw.mono : ∀ a0 a1 a2 k, LeO (spec_l4Draw.f k a0 a1 a2) (spec_l4Draw.f (k + 1) a0 a1 a2) := by
 intro a0 a1 a2 k
 unfold spec_l4Draw.f
 repeat' first | (with_reducible first | exact spec_l2Draw.mono _ _ _ _ | exact LeO.refl _ | exact LeO.none _ | refine LeO.ite ?_ ?_ | refine LeO.bind ?_ (fun _ => ?_)) | exact spec_l2Draw.mono _ _ _ _
def spec_l4Draw.T2 : Bool × List (List Nat × List Nat) := (true, [([], []), ([0], [0]), ([], []), ([], []), ([2, 3], [2, 3]), ([1, 4], [1, 4]), ([0, 1, 2, 3, 4, 5], []), ([6, 5, 4, 0, 1, 2, 3, 4, 5], [5, 6])])
def spec_l4Draw.B2 : List Nat := [0, 1, 0, 0, 12, 31, 63, 127]
theorem spec_l4Draw.tab2 : rtab .any (opsOf Try.f135 2) = spec_l4Draw.T2 := by kernel_rfl
theorem spec_l4Draw.bits2 : waitsOk spec_l4Draw.T2.2 spec_l4Draw.B2 = true := by kernel_rfl
theorem spec_l4Draw.calls (k : Nat) (g : Nat) (s0_0 : List Int) (s0_1 : Int) (s0_2 : Int) (r1 : List (S164)) (r2 : Int) (r3 : Int) (r4 : ByteArray) (r5 : Int) (r6 : Int) (w0 w : World) (hI : IsS173 w0 w g s0_0 s0_1 s0_2) (hB : Below w0.heap.size w0 w) (h : spec_l4Draw.f k s0_0 s0_1 s0_2 = some (r1, r2, r3, r4, r5, r6)) :
  Calls Try.prog 135 #[.pointer (some ⟨g, 0, none⟩)] w fun e w' => ∃ v0_ : Value, e = .returned (.agg #[v0_, .int .i64 r2, .int .i64 r3, .string r4]) ∧ Kd.R k164 164 w' w.heap.size (fun _ => True) v0_ r1 ∧ IsS173 w0 w' g s0_0 r5 r6 ∧ Below w0.heap.size w0 w' ∧ KeepBut w w' g none := by
 have hu44 := Try.underlying44
 have HI0 := Aside0.mk hI
 have HK := Aside0.mk (KeepBut.refl w g none)
 have HL := Aside0.mk hB.size
 clear hI
 have HW0 := Aside0.mk hB.size
 have HB := Aside0.mk hB
 clear hB
 have H : ((spec_l2Draw.f k s0_0 s0_1 s0_2).bind fun bt1647 => ((spec_l1Below.f s0_0 bt1647.2.1 bt1647.2.2 8).bind fun bt1652 => ((spec_l1Plain.f s0_0 bt1652.2.1 bt1652.2.2).bind fun bt1655 => ((spec_l1Int.f s0_0 bt1655.2.1 bt1655.2.2 (([0, 2, 5, 20, 60] : List Int))).bind fun bt1662 => (some (bt1647.1, bt1652.1, wrap64 (bt1652.1 + bt1662.1), bt1655.1, bt1662.2.1, bt1662.2.2)))))) = some (r1, r2, r3, r4, r5, r6) := h
 clear h
 replace H := Option.bind_eq_some_iff.mp H
 obtain ⟨⟨t1647, t1650, t1651⟩, A20, H⟩ := H
 have A2 := Aside0.mk A20
 clear A20
 replace H := Option.bind_eq_some_iff.mp H
 obtain ⟨⟨t1652, t1653, t1654⟩, A30, H⟩ := H
 have A3 := Aside0.mk A30
 clear A30
 replace H := Option.bind_eq_some_iff.mp H
 obtain ⟨⟨t1655, t1656, t1657⟩, A40, H⟩ := H
 have A4 := Aside0.mk A40
 clear A40
 obtain ⟨y1659, hy1659⟩ : ∃ y_ : List Int, y_ = (([0, 2, 5, 20, 60] : List Int)) := ⟨_, rfl⟩
 replace H : ((spec_l1Int.f s0_0 t1656 t1657 y1659).bind fun bt1662 => (some (t1647, t1652, wrap64 (t1652 + bt1662.1), t1655, bt1662.2.1, bt1662.2.2))) = some (r1, r2, r3, r4, r5, r6) := by first | (rw [hy1659]; with_reducible exact H) | (have H2_ := (Option.bind_some _ _).symm.trans H; rw [hy1659]; with_reducible exact H2_) | (have H2_ := (Option.bind_some _ _).symm.trans H; with_reducible exact H2_) | with_reducible exact H | (rw [hy1659]; exact H) | exact H
 have Ny1659 := Aside0.mk hy1659
 clear hy1659
 replace H := Option.bind_eq_some_iff.mp H
 obtain ⟨⟨t1662, t1663, t1664⟩, A50, H⟩ := H
 have A5 := Aside0.mk A50
 clear A50
 simp only [Option.some.injEq, Prod.mk.injEq] at H
 obtain ⟨rfl, rfl, rfl, rfl, rfl, rfl⟩ := H
 go_enter Try.func135, Try.ntmps135
 try go_wp2_with (first | ((with_reducible refine gd_ 2 rfl ?_); refine bv_ 2 #[.slice none 0 0, .int .i64 0, .int .i64 0, .string (⟨#[]⟩ : ByteArray)] 44 ?_; intro gb1646 hg w6 hbox hb; replace HB := Aside0.mk (below_step (by repeat (first | (with_reducible first | exact HB.out | apply ba_ | apply bn_ | apply bd_ | refine below_set ?_ (IsS173.ge HI0.out)) | exact HB.out)) hb); have BK1646 := Aside0.mk (hbox); have GW1646 := Aside0.mk ((by rw [hg]; exact (keep_size (w := w) (g := g) (row := none) (by repeat (first | (with_reducible first | exact HK.out | apply KeepBut.set_ | apply keep_drewN | apply keep_drew | apply keep_alloc) | exact HK.out))) : w.heap.size ≤ gb1646)); replace HK := Aside0.mk (KeepBut.trans (by repeat (first | (with_reducible first | exact HK.out | apply KeepBut.set_ | apply keep_drewN | apply keep_drew | apply keep_alloc) | exact HK.out)) (KeepBut.of_below hb g none) (.inl rfl)); have GE1646 := Ge_.mk (Nat.le_trans HW0.out GW1646.out); have NB0_1646 := Ne_.mk ((by rw [hg]; exact Nat.ne_of_lt (IsS173.lt (show IsS173 w0 _ g s0_0 s0_1 s0_2 from by repeat (first | (with_reducible first | exact HI0.out | apply IsS173.alloc | apply IsS173.drewN | apply IsS173.drew | apply IsS173.set_1 | apply IsS173.set_2) | exact HI0.out))) : g ≠ gb1646)); replace HI0 := Aside0.mk (IsS173.below (by repeat (first | (with_reducible first | exact HI0.out | apply IsS173.alloc | apply IsS173.drewN | apply IsS173.drew | apply IsS173.set_1 | apply IsS173.set_2) | exact HI0.out)) hb); have NB1646_0 := Ne_.mk (NB0_1646.out.symm); clear hb hbox hg) | ((with_reducible refine gate_callee (f := 160) rfl ?_); refine gl_ (some 5) Try.func160 #[.pointer (some ⟨g, 0, none⟩)] ?_; (with_reducible refine (spec_l2Draw.calls k g s0_0 s0_1 s0_2 t1647 t1650 t1651 w0 _ ?side1 ?side2 A2.out).mono ?_); (case side1 => repeat (first | (with_reducible first | exact HI0.out | apply IsS173.alloc | apply IsS173.drewN | apply IsS173.drew | apply IsS173.set_1 | apply IsS173.set_2 | refine IsS173.far ?_ NB0_1646.out _) | exact HI0.out)); (case side2 => repeat (first | (with_reducible first | exact HB.out | apply ba_ | apply bn_ | apply bd_ | refine below_set ?_ (IsS173.ge HI0.out) | refine below_set ?_ GE1646.out) | exact HB.out)); rintro e w7 ⟨v1648, rfl, ho0, hi, hb, hk⟩; refine ⟨_, rfl, ?_⟩; replace BK1646 := Aside0.mk (KeepBut.blk hk (g' := gb1646) (o := .cells #[.slice none 0 0, .int .i64 0, .int .i64 0, .string (⟨#[]⟩ : ByteArray)] 44 (0, 0)) (pb_ BK1646.out) NB1646_0.out (by simp)); have HO1649 := Aside0.mk (Kd.R_lower ho0 (keep_size (w := w) (g := g) (row := none) (by repeat (first | (with_reducible first | exact HK.out | apply KeepBut.set_ | apply keep_drewN | apply keep_drew | apply keep_alloc | refine keep_far ?_ GW1646.out _) | exact HK.out)))); replace HK := Aside0.mk (KeepBut.trans (by repeat (first | (with_reducible first | exact HK.out | apply KeepBut.set_ | apply keep_drewN | apply keep_drew | apply keep_alloc | refine keep_far ?_ GW1646.out _) | exact HK.out)) hk (.inl rfl)); replace HB := Aside0.mk (hb); replace HI0 := Aside0.mk (hi); (try clear hb); (try clear hk); (try clear hi); (try clear ho0)) | ((with_reducible refine gate_callee (f := 137) rfl ?_); refine gl_ (some 7) Try.func137 #[.pointer (some ⟨g, 0, none⟩), .int .i64 8] ?_; (with_reducible refine (spec_l1Below.calls g s0_0 t1650 t1651 8 t1652 t1653 t1654 w0 _ ?side1 ?side2 A3.out).mono ?_); (case side1 => repeat (first | (with_reducible first | exact HI0.out | apply IsS173.alloc | apply IsS173.drewN | apply IsS173.drew | apply IsS173.set_1 | apply IsS173.set_2 | refine IsS173.far ?_ NB0_1646.out _) | exact HI0.out)); (case side2 => repeat (first | (with_reducible first | exact HB.out | apply ba_ | apply bn_ | apply bd_ | refine below_set ?_ (IsS173.ge HI0.out) | refine below_set ?_ GE1646.out) | exact HB.out)); rintro e w8 ⟨rfl, hi, hb, hk⟩; refine ⟨_, rfl, ?_⟩; replace BK1646 := Aside0.mk (KeepBut.blk hk (g' := gb1646) (o := .cells #[.slice none 0 0, .int .i64 0, .int .i64 0, .string (⟨#[]⟩ : ByteArray)] 44 (0, 0)) (pb_ BK1646.out) NB1646_0.out (by simp)); replace HO1649 := Aside0.mk (Kd.R_mono (Kd.R_keep (IsS173.apart (show IsS173 w0 _ g s0_0 t1650 t1651 from by repeat (first | (with_reducible first | exact HI0.out | apply IsS173.alloc | apply IsS173.drewN | apply IsS173.drew | apply IsS173.set_1 | apply IsS173.set_2 | refine IsS173.far ?_ NB0_1646.out _) | exact HI0.out)) (rp_ HO1649.out) (by decide)) hk (fun _ h => h.2)) (fun _ h => h.1)); replace HK := Aside0.mk (KeepBut.trans (by repeat (first | (with_reducible first | exact HK.out | apply KeepBut.set_ | apply keep_drewN | apply keep_drew | apply keep_alloc | refine keep_far ?_ GW1646.out _) | exact HK.out)) hk (.inl rfl)); replace HB := Aside0.mk (hb); replace HI0 := Aside0.mk (hi); (try clear hb); (try clear hk); (try clear hi)) | ((with_reducible refine gate_callee (f := 161) rfl ?_); refine gl_ (some 9) Try.func161 #[.pointer (some ⟨g, 0, none⟩)] ?_; (with_reducible refine (spec_l1Plain.calls g s0_0 t1653 t1654 t1655 t1656 t1657 w0 _ ?side1 ?side2 A4.out).mono ?_); (case side1 => repeat (first | (with_reducible first | exact HI0.out | apply IsS173.alloc | apply IsS173.drewN | apply IsS173.drew | apply IsS173.set_1 | apply IsS173.set_2 | refine IsS173.far ?_ NB0_1646.out _) | exact HI0.out)); (case side2 => repeat (first | (with_reducible first | exact HB.out | apply ba_ | apply bn_ | apply bd_ | refine below_set ?_ (IsS173.ge HI0.out) | refine below_set ?_ GE1646.out) | exact HB.out)); rintro e w9 ⟨rfl, hi, hb, hk⟩; refine ⟨_, rfl, ?_⟩; replace BK1646 := Aside0.mk (KeepBut.blk hk (g' := gb1646) (o := .cells #[.slice none 0 0, .int .i64 0, .int .i64 0, .string (⟨#[]⟩ : ByteArray)] 44 (0, 0)) (pb_ BK1646.out) NB1646_0.out (by simp)); replace HO1649 := Aside0.mk (Kd.R_mono (Kd.R_keep (IsS173.apart (show IsS173 w0 _ g s0_0 t1653 t1654 from by repeat (first | (with_reducible first | exact HI0.out | apply IsS173.alloc | apply IsS173.drewN | apply IsS173.drew | apply IsS173.set_1 | apply IsS173.set_2 | refine IsS173.far ?_ NB0_1646.out _) | exact HI0.out)) (rp_ HO1649.out) (by decide)) hk (fun _ h => h.2)) (fun _ h => h.1)); replace HK := Aside0.mk (KeepBut.trans (by repeat (first | (with_reducible first | exact HK.out | apply KeepBut.set_ | apply keep_drewN | apply keep_drew | apply keep_alloc | refine keep_far ?_ GW1646.out _) | exact HK.out)) hk (.inl rfl)); replace HB := Aside0.mk (hb); replace HI0 := Aside0.mk (hi); (try clear hb); (try clear hk); (try clear hi); obtain ⟨Ao10, co10, eo10⟩ := Kd.R_slice HO1649.out; subst eo10) | ((with_reducible refine gd_ 3 rfl ?_); refine bv_ 3 #[.slice none 0 0, .int .i64 0, .int .i64 0, .string (⟨#[]⟩ : ByteArray)] 44 ?_; intro gb1658 hg w11 hbox hb; replace HO1649 := Aside0.mk (Kd.R_below (rp_ HO1649.out) hb); replace HB := Aside0.mk (below_step (by repeat (first | (with_reducible first | exact HB.out | apply ba_ | apply bn_ | apply bd_ | refine below_set ?_ (IsS173.ge HI0.out) | refine below_set ?_ GE1646.out) | exact HB.out)) hb); have BK1658 := Aside0.mk (hbox); have GW1658 := Aside0.mk ((by rw [hg]; exact (keep_size (w := w) (g := g) (row := none) (by repeat (first | (with_reducible first | exact HK.out | apply KeepBut.set_ | apply keep_drewN | apply keep_drew | apply keep_alloc | refine keep_far ?_ GW1646.out _) | exact HK.out))) : w.heap.size ≤ gb1658)); replace HK := Aside0.mk (KeepBut.trans (by repeat (first | (with_reducible first | exact HK.out | apply KeepBut.set_ | apply keep_drewN | apply keep_drew | apply keep_alloc | refine keep_far ?_ GW1646.out _) | exact HK.out)) (KeepBut.of_below hb g none) (.inl rfl)); have GE1658 := Ge_.mk (Nat.le_trans HW0.out GW1658.out); have NB1646_1658 := Ne_.mk (nl_ BK1646.out hg); replace BK1646 := bk2_ BK1646 hb; have NB1658_1646 := Ne_.mk (NB1646_1658.out.symm); have NB0_1658 := Ne_.mk ((by rw [hg]; exact Nat.ne_of_lt (IsS173.lt (show IsS173 w0 _ g s0_0 t1656 t1657 from by repeat (first | (with_reducible first | exact HI0.out | apply IsS173.alloc | apply IsS173.drewN | apply IsS173.drew | apply IsS173.set_1 | apply IsS173.set_2 | refine IsS173.far ?_ NB0_1646.out _) | exact HI0.out))) : g ≠ gb1658)); replace HI0 := Aside0.mk (IsS173.below (by repeat (first | (with_reducible first | exact HI0.out | apply IsS173.alloc | apply IsS173.drewN | apply IsS173.drew | apply IsS173.set_1 | apply IsS173.set_2 | refine IsS173.far ?_ NB0_1646.out _) | exact HI0.out)) hb); have NB1658_0 := Ne_.mk (NB0_1658.out.symm); clear hb hbox hg; have hnb12 := NB1658_1646.out; have hnc12 := NB1646_1658.out; have hnb13 := NB1658_0.out; have hnc13 := NB0_1658.out; obtain ⟨z14_0, z14_1, z14_2, z14_3, y14_0, y14_1, y14_2, y14_3⟩ := bc4_ BK1658.out))
 generalize hw_ : ((((w11.setCell ⟨gb1658, 0, none⟩ (.slice Ao10 t1647.length co10)).setCell ⟨gb1658, 1, none⟩ (.int .i64 t1652)).setCell ⟨gb1658, 2, none⟩ (.int .i64 0)).setCell ⟨gb1658, 3, none⟩ (.string t1655)) = w15
 have n0_ : Aside0 (Kd.R k164 164 w15 w.heap.size (fun _ => True) (.slice Ao10 t1647.length co10) t1647) := ⟨by rw [← hw_]; exact (Kd.R_mono (rf_ gb1658 (Kd.R_types HO1649.out BK1658.out (by decide)) (fun _ hk => hk.2)) (fun _ hk => trivial))⟩
 have n1_ : Aside0 (w15.heap[gb1646]? = some (.cells #[.slice none 0 0, .int .i64 0, .int .i64 0, .string (⟨#[]⟩ : ByteArray)] 44 (0, 0))) := ⟨by rw [← hw_]; exact (bq_ BK1646.out)⟩
 have n2_ : Aside0 (w15.heap[gb1658]? = some (.cells #[.slice Ao10 t1647.length co10, .int .i64 t1652, .int .i64 0, .string t1655] 44 (0, 0))) := ⟨by rw [← hw_]; exact (bp_ BK1658.out)⟩
 have n3_ : Aside0 (IsS173 w0 w15 g s0_0 t1656 t1657) := ⟨by rw [← hw_]; exact (by repeat (first | (with_reducible first | exact HI0.out | apply IsS173.alloc | apply IsS173.drewN | apply IsS173.drew | apply IsS173.set_1 | apply IsS173.set_2 | refine IsS173.far ?_ NB0_1646.out _ | refine IsS173.far ?_ NB0_1658.out _) | exact HI0.out))⟩
 have n4_ : Aside0 (KeepBut w w15 g none) := ⟨by rw [← hw_]; exact (by repeat (first | (with_reducible first | exact HK.out | apply KeepBut.set_ | apply keep_drewN | apply keep_drew | apply keep_alloc | refine keep_far ?_ GW1646.out _ | refine keep_far ?_ GW1658.out _) | exact HK.out))⟩
 have n5_ : Aside0 (Below w0.heap.size w0 w15) := ⟨by rw [← hw_]; exact (by repeat (first | (with_reducible first | exact HB.out | apply ba_ | apply bn_ | apply bd_ | refine below_set ?_ (IsS173.ge HI0.out) | refine below_set ?_ GE1646.out | refine below_set ?_ GE1658.out) | exact HB.out))⟩
 clear hw_
 (try clear HO1649)
 (try clear BK1646)
 (try clear BK1658)
 (try clear HI0)
 (try clear HK)
 (try clear HB)
 have HO1649 := n0_
 have BK1646 := n1_
 have BK1658 := n2_
 have HI0 := n3_
 have HK := n4_
 have HB := n5_
 clear n0_ n1_ n2_ n3_ n4_ n5_
 replace HO1649 := Aside0.mk (Kd.R_drew HO1649.out)
 replace BK1646 := Aside0.mk (blk_drew BK1646.out)
 replace BK1658 := Aside0.mk (blk_drew BK1658.out)
 replace HI0 := Aside0.mk (IsS173.drew HI0.out)
 replace HK := Aside0.mk (keep_drew HK.out)
 replace HB := Aside0.mk (bd_ HB.out)
 refine start_ (n := 8) (S := fun w' => w'.cell? ⟨gb1658, 0, none⟩ = some (.slice Ao10 t1647.length co10) ∧ w'.cell? ⟨gb1658, 1, none⟩ = some (.int .i64 t1652) ∧ w'.cell? ⟨gb1658, 2, none⟩ = some (.int .i64 0) ∧ w'.cell? ⟨gb1658, 3, none⟩ = some (.string t1655)) (ds := [7]) #[f_,f_,f_,f_,f_,f_,f_,f_] (by kernel_rfl) rfl rfl ⟨bx_ BK1658.out 0, bx_ BK1658.out 1, bx_ BK1658.out 2, bx_ BK1658.out 3⟩ (fun hHeld => ?_); refine with_tabW spec_l4Draw.tab2 spec_l4Draw.bits2 (fun HT_ HW_ => ?_)
 generalize w15.drew = w16 at HO1649 BK1646 BK1658 HI0 HK HB hHeld ⊢
 refine pw_ 0 11 (b_ 1 7) rfl rfl HT_.out ?_
 refine pw_ 2 13 #[t_,f_,t_,f_,f_,f_,f_,f_] rfl rfl HT_.out ?_
 refine take_ (i := 1) (N := some 12) (v := ?_) (a' := ?_) #[t_,t_,t_,f_,f_,f_,f_,f_] rfl rfl (take_ofW HT_.out HW_.out (by kernel_rfl)) (fun _ _ _ h => h) (Or.inl ⟨by rfl, ?_⟩) hHeld ?_ ?_
 rotate_left
 ·
  rintro w' ⟨s0, s1, s2, s3⟩
  go_simp
  with_reducible rfl
 rotate_left
 ·
  simp only [fr_]
  rfl
 refine one_ (i := 3) (N := some 14) #[t_,t_,t_,t_,f_,f_,f_,f_] rfl rfl (one_of HT_.out (by kernel_rfl)) (by decide) (fun K hK => ?_)
 refine Kd.R_lit_step (Kd.int .i64) _ 3 ?hg (N := 14) ?hd (xs := ([0, 2, 5, 20, 60] : List Int)) (inner := [.int .i64 0, .int .i64 2, .int .i64 5, .int .i64 20, .int .i64 60]) (ok := fun _ => True) (okp := fun _ => True) ?hr ?hp (fun _ hk => hk) trivial (Below.refl _ _) (Nat.le_refl _) (by simp) ?_; (case hd => rfl); (case hg => rfl); (case hr => first | (go_simp; done) | (go_simp; rfl)); (case hp => exact (Reps.one (show Kd.M (Kd.int .i64) _ _ _ 0 [.int .i64 0] from rfl) (Reps.one (show Kd.M (Kd.int .i64) _ _ _ 2 [.int .i64 2] from rfl) (Reps.one (show Kd.M (Kd.int .i64) _ _ _ 5 [.int .i64 5] from rfl) (Reps.one (show Kd.M (Kd.int .i64) _ _ _ 20 [.int .i64 20] from rfl) (Reps.one (show Kd.M (Kd.int .i64) _ _ _ 60 [.int .i64 60] from rfl) (Reps.none _ _)))))))
 intro v1660 w17 ho18 hb hg_ hnew_
 clear hg_ hnew_
 (first | rw [← Ny1659.out] at ho18 | (simp only [Int.reduceToNat] at ho18; rw [← Ny1659.out] at ho18))
 replace HO1649 := Aside0.mk (Kd.R_below (rp_ HO1649.out) hb)
 have HO1661 := Aside0.mk (Kd.R_lower ho18 (keep_size (w := w) (g := g) (row := none) (by repeat (first | (with_reducible first | exact HK.out | apply KeepBut.set_ | apply keep_drewN | apply keep_drew | apply keep_alloc | refine keep_far ?_ GW1646.out _ | refine keep_far ?_ GW1658.out _) | exact HK.out))))
 replace BK1646 := bk2_ BK1646 hb
 replace BK1658 := bk2_ BK1658 hb
 replace HK := Aside0.mk (KeepBut.trans (by repeat (first | (with_reducible first | exact HK.out | apply KeepBut.set_ | apply keep_drewN | apply keep_drew | apply keep_alloc | refine keep_far ?_ GW1646.out _ | refine keep_far ?_ GW1658.out _) | exact HK.out)) (KeepBut.of_below hb g none) (.inl rfl))
 replace HB := Aside0.mk (below_step (by repeat (first | (with_reducible first | exact HB.out | apply ba_ | apply bn_ | apply bd_ | refine below_set ?_ (IsS173.ge HI0.out) | refine below_set ?_ GE1646.out | refine below_set ?_ GE1658.out) | exact HB.out)) hb)
 replace HI0 := Aside0.mk (IsS173.below (by repeat (first | (with_reducible first | exact HI0.out | apply IsS173.alloc | apply IsS173.drewN | apply IsS173.drew | apply IsS173.set_1 | apply IsS173.set_2 | refine IsS173.far ?_ NB0_1646.out _ | refine IsS173.far ?_ NB0_1658.out _) | exact HI0.out)) hb)
 clear hb ho18
 obtain ⟨Ao19, co19, eo19⟩ := Kd.R_slice HO1661.out
 (first | subst eo19 | (obtain ⟨rfl, rfl⟩ := si_ eo19))
 refine hK.out _ _ ⟨bx_ BK1658.out 0, bx_ BK1658.out 1, bx_ BK1658.out 2, bx_ BK1658.out 3⟩ (fun hHeld => ?_)
 clear hK K
 refine norm_ (a' := ?_) ?_ ?_
 rotate_left
 ·
  show Act.put _ (some 14) _ = _
  simp only [fr_]
  rfl
 refine one_ (i := 4) (N := some 15) #[t_,t_,t_,t_,t_,f_,f_,f_] rfl rfl (one_of HT_.out (by kernel_rfl)) (by decide) (fun K hK => ?_)
 refine gs_ Try.func162 #[.pointer (some ⟨g, 0, none⟩), .slice Ao19 y1659.length co19] ?_
 with_reducible refine (spec_l1Int.calls g s0_0 t1656 t1657 _ _ y1659 t1662 t1663 t1664 w0 _ ?side1 ?side2 ?side3 ?side4 ?side5 A5.out).mono ?_
 (case side1 => repeat (first | (with_reducible first | exact HI0.out | apply IsS173.alloc | apply IsS173.drewN | apply IsS173.drew | apply IsS173.set_1 | apply IsS173.set_2 | refine IsS173.far ?_ NB0_1646.out _ | refine IsS173.far ?_ NB0_1658.out _) | exact HI0.out))
 (case side2 => repeat (first | (with_reducible first | exact HB.out | apply ba_ | apply bn_ | apply bd_ | refine below_set ?_ (IsS173.ge HI0.out) | refine below_set ?_ GE1646.out | refine below_set ?_ GE1658.out) | exact HB.out))
 (case side3 => exact cp_ ((Kd.R_reads' HO1661.out).2.2))
 (case side4 => exact (Kd.R_reads' HO1661.out).2.1)
 (case side5 => exact far_slice (IsS173.own_ne HI0.out HO1661.out (by decide)))
 rintro e w20 ⟨rfl, hi, hb, hk⟩
 refine ⟨_, rfl, ?_⟩
 replace BK1646 := Aside0.mk (KeepBut.blk hk (g' := gb1646) (o := .cells #[.slice none 0 0, .int .i64 0, .int .i64 0, .string (⟨#[]⟩ : ByteArray)] 44 (0, 0)) (pb_ BK1646.out) NB1646_0.out (by simp))
 replace HO1649 := Aside0.mk (Kd.R_mono (Kd.R_keep (IsS173.apart (show IsS173 w0 _ g s0_0 t1656 t1657 from by repeat (first | (with_reducible first | exact HI0.out | apply IsS173.alloc | apply IsS173.drewN | apply IsS173.drew | apply IsS173.set_1 | apply IsS173.set_2 | refine IsS173.far ?_ NB0_1646.out _ | refine IsS173.far ?_ NB0_1658.out _) | exact HI0.out)) (rp_ HO1649.out) (by decide)) hk (fun _ h => h.2)) (fun _ h => h.1))
 replace BK1658 := Aside0.mk (KeepBut.blk hk (g' := gb1658) (o := .cells #[.slice Ao10 t1647.length co10, .int .i64 t1652, .int .i64 0, .string t1655] 44 (0, 0)) (pb_ BK1658.out) NB1658_0.out (by simp))
 replace HO1661 := Aside0.mk (Kd.R_mono (Kd.R_keep (IsS173.apart (show IsS173 w0 _ g s0_0 t1656 t1657 from by repeat (first | (with_reducible first | exact HI0.out | apply IsS173.alloc | apply IsS173.drewN | apply IsS173.drew | apply IsS173.set_1 | apply IsS173.set_2 | refine IsS173.far ?_ NB0_1646.out _ | refine IsS173.far ?_ NB0_1658.out _) | exact HI0.out)) (rp_ HO1661.out) (by decide)) hk (fun _ h => h.2)) (fun _ h => h.1))
 replace HK := Aside0.mk (KeepBut.trans (by repeat (first | (with_reducible first | exact HK.out | apply KeepBut.set_ | apply keep_drewN | apply keep_drew | apply keep_alloc | refine keep_far ?_ GW1646.out _ | refine keep_far ?_ GW1658.out _) | exact HK.out)) hk (.inl rfl))
 replace HB := Aside0.mk (hb)
 replace HI0 := Aside0.mk (hi)
 (try clear hb)
 (try clear hk)
 (try clear hi)
 refine hK.out _ _ ⟨bx_ BK1658.out 0, bx_ BK1658.out 1, bx_ BK1658.out 2, bx_ BK1658.out 3⟩ (fun hHeld => ?_)
 clear hK K
 refine norm_ (a' := ?_) ?_ ?_
 rotate_left
 ·
  show Act.put _ (some 15) _ = _
  simp only [fr_]
  rfl
 refine pw_ 5 16 (b_ 6 2) rfl rfl HT_.out ?_
 refine pw_ 6 17 (b_ 7 1) rfl rfl HT_.out ?_
 refine last_ (i := 7) (N := none) #[t_,t_,t_,t_,t_,t_,t_,t_] rfl rfl (one_of HT_.out (by kernel_rfl)) (by decide) (fun K hK => ?_)
 have hs21 : w20.cell? ⟨gb1658, 2, none⟩ = some (.int .i64 0) := bx_ BK1658.out 2
 have hfs21 := blk_frozen BK1658.out 2
 have hns21_0 := NB1646_1658.out
 have hms21_0 := NB1658_1646.out
 refine skip_ (w1 := ?_) (by rfl) rfl ?_ ?_
 rotate_left
 ·
  go_simp
  rfl
 refine hK.out _ _ ?_
 clear hK K
 refine done_ (done_of HT_.out (by kernel_rfl)) ?_
 obtain ⟨z22_0, z22_1, z22_2, z22_3, y22_0, y22_1, y22_2, y22_3⟩ := bc4_ BK1658.out
 have hnb23 := NB1646_0.out
 have hnc23 := NB0_1646.out
 obtain ⟨z24_0, z24_1, z24_2, z24_3, y24_0, y24_1, y24_2, y24_3⟩ := bc4_ BK1646.out
 try go_wp2
 refine bodyPost_ret (results_cell_row rfl _ _ gb1646 44 #[.slice Ao10 t1647.length co10, .int .i64 t1652, .int .i64 (wrap64 (t1652 + t1662)), .string t1655] (0, 0) _ rfl (bp_ BK1646.out) Try.underlying44 rfl (by kernel_rfl)) rfl ?_
 exact ⟨_, by first | rfl | (simp [errW_none, errW_some] <;> rfl) | (simp [*, errW_none, errW_some] <;> rfl), by (with_reducible repeat (first | apply Kd.R_alloc | apply Kd.R_drewN | apply Kd.R_drew)); exact Kd.R_mono (rf_ gb1646 (Kd.R_far (p := ⟨gb1658, 2, none⟩) (Kd.R_types (Kd.R_types HO1649.out BK1658.out (by decide)) BK1646.out (by decide)) (fun _ hk => hk.1.2) (.int .i64 (wrap64 (t1652 + t1662)))) (fun _ hk => hk.2)) (fun _ hk => trivial), by repeat (first | (with_reducible first | exact HI0.out | apply IsS173.alloc | apply IsS173.drewN | apply IsS173.drew | apply IsS173.set_1 | apply IsS173.set_2 | refine IsS173.far ?_ NB0_1646.out _ | refine IsS173.far ?_ NB0_1658.out _) | exact HI0.out), by repeat (first | (with_reducible first | exact HB.out | apply ba_ | apply bn_ | apply bd_ | refine below_set ?_ (IsS173.ge HI0.out) | refine below_set ?_ GE1646.out | refine below_set ?_ GE1658.out) | exact HB.out), by repeat (first | (with_reducible first | exact HK.out | apply KeepBut.set_ | apply keep_drewN | apply keep_drew | apply keep_alloc | refine keep_far ?_ GW1646.out _ | refine keep_far ?_ GW1658.out _) | exact HK.out)⟩
def spec_l9Draw.l0 : Nat → Int → List Int → Int → Int → List (S44) → Bool → Option ((List (S44)) × Bool × Int × Int)
 | 0, _, _, _, _, _, _ => none
 | k + 1, x4, x1000, x1001, x1002, x1685000, x1685001 => if x4 > 0 then ((spec_l4Draw.f k x1000 x1001 x1002).bind fun bt1688 => ((spec_Tell.f k x1685000 x1685001 bt1688.1 bt1688.2.1 bt1688.2.2.1 bt1688.2.2.2.1).bind fun bt1696 => (spec_l9Draw.l0 k (wrap64 (x4 - 1)) x1000 bt1688.2.2.2.2.1 bt1688.2.2.2.2.2 bt1696.1 bt1696.2))) else (some (x1685000, x1685001, x1001, x1002))
def spec_l9Draw.f (k : Nat) (s0_0 : List Int) (s0_1 : Int) (s0_2 : Int) : Option ((List (S44)) × Bool × Int × Int) := (spec_l1Below.f s0_0 s0_1 s0_2 6).bind fun bt1685 => (spec_l9Draw.l0 k bt1685.1 s0_0 bt1685.2.1 bt1685.2.2 ([] : List (S44)) false)
theorem spec_l9Draw.mono_l : ∀ k, (∀ y0 y1 y2 y3 y4 y5, LeO (spec_l9Draw.l0 k y0 y1 y2 y3 y4 y5) (spec_l9Draw.l0 (k + 1) y0 y1 y2 y3 y4 y5))
 | 0 => fun _ _ _ _ _ _ r h => by simp [spec_l9Draw.l0] at h
 | k + 1 => by
  have ih0 := spec_l9Draw.mono_l k
  intro y0 y1 y2 y3 y4 y5
  unfold spec_l9Draw.l0
  repeat' first
  | (with_reducible exact ih0 _ _ _ _ _ _)
  | (with_reducible exact spec_Tell.mono _ _ _ _ _ _ _)
  | (with_reducible exact spec_l4Draw.mono _ _ _ _)
  | (with_reducible exact LeO.refl _)
  | (with_reducible exact LeO.none _)
  | (with_reducible refine LeO.ite ?_ ?_)
  | (with_reducible refine LeO.bind ?_ (fun _ => ?_))
  | exact ih0 _ _ _ _ _ _
  | exact spec_Tell.mono _ _ _ _ _ _ _
  | exact spec_l4Draw.mono _ _ _ _
theorem spec_l9Draw.mono : ∀ a0 a1 a2 k, LeO (spec_l9Draw.f k a0 a1 a2) (spec_l9Draw.f (k + 1) a0 a1 a2) := by
 intro a0 a1 a2 k
 have ih0 := spec_l9Draw.mono_l k
 unfold spec_l9Draw.f
 repeat' first | (with_reducible first | exact ih0 _ _ _ _ _ _ | exact spec_Tell.mono _ _ _ _ _ _ _ | exact spec_l4Draw.mono _ _ _ _ | exact LeO.refl _ | exact LeO.none _ | refine LeO.ite ?_ ?_ | refine LeO.bind ?_ (fun _ => ?_)) | exact ih0 _ _ _ _ _ _ | exact spec_Tell.mono _ _ _ _ _ _ _ | exact spec_l4Draw.mono _ _ _ _
theorem spec_l9Draw.calls (k : Nat) (g : Nat) (s0_0 : List Int) (s0_1 : Int) (s0_2 : Int) (r1 : List (S44)) (r2 : Bool) (r3 : Int) (r4 : Int) (w0 w : World) (hI : IsS173 w0 w g s0_0 s0_1 s0_2) (hB : Below w0.heap.size w0 w) (h : spec_l9Draw.f k s0_0 s0_1 s0_2 = some (r1, r2, r3, r4)) :
  Calls Try.prog 158 #[.pointer (some ⟨g, 0, none⟩)] w fun e w' => ∃ v0_ : Value, e = .returned (.agg #[v0_, .bool r2]) ∧ Kd.S k44 44 w' w.heap.size (fun _ => True) v0_ r1 ∧ IsS173 w0 w' g s0_0 r3 r4 ∧ Below w0.heap.size w0 w' ∧ KeepBut w w' g none := by
 have hu39 := Try.underlying39
 have HI0 := Aside0.mk hI
 have HK := Aside0.mk (KeepBut.refl w g none)
 have HL := Aside0.mk hB.size
 clear hI
 have HW0 := Aside0.mk hB.size
 have HB := Aside0.mk hB
 clear hB
 have H : ((spec_l1Below.f s0_0 s0_1 s0_2 6).bind fun bt1685 => (spec_l9Draw.l0 k bt1685.1 s0_0 bt1685.2.1 bt1685.2.2 ([] : List (S44)) false)) = some (r1, r2, r3, r4) := h
 clear h
 replace H := Option.bind_eq_some_iff.mp H
 obtain ⟨⟨t1685, t1686, t1687⟩, A20, H⟩ := H
 have A2 := Aside0.mk A20
 clear A20
 have H' := Aside0.mk H
 clear H
 go_enter Try.func158, Try.ntmps158
 go_wp2_with (first | ((with_reducible refine gd_ 2 rfl ?_); refine bv_ 2 #[.slice none 0 0, .bool false] 39 ?_; intro gb1683 hg w3 hbox hb; replace HB := Aside0.mk (below_step (by repeat (first | (with_reducible first | exact HB.out | apply ba_ | apply bn_ | apply bd_ | refine below_set ?_ (IsS173.ge HI0.out)) | exact HB.out)) hb); have BK1683 := Aside0.mk (hbox); have GW1683 := Aside0.mk ((by rw [hg]; exact (keep_size (w := w) (g := g) (row := none) (by repeat (first | (with_reducible first | exact HK.out | apply KeepBut.set_ | apply keep_drewN | apply keep_drew | apply keep_alloc) | exact HK.out))) : w.heap.size ≤ gb1683)); replace HK := Aside0.mk (KeepBut.trans (by repeat (first | (with_reducible first | exact HK.out | apply KeepBut.set_ | apply keep_drewN | apply keep_drew | apply keep_alloc) | exact HK.out)) (KeepBut.of_below hb g none) (.inl rfl)); have GE1683 := Ge_.mk (Nat.le_trans HW0.out GW1683.out); have NB0_1683 := Ne_.mk ((by rw [hg]; exact Nat.ne_of_lt (IsS173.lt (show IsS173 w0 _ g s0_0 s0_1 s0_2 from by repeat (first | (with_reducible first | exact HI0.out | apply IsS173.alloc | apply IsS173.drewN | apply IsS173.drew | apply IsS173.set_1 | apply IsS173.set_2) | exact HI0.out))) : g ≠ gb1683)); replace HI0 := Aside0.mk (IsS173.below (by repeat (first | (with_reducible first | exact HI0.out | apply IsS173.alloc | apply IsS173.drewN | apply IsS173.drew | apply IsS173.set_1 | apply IsS173.set_2) | exact HI0.out)) hb); have NB1683_0 := Ne_.mk (NB0_1683.out.symm); clear hb hbox hg) | ((with_reducible refine gd_ 3 rfl ?_); refine bv_ 3 #[.slice none 0 0, .bool false] 39 ?_; intro gb1684 hg w4 hbox hb; replace HB := Aside0.mk (below_step (by repeat (first | (with_reducible first | exact HB.out | apply ba_ | apply bn_ | apply bd_ | refine below_set ?_ (IsS173.ge HI0.out) | refine below_set ?_ GE1683.out) | exact HB.out)) hb); have BK1684 := Aside0.mk (hbox); have GW1684 := Aside0.mk ((by rw [hg]; exact (keep_size (w := w) (g := g) (row := none) (by repeat (first | (with_reducible first | exact HK.out | apply KeepBut.set_ | apply keep_drewN | apply keep_drew | apply keep_alloc | refine keep_far ?_ GW1683.out _) | exact HK.out))) : w.heap.size ≤ gb1684)); replace HK := Aside0.mk (KeepBut.trans (by repeat (first | (with_reducible first | exact HK.out | apply KeepBut.set_ | apply keep_drewN | apply keep_drew | apply keep_alloc | refine keep_far ?_ GW1683.out _) | exact HK.out)) (KeepBut.of_below hb g none) (.inl rfl)); have GE1684 := Ge_.mk (Nat.le_trans HW0.out GW1684.out); have NB1683_1684 := Ne_.mk (nl_ BK1683.out hg); replace BK1683 := bk2_ BK1683 hb; have NB1684_1683 := Ne_.mk (NB1683_1684.out.symm); have NB0_1684 := Ne_.mk ((by rw [hg]; exact Nat.ne_of_lt (IsS173.lt (show IsS173 w0 _ g s0_0 s0_1 s0_2 from by repeat (first | (with_reducible first | exact HI0.out | apply IsS173.alloc | apply IsS173.drewN | apply IsS173.drew | apply IsS173.set_1 | apply IsS173.set_2 | refine IsS173.far ?_ NB0_1683.out _) | exact HI0.out))) : g ≠ gb1684)); replace HI0 := Aside0.mk (IsS173.below (by repeat (first | (with_reducible first | exact HI0.out | apply IsS173.alloc | apply IsS173.drewN | apply IsS173.drew | apply IsS173.set_1 | apply IsS173.set_2 | refine IsS173.far ?_ NB0_1683.out _) | exact HI0.out)) hb); have NB1684_0 := Ne_.mk (NB0_1684.out.symm); clear hb hbox hg; have hnb5 := NB1684_1683.out; have hnc5 := NB1683_1684.out; have hnb6 := NB1684_0.out; have hnc6 := NB0_1684.out; obtain ⟨z7_0, z7_1, y7_0, y7_1⟩ := bc2_ BK1684.out) | ((with_reducible refine gate_callee (f := 137) rfl ?_); refine gl_ (some 8) Try.func137 #[.pointer (some ⟨g, 0, none⟩), .int .i64 6] ?_; (with_reducible refine (spec_l1Below.calls g s0_0 s0_1 s0_2 6 t1685 t1686 t1687 w0 _ ?side1 ?side2 A2.out).mono ?_); (case side1 => repeat (first | (with_reducible first | exact HI0.out | apply IsS173.alloc | apply IsS173.drewN | apply IsS173.drew | apply IsS173.set_1 | apply IsS173.set_2 | refine IsS173.far ?_ NB0_1683.out _ | refine IsS173.far ?_ NB0_1684.out _) | exact HI0.out)); (case side2 => repeat (first | (with_reducible first | exact HB.out | apply ba_ | apply bn_ | apply bd_ | refine below_set ?_ (IsS173.ge HI0.out) | refine below_set ?_ GE1683.out | refine below_set ?_ GE1684.out) | exact HB.out)); rintro e w8 ⟨rfl, hi, hb, hk⟩; refine ⟨_, rfl, ?_⟩; replace BK1683 := Aside0.mk (KeepBut.blk hk (g' := gb1683) (o := .cells #[.slice none 0 0, .bool false] 39 (0, 0)) (bq_ BK1683.out) NB1683_0.out (by simp)); replace BK1684 := Aside0.mk (KeepBut.blk hk (g' := gb1684) (o := .cells #[.slice none 0 0, .bool false] 39 (0, 0)) (bp_ BK1684.out) NB1684_0.out (by simp)); replace HK := Aside0.mk (KeepBut.trans (by repeat (first | (with_reducible first | exact HK.out | apply KeepBut.set_ | apply keep_drewN | apply keep_drew | apply keep_alloc | refine keep_far ?_ GW1683.out _ | refine keep_far ?_ GW1684.out _) | exact HK.out)) hk (.inl rfl)); replace HB := Aside0.mk (hb); replace HI0 := Aside0.mk (hi); (try clear hb); (try clear hk); (try clear hi)))
 go_loopg [4] k (fun kq v4 w' => ∃ (x4_1 : Int) (x1001_1 : Int) (x1002_1 : Int) (x1685000_1 : List (S44)) (x1685001_1 : Bool) (u1685000 : Value), v4 = .int .i64 x4_1 ∧ Aside0 (spec_l9Draw.l0 kq x4_1 s0_0 x1001_1 x1002_1 x1685000_1 x1685001_1 = some (r1, r2, r3, r4)) ∧ Aside0 (kq ≤ k) ∧ Aside0 (Kd.S k44 44 w' w.heap.size (fun _ => True) u1685000 x1685000_1) ∧ Aside0 (w'.heap[gb1683]? = some (.cells #[(.slice none 0 0), .bool false] 39 (0, 0))) ∧ Aside0 (w'.heap[gb1684]? = some (.cells #[u1685000, .bool x1685001_1] 39 (0, 0))) ∧ Aside0 (IsS173 w0 w' g s0_0 x1001_1 x1002_1) ∧ Aside0 (KeepBut w w' g none) ∧ Aside0 (Below w0.heap.size w0 w'))
 case atStart => exact ⟨(t1685), (t1686), (t1687), (([] : List (S44))), (false), (.slice none 0 0), (by first | rfl | (simp; done) | (simp [*]; done)), H', ⟨Nat.le_refl _⟩, ⟨by first | exact Kd.S_nil _ _ _ _ _ | exact Kd.N_nil _ _ _ _ _ | exact Kd.V_nil _ _ _ _ _ | exact Kd.Q_nil _ _ _ _ _ | exact Kd.R_nil _ _ _ _ _⟩, ⟨bq_ BK1683.out⟩, ⟨bq_ BK1684.out⟩, ⟨by repeat (first | (with_reducible first | exact HI0.out | apply IsS173.alloc | apply IsS173.drewN | apply IsS173.drew | apply IsS173.set_1 | apply IsS173.set_2 | refine IsS173.far ?_ NB0_1683.out _ | refine IsS173.far ?_ NB0_1684.out _) | exact HI0.out)⟩, ⟨by repeat (first | (with_reducible first | exact HK.out | apply KeepBut.set_ | apply keep_drewN | apply keep_drew | apply keep_alloc | refine keep_far ?_ GW1683.out _ | refine keep_far ?_ GW1684.out _) | exact HK.out)⟩, ⟨by repeat (first | (with_reducible first | exact HB.out | apply ba_ | apply bn_ | apply bd_ | refine below_set ?_ (IsS173.ge HI0.out) | refine below_set ?_ GE1683.out | refine below_set ?_ GE1684.out) | exact HB.out)⟩⟩
 case round =>
  clear H'
  try clear c1
  try clear p2
  try clear c5
  try clear c6
  try clear z7_0 z7_1 y7_0 y7_1
  obtain ⟨x4_1, x1001_1, x1002_1, x1685000_1, x1685001_1, u1685000, rfl, HA, HK1, HO_1685000, BK1683, BK1684, HI0, HK, HB⟩ := hrel
  cases gk with
  | zero => exact absurd HA.out (by simp [spec_l9Draw.l0])
  | succ k1 =>
   have H := HA.out
   clear HA
   simp only [spec_l9Draw.l0] at H
   by_cases c9 : x4_1 > 0
   ·
    rw [if_pos c9] at H
    have c9b0 : decide (0 < x4_1) = true := decide_eq_true c9
    clear c9
    replace H := Option.bind_eq_some_iff.mp H
    obtain ⟨⟨t1688, t1691, t1692, t1693, t1694, t1695⟩, A100, H⟩ := H
    have A10 := Aside0.mk A100
    clear A100
    replace H := Option.bind_eq_some_iff.mp H
    obtain ⟨⟨t1696, t1699⟩, A110, H⟩ := H
    have A11 := Aside0.mk A110
    clear A110
    have H' := Aside0.mk H
    clear H
    obtain ⟨Ao12, co12, eo12⟩ := Kd.S_slice HO_1685000.out
    subst eo12
    try go_wp2
    replace HO_1685000 := Aside0.mk (Kd.S_drew HO_1685000.out)
    replace BK1683 := Aside0.mk (blk_drew BK1683.out)
    replace BK1684 := Aside0.mk (blk_drew BK1684.out)
    replace HI0 := Aside0.mk (IsS173.drew HI0.out)
    replace HK := Aside0.mk (keep_drew HK.out)
    replace HB := Aside0.mk (bd_ HB.out)
    refine start_ (n := 6) (S := fun w' => w'.cell? ⟨gb1684, 0, none⟩ = some (.slice Ao12 x1685000_1.length co12) ∧ w'.cell? ⟨gb1684, 1, none⟩ = some (.bool x1685001_1)) (ds := []) #[f_,f_,f_,f_,f_,f_] (by kernel_rfl) rfl rfl ⟨bx_ BK1684.out 0, bx_ BK1684.out 1⟩ (fun hHeld => ?_)
    generalize wr.drew = w13 at HO_1685000 BK1683 BK1684 HI0 HK HB hHeld ⊢
    refine pure_ (i := 1) (N := some 14) (v := ?_) (a' := ?_) #[f_,t_,f_,f_,f_,f_] rfl rfl (by kernel_rfl) (fun _ _ _ h => h) (Or.inl ⟨by rfl, ?_⟩) ?_ ?_
    rotate_left
    ·
     intro w'
     go_simp
     with_reducible rfl
    rotate_left
    ·
     simp only [fr_]
     rfl
    refine take_ (i := 0) (N := some 13) (v := ?_) (a' := ?_) #[t_,t_,f_,f_,f_,f_] rfl rfl (by kernel_rfl) (fun _ _ _ h => h) (Or.inl ⟨by rfl, ?_⟩) hHeld ?_ ?_
    rotate_left
    ·
     rintro w' ⟨s0, s1⟩
     go_simp
     with_reducible rfl
    rotate_left
    ·
     simp only [fr_]
     rfl
    refine join_ (σ := Value × Value × Nat) 1 #[t_,t_,t_,t_,t_,f_] (fun s_ => [(15, .agg #[s_.1, .int .i64 t1691, .int .i64 t1692, .string t1693]), (16, .agg #[s_.2.1, .bool t1699]), (5, .pointer (some ⟨s_.2.2, 0, none⟩))]) (fun s_ w' => (w'.cell? ⟨gb1684, 0, none⟩ = some (.slice Ao12 x1685000_1.length co12) ∧ w'.cell? ⟨gb1684, 1, none⟩ = some (.bool x1685001_1)) ∧ (Kd.R k164 164 w' w.heap.size (fun _ => True) s_.1 t1688) ∧ (Kd.S k44 44 w' w.heap.size (fun k_ => some k_ ≠ (s_.1 : Value).ownBlock ∧ some k_ ≠ (.slice Ao12 x1685000_1.length co12 : Value).ownBlock) s_.2.1 t1696) ∧ (Kd.S k44 44 w' w.heap.size (fun k_ => some k_ ≠ (s_.1 : Value).ownBlock ∧ some k_ ≠ (s_.2.1 : Value).ownBlock) (.slice Ao12 x1685000_1.length co12) x1685000_1) ∧ (w'.heap[gb1683]? = some (.cells #[.slice none 0 0, .bool false] 39 (0, 0))) ∧ (w'.heap[gb1684]? = some (.cells #[.slice Ao12 x1685000_1.length co12, .bool x1685001_1] 39 (0, 0))) ∧ (w'.heap[s_.2.2]? = some (.cells #[.slice none 0 0, .bool false] 39 (0, 0))) ∧ (w.heap.size ≤ s_.2.2) ∧ (w0.heap.size ≤ s_.2.2) ∧ (g ≠ s_.2.2) ∧ (s_.2.2 ≠ g) ∧ (gb1683 ≠ s_.2.2) ∧ (s_.2.2 ≠ gb1683) ∧ (gb1684 ≠ s_.2.2) ∧ (s_.2.2 ≠ gb1684) ∧ (IsS173 w0 w' g s0_0 t1694 t1695) ∧ (KeepBut w w' g none) ∧ (Below w0.heap.size w0 w')) ?_ ?_
    rotate_left
    ·
     intro hCont
     refine two_ (i := 2) (j := 4) (Ni := some 15) (Nj := some 5) #[t_,t_,t_,f_,f_,f_] #[t_,t_,f_,f_,t_,f_] rfl rfl rfl rfl (by kernel_rfl) (by decide) (by decide) (fun K hK => ?_) (fun K hK => ?_)
     ·
      skip
      refine gs_ Try.func135 #[.pointer (some ⟨g, 0, none⟩)] ?_
      with_reducible refine (spec_l4Draw.calls k1 g s0_0 x1001_1 x1002_1 t1688 t1691 t1692 t1693 t1694 t1695 w0 _ ?side1 ?side2 A10.out).mono ?_
      (case side1 => repeat (first | (with_reducible first | exact HI0.out | apply IsS173.alloc | apply IsS173.drewN | apply IsS173.drew | apply IsS173.set_1 | apply IsS173.set_2 | refine IsS173.far ?_ NB0_1683.out _ | refine IsS173.far ?_ NB0_1684.out _) | exact HI0.out))
      (case side2 => repeat (first | (with_reducible first | exact HB.out | apply ba_ | apply bn_ | apply bd_ | refine below_set ?_ (IsS173.ge HI0.out) | refine below_set ?_ GE1683.out | refine below_set ?_ GE1684.out) | exact HB.out))
      rintro e w14 ⟨v1689, rfl, ho0, hi, hb, hk⟩
      refine ⟨_, rfl, ?_⟩
      replace HO_1685000 := Aside0.mk (Kd.S_mono (Kd.S_told (Kd.S_oldK (IsS173.apartS (show IsS173 w0 _ g s0_0 x1001_1 x1002_1 from by repeat (first | (with_reducible first | exact HI0.out | apply IsS173.alloc | apply IsS173.drewN | apply IsS173.drew | apply IsS173.set_1 | apply IsS173.set_2 | refine IsS173.far ?_ NB0_1683.out _ | refine IsS173.far ?_ NB0_1684.out _) | exact HI0.out)) (sp_ HO_1685000.out) (by decide)) hk) (Kd.R_base ho0)) (fun _ h_ => h_.1))
      replace BK1683 := Aside0.mk (KeepBut.blk hk (g' := gb1683) (o := .cells #[.slice none 0 0, .bool false] 39 (0, 0)) (pb_ BK1683.out) NB1683_0.out (by simp))
      replace BK1684 := Aside0.mk (KeepBut.blk hk (g' := gb1684) (o := .cells #[.slice Ao12 x1685000_1.length co12, .bool x1685001_1] 39 (0, 0)) (pb_ BK1684.out) NB1684_0.out (by simp))
      have HO1690 := Aside0.mk (Kd.R_lower ho0 (keep_size (w := w) (g := g) (row := none) (by repeat (first | (with_reducible first | exact HK.out | apply KeepBut.set_ | apply keep_drewN | apply keep_drew | apply keep_alloc | refine keep_far ?_ GW1683.out _ | refine keep_far ?_ GW1684.out _) | exact HK.out))))
      replace HK := Aside0.mk (KeepBut.trans (by repeat (first | (with_reducible first | exact HK.out | apply KeepBut.set_ | apply keep_drewN | apply keep_drew | apply keep_alloc | refine keep_far ?_ GW1683.out _ | refine keep_far ?_ GW1684.out _) | exact HK.out)) hk (.inl rfl))
      replace HB := Aside0.mk (hb)
      replace HI0 := Aside0.mk (hi)
      (try clear hb)
      (try clear hk)
      (try clear hi)
      (try clear ho0)
      obtain ⟨Ao15, co15, eo15⟩ := Kd.R_slice HO1690.out
      (first | subst eo15 | (obtain ⟨rfl, rfl⟩ := si_ eo15))
      refine hK.out _ _ ⟨bx_ BK1684.out 0, bx_ BK1684.out 1⟩ (fun hHeld => ?_)
      clear hK K
      refine norm_ (a' := ?_) ?_ ?_
      rotate_left
      ·
       show Act.put _ (some 15) _ = _
       simp only [fr_]
       rfl
      refine two_ (i := 3) (j := 4) (Ni := some 16) (Nj := some 5) #[t_,t_,t_,t_,f_,f_] #[t_,t_,t_,f_,t_,f_] rfl rfl rfl rfl (by kernel_rfl) (by decide) (by decide) (fun K hK => ?_) (fun K hK => ?_)
      ·
       skip
       refine gs_ Try.func22 #[.agg #[.slice Ao12 x1685000_1.length co12, .bool x1685001_1], .agg #[.slice Ao15 t1688.length co15, .int .i64 t1691, .int .i64 t1692, .string t1693]] ?_
       with_reducible refine (spec_Tell.calls k1 _ _ x1685000_1 x1685001_1 _ _ t1688 t1691 t1692 t1693 t1696 t1699 _ ?side1 ?side2 ?side3 ?side4 A11.out).mono ?_
       (case side1 => exact cp_ ((Kd.S_reads' HO_1685000.out).2.2))
       (case side2 => exact (Kd.S_reads' HO_1685000.out).2.1)
       (case side3 => exact cp_ ((Kd.R_reads' HO1690.out).2.2))
       (case side4 => exact (Kd.R_reads' HO1690.out).2.1)
       rintro e w16 ⟨v1697, rfl, ho0, hb⟩
       refine ⟨_, rfl, ?_⟩
       have HO1698 := Aside0.mk (Kd.S_lower (Kd.S_new' (Kd.S_new' ho0 (Kd.S_lt (sp_ HO_1685000.out))) (Kd.R_lt (rp_ HO1690.out))) (keep_size (w := w) (g := g) (row := none) (by repeat (first | (with_reducible first | exact HK.out | apply KeepBut.set_ | apply keep_drewN | apply keep_drew | apply keep_alloc | refine keep_far ?_ GW1683.out _ | refine keep_far ?_ GW1684.out _) | exact HK.out))))
       replace HO_1685000 := Aside0.mk (Kd.S_elder' (sp_ HO_1685000.out) (Kd.S_base ho0) hb)
       replace HO1690 := Aside0.mk (Kd.R_below (rp_ HO1690.out) hb)
       replace BK1683 := bk2_ BK1683 hb
       replace BK1684 := bk2_ BK1684 hb
       replace HK := Aside0.mk (KeepBut.trans (by repeat (first | (with_reducible first | exact HK.out | apply KeepBut.set_ | apply keep_drewN | apply keep_drew | apply keep_alloc | refine keep_far ?_ GW1683.out _ | refine keep_far ?_ GW1684.out _) | exact HK.out)) (KeepBut.of_below hb g none) (.inl rfl))
       replace HB := Aside0.mk (below_step (by repeat (first | (with_reducible first | exact HB.out | apply ba_ | apply bn_ | apply bd_ | refine below_set ?_ (IsS173.ge HI0.out) | refine below_set ?_ GE1683.out | refine below_set ?_ GE1684.out) | exact HB.out)) hb)
       replace HI0 := Aside0.mk (IsS173.below (by repeat (first | (with_reducible first | exact HI0.out | apply IsS173.alloc | apply IsS173.drewN | apply IsS173.drew | apply IsS173.set_1 | apply IsS173.set_2 | refine IsS173.far ?_ NB0_1683.out _ | refine IsS173.far ?_ NB0_1684.out _) | exact HI0.out)) hb)
       (try clear hb)
       (try clear hk)
       (try clear hi)
       (try clear ho0)
       refine hK.out _ _ ⟨bx_ BK1684.out 0, bx_ BK1684.out 1⟩ (fun hHeld => ?_)
       clear hK K
       refine norm_ (a' := ?_) ?_ ?_
       rotate_left
       ·
        show Act.put _ (some 16) _ = _
        simp only [fr_]
        rfl
       refine one_ (i := 4) (N := some 5) #[t_,t_,t_,t_,t_,f_] rfl rfl (by kernel_rfl) (by decide) (fun K hK => ?_)
       refine bs1_ 5 #[.slice none 0 0, .bool false] 39 ?_
       intro gb1700 hg w17 hbox hb
       replace HO_1685000 := Aside0.mk (Kd.S_below (sp_ HO_1685000.out) hb)
       replace HO1690 := Aside0.mk (Kd.R_below (rp_ HO1690.out) hb)
       replace HO1698 := Aside0.mk (Kd.S_below (sp_ HO1698.out) hb)
       replace HB := Aside0.mk (below_step (by repeat (first | (with_reducible first | exact HB.out | apply ba_ | apply bn_ | apply bd_ | refine below_set ?_ (IsS173.ge HI0.out) | refine below_set ?_ GE1683.out | refine below_set ?_ GE1684.out) | exact HB.out)) hb)
       have BK1700 := Aside0.mk (hbox)
       have GW1700 := Aside0.mk ((by rw [hg]; exact (keep_size (w := w) (g := g) (row := none) (by repeat (first | (with_reducible first | exact HK.out | apply KeepBut.set_ | apply keep_drewN | apply keep_drew | apply keep_alloc | refine keep_far ?_ GW1683.out _ | refine keep_far ?_ GW1684.out _) | exact HK.out))) : w.heap.size ≤ gb1700))
       have GE1700 := Ge_.mk ((Nat.le_trans HW0.out (by rw [hg]; exact (keep_size (w := w) (g := g) (row := none) (by repeat (first | (with_reducible first | exact HK.out | apply KeepBut.set_ | apply keep_drewN | apply keep_drew | apply keep_alloc | refine keep_far ?_ GW1683.out _ | refine keep_far ?_ GW1684.out _) | exact HK.out))) : w.heap.size ≤ gb1700) : w0.heap.size ≤ gb1700))
       replace HK := Aside0.mk (KeepBut.trans (by repeat (first | (with_reducible first | exact HK.out | apply KeepBut.set_ | apply keep_drewN | apply keep_drew | apply keep_alloc | refine keep_far ?_ GW1683.out _ | refine keep_far ?_ GW1684.out _) | exact HK.out)) (KeepBut.of_below hb g none) (.inl rfl))
       have NB1683_1700 := Ne_.mk (nl_ BK1683.out hg)
       have NB1700_1683 := Ne_.mk (ng_ BK1683.out hg)
       replace BK1683 := bk2_ BK1683 hb
       have NB1684_1700 := Ne_.mk (nl_ BK1684.out hg)
       have NB1700_1684 := Ne_.mk (ng_ BK1684.out hg)
       replace BK1684 := bk2_ BK1684 hb
       have NB0_1700 := Ne_.mk ((by rw [hg]; exact Nat.ne_of_lt (IsS173.lt (show IsS173 w0 _ g s0_0 t1694 t1695 from by repeat (first | (with_reducible first | exact HI0.out | apply IsS173.alloc | apply IsS173.drewN | apply IsS173.drew | apply IsS173.set_1 | apply IsS173.set_2 | refine IsS173.far ?_ NB0_1683.out _ | refine IsS173.far ?_ NB0_1684.out _) | exact HI0.out))) : g ≠ gb1700))
       have NB1700_0 := Ne_.mk ((by rw [hg]; exact Nat.ne_of_gt (IsS173.lt (show IsS173 w0 _ g s0_0 t1694 t1695 from by repeat (first | (with_reducible first | exact HI0.out | apply IsS173.alloc | apply IsS173.drewN | apply IsS173.drew | apply IsS173.set_1 | apply IsS173.set_2 | refine IsS173.far ?_ NB0_1683.out _ | refine IsS173.far ?_ NB0_1684.out _) | exact HI0.out))) : gb1700 ≠ g))
       replace HI0 := Aside0.mk (IsS173.below (by repeat (first | (with_reducible first | exact HI0.out | apply IsS173.alloc | apply IsS173.drewN | apply IsS173.drew | apply IsS173.set_1 | apply IsS173.set_2 | refine IsS173.far ?_ NB0_1683.out _ | refine IsS173.far ?_ NB0_1684.out _) | exact HI0.out)) hb)
       clear hb hbox hg
       refine hK.out _ _ ⟨bx_ BK1684.out 0, bx_ BK1684.out 1⟩ (fun hHeld => ?_)
       clear hK K
       refine norm_ (a' := ?_) ?_ ?_
       rotate_left
       ·
        show Act.put _ (some 5) _ = _
        simp only [fr_]
        rfl
       exact norm_ (by simp only [putAll, fr_]) (hCont (.slice Ao15 t1688.length co15, v1697, gb1700) _ ⟨hHeld, (rp_ HO1690.out), (Kd.S_mono (sp_ HO1698.out) (fun _ hk => ⟨hk.2, hk.1.2⟩)), (Kd.S_mono (sp_ HO_1685000.out) (fun _ hk => ⟨hk.1.2, hk.2⟩)), (pb_ BK1683.out), (pb_ BK1684.out), (pb_ BK1700.out), GW1700.out, GE1700.out, NB0_1700.out, NB1700_0.out, NB1683_1700.out, NB1700_1683.out, NB1684_1700.out, NB1700_1684.out, (by repeat (first | (with_reducible first | exact HI0.out | apply IsS173.alloc | apply IsS173.drewN | apply IsS173.drew | apply IsS173.set_1 | apply IsS173.set_2 | refine IsS173.far ?_ NB0_1683.out _ | refine IsS173.far ?_ NB0_1684.out _ | refine IsS173.far ?_ NB0_1700.out _) | exact HI0.out)), (by repeat (first | (with_reducible first | exact HK.out | apply KeepBut.set_ | apply keep_drewN | apply keep_drew | apply keep_alloc | refine keep_far ?_ GW1683.out _ | refine keep_far ?_ GW1684.out _ | refine keep_far ?_ GW1700.out _) | exact HK.out)), (by repeat (first | (with_reducible first | exact HB.out | apply ba_ | apply bn_ | apply bd_ | refine below_set ?_ (IsS173.ge HI0.out) | refine below_set ?_ GE1683.out | refine below_set ?_ GE1684.out | refine below_set ?_ GE1700.out) | exact HB.out))⟩)
      skip
      refine bs1_ 5 #[.slice none 0 0, .bool false] 39 ?_
      intro gb1700 hg w15 hbox hb
      replace HO_1685000 := Aside0.mk (Kd.S_below (sp_ HO_1685000.out) hb)
      replace HO1690 := Aside0.mk (Kd.R_below (rp_ HO1690.out) hb)
      replace HB := Aside0.mk (below_step (by repeat (first | (with_reducible first | exact HB.out | apply ba_ | apply bn_ | apply bd_ | refine below_set ?_ (IsS173.ge HI0.out) | refine below_set ?_ GE1683.out | refine below_set ?_ GE1684.out) | exact HB.out)) hb)
      have BK1700 := Aside0.mk (hbox)
      have GW1700 := Aside0.mk ((by rw [hg]; exact (keep_size (w := w) (g := g) (row := none) (by repeat (first | (with_reducible first | exact HK.out | apply KeepBut.set_ | apply keep_drewN | apply keep_drew | apply keep_alloc | refine keep_far ?_ GW1683.out _ | refine keep_far ?_ GW1684.out _) | exact HK.out))) : w.heap.size ≤ gb1700))
      have GE1700 := Ge_.mk ((Nat.le_trans HW0.out (by rw [hg]; exact (keep_size (w := w) (g := g) (row := none) (by repeat (first | (with_reducible first | exact HK.out | apply KeepBut.set_ | apply keep_drewN | apply keep_drew | apply keep_alloc | refine keep_far ?_ GW1683.out _ | refine keep_far ?_ GW1684.out _) | exact HK.out))) : w.heap.size ≤ gb1700) : w0.heap.size ≤ gb1700))
      replace HK := Aside0.mk (KeepBut.trans (by repeat (first | (with_reducible first | exact HK.out | apply KeepBut.set_ | apply keep_drewN | apply keep_drew | apply keep_alloc | refine keep_far ?_ GW1683.out _ | refine keep_far ?_ GW1684.out _) | exact HK.out)) (KeepBut.of_below hb g none) (.inl rfl))
      have NB1683_1700 := Ne_.mk (nl_ BK1683.out hg)
      have NB1700_1683 := Ne_.mk (ng_ BK1683.out hg)
      replace BK1683 := bk2_ BK1683 hb
      have NB1684_1700 := Ne_.mk (nl_ BK1684.out hg)
      have NB1700_1684 := Ne_.mk (ng_ BK1684.out hg)
      replace BK1684 := bk2_ BK1684 hb
      have NB0_1700 := Ne_.mk ((by rw [hg]; exact Nat.ne_of_lt (IsS173.lt (show IsS173 w0 _ g s0_0 t1694 t1695 from by repeat (first | (with_reducible first | exact HI0.out | apply IsS173.alloc | apply IsS173.drewN | apply IsS173.drew | apply IsS173.set_1 | apply IsS173.set_2 | refine IsS173.far ?_ NB0_1683.out _ | refine IsS173.far ?_ NB0_1684.out _) | exact HI0.out))) : g ≠ gb1700))
      have NB1700_0 := Ne_.mk ((by rw [hg]; exact Nat.ne_of_gt (IsS173.lt (show IsS173 w0 _ g s0_0 t1694 t1695 from by repeat (first | (with_reducible first | exact HI0.out | apply IsS173.alloc | apply IsS173.drewN | apply IsS173.drew | apply IsS173.set_1 | apply IsS173.set_2 | refine IsS173.far ?_ NB0_1683.out _ | refine IsS173.far ?_ NB0_1684.out _) | exact HI0.out))) : gb1700 ≠ g))
      replace HI0 := Aside0.mk (IsS173.below (by repeat (first | (with_reducible first | exact HI0.out | apply IsS173.alloc | apply IsS173.drewN | apply IsS173.drew | apply IsS173.set_1 | apply IsS173.set_2 | refine IsS173.far ?_ NB0_1683.out _ | refine IsS173.far ?_ NB0_1684.out _) | exact HI0.out)) hb)
      clear hb hbox hg
      obtain ⟨Ao16, co16, eo16⟩ := Kd.R_slice HO1690.out
      (first | subst eo16 | (obtain ⟨rfl, rfl⟩ := si_ eo16))
      refine hK.out _ _ ⟨bx_ BK1684.out 0, bx_ BK1684.out 1⟩ (fun hHeld => ?_)
      clear hK K
      refine norm_ (a' := ?_) ?_ ?_
      rotate_left
      ·
       show Act.put _ (some 5) _ = _
       simp only [fr_]
       rfl
      refine one_ (i := 3) (N := some 16) #[t_,t_,t_,t_,t_,f_] rfl rfl (by kernel_rfl) (by decide) (fun K hK => ?_)
      refine gs_ Try.func22 #[.agg #[.slice Ao12 x1685000_1.length co12, .bool x1685001_1], .agg #[.slice Ao16 t1688.length co16, .int .i64 t1691, .int .i64 t1692, .string t1693]] ?_
      with_reducible refine (spec_Tell.calls k1 _ _ x1685000_1 x1685001_1 _ _ t1688 t1691 t1692 t1693 t1696 t1699 _ ?side1 ?side2 ?side3 ?side4 A11.out).mono ?_
      (case side1 => exact cp_ ((Kd.S_reads' HO_1685000.out).2.2))
      (case side2 => exact (Kd.S_reads' HO_1685000.out).2.1)
      (case side3 => exact cp_ ((Kd.R_reads' HO1690.out).2.2))
      (case side4 => exact (Kd.R_reads' HO1690.out).2.1)
      rintro e w17 ⟨v1697, rfl, ho0, hb⟩
      refine ⟨_, rfl, ?_⟩
      have HO1698 := Aside0.mk (Kd.S_lower (Kd.S_new' (Kd.S_new' ho0 (Kd.S_lt (sp_ HO_1685000.out))) (Kd.R_lt (rp_ HO1690.out))) (keep_size (w := w) (g := g) (row := none) (by repeat (first | (with_reducible first | exact HK.out | apply KeepBut.set_ | apply keep_drewN | apply keep_drew | apply keep_alloc | refine keep_far ?_ GW1683.out _ | refine keep_far ?_ GW1684.out _ | refine keep_far ?_ GW1700.out _) | exact HK.out))))
      replace HO_1685000 := Aside0.mk (Kd.S_elder' (sp_ HO_1685000.out) (Kd.S_base ho0) hb)
      replace HO1690 := Aside0.mk (Kd.R_below (rp_ HO1690.out) hb)
      replace BK1683 := bk2_ BK1683 hb
      replace BK1684 := bk2_ BK1684 hb
      replace BK1700 := bk2_ BK1700 hb
      replace HK := Aside0.mk (KeepBut.trans (by repeat (first | (with_reducible first | exact HK.out | apply KeepBut.set_ | apply keep_drewN | apply keep_drew | apply keep_alloc | refine keep_far ?_ GW1683.out _ | refine keep_far ?_ GW1684.out _ | refine keep_far ?_ GW1700.out _) | exact HK.out)) (KeepBut.of_below hb g none) (.inl rfl))
      replace HB := Aside0.mk (below_step (by repeat (first | (with_reducible first | exact HB.out | apply ba_ | apply bn_ | apply bd_ | refine below_set ?_ (IsS173.ge HI0.out) | refine below_set ?_ GE1683.out | refine below_set ?_ GE1684.out | refine below_set ?_ GE1700.out) | exact HB.out)) hb)
      replace HI0 := Aside0.mk (IsS173.below (by repeat (first | (with_reducible first | exact HI0.out | apply IsS173.alloc | apply IsS173.drewN | apply IsS173.drew | apply IsS173.set_1 | apply IsS173.set_2 | refine IsS173.far ?_ NB0_1683.out _ | refine IsS173.far ?_ NB0_1684.out _ | refine IsS173.far ?_ NB0_1700.out _) | exact HI0.out)) hb)
      (try clear hb)
      (try clear hk)
      (try clear hi)
      (try clear ho0)
      refine hK.out _ _ ⟨bx_ BK1684.out 0, bx_ BK1684.out 1⟩ (fun hHeld => ?_)
      clear hK K
      refine norm_ (a' := ?_) ?_ ?_
      rotate_left
      ·
       show Act.put _ (some 16) _ = _
       simp only [fr_]
       rfl
      exact norm_ (by simp only [putAll, fr_]) (hCont (.slice Ao16 t1688.length co16, v1697, gb1700) _ ⟨hHeld, (rp_ HO1690.out), (Kd.S_mono (sp_ HO1698.out) (fun _ hk => ⟨hk.2, hk.1.2⟩)), (Kd.S_mono (sp_ HO_1685000.out) (fun _ hk => ⟨hk.1.2, hk.2⟩)), (pb_ BK1683.out), (pb_ BK1684.out), (pb_ BK1700.out), GW1700.out, GE1700.out, NB0_1700.out, NB1700_0.out, NB1683_1700.out, NB1700_1683.out, NB1684_1700.out, NB1700_1684.out, (by repeat (first | (with_reducible first | exact HI0.out | apply IsS173.alloc | apply IsS173.drewN | apply IsS173.drew | apply IsS173.set_1 | apply IsS173.set_2 | refine IsS173.far ?_ NB0_1683.out _ | refine IsS173.far ?_ NB0_1684.out _ | refine IsS173.far ?_ NB0_1700.out _) | exact HI0.out)), (by repeat (first | (with_reducible first | exact HK.out | apply KeepBut.set_ | apply keep_drewN | apply keep_drew | apply keep_alloc | refine keep_far ?_ GW1683.out _ | refine keep_far ?_ GW1684.out _ | refine keep_far ?_ GW1700.out _) | exact HK.out)), (by repeat (first | (with_reducible first | exact HB.out | apply ba_ | apply bn_ | apply bd_ | refine below_set ?_ (IsS173.ge HI0.out) | refine below_set ?_ GE1683.out | refine below_set ?_ GE1684.out | refine below_set ?_ GE1700.out) | exact HB.out))⟩)
     skip
     refine bs1_ 5 #[.slice none 0 0, .bool false] 39 ?_
     intro gb1700 hg w14 hbox hb
     replace HO_1685000 := Aside0.mk (Kd.S_below (sp_ HO_1685000.out) hb)
     replace HB := Aside0.mk (below_step (by repeat (first | (with_reducible first | exact HB.out | apply ba_ | apply bn_ | apply bd_ | refine below_set ?_ (IsS173.ge HI0.out) | refine below_set ?_ GE1683.out | refine below_set ?_ GE1684.out) | exact HB.out)) hb)
     have BK1700 := Aside0.mk (hbox)
     have GW1700 := Aside0.mk ((by rw [hg]; exact (keep_size (w := w) (g := g) (row := none) (by repeat (first | (with_reducible first | exact HK.out | apply KeepBut.set_ | apply keep_drewN | apply keep_drew | apply keep_alloc | refine keep_far ?_ GW1683.out _ | refine keep_far ?_ GW1684.out _) | exact HK.out))) : w.heap.size ≤ gb1700))
     have GE1700 := Ge_.mk ((Nat.le_trans HW0.out (by rw [hg]; exact (keep_size (w := w) (g := g) (row := none) (by repeat (first | (with_reducible first | exact HK.out | apply KeepBut.set_ | apply keep_drewN | apply keep_drew | apply keep_alloc | refine keep_far ?_ GW1683.out _ | refine keep_far ?_ GW1684.out _) | exact HK.out))) : w.heap.size ≤ gb1700) : w0.heap.size ≤ gb1700))
     replace HK := Aside0.mk (KeepBut.trans (by repeat (first | (with_reducible first | exact HK.out | apply KeepBut.set_ | apply keep_drewN | apply keep_drew | apply keep_alloc | refine keep_far ?_ GW1683.out _ | refine keep_far ?_ GW1684.out _) | exact HK.out)) (KeepBut.of_below hb g none) (.inl rfl))
     have NB1683_1700 := Ne_.mk (nl_ BK1683.out hg)
     have NB1700_1683 := Ne_.mk (ng_ BK1683.out hg)
     replace BK1683 := bk2_ BK1683 hb
     have NB1684_1700 := Ne_.mk (nl_ BK1684.out hg)
     have NB1700_1684 := Ne_.mk (ng_ BK1684.out hg)
     replace BK1684 := bk2_ BK1684 hb
     have NB0_1700 := Ne_.mk ((by rw [hg]; exact Nat.ne_of_lt (IsS173.lt (show IsS173 w0 _ g s0_0 x1001_1 x1002_1 from by repeat (first | (with_reducible first | exact HI0.out | apply IsS173.alloc | apply IsS173.drewN | apply IsS173.drew | apply IsS173.set_1 | apply IsS173.set_2 | refine IsS173.far ?_ NB0_1683.out _ | refine IsS173.far ?_ NB0_1684.out _) | exact HI0.out))) : g ≠ gb1700))
     have NB1700_0 := Ne_.mk ((by rw [hg]; exact Nat.ne_of_gt (IsS173.lt (show IsS173 w0 _ g s0_0 x1001_1 x1002_1 from by repeat (first | (with_reducible first | exact HI0.out | apply IsS173.alloc | apply IsS173.drewN | apply IsS173.drew | apply IsS173.set_1 | apply IsS173.set_2 | refine IsS173.far ?_ NB0_1683.out _ | refine IsS173.far ?_ NB0_1684.out _) | exact HI0.out))) : gb1700 ≠ g))
     replace HI0 := Aside0.mk (IsS173.below (by repeat (first | (with_reducible first | exact HI0.out | apply IsS173.alloc | apply IsS173.drewN | apply IsS173.drew | apply IsS173.set_1 | apply IsS173.set_2 | refine IsS173.far ?_ NB0_1683.out _ | refine IsS173.far ?_ NB0_1684.out _) | exact HI0.out)) hb)
     clear hb hbox hg
     refine hK.out _ _ ⟨bx_ BK1684.out 0, bx_ BK1684.out 1⟩ (fun hHeld => ?_)
     clear hK K
     refine norm_ (a' := ?_) ?_ ?_
     rotate_left
     ·
      show Act.put _ (some 5) _ = _
      simp only [fr_]
      rfl
     refine one_ (i := 2) (N := some 15) #[t_,t_,t_,f_,t_,f_] rfl rfl (by kernel_rfl) (by decide) (fun K hK => ?_)
     refine gs_ Try.func135 #[.pointer (some ⟨g, 0, none⟩)] ?_
     with_reducible refine (spec_l4Draw.calls k1 g s0_0 x1001_1 x1002_1 t1688 t1691 t1692 t1693 t1694 t1695 w0 _ ?side1 ?side2 A10.out).mono ?_
     (case side1 => repeat (first | (with_reducible first | exact HI0.out | apply IsS173.alloc | apply IsS173.drewN | apply IsS173.drew | apply IsS173.set_1 | apply IsS173.set_2 | refine IsS173.far ?_ NB0_1683.out _ | refine IsS173.far ?_ NB0_1684.out _ | refine IsS173.far ?_ NB0_1700.out _) | exact HI0.out))
     (case side2 => repeat (first | (with_reducible first | exact HB.out | apply ba_ | apply bn_ | apply bd_ | refine below_set ?_ (IsS173.ge HI0.out) | refine below_set ?_ GE1683.out | refine below_set ?_ GE1684.out | refine below_set ?_ GE1700.out) | exact HB.out))
     rintro e w15 ⟨v1689, rfl, ho0, hi, hb, hk⟩
     refine ⟨_, rfl, ?_⟩
     replace HO_1685000 := Aside0.mk (Kd.S_mono (Kd.S_told (Kd.S_oldK (IsS173.apartS (show IsS173 w0 _ g s0_0 x1001_1 x1002_1 from by repeat (first | (with_reducible first | exact HI0.out | apply IsS173.alloc | apply IsS173.drewN | apply IsS173.drew | apply IsS173.set_1 | apply IsS173.set_2 | refine IsS173.far ?_ NB0_1683.out _ | refine IsS173.far ?_ NB0_1684.out _ | refine IsS173.far ?_ NB0_1700.out _) | exact HI0.out)) (sp_ HO_1685000.out) (by decide)) hk) (Kd.R_base ho0)) (fun _ h_ => h_.1))
     replace BK1683 := Aside0.mk (KeepBut.blk hk (g' := gb1683) (o := .cells #[.slice none 0 0, .bool false] 39 (0, 0)) (pb_ BK1683.out) NB1683_0.out (by simp))
     replace BK1684 := Aside0.mk (KeepBut.blk hk (g' := gb1684) (o := .cells #[.slice Ao12 x1685000_1.length co12, .bool x1685001_1] 39 (0, 0)) (pb_ BK1684.out) NB1684_0.out (by simp))
     replace BK1700 := Aside0.mk (KeepBut.blk hk (g' := gb1700) (o := .cells #[.slice none 0 0, .bool false] 39 (0, 0)) (pb_ BK1700.out) NB1700_0.out (by simp))
     have HO1690 := Aside0.mk (Kd.R_lower ho0 (keep_size (w := w) (g := g) (row := none) (by repeat (first | (with_reducible first | exact HK.out | apply KeepBut.set_ | apply keep_drewN | apply keep_drew | apply keep_alloc | refine keep_far ?_ GW1683.out _ | refine keep_far ?_ GW1684.out _ | refine keep_far ?_ GW1700.out _) | exact HK.out))))
     replace HK := Aside0.mk (KeepBut.trans (by repeat (first | (with_reducible first | exact HK.out | apply KeepBut.set_ | apply keep_drewN | apply keep_drew | apply keep_alloc | refine keep_far ?_ GW1683.out _ | refine keep_far ?_ GW1684.out _ | refine keep_far ?_ GW1700.out _) | exact HK.out)) hk (.inl rfl))
     replace HB := Aside0.mk (hb)
     replace HI0 := Aside0.mk (hi)
     (try clear hb)
     (try clear hk)
     (try clear hi)
     (try clear ho0)
     obtain ⟨Ao16, co16, eo16⟩ := Kd.R_slice HO1690.out
     (first | subst eo16 | (obtain ⟨rfl, rfl⟩ := si_ eo16))
     refine hK.out _ _ ⟨bx_ BK1684.out 0, bx_ BK1684.out 1⟩ (fun hHeld => ?_)
     clear hK K
     refine norm_ (a' := ?_) ?_ ?_
     rotate_left
     ·
      show Act.put _ (some 15) _ = _
      simp only [fr_]
      rfl
     refine one_ (i := 3) (N := some 16) #[t_,t_,t_,t_,t_,f_] rfl rfl (by kernel_rfl) (by decide) (fun K hK => ?_)
     refine gs_ Try.func22 #[.agg #[.slice Ao12 x1685000_1.length co12, .bool x1685001_1], .agg #[.slice Ao16 t1688.length co16, .int .i64 t1691, .int .i64 t1692, .string t1693]] ?_
     with_reducible refine (spec_Tell.calls k1 _ _ x1685000_1 x1685001_1 _ _ t1688 t1691 t1692 t1693 t1696 t1699 _ ?side1 ?side2 ?side3 ?side4 A11.out).mono ?_
     (case side1 => exact cp_ ((Kd.S_reads' HO_1685000.out).2.2))
     (case side2 => exact (Kd.S_reads' HO_1685000.out).2.1)
     (case side3 => exact cp_ ((Kd.R_reads' HO1690.out).2.2))
     (case side4 => exact (Kd.R_reads' HO1690.out).2.1)
     rintro e w17 ⟨v1697, rfl, ho0, hb⟩
     refine ⟨_, rfl, ?_⟩
     have HO1698 := Aside0.mk (Kd.S_lower (Kd.S_new' (Kd.S_new' ho0 (Kd.S_lt (sp_ HO_1685000.out))) (Kd.R_lt (rp_ HO1690.out))) (keep_size (w := w) (g := g) (row := none) (by repeat (first | (with_reducible first | exact HK.out | apply KeepBut.set_ | apply keep_drewN | apply keep_drew | apply keep_alloc | refine keep_far ?_ GW1683.out _ | refine keep_far ?_ GW1684.out _ | refine keep_far ?_ GW1700.out _) | exact HK.out))))
     replace HO_1685000 := Aside0.mk (Kd.S_elder' (sp_ HO_1685000.out) (Kd.S_base ho0) hb)
     replace HO1690 := Aside0.mk (Kd.R_below (rp_ HO1690.out) hb)
     replace BK1683 := bk2_ BK1683 hb
     replace BK1684 := bk2_ BK1684 hb
     replace BK1700 := bk2_ BK1700 hb
     replace HK := Aside0.mk (KeepBut.trans (by repeat (first | (with_reducible first | exact HK.out | apply KeepBut.set_ | apply keep_drewN | apply keep_drew | apply keep_alloc | refine keep_far ?_ GW1683.out _ | refine keep_far ?_ GW1684.out _ | refine keep_far ?_ GW1700.out _) | exact HK.out)) (KeepBut.of_below hb g none) (.inl rfl))
     replace HB := Aside0.mk (below_step (by repeat (first | (with_reducible first | exact HB.out | apply ba_ | apply bn_ | apply bd_ | refine below_set ?_ (IsS173.ge HI0.out) | refine below_set ?_ GE1683.out | refine below_set ?_ GE1684.out | refine below_set ?_ GE1700.out) | exact HB.out)) hb)
     replace HI0 := Aside0.mk (IsS173.below (by repeat (first | (with_reducible first | exact HI0.out | apply IsS173.alloc | apply IsS173.drewN | apply IsS173.drew | apply IsS173.set_1 | apply IsS173.set_2 | refine IsS173.far ?_ NB0_1683.out _ | refine IsS173.far ?_ NB0_1684.out _ | refine IsS173.far ?_ NB0_1700.out _) | exact HI0.out)) hb)
     (try clear hb)
     (try clear hk)
     (try clear hi)
     (try clear ho0)
     refine hK.out _ _ ⟨bx_ BK1684.out 0, bx_ BK1684.out 1⟩ (fun hHeld => ?_)
     clear hK K
     refine norm_ (a' := ?_) ?_ ?_
     rotate_left
     ·
      show Act.put _ (some 16) _ = _
      simp only [fr_]
      rfl
     exact norm_ (by simp only [putAll, fr_]) (hCont (.slice Ao16 t1688.length co16, v1697, gb1700) _ ⟨hHeld, (rp_ HO1690.out), (Kd.S_mono (sp_ HO1698.out) (fun _ hk => ⟨hk.2, hk.1.2⟩)), (Kd.S_mono (sp_ HO_1685000.out) (fun _ hk => ⟨hk.1.2, hk.2⟩)), (pb_ BK1683.out), (pb_ BK1684.out), (pb_ BK1700.out), GW1700.out, GE1700.out, NB0_1700.out, NB1700_0.out, NB1683_1700.out, NB1700_1683.out, NB1684_1700.out, NB1700_1684.out, (by repeat (first | (with_reducible first | exact HI0.out | apply IsS173.alloc | apply IsS173.drewN | apply IsS173.drew | apply IsS173.set_1 | apply IsS173.set_2 | refine IsS173.far ?_ NB0_1683.out _ | refine IsS173.far ?_ NB0_1684.out _ | refine IsS173.far ?_ NB0_1700.out _) | exact HI0.out)), (by repeat (first | (with_reducible first | exact HK.out | apply KeepBut.set_ | apply keep_drewN | apply keep_drew | apply keep_alloc | refine keep_far ?_ GW1683.out _ | refine keep_far ?_ GW1684.out _ | refine keep_far ?_ GW1700.out _) | exact HK.out)), (by repeat (first | (with_reducible first | exact HB.out | apply ba_ | apply bn_ | apply bd_ | refine below_set ?_ (IsS173.ge HI0.out) | refine below_set ?_ GE1683.out | refine below_set ?_ GE1684.out | refine below_set ?_ GE1700.out) | exact HB.out))⟩)
    rintro ⟨v1689, v1697, gb1700⟩ w18 ⟨hS_, h0_, h1_, h2_, h3_, h4_, h5_, h6_, h7_, h8_, h9_, h10_, h11_, h12_, h13_, h14_, h15_, h16_⟩
    have HO1690 : Aside0 (Kd.R k164 164 w18 w.heap.size (fun _ => True) v1689 t1688) := ⟨h0_⟩
    have HO1698 : Aside0 (Kd.S k44 44 w18 w.heap.size (fun k_ => some k_ ≠ (v1689 : Value).ownBlock ∧ some k_ ≠ (.slice Ao12 x1685000_1.length co12 : Value).ownBlock) v1697 t1696) := ⟨h1_⟩
    replace HO_1685000 : Aside0 (Kd.S k44 44 w18 w.heap.size (fun k_ => some k_ ≠ (v1689 : Value).ownBlock ∧ some k_ ≠ (v1697 : Value).ownBlock) (.slice Ao12 x1685000_1.length co12) x1685000_1) := ⟨h2_⟩
    replace BK1683 : Aside0 (w18.heap[gb1683]? = some (.cells #[.slice none 0 0, .bool false] 39 (0, 0))) := ⟨h3_⟩
    replace BK1684 : Aside0 (w18.heap[gb1684]? = some (.cells #[.slice Ao12 x1685000_1.length co12, .bool x1685001_1] 39 (0, 0))) := ⟨h4_⟩
    have BK1700 : Aside0 (w18.heap[gb1700]? = some (.cells #[.slice none 0 0, .bool false] 39 (0, 0))) := ⟨h5_⟩
    have GW1700 : Aside0 (w.heap.size ≤ gb1700) := ⟨h6_⟩
    have GE1700 := Ge_.mk h7_
    have NB0_1700 := Ne_.mk h8_
    have NB1700_0 := Ne_.mk h9_
    have NB1683_1700 := Ne_.mk h10_
    have NB1700_1683 := Ne_.mk h11_
    have NB1684_1700 := Ne_.mk h12_
    have NB1700_1684 := Ne_.mk h13_
    replace HI0 : Aside0 (IsS173 w0 w18 g s0_0 t1694 t1695) := ⟨h14_⟩
    replace HK : Aside0 (KeepBut w w18 g none) := ⟨h15_⟩
    replace HB : Aside0 (Below w0.heap.size w0 w18) := ⟨h16_⟩
    clear h0_ h1_ h2_ h3_ h4_ h5_ h6_ h7_ h8_ h9_ h10_ h11_ h12_ h13_ h14_ h15_ h16_
    have hHeld : w18.cell? ⟨gb1684, 0, none⟩ = some (.slice Ao12 x1685000_1.length co12) ∧ w18.cell? ⟨gb1684, 1, none⟩ = some (.bool x1685001_1) := hS_
    obtain ⟨Ao19, co19, eo19⟩ := Kd.S_slice HO1698.out
    (first | subst eo19 | (obtain ⟨rfl, rfl⟩ := si_ eo19))
    refine norm_ (a' := ?_) ?_ ?_
    rotate_left
    ·
     simp only [putAll, fr_]
     rfl
    refine one_ (i := 5) (N := none) #[t_,t_,t_,t_,t_,t_] rfl rfl (by kernel_rfl) (by decide) (fun K hK => ?_)
    have hs20 : w18.cell? ⟨gb1700, 0, none⟩ = some (.slice none 0 0) := bx_ BK1700.out 0
    have hfs20 := blk_frozen BK1700.out 0
    have hns20_0 := NB1683_1700.out
    have hns20_1 := NB1684_1700.out
    have hms20_0 := NB1700_1683.out
    have hms20_1 := NB1700_1684.out
    have hs21 : w18.cell? ⟨gb1700, 1, none⟩ = some (.bool false) := bx_ BK1700.out 1
    have hfs21 := blk_frozen BK1700.out 1
    have hns21_0 := NB1683_1700.out
    have hns21_1 := NB1684_1700.out
    have hms21_0 := NB1700_1683.out
    have hms21_1 := NB1700_1684.out
    refine skip_ (w1 := ?_) (by rfl) rfl ?_ ?_
    rotate_left
    ·
     go_simp
     rfl
    refine hK.out _ _ ⟨(cg_ (hHeld.1)), (cg_ (hHeld.2))⟩ (fun hHeld => ?_)
    clear hK K
    refine done_ (by kernel_rfl) ?_
    have hnb22 := NB1700_1683.out
    have hnc22 := NB1683_1700.out
    have hnb23 := NB1700_1684.out
    have hnc23 := NB1684_1700.out
    have hnb24 := NB1700_0.out
    have hnc24 := NB0_1700.out
    obtain ⟨z25_0, z25_1, y25_0, y25_1⟩ := bc2_ BK1700.out
    have hnb26 := NB1684_1683.out
    have hnc26 := NB1683_1684.out
    have hnb27 := NB1684_0.out
    have hnc27 := NB0_1684.out
    obtain ⟨z28_0, z28_1, y28_0, y28_1⟩ := bc2_ BK1684.out
    try go_wp2
    go_roundg k1
    case measure => have := HK1.out; omega
    case rel => exact ⟨(wrap64 (x4_1 - 1)), (t1694), (t1695), (t1696), (t1699), (.slice Ao19 t1696.length co19), (by first | rfl | (simp; done) | (simp [*]; done)), H', ⟨by have := HK1.out; omega⟩, ⟨by (with_reducible repeat (first | apply Kd.S_alloc | apply Kd.S_drewN | apply Kd.S_drew)); exact Kd.S_mono (sf_ gb1684 (Kd.S_far (p := ⟨gb1700, 1, none⟩) (Kd.S_far (p := ⟨gb1700, 0, none⟩) (Kd.S_types (Kd.S_types HO1698.out BK1700.out (by decide)) BK1684.out (by decide)) (fun _ hk => hk.1.2) (.slice Ao19 t1696.length co19)) (fun _ hk => hk.1.2) (.bool t1699)) (fun _ hk => hk.2)) (fun _ hk => trivial)⟩, ⟨bq_ BK1683.out⟩, ⟨bp_ BK1684.out⟩, ⟨by repeat (first | (with_reducible first | exact HI0.out | apply IsS173.alloc | apply IsS173.drewN | apply IsS173.drew | apply IsS173.set_1 | apply IsS173.set_2 | refine IsS173.far ?_ NB0_1683.out _ | refine IsS173.far ?_ NB0_1684.out _ | refine IsS173.far ?_ NB0_1700.out _) | exact HI0.out)⟩, ⟨by repeat (first | (with_reducible first | exact HK.out | apply KeepBut.set_ | apply keep_drewN | apply keep_drew | apply keep_alloc | refine keep_far ?_ GW1683.out _ | refine keep_far ?_ GW1684.out _ | refine keep_far ?_ GW1700.out _) | exact HK.out)⟩, ⟨by repeat (first | (with_reducible first | exact HB.out | apply ba_ | apply bn_ | apply bd_ | refine below_set ?_ (IsS173.ge HI0.out) | refine below_set ?_ GE1683.out | refine below_set ?_ GE1684.out | refine below_set ?_ GE1700.out) | exact HB.out)⟩⟩
   rw [if_neg c9] at H
   have c9b0 : decide (0 < x4_1) = false := decide_eq_false c9
   clear c9
   simp only [Option.some.injEq, Prod.mk.injEq] at H
   obtain ⟨rfl, rfl, rfl, rfl⟩ := H
   have hnb29 := NB1684_1683.out
   have hnc29 := NB1683_1684.out
   have hnb30 := NB1684_0.out
   have hnc30 := NB0_1684.out
   obtain ⟨z31_0, z31_1, y31_0, y31_1⟩ := bc2_ BK1684.out
   obtain ⟨Ao32, co32, eo32⟩ := Kd.S_slice HO_1685000.out
   subst eo32
   have hnb33 := NB1683_0.out
   have hnc33 := NB0_1683.out
   obtain ⟨z34_0, z34_1, y34_0, y34_1⟩ := bc2_ BK1683.out
   go_wp2
   refine bodyPost_ret (results_cell_row rfl _ _ gb1683 39 #[.slice Ao32 x1685000_1.length co32, .bool x1685001_1] (0, 0) _ rfl (bp_ BK1683.out) Try.underlying39 rfl (by kernel_rfl)) rfl ?_
   exact ⟨_, by first | rfl | (simp [errW_none, errW_some] <;> rfl) | (simp [*, errW_none, errW_some] <;> rfl), by (with_reducible repeat (first | apply Kd.S_alloc | apply Kd.S_drewN | apply Kd.S_drew)); exact Kd.S_mono (sf_ gb1683 (Kd.S_types HO_1685000.out BK1683.out (by decide)) (fun _ hk => hk.2)) (fun _ hk => trivial), by repeat (first | (with_reducible first | exact HI0.out | apply IsS173.alloc | apply IsS173.drewN | apply IsS173.drew | apply IsS173.set_1 | apply IsS173.set_2 | refine IsS173.far ?_ NB0_1683.out _ | refine IsS173.far ?_ NB0_1684.out _) | exact HI0.out), by repeat (first | (with_reducible first | exact HB.out | apply ba_ | apply bn_ | apply bd_ | refine below_set ?_ (IsS173.ge HI0.out) | refine below_set ?_ GE1683.out | refine below_set ?_ GE1684.out) | exact HB.out), by repeat (first | (with_reducible first | exact HK.out | apply KeepBut.set_ | apply keep_drewN | apply keep_drew | apply keep_alloc | refine keep_far ?_ GW1683.out _ | refine keep_far ?_ GW1684.out _) | exact HK.out)⟩
def spec_l1AnyPlain.f (s0_0 : List Int) (s0_1 : Int) (s0_2 : Int) : Option (ByteArray × Int × Int) := (spec_l1Once.f s0_0 s0_1 s0_2 2).bind fun bt1701 => (if bt1701.1 = true then ((spec_l1Plain.f s0_0 bt1701.2.1 bt1701.2.2).bind fun bt1704 => (some (bt1704.1, bt1704.2.1, bt1704.2.2))) else ((spec_l1Str.f s0_0 bt1701.2.1 bt1701.2.2 (([(⟨#[34]⟩ : ByteArray), (⟨#[92]⟩ : ByteArray), (⟨#[127]⟩ : ByteArray), (⟨#[31]⟩ : ByteArray), (⟨#[116, 119, 101, 108, 118, 101, 32, 98, 121, 116, 101, 115]⟩ : ByteArray), (⟨#[116, 104, 105, 114, 116, 101, 101, 110, 98, 121, 116, 101, 115]⟩ : ByteArray), (⟨#[126]⟩ : ByteArray), (⟨#[125]⟩ : ByteArray), (⟨#[44, 32, 98, 61]⟩ : ByteArray), (⟨#[125, 32, 49, 45, 50]⟩ : ByteArray)] : List ByteArray))).bind fun bt1710 => (some (bt1710.1, bt1710.2.1, bt1710.2.2))))
theorem spec_l1AnyPlain.calls (g : Nat) (s0_0 : List Int) (s0_1 : Int) (s0_2 : Int) (r1 : ByteArray) (r2 : Int) (r3 : Int) (w0 w : World) (hI : IsS173 w0 w g s0_0 s0_1 s0_2) (hB : Below w0.heap.size w0 w) (h : spec_l1AnyPlain.f s0_0 s0_1 s0_2 = some (r1, r2, r3)) :
  Calls Try.prog 173 #[.pointer (some ⟨g, 0, none⟩)] w fun e w' => e = .returned (.string r1) ∧ IsS173 w0 w' g s0_0 r2 r3 ∧ Below w0.heap.size w0 w' ∧ KeepBut w w' g none := by
 have HI0 := Aside0.mk hI
 have HK := Aside0.mk (KeepBut.refl w g none)
 have HL := Aside0.mk hB.size
 clear hI
 have HW0 := Aside0.mk hB.size
 have HB := Aside0.mk hB
 clear hB
 have H : ((spec_l1Once.f s0_0 s0_1 s0_2 2).bind fun bt1701 => (if bt1701.1 = true then ((spec_l1Plain.f s0_0 bt1701.2.1 bt1701.2.2).bind fun bt1704 => (some (bt1704.1, bt1704.2.1, bt1704.2.2))) else ((spec_l1Str.f s0_0 bt1701.2.1 bt1701.2.2 (([(⟨#[34]⟩ : ByteArray), (⟨#[92]⟩ : ByteArray), (⟨#[127]⟩ : ByteArray), (⟨#[31]⟩ : ByteArray), (⟨#[116, 119, 101, 108, 118, 101, 32, 98, 121, 116, 101, 115]⟩ : ByteArray), (⟨#[116, 104, 105, 114, 116, 101, 101, 110, 98, 121, 116, 101, 115]⟩ : ByteArray), (⟨#[126]⟩ : ByteArray), (⟨#[125]⟩ : ByteArray), (⟨#[44, 32, 98, 61]⟩ : ByteArray), (⟨#[125, 32, 49, 45, 50]⟩ : ByteArray)] : List ByteArray))).bind fun bt1710 => (some (bt1710.1, bt1710.2.1, bt1710.2.2))))) = some (r1, r2, r3) := h
 clear h
 replace H := Option.bind_eq_some_iff.mp H
 obtain ⟨⟨t1701, t1702, t1703⟩, A20, H⟩ := H
 have A2 := Aside0.mk A20
 clear A20
 by_cases c3 : t1701 = true
 ·
  subst c3
  rw [if_pos rfl] at H
  replace H := Option.bind_eq_some_iff.mp H
  obtain ⟨⟨t1704, t1705, t1706⟩, A40, H⟩ := H
  have A4 := Aside0.mk A40
  clear A40
  simp only [Option.some.injEq, Prod.mk.injEq] at H
  obtain ⟨rfl, rfl, rfl⟩ := H
  go_enter Try.func173, Try.ntmps173
  go_wp2_with (first | ((with_reducible refine gate_callee (f := 136) rfl ?_); refine gl_ (some 4) Try.func136 #[.pointer (some ⟨g, 0, none⟩), .int .i64 2] ?_; (with_reducible refine (spec_l1Once.calls g s0_0 s0_1 s0_2 2 true t1702 t1703 w0 _ ?side1 ?side2 A2.out).mono ?_); (case side1 => repeat (first | (with_reducible first | exact HI0.out | apply IsS173.alloc | apply IsS173.drewN | apply IsS173.drew | apply IsS173.set_1 | apply IsS173.set_2) | exact HI0.out)); (case side2 => repeat (first | (with_reducible first | exact HB.out | apply ba_ | apply bn_ | apply bd_ | refine below_set ?_ (IsS173.ge HI0.out)) | exact HB.out)); rintro e w5 ⟨rfl, hi, hb, hk⟩; refine ⟨_, rfl, ?_⟩; replace HK := Aside0.mk (KeepBut.trans (by repeat (first | (with_reducible first | exact HK.out | apply KeepBut.set_ | apply keep_drewN | apply keep_drew | apply keep_alloc) | exact HK.out)) hk (.inl rfl)); replace HB := Aside0.mk (hb); replace HI0 := Aside0.mk (hi); (try clear hb); (try clear hk); (try clear hi)) | ((with_reducible refine gate_callee (f := 161) rfl ?_); refine gl_ (some 6) Try.func161 #[.pointer (some ⟨g, 0, none⟩)] ?_; (with_reducible refine (spec_l1Plain.calls g s0_0 t1702 t1703 t1704 t1705 t1706 w0 _ ?side1 ?side2 A4.out).mono ?_); (case side1 => repeat (first | (with_reducible first | exact HI0.out | apply IsS173.alloc | apply IsS173.drewN | apply IsS173.drew | apply IsS173.set_1 | apply IsS173.set_2) | exact HI0.out)); (case side2 => repeat (first | (with_reducible first | exact HB.out | apply ba_ | apply bn_ | apply bd_ | refine below_set ?_ (IsS173.ge HI0.out)) | exact HB.out)); rintro e w6 ⟨rfl, hi, hb, hk⟩; refine ⟨_, rfl, ?_⟩; replace HK := Aside0.mk (KeepBut.trans (by repeat (first | (with_reducible first | exact HK.out | apply KeepBut.set_ | apply keep_drewN | apply keep_drew | apply keep_alloc) | exact HK.out)) hk (.inl rfl)); replace HB := Aside0.mk (hb); replace HI0 := Aside0.mk (hi); (try clear hb); (try clear hk); (try clear hi)))
  go_ret
  exact an_ ⟨by repeat (first | (with_reducible first | exact HI0.out | apply IsS173.alloc | apply IsS173.drewN | apply IsS173.drew | apply IsS173.set_1 | apply IsS173.set_2) | exact HI0.out), by repeat (first | (with_reducible first | exact HB.out | apply ba_ | apply bn_ | apply bd_ | refine below_set ?_ (IsS173.ge HI0.out)) | exact HB.out), by repeat (first | (with_reducible first | exact HK.out | apply KeepBut.set_ | apply keep_drewN | apply keep_drew | apply keep_alloc) | exact HK.out)⟩
 replace c3 := Bool.eq_false_iff.mpr c3
 subst c3
 rw [if_neg (show ¬ (false = true) by decide)] at H
 obtain ⟨y1707, hy1707⟩ : ∃ y_ : List ByteArray, y_ = (([(⟨#[34]⟩ : ByteArray), (⟨#[92]⟩ : ByteArray), (⟨#[127]⟩ : ByteArray), (⟨#[31]⟩ : ByteArray), (⟨#[116, 119, 101, 108, 118, 101, 32, 98, 121, 116, 101, 115]⟩ : ByteArray), (⟨#[116, 104, 105, 114, 116, 101, 101, 110, 98, 121, 116, 101, 115]⟩ : ByteArray), (⟨#[126]⟩ : ByteArray), (⟨#[125]⟩ : ByteArray), (⟨#[44, 32, 98, 61]⟩ : ByteArray), (⟨#[125, 32, 49, 45, 50]⟩ : ByteArray)] : List ByteArray)) := ⟨_, rfl⟩
 replace H : ((spec_l1Str.f s0_0 t1702 t1703 y1707).bind fun bt1710 => (some (bt1710.1, bt1710.2.1, bt1710.2.2))) = some (r1, r2, r3) := by first | (rw [hy1707]; with_reducible exact H) | (have H2_ := (Option.bind_some _ _).symm.trans H; rw [hy1707]; with_reducible exact H2_) | (have H2_ := (Option.bind_some _ _).symm.trans H; with_reducible exact H2_) | with_reducible exact H | (rw [hy1707]; exact H) | exact H
 have Ny1707 := Aside0.mk hy1707
 clear hy1707
 replace H := Option.bind_eq_some_iff.mp H
 obtain ⟨⟨t1710, t1711, t1712⟩, A70, H⟩ := H
 have A7 := Aside0.mk A70
 clear A70
 simp only [Option.some.injEq, Prod.mk.injEq] at H
 obtain ⟨rfl, rfl, rfl⟩ := H
 go_enter Try.func173, Try.ntmps173
 go_wp2_with (first | ((with_reducible refine gate_callee (f := 136) rfl ?_); refine gl_ (some 4) Try.func136 #[.pointer (some ⟨g, 0, none⟩), .int .i64 2] ?_; (with_reducible refine (spec_l1Once.calls g s0_0 s0_1 s0_2 2 false t1702 t1703 w0 _ ?side1 ?side2 A2.out).mono ?_); (case side1 => repeat (first | (with_reducible first | exact HI0.out | apply IsS173.alloc | apply IsS173.drewN | apply IsS173.drew | apply IsS173.set_1 | apply IsS173.set_2) | exact HI0.out)); (case side2 => repeat (first | (with_reducible first | exact HB.out | apply ba_ | apply bn_ | apply bd_ | refine below_set ?_ (IsS173.ge HI0.out)) | exact HB.out)); rintro e w8 ⟨rfl, hi, hb, hk⟩; refine ⟨_, rfl, ?_⟩; replace HK := Aside0.mk (KeepBut.trans (by repeat (first | (with_reducible first | exact HK.out | apply KeepBut.set_ | apply keep_drewN | apply keep_drew | apply keep_alloc) | exact HK.out)) hk (.inl rfl)); replace HB := Aside0.mk (hb); replace HI0 := Aside0.mk (hi); (try clear hb); (try clear hk); (try clear hi)) | ((with_reducible refine gd_ 8 rfl ?_); refine Kd.R_lit Kd.string _ 9 ?hg (N := 8) ?hd (xs := ([(⟨#[34]⟩ : ByteArray), (⟨#[92]⟩ : ByteArray), (⟨#[127]⟩ : ByteArray), (⟨#[31]⟩ : ByteArray), (⟨#[116, 119, 101, 108, 118, 101, 32, 98, 121, 116, 101, 115]⟩ : ByteArray), (⟨#[116, 104, 105, 114, 116, 101, 101, 110, 98, 121, 116, 101, 115]⟩ : ByteArray), (⟨#[126]⟩ : ByteArray), (⟨#[125]⟩ : ByteArray), (⟨#[44, 32, 98, 61]⟩ : ByteArray), (⟨#[125, 32, 49, 45, 50]⟩ : ByteArray)] : List ByteArray)) (inner := [.string (⟨#[34]⟩ : ByteArray), .string (⟨#[92]⟩ : ByteArray), .string (⟨#[127]⟩ : ByteArray), .string (⟨#[31]⟩ : ByteArray), .string (⟨#[116, 119, 101, 108, 118, 101, 32, 98, 121, 116, 101, 115]⟩ : ByteArray), .string (⟨#[116, 104, 105, 114, 116, 101, 101, 110, 98, 121, 116, 101, 115]⟩ : ByteArray), .string (⟨#[126]⟩ : ByteArray), .string (⟨#[125]⟩ : ByteArray), .string (⟨#[44, 32, 98, 61]⟩ : ByteArray), .string (⟨#[125, 32, 49, 45, 50]⟩ : ByteArray)]) (ok := fun _ => True) (okp := fun _ => True) ?hr ?hp (fun _ hk => hk) trivial (Below.refl _ _) (Nat.le_refl _) (by simp) ?_; (case hd => rfl); (case hg => rfl); (case hr => first | (go_simp; done) | (go_simp; rfl)); (case hp => exact (Reps.one (show Kd.M Kd.string _ _ _ (⟨#[34]⟩ : ByteArray) [.string (⟨#[34]⟩ : ByteArray)] from rfl) (Reps.one (show Kd.M Kd.string _ _ _ (⟨#[92]⟩ : ByteArray) [.string (⟨#[92]⟩ : ByteArray)] from rfl) (Reps.one (show Kd.M Kd.string _ _ _ (⟨#[127]⟩ : ByteArray) [.string (⟨#[127]⟩ : ByteArray)] from rfl) (Reps.one (show Kd.M Kd.string _ _ _ (⟨#[31]⟩ : ByteArray) [.string (⟨#[31]⟩ : ByteArray)] from rfl) (Reps.one (show Kd.M Kd.string _ _ _ (⟨#[116, 119, 101, 108, 118, 101, 32, 98, 121, 116, 101, 115]⟩ : ByteArray) [.string (⟨#[116, 119, 101, 108, 118, 101, 32, 98, 121, 116, 101, 115]⟩ : ByteArray)] from rfl) (Reps.one (show Kd.M Kd.string _ _ _ (⟨#[116, 104, 105, 114, 116, 101, 101, 110, 98, 121, 116, 101, 115]⟩ : ByteArray) [.string (⟨#[116, 104, 105, 114, 116, 101, 101, 110, 98, 121, 116, 101, 115]⟩ : ByteArray)] from rfl) (Reps.one (show Kd.M Kd.string _ _ _ (⟨#[126]⟩ : ByteArray) [.string (⟨#[126]⟩ : ByteArray)] from rfl) (Reps.one (show Kd.M Kd.string _ _ _ (⟨#[125]⟩ : ByteArray) [.string (⟨#[125]⟩ : ByteArray)] from rfl) (Reps.one (show Kd.M Kd.string _ _ _ (⟨#[44, 32, 98, 61]⟩ : ByteArray) [.string (⟨#[44, 32, 98, 61]⟩ : ByteArray)] from rfl) (Reps.one (show Kd.M Kd.string _ _ _ (⟨#[125, 32, 49, 45, 50]⟩ : ByteArray) [.string (⟨#[125, 32, 49, 45, 50]⟩ : ByteArray)] from rfl) (Reps.none _ _)))))))))))); intro v1708 w9 ho10 hb hg_ hnew_; clear hg_ hnew_; (first | rw [← Ny1707.out] at ho10 | (simp only [Int.reduceToNat] at ho10; rw [← Ny1707.out] at ho10)); have HO1709 := Aside0.mk (Kd.R_lower ho10 (keep_size (w := w) (g := g) (row := none) (by repeat (first | (with_reducible first | exact HK.out | apply KeepBut.set_ | apply keep_drewN | apply keep_drew | apply keep_alloc) | exact HK.out)))); have n1_ := Aside0.mk (IsS173.below (by repeat (first | (with_reducible first | exact HI0.out | apply IsS173.alloc | apply IsS173.drewN | apply IsS173.drew | apply IsS173.set_1 | apply IsS173.set_2) | exact HI0.out)) hb); have n2_ := Aside0.mk (KeepBut.trans (by repeat (first | (with_reducible first | exact HK.out | apply KeepBut.set_ | apply keep_drewN | apply keep_drew | apply keep_alloc) | exact HK.out)) (KeepBut.of_below hb g none) (.inl rfl)); have n3_ := Aside0.mk (below_step (by repeat (first | (with_reducible first | exact HB.out | apply ba_ | apply bn_ | apply bd_ | refine below_set ?_ (IsS173.ge HI0.out)) | exact HB.out)) hb); clear HI0 HK HB; have HI0 := n1_; have HK := n2_; have HB := n3_; clear n1_ n2_ n3_; clear hb ho10; obtain ⟨Ao11, co11, eo11⟩ := Kd.R_slice HO1709.out; subst eo11) | ((with_reducible refine gate_callee (f := 174) rfl ?_); refine gl_ (some 9) Try.func174 #[.pointer (some ⟨g, 0, none⟩), .slice Ao11 y1707.length co11] ?_; (with_reducible refine (spec_l1Str.calls g s0_0 t1702 t1703 _ _ y1707 t1710 t1711 t1712 w0 _ ?side1 ?side2 ?side3 ?side4 ?side5 A7.out).mono ?_); (case side1 => repeat (first | (with_reducible first | exact HI0.out | apply IsS173.alloc | apply IsS173.drewN | apply IsS173.drew | apply IsS173.set_1 | apply IsS173.set_2) | exact HI0.out)); (case side2 => repeat (first | (with_reducible first | exact HB.out | apply ba_ | apply bn_ | apply bd_ | refine below_set ?_ (IsS173.ge HI0.out)) | exact HB.out)); (case side3 => exact cp_ ((Kd.R_reads' HO1709.out).2.2)); (case side4 => exact (Kd.R_reads' HO1709.out).2.1); (case side5 => exact far_slice (IsS173.own_ne HI0.out HO1709.out (by decide))); rintro e w12 ⟨rfl, hi, hb, hk⟩; refine ⟨_, rfl, ?_⟩; replace HO1709 := Aside0.mk (Kd.R_mono (Kd.R_keep (IsS173.apart (show IsS173 w0 _ g s0_0 t1702 t1703 from by repeat (first | (with_reducible first | exact HI0.out | apply IsS173.alloc | apply IsS173.drewN | apply IsS173.drew | apply IsS173.set_1 | apply IsS173.set_2) | exact HI0.out)) (rp_ HO1709.out) (by decide)) hk (fun _ h => h.2)) (fun _ h => h.1)); replace HK := Aside0.mk (KeepBut.trans (by repeat (first | (with_reducible first | exact HK.out | apply KeepBut.set_ | apply keep_drewN | apply keep_drew | apply keep_alloc) | exact HK.out)) hk (.inl rfl)); replace HB := Aside0.mk (hb); replace HI0 := Aside0.mk (hi); (try clear hb); (try clear hk); (try clear hi)))
 go_ret
 exact an_ ⟨by repeat (first | (with_reducible first | exact HI0.out | apply IsS173.alloc | apply IsS173.drewN | apply IsS173.drew | apply IsS173.set_1 | apply IsS173.set_2) | exact HI0.out), by repeat (first | (with_reducible first | exact HB.out | apply ba_ | apply bn_ | apply bd_ | refine below_set ?_ (IsS173.ge HI0.out)) | exact HB.out), by repeat (first | (with_reducible first | exact HK.out | apply KeepBut.set_ | apply keep_drewN | apply keep_drew | apply keep_alloc) | exact HK.out)⟩
def spec_l1Names.f (s0_0 : List Int) (s0_1 : Int) (s0_2 : Int) : Option (ByteArray × Int × Int) := (spec_l1Str.f s0_0 s0_1 s0_2 (([(⟨#[97, 112, 112]⟩ : ByteArray), (⟨#[104, 111, 115, 116]⟩ : ByteArray), (⟨#[115, 101, 118]⟩ : ByteArray), (⟨#[122, 111, 110, 101]⟩ : ByteArray)] : List ByteArray))).bind fun bt1716 => (some (bt1716.1, bt1716.2.1, bt1716.2.2))
theorem spec_l1Names.calls (g : Nat) (s0_0 : List Int) (s0_1 : Int) (s0_2 : Int) (r1 : ByteArray) (r2 : Int) (r3 : Int) (w0 w : World) (hI : IsS173 w0 w g s0_0 s0_1 s0_2) (hB : Below w0.heap.size w0 w) (h : spec_l1Names.f s0_0 s0_1 s0_2 = some (r1, r2, r3)) :
  Calls Try.prog 177 #[.pointer (some ⟨g, 0, none⟩)] w fun e w' => e = .returned (.string r1) ∧ IsS173 w0 w' g s0_0 r2 r3 ∧ Below w0.heap.size w0 w' ∧ KeepBut w w' g none := by
 have HI0 := Aside0.mk hI
 have HK := Aside0.mk (KeepBut.refl w g none)
 have HL := Aside0.mk hB.size
 clear hI
 have HW0 := Aside0.mk hB.size
 have HB := Aside0.mk hB
 clear hB
 have H : ((spec_l1Str.f s0_0 s0_1 s0_2 (([(⟨#[97, 112, 112]⟩ : ByteArray), (⟨#[104, 111, 115, 116]⟩ : ByteArray), (⟨#[115, 101, 118]⟩ : ByteArray), (⟨#[122, 111, 110, 101]⟩ : ByteArray)] : List ByteArray))).bind fun bt1716 => (some (bt1716.1, bt1716.2.1, bt1716.2.2))) = some (r1, r2, r3) := h
 clear h
 obtain ⟨y1713, hy1713⟩ : ∃ y_ : List ByteArray, y_ = (([(⟨#[97, 112, 112]⟩ : ByteArray), (⟨#[104, 111, 115, 116]⟩ : ByteArray), (⟨#[115, 101, 118]⟩ : ByteArray), (⟨#[122, 111, 110, 101]⟩ : ByteArray)] : List ByteArray)) := ⟨_, rfl⟩
 replace H : ((spec_l1Str.f s0_0 s0_1 s0_2 y1713).bind fun bt1716 => (some (bt1716.1, bt1716.2.1, bt1716.2.2))) = some (r1, r2, r3) := by first | (rw [hy1713]; with_reducible exact H) | (have H2_ := (Option.bind_some _ _).symm.trans H; rw [hy1713]; with_reducible exact H2_) | (have H2_ := (Option.bind_some _ _).symm.trans H; with_reducible exact H2_) | with_reducible exact H | (rw [hy1713]; exact H) | exact H
 have Ny1713 := Aside0.mk hy1713
 clear hy1713
 replace H := Option.bind_eq_some_iff.mp H
 obtain ⟨⟨t1716, t1717, t1718⟩, A20, H⟩ := H
 have A2 := Aside0.mk A20
 clear A20
 simp only [Option.some.injEq, Prod.mk.injEq] at H
 obtain ⟨rfl, rfl, rfl⟩ := H
 go_enter Try.func177, Try.ntmps177
 go_wp2_with (first | ((with_reducible refine gd_ 4 rfl ?_); refine Kd.R_lit Kd.string _ 9 ?hg (N := 4) ?hd (xs := ([(⟨#[97, 112, 112]⟩ : ByteArray), (⟨#[104, 111, 115, 116]⟩ : ByteArray), (⟨#[115, 101, 118]⟩ : ByteArray), (⟨#[122, 111, 110, 101]⟩ : ByteArray)] : List ByteArray)) (inner := [.string (⟨#[97, 112, 112]⟩ : ByteArray), .string (⟨#[104, 111, 115, 116]⟩ : ByteArray), .string (⟨#[115, 101, 118]⟩ : ByteArray), .string (⟨#[122, 111, 110, 101]⟩ : ByteArray)]) (ok := fun _ => True) (okp := fun _ => True) ?hr ?hp (fun _ hk => hk) trivial (Below.refl _ _) (Nat.le_refl _) (by simp) ?_; (case hd => rfl); (case hg => rfl); (case hr => first | (go_simp; done) | (go_simp; rfl)); (case hp => exact (Reps.one (show Kd.M Kd.string _ _ _ (⟨#[97, 112, 112]⟩ : ByteArray) [.string (⟨#[97, 112, 112]⟩ : ByteArray)] from rfl) (Reps.one (show Kd.M Kd.string _ _ _ (⟨#[104, 111, 115, 116]⟩ : ByteArray) [.string (⟨#[104, 111, 115, 116]⟩ : ByteArray)] from rfl) (Reps.one (show Kd.M Kd.string _ _ _ (⟨#[115, 101, 118]⟩ : ByteArray) [.string (⟨#[115, 101, 118]⟩ : ByteArray)] from rfl) (Reps.one (show Kd.M Kd.string _ _ _ (⟨#[122, 111, 110, 101]⟩ : ByteArray) [.string (⟨#[122, 111, 110, 101]⟩ : ByteArray)] from rfl) (Reps.none _ _)))))); intro v1714 w3 ho4 hb hg_ hnew_; clear hg_ hnew_; (first | rw [← Ny1713.out] at ho4 | (simp only [Int.reduceToNat] at ho4; rw [← Ny1713.out] at ho4)); have HO1715 := Aside0.mk (Kd.R_lower ho4 (keep_size (w := w) (g := g) (row := none) (by repeat (first | (with_reducible first | exact HK.out | apply KeepBut.set_ | apply keep_drewN | apply keep_drew | apply keep_alloc) | exact HK.out)))); have n1_ := Aside0.mk (IsS173.below (by repeat (first | (with_reducible first | exact HI0.out | apply IsS173.alloc | apply IsS173.drewN | apply IsS173.drew | apply IsS173.set_1 | apply IsS173.set_2) | exact HI0.out)) hb); have n2_ := Aside0.mk (KeepBut.trans (by repeat (first | (with_reducible first | exact HK.out | apply KeepBut.set_ | apply keep_drewN | apply keep_drew | apply keep_alloc) | exact HK.out)) (KeepBut.of_below hb g none) (.inl rfl)); have n3_ := Aside0.mk (below_step (by repeat (first | (with_reducible first | exact HB.out | apply ba_ | apply bn_ | apply bd_ | refine below_set ?_ (IsS173.ge HI0.out)) | exact HB.out)) hb); clear HI0 HK HB; have HI0 := n1_; have HK := n2_; have HB := n3_; clear n1_ n2_ n3_; clear hb ho4; obtain ⟨Ao5, co5, eo5⟩ := Kd.R_slice HO1715.out; subst eo5) | ((with_reducible refine gate_callee (f := 174) rfl ?_); refine gl_ (some 5) Try.func174 #[.pointer (some ⟨g, 0, none⟩), .slice Ao5 y1713.length co5] ?_; (with_reducible refine (spec_l1Str.calls g s0_0 s0_1 s0_2 _ _ y1713 t1716 t1717 t1718 w0 _ ?side1 ?side2 ?side3 ?side4 ?side5 A2.out).mono ?_); (case side1 => repeat (first | (with_reducible first | exact HI0.out | apply IsS173.alloc | apply IsS173.drewN | apply IsS173.drew | apply IsS173.set_1 | apply IsS173.set_2) | exact HI0.out)); (case side2 => repeat (first | (with_reducible first | exact HB.out | apply ba_ | apply bn_ | apply bd_ | refine below_set ?_ (IsS173.ge HI0.out)) | exact HB.out)); (case side3 => exact cp_ ((Kd.R_reads' HO1715.out).2.2)); (case side4 => exact (Kd.R_reads' HO1715.out).2.1); (case side5 => exact far_slice (IsS173.own_ne HI0.out HO1715.out (by decide))); rintro e w6 ⟨rfl, hi, hb, hk⟩; refine ⟨_, rfl, ?_⟩; replace HO1715 := Aside0.mk (Kd.R_mono (Kd.R_keep (IsS173.apart (show IsS173 w0 _ g s0_0 s0_1 s0_2 from by repeat (first | (with_reducible first | exact HI0.out | apply IsS173.alloc | apply IsS173.drewN | apply IsS173.drew | apply IsS173.set_1 | apply IsS173.set_2) | exact HI0.out)) (rp_ HO1715.out) (by decide)) hk (fun _ h => h.2)) (fun _ h => h.1)); replace HK := Aside0.mk (KeepBut.trans (by repeat (first | (with_reducible first | exact HK.out | apply KeepBut.set_ | apply keep_drewN | apply keep_drew | apply keep_alloc) | exact HK.out)) hk (.inl rfl)); replace HB := Aside0.mk (hb); replace HI0 := Aside0.mk (hi); (try clear hb); (try clear hk); (try clear hi)))
 go_ret
 exact an_ ⟨by repeat (first | (with_reducible first | exact HI0.out | apply IsS173.alloc | apply IsS173.drewN | apply IsS173.drew | apply IsS173.set_1 | apply IsS173.set_2) | exact HI0.out), by repeat (first | (with_reducible first | exact HB.out | apply ba_ | apply bn_ | apply bd_ | refine below_set ?_ (IsS173.ge HI0.out)) | exact HB.out), by repeat (first | (with_reducible first | exact HK.out | apply KeepBut.set_ | apply keep_drewN | apply keep_drew | apply keep_alloc) | exact HK.out)⟩
def spec_l1AnyName.f (s0_0 : List Int) (s0_1 : Int) (s0_2 : Int) : Option (ByteArray × Int × Int) := (spec_l1Once.f s0_0 s0_1 s0_2 2).bind fun bt1719 => (if bt1719.1 = true then ((spec_l1Names.f s0_0 bt1719.2.1 bt1719.2.2).bind fun bt1722 => (some (bt1722.1, bt1722.2.1, bt1722.2.2))) else ((spec_l1Str.f s0_0 bt1719.2.1 bt1719.2.2 (([(⟨#[]⟩ : ByteArray), (⟨#[65]⟩ : ByteArray), (⟨#[110, 105, 110, 101, 99, 104, 97, 114, 115]⟩ : ByteArray), (⟨#[101, 105, 103, 104, 116, 97, 98, 99]⟩ : ByteArray), (⟨#[97, 32, 98]⟩ : ByteArray), (⟨#[97, 49]⟩ : ByteArray)] : List ByteArray))).bind fun bt1728 => (some (bt1728.1, bt1728.2.1, bt1728.2.2))))
theorem spec_l1AnyName.calls (g : Nat) (s0_0 : List Int) (s0_1 : Int) (s0_2 : Int) (r1 : ByteArray) (r2 : Int) (r3 : Int) (w0 w : World) (hI : IsS173 w0 w g s0_0 s0_1 s0_2) (hB : Below w0.heap.size w0 w) (h : spec_l1AnyName.f s0_0 s0_1 s0_2 = some (r1, r2, r3)) :
  Calls Try.prog 175 #[.pointer (some ⟨g, 0, none⟩)] w fun e w' => e = .returned (.string r1) ∧ IsS173 w0 w' g s0_0 r2 r3 ∧ Below w0.heap.size w0 w' ∧ KeepBut w w' g none := by
 have HI0 := Aside0.mk hI
 have HK := Aside0.mk (KeepBut.refl w g none)
 have HL := Aside0.mk hB.size
 clear hI
 have HW0 := Aside0.mk hB.size
 have HB := Aside0.mk hB
 clear hB
 have H : ((spec_l1Once.f s0_0 s0_1 s0_2 2).bind fun bt1719 => (if bt1719.1 = true then ((spec_l1Names.f s0_0 bt1719.2.1 bt1719.2.2).bind fun bt1722 => (some (bt1722.1, bt1722.2.1, bt1722.2.2))) else ((spec_l1Str.f s0_0 bt1719.2.1 bt1719.2.2 (([(⟨#[]⟩ : ByteArray), (⟨#[65]⟩ : ByteArray), (⟨#[110, 105, 110, 101, 99, 104, 97, 114, 115]⟩ : ByteArray), (⟨#[101, 105, 103, 104, 116, 97, 98, 99]⟩ : ByteArray), (⟨#[97, 32, 98]⟩ : ByteArray), (⟨#[97, 49]⟩ : ByteArray)] : List ByteArray))).bind fun bt1728 => (some (bt1728.1, bt1728.2.1, bt1728.2.2))))) = some (r1, r2, r3) := h
 clear h
 replace H := Option.bind_eq_some_iff.mp H
 obtain ⟨⟨t1719, t1720, t1721⟩, A20, H⟩ := H
 have A2 := Aside0.mk A20
 clear A20
 by_cases c3 : t1719 = true
 ·
  subst c3
  rw [if_pos rfl] at H
  replace H := Option.bind_eq_some_iff.mp H
  obtain ⟨⟨t1722, t1723, t1724⟩, A40, H⟩ := H
  have A4 := Aside0.mk A40
  clear A40
  simp only [Option.some.injEq, Prod.mk.injEq] at H
  obtain ⟨rfl, rfl, rfl⟩ := H
  go_enter Try.func175, Try.ntmps175
  go_wp2_with (first | ((with_reducible refine gate_callee (f := 136) rfl ?_); refine gl_ (some 4) Try.func136 #[.pointer (some ⟨g, 0, none⟩), .int .i64 2] ?_; (with_reducible refine (spec_l1Once.calls g s0_0 s0_1 s0_2 2 true t1720 t1721 w0 _ ?side1 ?side2 A2.out).mono ?_); (case side1 => repeat (first | (with_reducible first | exact HI0.out | apply IsS173.alloc | apply IsS173.drewN | apply IsS173.drew | apply IsS173.set_1 | apply IsS173.set_2) | exact HI0.out)); (case side2 => repeat (first | (with_reducible first | exact HB.out | apply ba_ | apply bn_ | apply bd_ | refine below_set ?_ (IsS173.ge HI0.out)) | exact HB.out)); rintro e w5 ⟨rfl, hi, hb, hk⟩; refine ⟨_, rfl, ?_⟩; replace HK := Aside0.mk (KeepBut.trans (by repeat (first | (with_reducible first | exact HK.out | apply KeepBut.set_ | apply keep_drewN | apply keep_drew | apply keep_alloc) | exact HK.out)) hk (.inl rfl)); replace HB := Aside0.mk (hb); replace HI0 := Aside0.mk (hi); (try clear hb); (try clear hk); (try clear hi)) | ((with_reducible refine gate_callee (f := 177) rfl ?_); refine gl_ (some 6) Try.func177 #[.pointer (some ⟨g, 0, none⟩)] ?_; (with_reducible refine (spec_l1Names.calls g s0_0 t1720 t1721 t1722 t1723 t1724 w0 _ ?side1 ?side2 A4.out).mono ?_); (case side1 => repeat (first | (with_reducible first | exact HI0.out | apply IsS173.alloc | apply IsS173.drewN | apply IsS173.drew | apply IsS173.set_1 | apply IsS173.set_2) | exact HI0.out)); (case side2 => repeat (first | (with_reducible first | exact HB.out | apply ba_ | apply bn_ | apply bd_ | refine below_set ?_ (IsS173.ge HI0.out)) | exact HB.out)); rintro e w6 ⟨rfl, hi, hb, hk⟩; refine ⟨_, rfl, ?_⟩; replace HK := Aside0.mk (KeepBut.trans (by repeat (first | (with_reducible first | exact HK.out | apply KeepBut.set_ | apply keep_drewN | apply keep_drew | apply keep_alloc) | exact HK.out)) hk (.inl rfl)); replace HB := Aside0.mk (hb); replace HI0 := Aside0.mk (hi); (try clear hb); (try clear hk); (try clear hi)))
  go_ret
  exact an_ ⟨by repeat (first | (with_reducible first | exact HI0.out | apply IsS173.alloc | apply IsS173.drewN | apply IsS173.drew | apply IsS173.set_1 | apply IsS173.set_2) | exact HI0.out), by repeat (first | (with_reducible first | exact HB.out | apply ba_ | apply bn_ | apply bd_ | refine below_set ?_ (IsS173.ge HI0.out)) | exact HB.out), by repeat (first | (with_reducible first | exact HK.out | apply KeepBut.set_ | apply keep_drewN | apply keep_drew | apply keep_alloc) | exact HK.out)⟩
 replace c3 := Bool.eq_false_iff.mpr c3
 subst c3
 rw [if_neg (show ¬ (false = true) by decide)] at H
 obtain ⟨y1725, hy1725⟩ : ∃ y_ : List ByteArray, y_ = (([(⟨#[]⟩ : ByteArray), (⟨#[65]⟩ : ByteArray), (⟨#[110, 105, 110, 101, 99, 104, 97, 114, 115]⟩ : ByteArray), (⟨#[101, 105, 103, 104, 116, 97, 98, 99]⟩ : ByteArray), (⟨#[97, 32, 98]⟩ : ByteArray), (⟨#[97, 49]⟩ : ByteArray)] : List ByteArray)) := ⟨_, rfl⟩
 replace H : ((spec_l1Str.f s0_0 t1720 t1721 y1725).bind fun bt1728 => (some (bt1728.1, bt1728.2.1, bt1728.2.2))) = some (r1, r2, r3) := by first | (rw [hy1725]; with_reducible exact H) | (have H2_ := (Option.bind_some _ _).symm.trans H; rw [hy1725]; with_reducible exact H2_) | (have H2_ := (Option.bind_some _ _).symm.trans H; with_reducible exact H2_) | with_reducible exact H | (rw [hy1725]; exact H) | exact H
 have Ny1725 := Aside0.mk hy1725
 clear hy1725
 replace H := Option.bind_eq_some_iff.mp H
 obtain ⟨⟨t1728, t1729, t1730⟩, A70, H⟩ := H
 have A7 := Aside0.mk A70
 clear A70
 simp only [Option.some.injEq, Prod.mk.injEq] at H
 obtain ⟨rfl, rfl, rfl⟩ := H
 go_enter Try.func175, Try.ntmps175
 go_wp2_with (first | ((with_reducible refine gate_callee (f := 136) rfl ?_); refine gl_ (some 4) Try.func136 #[.pointer (some ⟨g, 0, none⟩), .int .i64 2] ?_; (with_reducible refine (spec_l1Once.calls g s0_0 s0_1 s0_2 2 false t1720 t1721 w0 _ ?side1 ?side2 A2.out).mono ?_); (case side1 => repeat (first | (with_reducible first | exact HI0.out | apply IsS173.alloc | apply IsS173.drewN | apply IsS173.drew | apply IsS173.set_1 | apply IsS173.set_2) | exact HI0.out)); (case side2 => repeat (first | (with_reducible first | exact HB.out | apply ba_ | apply bn_ | apply bd_ | refine below_set ?_ (IsS173.ge HI0.out)) | exact HB.out)); rintro e w8 ⟨rfl, hi, hb, hk⟩; refine ⟨_, rfl, ?_⟩; replace HK := Aside0.mk (KeepBut.trans (by repeat (first | (with_reducible first | exact HK.out | apply KeepBut.set_ | apply keep_drewN | apply keep_drew | apply keep_alloc) | exact HK.out)) hk (.inl rfl)); replace HB := Aside0.mk (hb); replace HI0 := Aside0.mk (hi); (try clear hb); (try clear hk); (try clear hi)) | ((with_reducible refine gd_ 8 rfl ?_); refine Kd.R_lit Kd.string _ 9 ?hg (N := 8) ?hd (xs := ([(⟨#[]⟩ : ByteArray), (⟨#[65]⟩ : ByteArray), (⟨#[110, 105, 110, 101, 99, 104, 97, 114, 115]⟩ : ByteArray), (⟨#[101, 105, 103, 104, 116, 97, 98, 99]⟩ : ByteArray), (⟨#[97, 32, 98]⟩ : ByteArray), (⟨#[97, 49]⟩ : ByteArray)] : List ByteArray)) (inner := [.string (⟨#[]⟩ : ByteArray), .string (⟨#[65]⟩ : ByteArray), .string (⟨#[110, 105, 110, 101, 99, 104, 97, 114, 115]⟩ : ByteArray), .string (⟨#[101, 105, 103, 104, 116, 97, 98, 99]⟩ : ByteArray), .string (⟨#[97, 32, 98]⟩ : ByteArray), .string (⟨#[97, 49]⟩ : ByteArray)]) (ok := fun _ => True) (okp := fun _ => True) ?hr ?hp (fun _ hk => hk) trivial (Below.refl _ _) (Nat.le_refl _) (by simp) ?_; (case hd => rfl); (case hg => rfl); (case hr => first | (go_simp; done) | (go_simp; rfl)); (case hp => exact (Reps.one (show Kd.M Kd.string _ _ _ (⟨#[]⟩ : ByteArray) [.string (⟨#[]⟩ : ByteArray)] from rfl) (Reps.one (show Kd.M Kd.string _ _ _ (⟨#[65]⟩ : ByteArray) [.string (⟨#[65]⟩ : ByteArray)] from rfl) (Reps.one (show Kd.M Kd.string _ _ _ (⟨#[110, 105, 110, 101, 99, 104, 97, 114, 115]⟩ : ByteArray) [.string (⟨#[110, 105, 110, 101, 99, 104, 97, 114, 115]⟩ : ByteArray)] from rfl) (Reps.one (show Kd.M Kd.string _ _ _ (⟨#[101, 105, 103, 104, 116, 97, 98, 99]⟩ : ByteArray) [.string (⟨#[101, 105, 103, 104, 116, 97, 98, 99]⟩ : ByteArray)] from rfl) (Reps.one (show Kd.M Kd.string _ _ _ (⟨#[97, 32, 98]⟩ : ByteArray) [.string (⟨#[97, 32, 98]⟩ : ByteArray)] from rfl) (Reps.one (show Kd.M Kd.string _ _ _ (⟨#[97, 49]⟩ : ByteArray) [.string (⟨#[97, 49]⟩ : ByteArray)] from rfl) (Reps.none _ _)))))))); intro v1726 w9 ho10 hb hg_ hnew_; clear hg_ hnew_; (first | rw [← Ny1725.out] at ho10 | (simp only [Int.reduceToNat] at ho10; rw [← Ny1725.out] at ho10)); have HO1727 := Aside0.mk (Kd.R_lower ho10 (keep_size (w := w) (g := g) (row := none) (by repeat (first | (with_reducible first | exact HK.out | apply KeepBut.set_ | apply keep_drewN | apply keep_drew | apply keep_alloc) | exact HK.out)))); have n1_ := Aside0.mk (IsS173.below (by repeat (first | (with_reducible first | exact HI0.out | apply IsS173.alloc | apply IsS173.drewN | apply IsS173.drew | apply IsS173.set_1 | apply IsS173.set_2) | exact HI0.out)) hb); have n2_ := Aside0.mk (KeepBut.trans (by repeat (first | (with_reducible first | exact HK.out | apply KeepBut.set_ | apply keep_drewN | apply keep_drew | apply keep_alloc) | exact HK.out)) (KeepBut.of_below hb g none) (.inl rfl)); have n3_ := Aside0.mk (below_step (by repeat (first | (with_reducible first | exact HB.out | apply ba_ | apply bn_ | apply bd_ | refine below_set ?_ (IsS173.ge HI0.out)) | exact HB.out)) hb); clear HI0 HK HB; have HI0 := n1_; have HK := n2_; have HB := n3_; clear n1_ n2_ n3_; clear hb ho10; obtain ⟨Ao11, co11, eo11⟩ := Kd.R_slice HO1727.out; subst eo11) | ((with_reducible refine gate_callee (f := 174) rfl ?_); refine gl_ (some 9) Try.func174 #[.pointer (some ⟨g, 0, none⟩), .slice Ao11 y1725.length co11] ?_; (with_reducible refine (spec_l1Str.calls g s0_0 t1720 t1721 _ _ y1725 t1728 t1729 t1730 w0 _ ?side1 ?side2 ?side3 ?side4 ?side5 A7.out).mono ?_); (case side1 => repeat (first | (with_reducible first | exact HI0.out | apply IsS173.alloc | apply IsS173.drewN | apply IsS173.drew | apply IsS173.set_1 | apply IsS173.set_2) | exact HI0.out)); (case side2 => repeat (first | (with_reducible first | exact HB.out | apply ba_ | apply bn_ | apply bd_ | refine below_set ?_ (IsS173.ge HI0.out)) | exact HB.out)); (case side3 => exact cp_ ((Kd.R_reads' HO1727.out).2.2)); (case side4 => exact (Kd.R_reads' HO1727.out).2.1); (case side5 => exact far_slice (IsS173.own_ne HI0.out HO1727.out (by decide))); rintro e w12 ⟨rfl, hi, hb, hk⟩; refine ⟨_, rfl, ?_⟩; replace HO1727 := Aside0.mk (Kd.R_mono (Kd.R_keep (IsS173.apart (show IsS173 w0 _ g s0_0 t1720 t1721 from by repeat (first | (with_reducible first | exact HI0.out | apply IsS173.alloc | apply IsS173.drewN | apply IsS173.drew | apply IsS173.set_1 | apply IsS173.set_2) | exact HI0.out)) (rp_ HO1727.out) (by decide)) hk (fun _ h => h.2)) (fun _ h => h.1)); replace HK := Aside0.mk (KeepBut.trans (by repeat (first | (with_reducible first | exact HK.out | apply KeepBut.set_ | apply keep_drewN | apply keep_drew | apply keep_alloc) | exact HK.out)) hk (.inl rfl)); replace HB := Aside0.mk (hb); replace HI0 := Aside0.mk (hi); (try clear hb); (try clear hk); (try clear hi)))
 go_ret
 exact an_ ⟨by repeat (first | (with_reducible first | exact HI0.out | apply IsS173.alloc | apply IsS173.drewN | apply IsS173.drew | apply IsS173.set_1 | apply IsS173.set_2) | exact HI0.out), by repeat (first | (with_reducible first | exact HB.out | apply ba_ | apply bn_ | apply bd_ | refine below_set ?_ (IsS173.ge HI0.out)) | exact HB.out), by repeat (first | (with_reducible first | exact HK.out | apply KeepBut.set_ | apply keep_drewN | apply keep_drew | apply keep_alloc) | exact HK.out)⟩
end Go.Proofs.Ytfholjcelnkleaa.Print
end
