import Derived.Test.YtanfohlpkppeiaaDoorMFnConfsCard1
import Derived.Laws.Cover1
import Derived.Test.YtanfohlpkppeiaaDoorMFnConfsCard4
import Derived.Test.YtanfohlpkppeiaaDoorMFnConfsCard2
import Derived.Test.YtanfohlpkppeiaaDoorMFnConfsCard3
section
namespace Go.Proofs.YtanfohlpkppeiaaDoor.Print
open Go.RowKit Go.Proofs.YtanfohlpkppeiaaDoorV.PrintWords Go.Proofs.YtanfohlpkppeiaaDoorV.PrintLast Go.Proofs.YtanfohlpkppeiaaDoorV.PrintMore
attribute [local go_sem] max2_int min2_int max_two min_two max_three min_three max_four min_four
set_option linter.unusedVariables false
set_option linter.unusedSimpArgs false
set_option maxHeartbeats 8000000
set_option maxRecDepth 100000
def impl_SetOk.l0 : Nat → List (S83) → List (S83) → Int → Int → Option (Bool)
 | 0, _, _, _, _ => none
 | k + 1, x0, x5, x6, x7 => if x7 < x6 then (if 0 ≤ x7 then (if x7 < (x5.length : Int) then (if x7 ≥ 4 then (some false) else ((impl_LabelOk.f k ((rd_T83 x5 x7).f0) ((rd_T83 x5 x7).f1)).bind fun t818 => (if t818 = true then (if x7 > 0 then (if 0 ≤ (wrap64 (x7 - 1)) then (if (wrap64 (x7 - 1)) < (x0.length : Int) then (if ((Op.bytesLess (((rd_T83 x0 (wrap64 (x7 - 1))).f0).toList) (((rd_T83 x5 x7).f0).toList)) = true) then (impl_SetOk.l0 k x0 x5 x6 (wrap64 (x7 + 1))) else (some false)) else (none)) else (none)) else (impl_SetOk.l0 k x0 x5 x6 (wrap64 (x7 + 1)))) else (some false)))) else (none)) else (none)) else (some true)
def impl_SetOk.f (k : Nat) (l0 : List (S83)) : Option (Bool) := impl_SetOk.l0 k l0 l0 (l0.length : Int) 0
theorem impl_SetOk.mono_l : ∀ k, (∀ y0 y1 y2 y3, LeO (impl_SetOk.l0 k y0 y1 y2 y3) (impl_SetOk.l0 (k + 1) y0 y1 y2 y3))
 | 0 => fun _ _ _ _ r h => by simp [impl_SetOk.l0] at h
 | k + 1 => by
  have ih0 := impl_SetOk.mono_l k
  intro y0 y1 y2 y3
  unfold impl_SetOk.l0
  repeat' first
  | (with_reducible exact ih0 _ _ _ _)
  | (with_reducible exact impl_LabelOk.mono _ _ _)
  | (with_reducible exact LeO.refl _)
  | (with_reducible exact LeO.none _)
  | (with_reducible refine LeO.ite ?_ ?_)
  | (with_reducible refine LeO.bind ?_ (fun _ => ?_))
  | exact ih0 _ _ _ _
  | exact impl_LabelOk.mono _ _ _
theorem impl_SetOk.mono : ∀ a0 k, LeO (impl_SetOk.f k a0) (impl_SetOk.f (k + 1) a0) := by
 intro a0 k
 have ih0 := impl_SetOk.mono_l k
 unfold impl_SetOk.f
 repeat' first | (with_reducible first | exact ih0 _ _ _ _ | exact impl_LabelOk.mono _ _ _ | exact LeO.refl _ | exact LeO.none _ | refine LeO.ite ?_ ?_ | refine LeO.bind ?_ (fun _ => ?_)) | exact ih0 _ _ _ _ | exact impl_LabelOk.mono _ _ _
def impl_SetOk.T4 : Bool × List (List Nat × List Nat) := (true, [([], []), ([0], [0]), ([1], [1]), ([2], [2]), ([3, 2, 2], [2, 3]), ([4, 2], [2, 4]), ([2, 5], [2, 5]), ([6, 4], [6]), ([7], [7]), ([8, 7], [7, 8]), ([9, 7, 7], [7, 9]), ([10], [10]), ([10], [10]), ([12, 10], [10, 12]), ([11, 13, 10], [10, 11, 13]), ([14, 10], [10, 14]), ([15, 10], [10, 15]), ([10], [10]), ([17, 10], [10, 17]), ([16, 18, 10], [10, 16, 18]), ([10, 19, 7], [7, 10, 19]), ([7, 20], [7, 20])])
def impl_SetOk.B4 : List Nat := [0, 1, 3, 7, 15, 31, 63, 127, 255, 511, 1023, 2047, 2047, 6143, 16383, 32767, 65535, 2047, 133119, 524287, 1048575, 2097151]
theorem impl_SetOk.tab4 : rtab .any (opsOf Tryd.f40 4) = impl_SetOk.T4 := by kernel_rfl
theorem impl_SetOk.bits4 : waitsOk impl_SetOk.T4.2 impl_SetOk.B4 = true := by kernel_rfl
theorem impl_SetOk.calls (k : Nat) (A0 : Option Addr) (c0 : Nat) (l0 : List (S83)) (r : Bool) (w : World) (hr0 : Kd.C k83 w A0 l0.length l0) (hc0 : l0.length ≤ c0) (h : impl_SetOk.f k l0 = some r) :
  Calls Tryd.prog 40 #[.slice A0 l0.length c0] w fun e w' => e = .returned (.bool r) ∧ Below w.heap.size w w' := by
 have hu83 := Tryd.underlying83
 have HR0 := Aside0.mk hr0
 have HC0 := Aside0.mk hc0
 clear hr0 hc0
 have HB := Aside0.mk (Below.refl w.heap.size w)
 have H : (impl_SetOk.l0 k l0 l0 (l0.length : Int) 0) = some r := h
 clear h
 have H' := Aside0.mk H
 clear H
 go_enter Tryd.func40, Tryd.ntmps40
 go_wp2
 go_loopg [7] k (fun kq v7 w' => ∃ (x7_1 : Int), v7 = .int .i64 x7_1 ∧ Aside0 (impl_SetOk.l0 kq l0 l0 (l0.length : Int) x7_1 = some r) ∧ Aside0 (kq ≤ k) ∧ Aside0 (Below w.heap.size w w'))
 case atStart => exact ⟨(0), (by first | rfl | (simp; done) | (simp [*]; done)), H', ⟨Nat.le_refl _⟩, ⟨by exact hs_ HB.out⟩⟩
 case round =>
  clear H'
  obtain ⟨x7_1, rfl, HA, HK1, HB⟩ := hrel
  cases gk with
  | zero => exact absurd HA.out (by simp [impl_SetOk.l0])
  | succ k1 =>
   have H := HA.out
   clear HA
   simp only [impl_SetOk.l0] at H
   by_cases c2 : x7_1 < (l0.length : Int)
   ·
    rw [if_pos c2] at H
    have c2b0 := decide_eq_true c2
    clear c2
    by_cases c3 : 0 ≤ x7_1
    ·
     rw [if_pos c3] at H
     have c3b0 := decide_eq_true c3
     clear c3
     by_cases c4 : x7_1 < (l0.length : Int)
     ·
      rw [if_pos c4] at H
      have c4b0 := decide_eq_true c4
      clear c4
      by_cases c5 : x7_1 ≥ 4
      ·
       rw [if_pos c5] at H
       have c5b0 : decide (4 ≤ x7_1) = true := decide_eq_true c5
       clear c5
       obtain rfl := Option.some.inj H
       have p816 : 0 ≤ (x7_1 : Int) := of_decide_eq_true (by with_reducible assumption)
       have q816 : x7_1 < (l0.length : Int) := of_decide_eq_true (by with_reducible assumption)
       obtain ⟨ad816, e816, hx816_0, hx816_1⟩ := at_T83 HR0.out x7_1 p816 q816
       cases e816
       replace hx816_0 := cl_ HB.out hx816_0
       replace hx816_1 := cl_ HB.out hx816_1
       replace p816 := eq_true p816
       replace q816 := eq_true q816
       try go_wp2_with (first | ((with_reducible refine gd_ 4 rfl ?_); refine bv_ 4 #[.string (⟨#[]⟩ : ByteArray), .string (⟨#[]⟩ : ByteArray)] 83 ?_; intro gb817 hg w6 hbox hb; have BK817 := Aside0.mk (hbox); have GW817 := Ge_.mk ((gw_ hg (hs_ HB.out))); replace HB := st_ HB hb; have GE817 := Ge_.mk GW817.out; clear hb hbox hg; obtain ⟨z7_0, z7_1, y7_0, y7_1⟩ := bc2_ BK817.out))
       generalize hw_ : ((w6.setCell ⟨gb817, 0, none⟩ (.string ((rd_T83 l0 x7_1).f0))).setCell ⟨gb817, 1, none⟩ (.string ((rd_T83 l0 x7_1).f1))) = w8
       have n0_ : Aside0 (w8.heap[gb817]? = some (.cells #[.string ((rd_T83 l0 x7_1).f0), .string ((rd_T83 l0 x7_1).f1)] 83 (0, 0))) := ⟨by rw [← hw_]; exact (bp_ BK817.out)⟩
       have n1_ : Aside0 (Below w.heap.size w w8) := ⟨by rw [← hw_]; exact (hs_ HB.out)⟩
       clear hw_
       (try clear BK817)
       (try clear HB)
       have BK817 := n0_
       have HB := n1_
       clear n0_ n1_
       replace BK817 := Aside0.mk (blk_drew BK817.out)
       replace HB := Aside0.mk (bd_ HB.out)
       refine start_ (n := 22) (S := fun w' => True) (ds := []) (b_ 0 22) (by kernel_rfl) rfl rfl trivial (fun hHeld => ?_); refine with_tabW impl_SetOk.tab4 impl_SetOk.bits4 (fun HT_ HW_ => ?_)
       generalize w8.drew = w9 at BK817 HB hHeld ⊢
       refine pw_ 0 12 (b_ 1 21) rfl rfl HT_.out ?_
       refine pw_ 1 13 (b_ 2 20) rfl rfl HT_.out ?_
       refine pw_ 2 14 (b_ 3 19) rfl rfl HT_.out ?_
       refine pv_ 3 15 ?_ (b_ 4 18) rfl rfl HT_.out ?_ ?_; rotate_left; simp only [fr_]; rfl
       refine pv_ 4 16 ?_ (b_ 5 17) rfl rfl HT_.out ?_ ?_; rotate_left; simp only [fr_]; rfl
       refine pv_ 5 17 ?_ (b_ 6 16) rfl rfl HT_.out ?_ ?_; rotate_left; simp only [fr_]; rfl
       refine pw_ 6 18 (b_ 7 15) rfl rfl HT_.out ?_
       refine pw_ 7 19 (b_ 8 14) rfl rfl HT_.out ?_
       refine pv_ 8 20 ?_ (b_ 9 13) rfl rfl HT_.out ?_ ?_; rotate_left; simp only [fr_]; rfl
       refine pv_ 9 21 ?_ (b_ 10 12) rfl rfl HT_.out ?_ ?_; rotate_left; simp only [fr_]; rfl
       refine pv_ 10 22 ?_ (b_ 11 11) rfl rfl HT_.out ?_ ?_; rotate_left; simp only [fr_]; rfl
       refine pv_ 11 23 ?_ (b_ 12 10) rfl rfl HT_.out ?_ ?_; rotate_left; simp only [fr_]; rfl
       refine pv_ 12 24 ?_ (b_ 13 9) rfl rfl HT_.out ?_ ?_; rotate_left; simp only [fr_]; rfl
       refine pv_ 13 25 ?_ (b_ 14 8) rfl rfl HT_.out ?_ ?_; rotate_left; simp only [fr_]; rfl
       refine pv_ 14 26 ?_ (b_ 15 7) rfl rfl HT_.out ?_ ?_; rotate_left; simp only [fr_]; rfl
       refine pv_ 15 27 ?_ (b_ 16 6) rfl rfl HT_.out ?_ ?_; rotate_left; simp only [fr_]; rfl
       refine pv_ 16 28 ?_ (b_ 17 5) rfl rfl HT_.out ?_ ?_; rotate_left; simp only [fr_]; rfl
       refine pv_ 17 29 ?_ (b_ 18 4) rfl rfl HT_.out ?_ ?_; rotate_left; simp only [fr_]; rfl
       refine pv_ 18 30 ?_ (b_ 19 3) rfl rfl HT_.out ?_ ?_; rotate_left; simp only [fr_]; rfl
       refine pv_ 19 31 ?_ (b_ 20 2) rfl rfl HT_.out ?_ ?_; rotate_left; simp only [fr_]; rfl
       refine pv_ 20 32 ?_ (b_ 21 1) rfl rfl HT_.out ?_ ?_; rotate_left; simp only [fr_]; rfl
       refine pw_ 21 33 (b_ 22 0) rfl rfl HT_.out ?_
       refine done_ (done_of HT_.out (by kernel_rfl)) ?_
       try go_wp2
       go_ret
       exact an_ (by exact hs_ HB.out)
      rw [if_neg c5] at H
      have c5b0 : decide (4 ≤ x7_1) = false := decide_eq_false c5
      clear c5
      replace H := Option.bind_eq_some_iff.mp H
      obtain ⟨t818, A100, H⟩ := H
      have A10 := Aside0.mk A100
      clear A100
      by_cases c11 : t818 = true
      ·
       subst c11
       rw [if_pos rfl] at H
       by_cases c12 : x7_1 > 0
       ·
        rw [if_pos c12] at H
        have c12b0 : decide (0 < x7_1) = true := decide_eq_true c12
        clear c12
        obtain ⟨ji13, hji13⟩ : ∃ j_ : Int, (wrap64 (x7_1 - 1)) = j_ := ⟨_, rfl⟩
        replace H : (if 0 ≤ (ji13) then (if (ji13) < (l0.length : Int) then (if ((Op.bytesLess (((rd_T83 l0 (ji13)).f0).toList) (((rd_T83 l0 x7_1).f0).toList)) = true) then (impl_SetOk.l0 k1 l0 l0 (l0.length : Int) (wrap64 (x7_1 + 1))) else (some false)) else (none)) else (none)) = some r := by first | (rw [hji13] at H; exact H) | (simp only [hji13] at H ⊢; exact H)
        (try rw [hji13] at A10)
        have hji13w : (IntKind.i64.wrap (x7_1 - 1)) = ji13 := (i64_w _).trans hji13
        by_cases c14 : 0 ≤ (ji13)
        ·
         rw [if_pos c14] at H
         have c14b0 := decide_eq_true c14
         clear c14
         by_cases c15 : (ji13) < (l0.length : Int)
         ·
          rw [if_pos c15] at H
          have c15b0 := decide_eq_true c15
          clear c15
          by_cases c16 : ((Op.bytesLess (((rd_T83 l0 (ji13)).f0).toList) (((rd_T83 l0 x7_1).f0).toList)) = true)
          ·
           rw [if_pos c16] at H
           have c16b0 : (Op.bytesLess (((rd_T83 l0 (ji13)).f0).toList) (((rd_T83 l0 x7_1).f0).toList)) = true := c16
           clear c16
           have H' := Aside0.mk H
           clear H
           have p816 : 0 ≤ (x7_1 : Int) := of_decide_eq_true (by with_reducible assumption)
           have q816 : x7_1 < (l0.length : Int) := of_decide_eq_true (by with_reducible assumption)
           obtain ⟨ad816, e816, hx816_0, hx816_1⟩ := at_T83 HR0.out x7_1 p816 q816
           cases e816
           replace hx816_0 := cl_ HB.out hx816_0
           replace hx816_1 := cl_ HB.out hx816_1
           replace p816 := eq_true p816
           replace q816 := eq_true q816
           try go_wp2_with (first | ((with_reducible refine gd_ 4 rfl ?_); refine bv_ 4 #[.string (⟨#[]⟩ : ByteArray), .string (⟨#[]⟩ : ByteArray)] 83 ?_; intro gb817 hg w17 hbox hb; have BK817 := Aside0.mk (hbox); have GW817 := Ge_.mk ((gw_ hg (hs_ HB.out))); replace HB := st_ HB hb; have GE817 := Ge_.mk GW817.out; clear hb hbox hg; obtain ⟨z18_0, z18_1, y18_0, y18_1⟩ := bc2_ BK817.out))
           generalize hw_ : ((w17.setCell ⟨gb817, 0, none⟩ (.string ((rd_T83 l0 x7_1).f0))).setCell ⟨gb817, 1, none⟩ (.string ((rd_T83 l0 x7_1).f1))) = w19
           have n0_ : Aside0 (w19.heap[gb817]? = some (.cells #[.string ((rd_T83 l0 x7_1).f0), .string ((rd_T83 l0 x7_1).f1)] 83 (0, 0))) := ⟨by rw [← hw_]; exact (bp_ BK817.out)⟩
           have n1_ : Aside0 (Below w.heap.size w w19) := ⟨by rw [← hw_]; exact (hs_ HB.out)⟩
           clear hw_
           (try clear BK817)
           (try clear HB)
           have BK817 := n0_
           have HB := n1_
           clear n0_ n1_
           replace BK817 := Aside0.mk (blk_drew BK817.out)
           replace HB := Aside0.mk (bd_ HB.out)
           have p819 : 0 ≤ ((ji13) : Int) := of_decide_eq_true (by with_reducible assumption)
           have q819 : (ji13) < (l0.length : Int) := of_decide_eq_true (by with_reducible assumption)
           obtain ⟨ad819, e819, hx819_0, hx819_1⟩ := at_T83 HR0.out (ji13) p819 q819
           have hw819_1 := hx819_1
           have hw819_0 := hx819_0
           obtain rfl : ad816 = ad819 := (by injection e819)
           replace hx819_0 := cl_ HB.out hx819_0
           replace hx819_1 := cl_ HB.out hx819_1
           replace p819 := eq_true p819
           replace q819 := eq_true q819
           refine start_ (n := 22) (S := fun w' => w'.cell? ⟨gb817, 0, none⟩ = some (.string ((rd_T83 l0 x7_1).f0)) ∧ w'.cell? ⟨gb817, 1, none⟩ = some (.string ((rd_T83 l0 x7_1).f1)) ∧ w'.cell? (ad816.add (((ji13)).toNat * 2)) = some (.string ((rd_T83 l0 (ji13)).f0)) ∧ w'.cell? ⟨(ad816.add (((ji13)).toNat * 2)).block, (ad816.add (((ji13)).toNat * 2)).off + 1, none⟩ = some (.string ((rd_T83 l0 (ji13)).f1))) (ds := []) (b_ 0 22) (by kernel_rfl) rfl rfl ⟨bx_ BK817.out 0, bx_ BK817.out 1, ((HB.out.cell (World.block_lt_of_cell? w _ hw819_0)).trans hw819_0), ((HB.out.cell (World.block_lt_of_cell? w _ hw819_1)).trans hw819_1)⟩ (fun hHeld => ?_); refine with_tabW impl_SetOk.tab4 impl_SetOk.bits4 (fun HT_ HW_ => ?_)
           generalize w19.drew = w20 at BK817 HB hx819_0 hx819_1 hHeld ⊢
           refine pw_ 0 12 (b_ 1 21) rfl rfl HT_.out ?_
           refine pw_ 1 13 (b_ 2 20) rfl rfl HT_.out ?_
           refine pw_ 2 14 (b_ 3 19) rfl rfl HT_.out ?_
           refine take_ (i := 3) (N := some 15) (v := ?_) (a' := ?_) (b_ 4 18) rfl rfl (take_ofW HT_.out HW_.out (by kernel_rfl)) (fun _ _ _ h => h) (Or.inl ⟨by rfl, ?_⟩) hHeld ?_ ?_
           rotate_left
           ·
            rintro w' ⟨s0, s1, s2, s3⟩
            go_simp
            with_reducible rfl
           rotate_left
           ·
            simp only [fr_]
            rfl
           refine one_ (i := 4) (N := some 16) (b_ 5 17) rfl rfl (one_of HT_.out (by kernel_rfl)) (by decide) (fun K hK => ?_)
           refine gs_ Tryd.func62 #[.agg #[.string ((rd_T83 l0 x7_1).f0), .string ((rd_T83 l0 x7_1).f1)]] ?_
           with_reducible refine (impl_LabelOk.calls k1 ((rd_T83 l0 x7_1).f0) ((rd_T83 l0 x7_1).f1) true _ A10.out).mono ?_
           rintro e w21 ⟨rfl, hb⟩
           refine ⟨_, rfl, ?_⟩
           replace BK817 := bk2_ BK817 hb
           replace HB := st_ HB hb
           (try clear hb)
           (try clear hk)
           refine hK.out _ _ ⟨bx_ BK817.out 0, bx_ BK817.out 1, ((HB.out.cell (World.block_lt_of_cell? w _ hw819_0)).trans hw819_0), ((HB.out.cell (World.block_lt_of_cell? w _ hw819_1)).trans hw819_1)⟩ (fun hHeld => ?_)
           clear hK K
           refine norm_ (a' := ?_) ?_ ?_
           rotate_left
           ·
            show Act.put _ (some 16) _ = _
            simp only [fr_]
            rfl
           refine pw_ 5 17 (b_ 6 16) rfl rfl HT_.out ?_
           refine pw_ 6 18 (b_ 7 15) rfl rfl HT_.out ?_
           refine pw_ 7 19 (b_ 8 14) rfl rfl HT_.out ?_
           refine pw_ 8 20 (b_ 9 13) rfl rfl HT_.out ?_
           refine pw_ 9 21 (b_ 10 12) rfl rfl HT_.out ?_
           refine pw_ 10 22 (b_ 11 11) rfl rfl HT_.out ?_
           refine pw_ 11 23 (b_ 12 10) rfl rfl HT_.out ?_
           refine pw_ 12 24 (b_ 13 9) rfl rfl HT_.out ?_
           refine pw_ 13 25 (b_ 14 8) rfl rfl HT_.out ?_
           refine pw_ 14 26 (b_ 15 7) rfl rfl HT_.out ?_
           refine pw_ 15 27 (b_ 16 6) rfl rfl HT_.out ?_
           refine pw_ 17 29 #[t_,t_,t_,t_,t_,t_,t_,t_,t_,t_,t_,t_,t_,t_,t_,t_,f_,t_,f_,f_,f_,f_] rfl rfl HT_.out ?_
           refine take_ (i := 16) (N := some 28) (v := ?_) (a' := ?_) (b_ 18 4) rfl rfl (take_ofW HT_.out HW_.out (by kernel_rfl)) (fun _ _ _ h => h) (Or.inl ⟨by rfl, ?_⟩) hHeld ?_ ?_
           rotate_left
           ·
            rintro w' ⟨s0, s1, s2, s3⟩
            go_simp
            with_reducible rfl
           rotate_left
           ·
            simp only [fr_]
            rfl
           refine take_ (i := 18) (N := some 30) (v := ?_) (a' := ?_) (b_ 19 3) rfl rfl (take_ofW HT_.out HW_.out (by kernel_rfl)) (fun _ _ _ h => h) (Or.inl ⟨by rfl, ?_⟩) hHeld ?_ ?_
           rotate_left
           ·
            rintro w' ⟨s0, s1, s2, s3⟩
            go_simp
            with_reducible rfl
           rotate_left
           ·
            simp only [fr_]
            rfl
           refine pw_ 19 31 (b_ 20 2) rfl rfl HT_.out ?_
           refine pw_ 20 32 (b_ 21 1) rfl rfl HT_.out ?_
           refine pw_ 21 33 (b_ 22 0) rfl rfl HT_.out ?_
           refine done_ (done_of HT_.out (by kernel_rfl)) ?_
           try go_wp2
           go_roundg k1
           case measure => have := HK1.out; omega
           case rel => exact ⟨(wrap64 (x7_1 + 1)), (by first | rfl | (simp; done) | (simp [*]; done)), H', ⟨by have := HK1.out; omega⟩, ⟨by exact hs_ HB.out⟩⟩
          rw [if_neg c16] at H
          have c16b0 : (Op.bytesLess (((rd_T83 l0 (ji13)).f0).toList) (((rd_T83 l0 x7_1).f0).toList)) = false := by simpa using c16
          clear c16
          obtain rfl := Option.some.inj H
          have p816 : 0 ≤ (x7_1 : Int) := of_decide_eq_true (by with_reducible assumption)
          have q816 : x7_1 < (l0.length : Int) := of_decide_eq_true (by with_reducible assumption)
          obtain ⟨ad816, e816, hx816_0, hx816_1⟩ := at_T83 HR0.out x7_1 p816 q816
          cases e816
          replace hx816_0 := cl_ HB.out hx816_0
          replace hx816_1 := cl_ HB.out hx816_1
          replace p816 := eq_true p816
          replace q816 := eq_true q816
          try go_wp2_with (first | ((with_reducible refine gd_ 4 rfl ?_); refine bv_ 4 #[.string (⟨#[]⟩ : ByteArray), .string (⟨#[]⟩ : ByteArray)] 83 ?_; intro gb817 hg w22 hbox hb; have BK817 := Aside0.mk (hbox); have GW817 := Ge_.mk ((gw_ hg (hs_ HB.out))); replace HB := st_ HB hb; have GE817 := Ge_.mk GW817.out; clear hb hbox hg; obtain ⟨z23_0, z23_1, y23_0, y23_1⟩ := bc2_ BK817.out))
          generalize hw_ : ((w22.setCell ⟨gb817, 0, none⟩ (.string ((rd_T83 l0 x7_1).f0))).setCell ⟨gb817, 1, none⟩ (.string ((rd_T83 l0 x7_1).f1))) = w24
          have n0_ : Aside0 (w24.heap[gb817]? = some (.cells #[.string ((rd_T83 l0 x7_1).f0), .string ((rd_T83 l0 x7_1).f1)] 83 (0, 0))) := ⟨by rw [← hw_]; exact (bp_ BK817.out)⟩
          have n1_ : Aside0 (Below w.heap.size w w24) := ⟨by rw [← hw_]; exact (hs_ HB.out)⟩
          clear hw_
          (try clear BK817)
          (try clear HB)
          have BK817 := n0_
          have HB := n1_
          clear n0_ n1_
          replace BK817 := Aside0.mk (blk_drew BK817.out)
          replace HB := Aside0.mk (bd_ HB.out)
          have p819 : 0 ≤ ((ji13) : Int) := of_decide_eq_true (by with_reducible assumption)
          have q819 : (ji13) < (l0.length : Int) := of_decide_eq_true (by with_reducible assumption)
          obtain ⟨ad819, e819, hx819_0, hx819_1⟩ := at_T83 HR0.out (ji13) p819 q819
          have hw819_1 := hx819_1
          have hw819_0 := hx819_0
          obtain rfl : ad816 = ad819 := (by injection e819)
          replace hx819_0 := cl_ HB.out hx819_0
          replace hx819_1 := cl_ HB.out hx819_1
          replace p819 := eq_true p819
          replace q819 := eq_true q819
          refine start_ (n := 22) (S := fun w' => w'.cell? ⟨gb817, 0, none⟩ = some (.string ((rd_T83 l0 x7_1).f0)) ∧ w'.cell? ⟨gb817, 1, none⟩ = some (.string ((rd_T83 l0 x7_1).f1)) ∧ w'.cell? (ad816.add (((ji13)).toNat * 2)) = some (.string ((rd_T83 l0 (ji13)).f0)) ∧ w'.cell? ⟨(ad816.add (((ji13)).toNat * 2)).block, (ad816.add (((ji13)).toNat * 2)).off + 1, none⟩ = some (.string ((rd_T83 l0 (ji13)).f1))) (ds := []) (b_ 0 22) (by kernel_rfl) rfl rfl ⟨bx_ BK817.out 0, bx_ BK817.out 1, ((HB.out.cell (World.block_lt_of_cell? w _ hw819_0)).trans hw819_0), ((HB.out.cell (World.block_lt_of_cell? w _ hw819_1)).trans hw819_1)⟩ (fun hHeld => ?_); refine with_tabW impl_SetOk.tab4 impl_SetOk.bits4 (fun HT_ HW_ => ?_)
          generalize w24.drew = w25 at BK817 HB hx819_0 hx819_1 hHeld ⊢
          refine pw_ 0 12 (b_ 1 21) rfl rfl HT_.out ?_
          refine pw_ 1 13 (b_ 2 20) rfl rfl HT_.out ?_
          refine pw_ 2 14 (b_ 3 19) rfl rfl HT_.out ?_
          refine take_ (i := 3) (N := some 15) (v := ?_) (a' := ?_) (b_ 4 18) rfl rfl (take_ofW HT_.out HW_.out (by kernel_rfl)) (fun _ _ _ h => h) (Or.inl ⟨by rfl, ?_⟩) hHeld ?_ ?_
          rotate_left
          ·
           rintro w' ⟨s0, s1, s2, s3⟩
           go_simp
           with_reducible rfl
          rotate_left
          ·
           simp only [fr_]
           rfl
          refine one_ (i := 4) (N := some 16) (b_ 5 17) rfl rfl (one_of HT_.out (by kernel_rfl)) (by decide) (fun K hK => ?_)
          refine gs_ Tryd.func62 #[.agg #[.string ((rd_T83 l0 x7_1).f0), .string ((rd_T83 l0 x7_1).f1)]] ?_
          with_reducible refine (impl_LabelOk.calls k1 ((rd_T83 l0 x7_1).f0) ((rd_T83 l0 x7_1).f1) true _ A10.out).mono ?_
          rintro e w26 ⟨rfl, hb⟩
          refine ⟨_, rfl, ?_⟩
          replace BK817 := bk2_ BK817 hb
          replace HB := st_ HB hb
          (try clear hb)
          (try clear hk)
          refine hK.out _ _ ⟨bx_ BK817.out 0, bx_ BK817.out 1, ((HB.out.cell (World.block_lt_of_cell? w _ hw819_0)).trans hw819_0), ((HB.out.cell (World.block_lt_of_cell? w _ hw819_1)).trans hw819_1)⟩ (fun hHeld => ?_)
          clear hK K
          refine norm_ (a' := ?_) ?_ ?_
          rotate_left
          ·
           show Act.put _ (some 16) _ = _
           simp only [fr_]
           rfl
          refine pw_ 5 17 (b_ 6 16) rfl rfl HT_.out ?_
          refine pw_ 6 18 (b_ 7 15) rfl rfl HT_.out ?_
          refine pw_ 7 19 (b_ 8 14) rfl rfl HT_.out ?_
          refine pw_ 8 20 (b_ 9 13) rfl rfl HT_.out ?_
          refine pw_ 9 21 (b_ 10 12) rfl rfl HT_.out ?_
          refine pw_ 10 22 (b_ 11 11) rfl rfl HT_.out ?_
          refine pw_ 11 23 (b_ 12 10) rfl rfl HT_.out ?_
          refine pw_ 12 24 (b_ 13 9) rfl rfl HT_.out ?_
          refine pw_ 13 25 (b_ 14 8) rfl rfl HT_.out ?_
          refine pw_ 14 26 (b_ 15 7) rfl rfl HT_.out ?_
          refine pw_ 15 27 (b_ 16 6) rfl rfl HT_.out ?_
          refine pw_ 17 29 #[t_,t_,t_,t_,t_,t_,t_,t_,t_,t_,t_,t_,t_,t_,t_,t_,f_,t_,f_,f_,f_,f_] rfl rfl HT_.out ?_
          refine take_ (i := 16) (N := some 28) (v := ?_) (a' := ?_) (b_ 18 4) rfl rfl (take_ofW HT_.out HW_.out (by kernel_rfl)) (fun _ _ _ h => h) (Or.inl ⟨by rfl, ?_⟩) hHeld ?_ ?_
          rotate_left
          ·
           rintro w' ⟨s0, s1, s2, s3⟩
           go_simp
           with_reducible rfl
          rotate_left
          ·
           simp only [fr_]
           rfl
          refine take_ (i := 18) (N := some 30) (v := ?_) (a' := ?_) (b_ 19 3) rfl rfl (take_ofW HT_.out HW_.out (by kernel_rfl)) (fun _ _ _ h => h) (Or.inl ⟨by rfl, ?_⟩) hHeld ?_ ?_
          rotate_left
          ·
           rintro w' ⟨s0, s1, s2, s3⟩
           go_simp
           with_reducible rfl
          rotate_left
          ·
           simp only [fr_]
           rfl
          refine pw_ 19 31 (b_ 20 2) rfl rfl HT_.out ?_
          refine pw_ 20 32 (b_ 21 1) rfl rfl HT_.out ?_
          refine pw_ 21 33 (b_ 22 0) rfl rfl HT_.out ?_
          refine done_ (done_of HT_.out (by kernel_rfl)) ?_
          try go_wp2
          go_ret
          exact ⟨by first | rfl | (simp [errW_none, errW_some] <;> rfl) | (simp only [← hji13]; first | rfl | (simp [errW_none, errW_some] <;> rfl)) | (simp [*, errW_none, errW_some] <;> rfl), by exact hs_ HB.out⟩
         rw [if_neg c15] at H
         exact absurd H (by simp)
        rw [if_neg c14] at H
        exact absurd H (by simp)
       rw [if_neg c12] at H
       have c12b0 : decide (0 < x7_1) = false := decide_eq_false c12
       clear c12
       have H' := Aside0.mk H
       clear H
       have p816 : 0 ≤ (x7_1 : Int) := of_decide_eq_true (by with_reducible assumption)
       have q816 : x7_1 < (l0.length : Int) := of_decide_eq_true (by with_reducible assumption)
       obtain ⟨ad816, e816, hx816_0, hx816_1⟩ := at_T83 HR0.out x7_1 p816 q816
       cases e816
       replace hx816_0 := cl_ HB.out hx816_0
       replace hx816_1 := cl_ HB.out hx816_1
       replace p816 := eq_true p816
       replace q816 := eq_true q816
       try go_wp2_with (first | ((with_reducible refine gd_ 4 rfl ?_); refine bv_ 4 #[.string (⟨#[]⟩ : ByteArray), .string (⟨#[]⟩ : ByteArray)] 83 ?_; intro gb817 hg w27 hbox hb; have BK817 := Aside0.mk (hbox); have GW817 := Ge_.mk ((gw_ hg (hs_ HB.out))); replace HB := st_ HB hb; have GE817 := Ge_.mk GW817.out; clear hb hbox hg; obtain ⟨z28_0, z28_1, y28_0, y28_1⟩ := bc2_ BK817.out))
       generalize hw_ : ((w27.setCell ⟨gb817, 0, none⟩ (.string ((rd_T83 l0 x7_1).f0))).setCell ⟨gb817, 1, none⟩ (.string ((rd_T83 l0 x7_1).f1))) = w29
       have n0_ : Aside0 (w29.heap[gb817]? = some (.cells #[.string ((rd_T83 l0 x7_1).f0), .string ((rd_T83 l0 x7_1).f1)] 83 (0, 0))) := ⟨by rw [← hw_]; exact (bp_ BK817.out)⟩
       have n1_ : Aside0 (Below w.heap.size w w29) := ⟨by rw [← hw_]; exact (hs_ HB.out)⟩
       clear hw_
       (try clear BK817)
       (try clear HB)
       have BK817 := n0_
       have HB := n1_
       clear n0_ n1_
       replace BK817 := Aside0.mk (blk_drew BK817.out)
       replace HB := Aside0.mk (bd_ HB.out)
       refine start_ (n := 22) (S := fun w' => w'.cell? ⟨gb817, 0, none⟩ = some (.string ((rd_T83 l0 x7_1).f0)) ∧ w'.cell? ⟨gb817, 1, none⟩ = some (.string ((rd_T83 l0 x7_1).f1))) (ds := []) (b_ 0 22) (by kernel_rfl) rfl rfl ⟨bx_ BK817.out 0, bx_ BK817.out 1⟩ (fun hHeld => ?_); refine with_tabW impl_SetOk.tab4 impl_SetOk.bits4 (fun HT_ HW_ => ?_)
       generalize w29.drew = w30 at BK817 HB hHeld ⊢
       refine pw_ 0 12 (b_ 1 21) rfl rfl HT_.out ?_
       refine pw_ 1 13 (b_ 2 20) rfl rfl HT_.out ?_
       refine pw_ 2 14 (b_ 3 19) rfl rfl HT_.out ?_
       refine take_ (i := 3) (N := some 15) (v := ?_) (a' := ?_) (b_ 4 18) rfl rfl (take_ofW HT_.out HW_.out (by kernel_rfl)) (fun _ _ _ h => h) (Or.inl ⟨by rfl, ?_⟩) hHeld ?_ ?_
       rotate_left
       ·
        rintro w' ⟨s0, s1⟩
        go_simp
        with_reducible rfl
       rotate_left
       ·
        simp only [fr_]
        rfl
       refine one_ (i := 4) (N := some 16) (b_ 5 17) rfl rfl (one_of HT_.out (by kernel_rfl)) (by decide) (fun K hK => ?_)
       refine gs_ Tryd.func62 #[.agg #[.string ((rd_T83 l0 x7_1).f0), .string ((rd_T83 l0 x7_1).f1)]] ?_
       with_reducible refine (impl_LabelOk.calls k1 ((rd_T83 l0 x7_1).f0) ((rd_T83 l0 x7_1).f1) true _ A10.out).mono ?_
       rintro e w31 ⟨rfl, hb⟩
       refine ⟨_, rfl, ?_⟩
       replace BK817 := bk2_ BK817 hb
       replace HB := st_ HB hb
       (try clear hb)
       (try clear hk)
       refine hK.out _ _ (e2_ BK817.out) (fun hHeld => ?_)
       clear hK K
       refine norm_ (a' := ?_) ?_ ?_
       rotate_left
       ·
        show Act.put _ (some 16) _ = _
        simp only [fr_]
        rfl
       refine pw_ 5 17 (b_ 6 16) rfl rfl HT_.out ?_
       refine pw_ 6 18 (b_ 7 15) rfl rfl HT_.out ?_
       refine pw_ 7 19 (b_ 8 14) rfl rfl HT_.out ?_
       refine pw_ 8 20 (b_ 9 13) rfl rfl HT_.out ?_
       refine pw_ 9 21 (b_ 10 12) rfl rfl HT_.out ?_
       refine pw_ 10 22 (b_ 11 11) rfl rfl HT_.out ?_
       refine pv_ 11 23 ?_ (b_ 12 10) rfl rfl HT_.out ?_ ?_; rotate_left; simp only [fr_]; rfl
       refine pv_ 12 24 ?_ (b_ 13 9) rfl rfl HT_.out ?_ ?_; rotate_left; simp only [fr_]; rfl
       refine pv_ 13 25 ?_ (b_ 14 8) rfl rfl HT_.out ?_ ?_; rotate_left; simp only [fr_]; rfl
       refine pv_ 14 26 ?_ (b_ 15 7) rfl rfl HT_.out ?_ ?_; rotate_left; simp only [fr_]; rfl
       refine pv_ 15 27 ?_ (b_ 16 6) rfl rfl HT_.out ?_ ?_; rotate_left; simp only [fr_]; rfl
       refine pv_ 16 28 ?_ (b_ 17 5) rfl rfl HT_.out ?_ ?_; rotate_left; simp only [fr_]; rfl
       refine pv_ 17 29 ?_ (b_ 18 4) rfl rfl HT_.out ?_ ?_; rotate_left; simp only [fr_]; rfl
       refine pv_ 18 30 ?_ (b_ 19 3) rfl rfl HT_.out ?_ ?_; rotate_left; simp only [fr_]; rfl
       refine pv_ 19 31 ?_ (b_ 20 2) rfl rfl HT_.out ?_ ?_; rotate_left; simp only [fr_]; rfl
       refine pw_ 20 32 (b_ 21 1) rfl rfl HT_.out ?_
       refine pw_ 21 33 (b_ 22 0) rfl rfl HT_.out ?_
       refine done_ (done_of HT_.out (by kernel_rfl)) ?_
       try go_wp2
       go_roundg k1
       case measure => have := HK1.out; omega
       case rel => exact ⟨(wrap64 (x7_1 + 1)), (by first | rfl | (simp; done) | (simp [*]; done)), H', ⟨by have := HK1.out; omega⟩, ⟨by exact hs_ HB.out⟩⟩
      replace c11 := Bool.eq_false_iff.mpr c11
      subst c11
      rw [if_neg (show ¬ (false = true) by decide)] at H
      obtain rfl := Option.some.inj H
      have p816 : 0 ≤ (x7_1 : Int) := of_decide_eq_true (by with_reducible assumption)
      have q816 : x7_1 < (l0.length : Int) := of_decide_eq_true (by with_reducible assumption)
      obtain ⟨ad816, e816, hx816_0, hx816_1⟩ := at_T83 HR0.out x7_1 p816 q816
      cases e816
      replace hx816_0 := cl_ HB.out hx816_0
      replace hx816_1 := cl_ HB.out hx816_1
      replace p816 := eq_true p816
      replace q816 := eq_true q816
      try go_wp2_with (first | ((with_reducible refine gd_ 4 rfl ?_); refine bv_ 4 #[.string (⟨#[]⟩ : ByteArray), .string (⟨#[]⟩ : ByteArray)] 83 ?_; intro gb817 hg w32 hbox hb; have BK817 := Aside0.mk (hbox); have GW817 := Ge_.mk ((gw_ hg (hs_ HB.out))); replace HB := st_ HB hb; have GE817 := Ge_.mk GW817.out; clear hb hbox hg; obtain ⟨z33_0, z33_1, y33_0, y33_1⟩ := bc2_ BK817.out))
      generalize hw_ : ((w32.setCell ⟨gb817, 0, none⟩ (.string ((rd_T83 l0 x7_1).f0))).setCell ⟨gb817, 1, none⟩ (.string ((rd_T83 l0 x7_1).f1))) = w34
      have n0_ : Aside0 (w34.heap[gb817]? = some (.cells #[.string ((rd_T83 l0 x7_1).f0), .string ((rd_T83 l0 x7_1).f1)] 83 (0, 0))) := ⟨by rw [← hw_]; exact (bp_ BK817.out)⟩
      have n1_ : Aside0 (Below w.heap.size w w34) := ⟨by rw [← hw_]; exact (hs_ HB.out)⟩
      clear hw_
      (try clear BK817)
      (try clear HB)
      have BK817 := n0_
      have HB := n1_
      clear n0_ n1_
      replace BK817 := Aside0.mk (blk_drew BK817.out)
      replace HB := Aside0.mk (bd_ HB.out)
      refine start_ (n := 22) (S := fun w' => w'.cell? ⟨gb817, 0, none⟩ = some (.string ((rd_T83 l0 x7_1).f0)) ∧ w'.cell? ⟨gb817, 1, none⟩ = some (.string ((rd_T83 l0 x7_1).f1))) (ds := []) (b_ 0 22) (by kernel_rfl) rfl rfl ⟨bx_ BK817.out 0, bx_ BK817.out 1⟩ (fun hHeld => ?_); refine with_tabW impl_SetOk.tab4 impl_SetOk.bits4 (fun HT_ HW_ => ?_)
      generalize w34.drew = w35 at BK817 HB hHeld ⊢
      refine pw_ 0 12 (b_ 1 21) rfl rfl HT_.out ?_
      refine pw_ 1 13 (b_ 2 20) rfl rfl HT_.out ?_
      refine pw_ 2 14 (b_ 3 19) rfl rfl HT_.out ?_
      refine take_ (i := 3) (N := some 15) (v := ?_) (a' := ?_) (b_ 4 18) rfl rfl (take_ofW HT_.out HW_.out (by kernel_rfl)) (fun _ _ _ h => h) (Or.inl ⟨by rfl, ?_⟩) hHeld ?_ ?_
      rotate_left
      ·
       rintro w' ⟨s0, s1⟩
       go_simp
       with_reducible rfl
      rotate_left
      ·
       simp only [fr_]
       rfl
      refine one_ (i := 4) (N := some 16) (b_ 5 17) rfl rfl (one_of HT_.out (by kernel_rfl)) (by decide) (fun K hK => ?_)
      refine gs_ Tryd.func62 #[.agg #[.string ((rd_T83 l0 x7_1).f0), .string ((rd_T83 l0 x7_1).f1)]] ?_
      with_reducible refine (impl_LabelOk.calls k1 ((rd_T83 l0 x7_1).f0) ((rd_T83 l0 x7_1).f1) false _ A10.out).mono ?_
      rintro e w36 ⟨rfl, hb⟩
      refine ⟨_, rfl, ?_⟩
      replace BK817 := bk2_ BK817 hb
      replace HB := st_ HB hb
      (try clear hb)
      (try clear hk)
      refine hK.out _ _ (e2_ BK817.out) (fun hHeld => ?_)
      clear hK K
      refine norm_ (a' := ?_) ?_ ?_
      rotate_left
      ·
       show Act.put _ (some 16) _ = _
       simp only [fr_]
       rfl
      refine pw_ 5 17 (b_ 6 16) rfl rfl HT_.out ?_
      refine pw_ 6 18 (b_ 7 15) rfl rfl HT_.out ?_
      refine pw_ 7 19 (b_ 8 14) rfl rfl HT_.out ?_
      refine pv_ 8 20 ?_ (b_ 9 13) rfl rfl HT_.out ?_ ?_; rotate_left; simp only [fr_]; rfl
      refine pv_ 9 21 ?_ (b_ 10 12) rfl rfl HT_.out ?_ ?_; rotate_left; simp only [fr_]; rfl
      refine pv_ 10 22 ?_ (b_ 11 11) rfl rfl HT_.out ?_ ?_; rotate_left; simp only [fr_]; rfl
      refine pv_ 11 23 ?_ (b_ 12 10) rfl rfl HT_.out ?_ ?_; rotate_left; simp only [fr_]; rfl
      refine pv_ 12 24 ?_ (b_ 13 9) rfl rfl HT_.out ?_ ?_; rotate_left; simp only [fr_]; rfl
      refine pv_ 13 25 ?_ (b_ 14 8) rfl rfl HT_.out ?_ ?_; rotate_left; simp only [fr_]; rfl
      refine pv_ 14 26 ?_ (b_ 15 7) rfl rfl HT_.out ?_ ?_; rotate_left; simp only [fr_]; rfl
      refine pv_ 15 27 ?_ (b_ 16 6) rfl rfl HT_.out ?_ ?_; rotate_left; simp only [fr_]; rfl
      refine pv_ 16 28 ?_ (b_ 17 5) rfl rfl HT_.out ?_ ?_; rotate_left; simp only [fr_]; rfl
      refine pv_ 17 29 ?_ (b_ 18 4) rfl rfl HT_.out ?_ ?_; rotate_left; simp only [fr_]; rfl
      refine pv_ 18 30 ?_ (b_ 19 3) rfl rfl HT_.out ?_ ?_; rotate_left; simp only [fr_]; rfl
      refine pv_ 19 31 ?_ (b_ 20 2) rfl rfl HT_.out ?_ ?_; rotate_left; simp only [fr_]; rfl
      refine pv_ 20 32 ?_ (b_ 21 1) rfl rfl HT_.out ?_ ?_; rotate_left; simp only [fr_]; rfl
      refine pw_ 21 33 (b_ 22 0) rfl rfl HT_.out ?_
      refine done_ (done_of HT_.out (by kernel_rfl)) ?_
      try go_wp2
      go_ret
      exact an_ (by exact hs_ HB.out)
     rw [if_neg c4] at H
     exact absurd H (by simp)
    rw [if_neg c3] at H
    exact absurd H (by simp)
   rw [if_neg c2] at H
   have c2b0 : decide (x7_1 < (l0.length : Int)) = false := decide_eq_false c2
   clear c2
   obtain rfl := Option.some.inj H
   go_wp2
   go_ret
   exact an_ (by exact hs_ HB.out)
def impl_AlarmOk.f (k : Nat) (l0_0 : List (S83)) (a0_1 : Int) (a0_2 : Int) (a0_3 : ByteArray) : Option (Bool) := if (l0_0.length : Int) > 0 then ((impl_SetOk.f k l0_0).bind fun t821 => (if t821 = true then ((impl_in.f a0_1 0 99999).bind fun t822 => (if t822 = true then ((impl_in.f a0_2 a0_1 99999).bind fun t823 => (if t823 = true then ((impl_PlainOk.f k a0_3).bind fun t824 => (some t824)) else (some false))) else (some false))) else (some false))) else (some false)
theorem impl_AlarmOk.mono : ∀ a0 a1 a2 a3 k, LeO (impl_AlarmOk.f k a0 a1 a2 a3) (impl_AlarmOk.f (k + 1) a0 a1 a2 a3) := by
 intro a0 a1 a2 a3 k
 unfold impl_AlarmOk.f
 repeat' first | (with_reducible first | exact impl_PlainOk.mono _ _ | exact impl_SetOk.mono _ _ | exact LeO.refl _ | exact LeO.none _ | refine LeO.ite ?_ ?_ | refine LeO.bind ?_ (fun _ => ?_)) | exact impl_PlainOk.mono _ _ | exact impl_SetOk.mono _ _
theorem impl_AlarmOk.calls (k : Nat) (A0_0 : Option Addr) (c0_0 : Nat) (l0_0 : List (S83)) (a0_1 : Int) (a0_2 : Int) (a0_3 : ByteArray) (r : Bool) (w : World) (hr0_0 : Kd.C k83 w A0_0 l0_0.length l0_0) (hc0_0 : l0_0.length ≤ c0_0) (h : impl_AlarmOk.f k l0_0 a0_1 a0_2 a0_3 = some r) :
  Calls Tryd.prog 21 #[.agg #[.slice A0_0 l0_0.length c0_0, .int .i64 a0_1, .int .i64 a0_2, .string a0_3]] w fun e w' => e = .returned (.bool r) ∧ Below w.heap.size w w' := by
 have hu37 := Tryd.underlying37
 have HR0_0 := Aside0.mk hr0_0
 have HC0_0 := Aside0.mk hc0_0
 clear hr0_0 hc0_0
 have HB := Aside0.mk (Below.refl w.heap.size w)
 have H : (if (l0_0.length : Int) > 0 then ((impl_SetOk.f k l0_0).bind fun t821 => (if t821 = true then ((impl_in.f a0_1 0 99999).bind fun t822 => (if t822 = true then ((impl_in.f a0_2 a0_1 99999).bind fun t823 => (if t823 = true then ((impl_PlainOk.f k a0_3).bind fun t824 => (some t824)) else (some false))) else (some false))) else (some false))) else (some false)) = some r := h
 clear h
 have AHz_ := Aside0.mk H
 clear H
 go_enter Tryd.func21, Tryd.ntmps21
 go_wp2_with (first | (((with_reducible refine gd_ 1 rfl ?_); refine bv_ 1 #[.slice A0_0 l0_0.length c0_0, .int .i64 a0_1, .int .i64 a0_2, .string a0_3] 37 ?_; intro gb820 hg w10 hbox hb; have BK820 := Aside0.mk (hbox); have GW820 := Ge_.mk ((gw_ hg (hs_ HB.out))); replace HB := st_ HB hb; have GE820 := Ge_.mk GW820.out; clear hb hbox hg; obtain ⟨z11_0, z11_1, z11_2, z11_3, y11_0, y11_1, y11_2, y11_3⟩ := bc4_ BK820.out); refine Aside0.out ?_))
 have H := AHz_.out
 clear AHz_
 by_cases c2 : (l0_0.length : Int) > 0
 ·
  rw [if_pos c2] at H
  have c2b0 : decide (0 < (l0_0.length : Int)) = true := decide_eq_true c2
  have c2b1 : decide (0 < l0_0.length) = true := decide_eq_true (by omega)
  clear c2
  replace H := Option.bind_eq_some_iff.mp H
  obtain ⟨t821, A30, H⟩ := H
  have A3 := Aside0.mk A30
  clear A30
  by_cases c4 : t821 = true
  ·
   subst c4
   rw [if_pos rfl] at H
   replace H := Option.bind_eq_some_iff.mp H
   obtain ⟨t822, A50, H⟩ := H
   have A5 := Aside0.mk A50
   clear A50
   have AHz_ := Aside0.mk H
   clear H
   refine ⟨?_⟩
   go_wp2_with (first | ((go_at_call 40; (with_reducible refine (impl_SetOk.calls k _ _ l0_0 true _ ?side1 ?side2 A3.out).mono ?_); (case side1 => exact cp_ ((Kd.C_below HR0_0.out HB.out))); (case side2 => exact HC0_0.out); rintro e w12 ⟨rfl, hb⟩; replace BK820 := bk2_ BK820 hb; replace HB := st_ HB hb; (try clear hb); (try clear hk); obtain ⟨z13_0, z13_1, z13_2, z13_3, y13_0, y13_1, y13_2, y13_3⟩ := bc4_ BK820.out); refine Aside0.out ?_))
   have H := AHz_.out
   clear AHz_
   by_cases c6 : t822 = true
   ·
    subst c6
    rw [if_pos rfl] at H
    replace H := Option.bind_eq_some_iff.mp H
    obtain ⟨t823, A70, H⟩ := H
    have A7 := Aside0.mk A70
    clear A70
    by_cases c8 : t823 = true
    ·
     subst c8
     rw [if_pos rfl] at H
     replace H := Option.bind_eq_some_iff.mp H
     obtain ⟨t824, A90, H⟩ := H
     have A9 := Aside0.mk A90
     clear A90
     obtain rfl := Option.some.inj H
     refine ⟨?_⟩
     go_wp2_with (first | (go_at_call 29; (with_reducible refine (impl_in.calls a0_1 0 99999 true _ A5.out).mono ?_); rintro e w' ⟨rfl, ⟨nd, rfl⟩⟩) | (go_at_call 29; (with_reducible refine (impl_in.calls a0_2 a0_1 99999 true _ A7.out).mono ?_); rintro e w' ⟨rfl, ⟨nd, rfl⟩⟩) | (go_at_call 41; (with_reducible refine (impl_PlainOk.calls k a0_3 t824 _ A9.out).mono ?_); rintro e w' ⟨rfl, ⟨nd, rfl⟩⟩))
     go_ret
     exact an_ (by exact hs_ HB.out)
    replace c8 := Bool.eq_false_iff.mpr c8
    subst c8
    rw [if_neg (show ¬ (false = true) by decide)] at H
    obtain rfl := Option.some.inj H
    refine ⟨?_⟩
    go_wp2_with (first | (go_at_call 29; (with_reducible refine (impl_in.calls a0_1 0 99999 true _ A5.out).mono ?_); rintro e w' ⟨rfl, ⟨nd, rfl⟩⟩) | (go_at_call 29; (with_reducible refine (impl_in.calls a0_2 a0_1 99999 false _ A7.out).mono ?_); rintro e w' ⟨rfl, ⟨nd, rfl⟩⟩))
    go_ret
    exact an_ (by exact hs_ HB.out)
   replace c6 := Bool.eq_false_iff.mpr c6
   subst c6
   rw [if_neg (show ¬ (false = true) by decide)] at H
   obtain rfl := Option.some.inj H
   refine ⟨?_⟩
   go_wp2_with (first | (go_at_call 29; (with_reducible refine (impl_in.calls a0_1 0 99999 false _ A5.out).mono ?_); rintro e w' ⟨rfl, ⟨nd, rfl⟩⟩))
   go_ret
   exact an_ (by exact hs_ HB.out)
  replace c4 := Bool.eq_false_iff.mpr c4
  subst c4
  rw [if_neg (show ¬ (false = true) by decide)] at H
  obtain rfl := Option.some.inj H
  refine ⟨?_⟩
  go_wp2_with (first | (go_at_call 40; (with_reducible refine (impl_SetOk.calls k _ _ l0_0 false _ ?side1 ?side2 A3.out).mono ?_); (case side1 => exact cp_ ((Kd.C_below HR0_0.out HB.out))); (case side2 => exact HC0_0.out); rintro e w24 ⟨rfl, hb⟩; replace BK820 := bk2_ BK820 hb; replace HB := st_ HB hb; (try clear hb); (try clear hk)))
  go_ret
  exact an_ (by exact hs_ HB.out)
 rw [if_neg c2] at H
 have c2b0 : decide (0 < (l0_0.length : Int)) = false := decide_eq_false c2
 have c2b1 : decide (0 < l0_0.length) = false := decide_eq_false (by omega)
 clear c2
 obtain rfl := Option.some.inj H
 refine ⟨?_⟩
 go_wp2
 go_ret
 exact an_ (by exact hs_ HB.out)
def impl_Fits.f (k : Nat) (a0_0 : Int) (a0_1 : Int) (a0_2 : Int) (a0_3 : Int) (a0_4 : Int) (l0_5 : List ByteArray) (l1_0 : List (S83)) (a1_1 : Int) (a1_2 : Int) (a1_3 : ByteArray) : Option (Bool) := (impl_AlarmOk.f k l1_0 a1_1 a1_2 a1_3).bind fun t827 => (if t827 = true then (some (decide (a1_2 ≤ 99899))) else (some false))
theorem impl_Fits.mono : ∀ a0 a1 a2 a3 a4 a5 a6 a7 a8 a9 k, LeO (impl_Fits.f k a0 a1 a2 a3 a4 a5 a6 a7 a8 a9) (impl_Fits.f (k + 1) a0 a1 a2 a3 a4 a5 a6 a7 a8 a9) := by
 intro a0 a1 a2 a3 a4 a5 a6 a7 a8 a9 k
 unfold impl_Fits.f
 repeat' first | (with_reducible first | exact impl_AlarmOk.mono _ _ _ _ _ | exact LeO.refl _ | exact LeO.none _ | refine LeO.ite ?_ ?_ | refine LeO.bind ?_ (fun _ => ?_)) | exact impl_AlarmOk.mono _ _ _ _ _
theorem impl_Fits.calls (k : Nat) (a0_0 : Int) (a0_1 : Int) (a0_2 : Int) (a0_3 : Int) (a0_4 : Int) (A0_5 : Option Addr) (c0_5 : Nat) (l0_5 : List ByteArray) (A1_0 : Option Addr) (c1_0 : Nat) (l1_0 : List (S83)) (a1_1 : Int) (a1_2 : Int) (a1_3 : ByteArray) (r : Bool) (w : World) (hr0_5 : Kd.C Kd.string w A0_5 l0_5.length l0_5) (hc0_5 : l0_5.length ≤ c0_5) (hr1_0 : Kd.C k83 w A1_0 l1_0.length l1_0) (hc1_0 : l1_0.length ≤ c1_0) (h : impl_Fits.f k a0_0 a0_1 a0_2 a0_3 a0_4 l0_5 l1_0 a1_1 a1_2 a1_3 = some r) :
  Calls Tryd.prog 19 #[.agg #[.int .i64 a0_0, .int .i64 a0_1, .int .i64 a0_2, .int .i64 a0_3, .int .i64 a0_4, .slice A0_5 l0_5.length c0_5], .agg #[.slice A1_0 l1_0.length c1_0, .int .i64 a1_1, .int .i64 a1_2, .string a1_3]] w fun e w' => e = .returned (.bool r) ∧ Below w.heap.size w w' := by
 have hu26 := Tryd.underlying26
 have hu37 := Tryd.underlying37
 have HR0_5 := Aside0.mk hr0_5
 have HC0_5 := Aside0.mk hc0_5
 clear hr0_5 hc0_5
 have HR1_0 := Aside0.mk hr1_0
 have HC1_0 := Aside0.mk hc1_0
 clear hr1_0 hc1_0
 have HB := Aside0.mk (Below.refl w.heap.size w)
 have H : ((impl_AlarmOk.f k l1_0 a1_1 a1_2 a1_3).bind fun t827 => (if t827 = true then (some (decide (a1_2 ≤ 99899))) else (some false))) = some r := h
 clear h
 replace H := Option.bind_eq_some_iff.mp H
 obtain ⟨t827, A30, H⟩ := H
 have A3 := Aside0.mk A30
 clear A30
 have AHz_ := Aside0.mk H
 clear H
 go_enter Tryd.func19, Tryd.ntmps19
 go_wp2_with (first | ((with_reducible refine gd_ 2 rfl ?_); refine bv_ 2 #[.int .i64 a0_0, .int .i64 a0_1, .int .i64 a0_2, .int .i64 a0_3, .int .i64 a0_4, .slice A0_5 l0_5.length c0_5] 26 ?_; intro gb825 hg w5 hbox hb; have BK825 := Aside0.mk (hbox); have GW825 := Ge_.mk ((gw_ hg (hs_ HB.out))); replace HB := st_ HB hb; have GE825 := Ge_.mk GW825.out; clear hb hbox hg) | (((with_reducible refine gd_ 3 rfl ?_); refine bv_ 3 #[.slice A1_0 l1_0.length c1_0, .int .i64 a1_1, .int .i64 a1_2, .string a1_3] 37 ?_; intro gb826 hg w6 hbox hb; have BK826 := Aside0.mk (hbox); have GW826 := Ge_.mk ((gw_ hg (hs_ HB.out))); replace HB := st_ HB hb; have GE826 := Ge_.mk GW826.out; have NB825_826 := nk_ BK825 hg; replace BK825 := bk2_ BK825 hb; have NB826_825 := ns_ NB825_826; clear hb hbox hg; have hnb7 := NB826_825.out; have hnc7 := NB825_826.out; obtain ⟨z8_0, z8_1, z8_2, z8_3, y8_0, y8_1, y8_2, y8_3⟩ := bc4_ BK826.out); refine Aside0.out ?_))
 have H := AHz_.out
 clear AHz_
 by_cases c4 : t827 = true
 ·
  subst c4
  rw [if_pos rfl] at H
  obtain rfl := Option.some.inj H
  refine ⟨?_⟩
  go_wp2_with (first | ((with_reducible refine gate_callee (f := 21) rfl ?_); refine gl_ (some 6) Tryd.func21 #[.agg #[.slice A1_0 l1_0.length c1_0, .int .i64 a1_1, .int .i64 a1_2, .string a1_3]] ?_; (with_reducible refine (impl_AlarmOk.calls k _ _ l1_0 a1_1 a1_2 a1_3 true _ ?side1 ?side2 A3.out).mono ?_); (case side1 => exact cp_ ((Kd.C_below HR1_0.out HB.out))); (case side2 => exact HC1_0.out); rintro e w9 ⟨rfl, hb⟩; refine ⟨_, rfl, ?_⟩; replace BK825 := bk2_ BK825 hb; replace BK826 := bk2_ BK826 hb; replace HB := st_ HB hb; (try clear hb); (try clear hk); obtain ⟨z10_0, z10_1, z10_2, z10_3, y10_0, y10_1, y10_2, y10_3⟩ := bc4_ BK826.out))
  go_ret
  exact an_ (by exact hs_ HB.out)
 replace c4 := Bool.eq_false_iff.mpr c4
 subst c4
 rw [if_neg (show ¬ (false = true) by decide)] at H
 obtain rfl := Option.some.inj H
 refine ⟨?_⟩
 go_wp2_with (first | ((with_reducible refine gate_callee (f := 21) rfl ?_); refine gl_ (some 6) Tryd.func21 #[.agg #[.slice A1_0 l1_0.length c1_0, .int .i64 a1_1, .int .i64 a1_2, .string a1_3]] ?_; (with_reducible refine (impl_AlarmOk.calls k _ _ l1_0 a1_1 a1_2 a1_3 false _ ?side1 ?side2 A3.out).mono ?_); (case side1 => exact cp_ ((Kd.C_below HR1_0.out HB.out))); (case side2 => exact HC1_0.out); rintro e w15 ⟨rfl, hb⟩; refine ⟨_, rfl, ?_⟩; replace BK825 := bk2_ BK825 hb; replace BK826 := bk2_ BK826 hb; replace HB := st_ HB hb; (try clear hb); (try clear hk)))
 go_ret
 exact an_ (by exact hs_ HB.out)
def spec_PlainOk.l0 : Nat → ByteArray → Int → Option (Bool)
 | 0, _, _ => none
 | k + 1, x0, x3 => if x3 < (x0.size : Int) then (if 0 ≤ x3 then (if (bt x0 x3) < 32 then (some false) else (if (bt x0 x3) > 126 then (some false) else (if (bt x0 x3) = 34 then (some false) else (if (bt x0 x3) = 92 then (some false) else (spec_PlainOk.l0 k x0 (wrap64 (x3 + 1))))))) else (none)) else (some (decide ((x0.size : Int) ≤ 12)))
def spec_PlainOk.f (k : Nat) (a0 : ByteArray) : Option (Bool) := spec_PlainOk.l0 k a0 0
theorem spec_PlainOk.mono_l : ∀ k, (∀ y0 y1, LeO (spec_PlainOk.l0 k y0 y1) (spec_PlainOk.l0 (k + 1) y0 y1))
 | 0 => fun _ _ r h => by simp [spec_PlainOk.l0] at h
 | k + 1 => by
  have ih0 := spec_PlainOk.mono_l k
  intro y0 y1
  unfold spec_PlainOk.l0
  repeat' first
  | (with_reducible exact ih0 _ _)
  | (with_reducible exact LeO.refl _)
  | (with_reducible exact LeO.none _)
  | (with_reducible refine LeO.ite ?_ ?_)
  | (with_reducible refine LeO.bind ?_ (fun _ => ?_))
  | exact ih0 _ _
theorem spec_PlainOk.mono : ∀ a0 k, LeO (spec_PlainOk.f k a0) (spec_PlainOk.f (k + 1) a0) := by
 intro a0 k
 have ih0 := spec_PlainOk.mono_l k
 unfold spec_PlainOk.f
 repeat' first | (with_reducible first | exact ih0 _ _ | exact LeO.refl _ | exact LeO.none _ | refine LeO.ite ?_ ?_ | refine LeO.bind ?_ (fun _ => ?_)) | exact ih0 _ _
theorem spec_PlainOk.calls (k : Nat) (a0 : ByteArray) (r : Bool) (w : World) (h : spec_PlainOk.f k a0 = some r) :
  Calls Tryd.prog 61 #[.string a0] w fun e w' => e = .returned (.bool r) ∧ Drawn0 w w' := by
 have H : (spec_PlainOk.l0 k a0 0) = some r := h
 clear h
 have H' := Aside0.mk H
 clear H
 go_enter Tryd.func61, Tryd.ntmps61
 go_wp2
 go_loopg [3] k (fun kq v3 w' => ∃ (x3_1 : Int), v3 = .int .i64 x3_1 ∧ Aside0 (spec_PlainOk.l0 kq a0 x3_1 = some r) ∧ Aside0 (kq ≤ k) ∧ Drawn0 w w')
 case atStart => exact ⟨(0), (by first | rfl | (simp; done) | (simp [*]; done)), H', ⟨Nat.le_refl _⟩, by repeat (first | exact Drawn0.refl _ | apply Drawn0.step)⟩
 case round =>
  clear H'
  obtain ⟨x3_1, rfl, HA, HK1, ⟨m1, rfl⟩⟩ := hrel
  cases gk with
  | zero => exact absurd HA.out (by simp [spec_PlainOk.l0])
  | succ k1 =>
   have H := HA.out
   clear HA
   simp only [spec_PlainOk.l0] at H
   by_cases c2 : x3_1 < (a0.size : Int)
   ·
    rw [if_pos c2] at H
    have c2b0 := decide_eq_true c2
    clear c2
    by_cases c3 : 0 ≤ x3_1
    ·
     rw [if_pos c3] at H
     have c3b0 := decide_eq_true c3
     clear c3
     by_cases c5 : (bt a0 x3_1) < 32
     ·
      rw [if_pos c5] at H
      have c5b0 := decide_eq_true c5
      clear c5
      obtain rfl := Option.some.inj H
      have p4 : 0 ≤ (x3_1 : Int) := of_decide_eq_true (by with_reducible assumption)
      have q4 : x3_1 < (a0.size : Int) := of_decide_eq_true (by with_reducible assumption)
      have hx4 := bt_at a0 x3_1
      replace p4 := eq_true p4
      replace q4 := eq_true q4
      go_wp2
      go_ret
      exact ⟨by first | rfl | (simp; done) | (simp [*]; done), by repeat (first | exact Drawn0.refl _ | apply Drawn0.step)⟩
     rw [if_neg c5] at H
     have c5b0 : decide ((bt a0 x3_1) < 32) = false := decide_eq_false c5
     clear c5
     by_cases c7 : (bt a0 x3_1) > 126
     ·
      rw [if_pos c7] at H
      have c7b0 : decide (126 < (bt a0 x3_1)) = true := decide_eq_true c7
      clear c7
      obtain rfl := Option.some.inj H
      have p4 : 0 ≤ (x3_1 : Int) := of_decide_eq_true (by with_reducible assumption)
      have q4 : x3_1 < (a0.size : Int) := of_decide_eq_true (by with_reducible assumption)
      have hx4 := bt_at a0 x3_1
      replace p4 := eq_true p4
      replace q4 := eq_true q4
      have p6 : 0 ≤ (x3_1 : Int) := of_decide_eq_true (by with_reducible assumption)
      have q6 : x3_1 < (a0.size : Int) := of_decide_eq_true (by with_reducible assumption)
      have hx6 := bt_at a0 x3_1
      replace p6 := eq_true p6
      replace q6 := eq_true q6
      go_wp2
      go_ret
      exact ⟨by first | rfl | (simp; done) | (simp [*]; done), by repeat (first | exact Drawn0.refl _ | apply Drawn0.step)⟩
     rw [if_neg c7] at H
     have c7b0 : decide (126 < (bt a0 x3_1)) = false := decide_eq_false c7
     clear c7
     by_cases c9 : (bt a0 x3_1) = 34
     ·
      rw [if_pos c9] at H
      have c9b0 : ((bt a0 x3_1) == 34) = true := beq_iff_eq.mpr c9
      have c9b1 : ((bt a0 x3_1) != 34) = false := bne_eq_false_iff_eq.mpr c9
      clear c9
      obtain rfl := Option.some.inj H
      have p4 : 0 ≤ (x3_1 : Int) := of_decide_eq_true (by with_reducible assumption)
      have q4 : x3_1 < (a0.size : Int) := of_decide_eq_true (by with_reducible assumption)
      have hx4 := bt_at a0 x3_1
      replace p4 := eq_true p4
      replace q4 := eq_true q4
      have p6 : 0 ≤ (x3_1 : Int) := of_decide_eq_true (by with_reducible assumption)
      have q6 : x3_1 < (a0.size : Int) := of_decide_eq_true (by with_reducible assumption)
      have hx6 := bt_at a0 x3_1
      replace p6 := eq_true p6
      replace q6 := eq_true q6
      have p8 : 0 ≤ (x3_1 : Int) := of_decide_eq_true (by with_reducible assumption)
      have q8 : x3_1 < (a0.size : Int) := of_decide_eq_true (by with_reducible assumption)
      have hx8 := bt_at a0 x3_1
      replace p8 := eq_true p8
      replace q8 := eq_true q8
      go_wp2
      go_ret
      exact ⟨by first | rfl | (simp; done) | (simp [*]; done), by repeat (first | exact Drawn0.refl _ | apply Drawn0.step)⟩
     rw [if_neg c9] at H
     have c9b0 : ((bt a0 x3_1) == 34) = false := beq_eq_false_iff_ne.mpr c9
     have c9b1 : ((bt a0 x3_1) != 34) = true := bne_iff_ne.mpr c9
     by_cases c11 : (bt a0 x3_1) = 92
     ·
      rw [if_pos c11] at H
      have c11b0 : ((bt a0 x3_1) == 92) = true := beq_iff_eq.mpr c11
      have c11b1 : ((bt a0 x3_1) != 92) = false := bne_eq_false_iff_eq.mpr c11
      clear c11
      obtain rfl := Option.some.inj H
      have p4 : 0 ≤ (x3_1 : Int) := of_decide_eq_true (by with_reducible assumption)
      have q4 : x3_1 < (a0.size : Int) := of_decide_eq_true (by with_reducible assumption)
      have hx4 := bt_at a0 x3_1
      replace p4 := eq_true p4
      replace q4 := eq_true q4
      have p6 : 0 ≤ (x3_1 : Int) := of_decide_eq_true (by with_reducible assumption)
      have q6 : x3_1 < (a0.size : Int) := of_decide_eq_true (by with_reducible assumption)
      have hx6 := bt_at a0 x3_1
      replace p6 := eq_true p6
      replace q6 := eq_true q6
      have p8 : 0 ≤ (x3_1 : Int) := of_decide_eq_true (by with_reducible assumption)
      have q8 : x3_1 < (a0.size : Int) := of_decide_eq_true (by with_reducible assumption)
      have hx8 := bt_at a0 x3_1
      replace p8 := eq_true p8
      replace q8 := eq_true q8
      have p10 : 0 ≤ (x3_1 : Int) := of_decide_eq_true (by with_reducible assumption)
      have q10 : x3_1 < (a0.size : Int) := of_decide_eq_true (by with_reducible assumption)
      have hx10 := bt_at a0 x3_1
      replace p10 := eq_true p10
      replace q10 := eq_true q10
      go_wp2
      go_ret
      exact ⟨by first | rfl | (simp; done) | (simp [*]; done), by repeat (first | exact Drawn0.refl _ | apply Drawn0.step)⟩
     rw [if_neg c11] at H
     have c11b0 : ((bt a0 x3_1) == 92) = false := beq_eq_false_iff_ne.mpr c11
     have c11b1 : ((bt a0 x3_1) != 92) = true := bne_iff_ne.mpr c11
     have H' := Aside0.mk H
     clear H
     have p4 : 0 ≤ (x3_1 : Int) := of_decide_eq_true (by with_reducible assumption)
     have q4 : x3_1 < (a0.size : Int) := of_decide_eq_true (by with_reducible assumption)
     have hx4 := bt_at a0 x3_1
     replace p4 := eq_true p4
     replace q4 := eq_true q4
     have p6 : 0 ≤ (x3_1 : Int) := of_decide_eq_true (by with_reducible assumption)
     have q6 : x3_1 < (a0.size : Int) := of_decide_eq_true (by with_reducible assumption)
     have hx6 := bt_at a0 x3_1
     replace p6 := eq_true p6
     replace q6 := eq_true q6
     have p8 : 0 ≤ (x3_1 : Int) := of_decide_eq_true (by with_reducible assumption)
     have q8 : x3_1 < (a0.size : Int) := of_decide_eq_true (by with_reducible assumption)
     have hx8 := bt_at a0 x3_1
     replace p8 := eq_true p8
     replace q8 := eq_true q8
     have p10 : 0 ≤ (x3_1 : Int) := of_decide_eq_true (by with_reducible assumption)
     have q10 : x3_1 < (a0.size : Int) := of_decide_eq_true (by with_reducible assumption)
     have hx10 := bt_at a0 x3_1
     replace p10 := eq_true p10
     replace q10 := eq_true q10
     go_wp2
     go_roundg k1
     case measure => have := HK1.out; omega
     case rel => exact ⟨(wrap64 (x3_1 + 1)), (by first | rfl | (simp; done) | (simp [*]; done)), H', ⟨by have := HK1.out; omega⟩, by repeat (first | exact Drawn0.refl _ | apply Drawn0.step)⟩
    rw [if_neg c3] at H
    exact absurd H (by simp)
   rw [if_neg c2] at H
   have c2b0 : decide (x3_1 < (a0.size : Int)) = false := decide_eq_false c2
   clear c2
   obtain rfl := Option.some.inj H
   go_wp2
   go_ret
   exact ⟨by first | rfl | (simp; done) | (simp [*]; done), by repeat (first | exact Drawn0.refl _ | apply Drawn0.step)⟩
def spec_LabelOk.f (k : Nat) (a0_0 : ByteArray) (a0_1 : ByteArray) : Option (Bool) := (spec_NameOk.f k a0_0).bind fun t829 => (if t829 = true then ((spec_PlainOk.f k a0_1).bind fun t830 => (some t830)) else (some false))
theorem spec_LabelOk.mono : ∀ a0 a1 k, LeO (spec_LabelOk.f k a0 a1) (spec_LabelOk.f (k + 1) a0 a1) := by
 intro a0 a1 k
 unfold spec_LabelOk.f
 repeat' first | (with_reducible first | exact spec_NameOk.mono _ _ | exact spec_PlainOk.mono _ _ | exact LeO.refl _ | exact LeO.none _ | refine LeO.ite ?_ ?_ | refine LeO.bind ?_ (fun _ => ?_)) | exact spec_NameOk.mono _ _ | exact spec_PlainOk.mono _ _
theorem spec_LabelOk.calls (k : Nat) (a0_0 : ByteArray) (a0_1 : ByteArray) (r : Bool) (w : World) (h : spec_LabelOk.f k a0_0 a0_1 = some r) :
  Calls Tryd.prog 80 #[.agg #[.string a0_0, .string a0_1]] w fun e w' => e = .returned (.bool r) ∧ Below w.heap.size w w' := by
 have hu83 := Tryd.underlying83
 have HB := Aside0.mk (Below.refl w.heap.size w)
 have H : ((spec_NameOk.f k a0_0).bind fun t829 => (if t829 = true then ((spec_PlainOk.f k a0_1).bind fun t830 => (some t830)) else (some false))) = some r := h
 clear h
 replace H := Option.bind_eq_some_iff.mp H
 obtain ⟨t829, A20, H⟩ := H
 have A2 := Aside0.mk A20
 clear A20
 have AHz_ := Aside0.mk H
 clear H
 go_enter Tryd.func80, Tryd.ntmps80
 go_wp2_with (first | (((with_reducible refine gd_ 1 rfl ?_); refine bv_ 1 #[.string a0_0, .string a0_1] 83 ?_; intro gb828 hg w5 hbox hb; have BK828 := Aside0.mk (hbox); have GW828 := Ge_.mk ((gw_ hg (hs_ HB.out))); replace HB := st_ HB hb; have GE828 := Ge_.mk GW828.out; clear hb hbox hg; obtain ⟨z6_0, z6_1, y6_0, y6_1⟩ := bc2_ BK828.out); refine Aside0.out ?_))
 have H := AHz_.out
 clear AHz_
 by_cases c3 : t829 = true
 ·
  subst c3
  rw [if_pos rfl] at H
  replace H := Option.bind_eq_some_iff.mp H
  obtain ⟨t830, A40, H⟩ := H
  have A4 := Aside0.mk A40
  clear A40
  obtain rfl := Option.some.inj H
  refine ⟨?_⟩
  go_wp2_with (first | ((with_reducible refine gate_callee (f := 54) rfl ?_); refine gl_ (some 5) Tryd.func54 #[.string a0_0] ?_; (with_reducible refine (spec_NameOk.calls k a0_0 true _ A2.out).mono ?_); rintro e w' ⟨rfl, ⟨nd, rfl⟩⟩; refine ⟨_, rfl, ?_⟩) | (go_at_call 61; (with_reducible refine (spec_PlainOk.calls k a0_1 t830 _ A4.out).mono ?_); rintro e w' ⟨rfl, ⟨nd, rfl⟩⟩))
  go_ret
  exact an_ (by exact hs_ HB.out)
 replace c3 := Bool.eq_false_iff.mpr c3
 subst c3
 rw [if_neg (show ¬ (false = true) by decide)] at H
 obtain rfl := Option.some.inj H
 refine ⟨?_⟩
 go_wp2_with (first | ((with_reducible refine gate_callee (f := 54) rfl ?_); refine gl_ (some 5) Tryd.func54 #[.string a0_0] ?_; (with_reducible refine (spec_NameOk.calls k a0_0 false _ A2.out).mono ?_); rintro e w' ⟨rfl, ⟨nd, rfl⟩⟩; refine ⟨_, rfl, ?_⟩))
 go_ret
 exact an_ (by exact hs_ HB.out)
def spec_SetOk.l0 : Nat → List (S83) → Int → Option (Bool)
 | 0, _, _ => none
 | k + 1, x0, x3 => if x3 < (x0.length : Int) then (if 0 ≤ x3 then ((spec_LabelOk.f k ((rd_T83 x0 x3).f0) ((rd_T83 x0 x3).f1)).bind fun t832 => (if t832 = true then (if x3 > 0 then (if 0 ≤ (wrap64 (x3 - 1)) then (if (wrap64 (x3 - 1)) < (x0.length : Int) then ((spec_Less.f ((rd_T83 x0 (wrap64 (x3 - 1))).f0) ((rd_T83 x0 x3).f0)).bind fun t835 => (if t835 = true then (spec_SetOk.l0 k x0 (wrap64 (x3 + 1))) else (some false))) else (none)) else (none)) else (spec_SetOk.l0 k x0 (wrap64 (x3 + 1)))) else (some false))) else (none)) else (some (decide ((x0.length : Int) ≤ 4)))
def spec_SetOk.f (k : Nat) (l0 : List (S83)) : Option (Bool) := spec_SetOk.l0 k l0 0
theorem spec_SetOk.mono_l : ∀ k, (∀ y0 y1, LeO (spec_SetOk.l0 k y0 y1) (spec_SetOk.l0 (k + 1) y0 y1))
 | 0 => fun _ _ r h => by simp [spec_SetOk.l0] at h
 | k + 1 => by
  have ih0 := spec_SetOk.mono_l k
  intro y0 y1
  unfold spec_SetOk.l0
  repeat' first
  | (with_reducible exact ih0 _ _)
  | (with_reducible exact spec_LabelOk.mono _ _ _)
  | (with_reducible exact LeO.refl _)
  | (with_reducible exact LeO.none _)
  | (with_reducible refine LeO.ite ?_ ?_)
  | (with_reducible refine LeO.bind ?_ (fun _ => ?_))
  | exact ih0 _ _
  | exact spec_LabelOk.mono _ _ _
theorem spec_SetOk.mono : ∀ a0 k, LeO (spec_SetOk.f k a0) (spec_SetOk.f (k + 1) a0) := by
 intro a0 k
 have ih0 := spec_SetOk.mono_l k
 unfold spec_SetOk.f
 repeat' first | (with_reducible first | exact ih0 _ _ | exact spec_LabelOk.mono _ _ _ | exact LeO.refl _ | exact LeO.none _ | refine LeO.ite ?_ ?_ | refine LeO.bind ?_ (fun _ => ?_)) | exact ih0 _ _ | exact spec_LabelOk.mono _ _ _
def spec_SetOk.T4 : Bool × List (List Nat × List Nat) := (true, [([], []), ([], []), ([0, 1], [0, 1]), ([2], [2]), ([3], [3]), ([4], [4]), ([5, 4], [5]), ([6], [6]), ([7, 6], [6, 7]), ([8, 6, 6], [6, 8]), ([9], [9]), ([9], [9]), ([11, 9], [9, 11]), ([10, 12, 9], [9, 10, 12]), ([13, 9], [9, 13]), ([14, 9], [9, 14]), ([9], [9]), ([9], [9]), ([16, 17, 9], [9, 16, 17]), ([18, 9], [9, 18]), ([19, 9], [9, 19]), ([15, 20, 9, 9], [9, 15, 20]), ([21, 9], [9, 21]), ([9, 22, 6], [6, 9, 22]), ([6, 23], [6, 23])])
def spec_SetOk.B4 : List Nat := [0, 0, 3, 7, 15, 31, 63, 127, 255, 511, 1023, 1023, 3071, 8191, 16383, 32767, 1023, 1023, 197631, 459775, 984063, 2097151, 4194303, 8388607, 16777215]
theorem spec_SetOk.tab4 : rtab .any (opsOf Tryd.f60 4) = spec_SetOk.T4 := by kernel_rfl
theorem spec_SetOk.bits4 : waitsOk spec_SetOk.T4.2 spec_SetOk.B4 = true := by kernel_rfl
theorem spec_SetOk.calls (k : Nat) (A0 : Option Addr) (c0 : Nat) (l0 : List (S83)) (r : Bool) (w : World) (hr0 : Kd.C k83 w A0 l0.length l0) (hc0 : l0.length ≤ c0) (h : spec_SetOk.f k l0 = some r) :
  Calls Tryd.prog 60 #[.slice A0 l0.length c0] w fun e w' => e = .returned (.bool r) ∧ Below w.heap.size w w' := by
 have hu83 := Tryd.underlying83
 have HR0 := Aside0.mk hr0
 have HC0 := Aside0.mk hc0
 clear hr0 hc0
 have HB := Aside0.mk (Below.refl w.heap.size w)
 have H : (spec_SetOk.l0 k l0 0) = some r := h
 clear h
 have H' := Aside0.mk H
 clear H
 go_enter Tryd.func60, Tryd.ntmps60
 go_wp2
 go_loopg [3] k (fun kq v3 w' => ∃ (x3_1 : Int), v3 = .int .i64 x3_1 ∧ Aside0 (spec_SetOk.l0 kq l0 x3_1 = some r) ∧ Aside0 (kq ≤ k) ∧ Aside0 (Below w.heap.size w w'))
 case atStart => exact ⟨(0), (by first | rfl | (simp; done) | (simp [*]; done)), H', ⟨Nat.le_refl _⟩, ⟨by exact hs_ HB.out⟩⟩
 case round =>
  clear H'
  obtain ⟨x3_1, rfl, HA, HK1, HB⟩ := hrel
  cases gk with
  | zero => exact absurd HA.out (by simp [spec_SetOk.l0])
  | succ k1 =>
   have H := HA.out
   clear HA
   simp only [spec_SetOk.l0] at H
   by_cases c2 : x3_1 < (l0.length : Int)
   ·
    rw [if_pos c2] at H
    have c2b0 := decide_eq_true c2
    clear c2
    by_cases c3 : 0 ≤ x3_1
    ·
     rw [if_pos c3] at H
     have c3b0 := decide_eq_true c3
     clear c3
     replace H := Option.bind_eq_some_iff.mp H
     obtain ⟨t832, A40, H⟩ := H
     have A4 := Aside0.mk A40
     clear A40
     by_cases c5 : t832 = true
     ·
      subst c5
      rw [if_pos rfl] at H
      by_cases c6 : x3_1 > 0
      ·
       rw [if_pos c6] at H
       have c6b0 : decide (0 < x3_1) = true := decide_eq_true c6
       clear c6
       obtain ⟨ji7, hji7⟩ : ∃ j_ : Int, (wrap64 (x3_1 - 1)) = j_ := ⟨_, rfl⟩
       replace H : (if 0 ≤ (ji7) then (if (ji7) < (l0.length : Int) then ((spec_Less.f ((rd_T83 l0 (ji7)).f0) ((rd_T83 l0 x3_1).f0)).bind fun t835 => (if t835 = true then (spec_SetOk.l0 k1 l0 (wrap64 (x3_1 + 1))) else (some false))) else (none)) else (none)) = some r := by first | (rw [hji7] at H; exact H) | (simp only [hji7] at H ⊢; exact H)
       (try rw [hji7] at A4)
       have hji7w : (IntKind.i64.wrap (x3_1 - 1)) = ji7 := (i64_w _).trans hji7
       by_cases c8 : 0 ≤ (ji7)
       ·
        rw [if_pos c8] at H
        have c8b0 := decide_eq_true c8
        clear c8
        by_cases c9 : (ji7) < (l0.length : Int)
        ·
         rw [if_pos c9] at H
         have c9b0 := decide_eq_true c9
         clear c9
         replace H := Option.bind_eq_some_iff.mp H
         obtain ⟨t835, A100, H⟩ := H
         have A10 := Aside0.mk A100
         clear A100
         by_cases c11 : t835 = true
         ·
          subst c11
          rw [if_pos rfl] at H
          have H' := Aside0.mk H
          clear H
          try go_wp2
          replace HB := Aside0.mk (bd_ HB.out)
          have p831 : 0 ≤ (x3_1 : Int) := of_decide_eq_true (by with_reducible assumption)
          have q831 : x3_1 < (l0.length : Int) := of_decide_eq_true (by with_reducible assumption)
          obtain ⟨ad831, e831, hx831_0, hx831_1⟩ := at_T83 HR0.out x3_1 p831 q831
          have hw831_1 := hx831_1
          have hw831_0 := hx831_0
          cases e831
          replace hx831_0 := cl_ HB.out hx831_0
          replace hx831_1 := cl_ HB.out hx831_1
          replace p831 := eq_true p831
          replace q831 := eq_true q831
          have p833 : 0 ≤ ((ji7) : Int) := of_decide_eq_true (by with_reducible assumption)
          have q833 : (ji7) < (l0.length : Int) := of_decide_eq_true (by with_reducible assumption)
          obtain ⟨ad833, e833, hx833_0, hx833_1⟩ := at_T83 HR0.out (ji7) p833 q833
          have hw833_1 := hx833_1
          have hw833_0 := hx833_0
          obtain rfl : ad831 = ad833 := (by injection e833)
          replace hx833_0 := cl_ HB.out hx833_0
          replace hx833_1 := cl_ HB.out hx833_1
          replace p833 := eq_true p833
          replace q833 := eq_true q833
          have p834 : 0 ≤ (x3_1 : Int) := of_decide_eq_true (by with_reducible assumption)
          have q834 : x3_1 < (l0.length : Int) := of_decide_eq_true (by with_reducible assumption)
          obtain ⟨ad834, e834, hx834_0, hx834_1⟩ := at_T83 HR0.out x3_1 p834 q834
          have hw834_1 := hx834_1
          have hw834_0 := hx834_0
          obtain rfl : ad831 = ad834 := (by injection e834)
          replace hx834_0 := cl_ HB.out hx834_0
          replace hx834_1 := cl_ HB.out hx834_1
          replace p834 := eq_true p834
          replace q834 := eq_true q834
          refine start_ (n := 25) (S := fun w' => w'.cell? (ad831.add ((x3_1).toNat * 2)) = some (.string ((rd_T83 l0 x3_1).f0)) ∧ w'.cell? ⟨(ad831.add ((x3_1).toNat * 2)).block, (ad831.add ((x3_1).toNat * 2)).off + 1, none⟩ = some (.string ((rd_T83 l0 x3_1).f1)) ∧ w'.cell? (ad831.add (((ji7)).toNat * 2)) = some (.string ((rd_T83 l0 (ji7)).f0)) ∧ w'.cell? ⟨(ad831.add (((ji7)).toNat * 2)).block, (ad831.add (((ji7)).toNat * 2)).off + 1, none⟩ = some (.string ((rd_T83 l0 (ji7)).f1)) ∧ w'.cell? (ad831.add ((x3_1).toNat * 2)) = some (.string ((rd_T83 l0 x3_1).f0)) ∧ w'.cell? ⟨(ad831.add ((x3_1).toNat * 2)).block, (ad831.add ((x3_1).toNat * 2)).off + 1, none⟩ = some (.string ((rd_T83 l0 x3_1).f1))) (ds := []) (b_ 0 25) (by kernel_rfl) rfl rfl ⟨((HB.out.cell (World.block_lt_of_cell? w _ hw831_0)).trans hw831_0), ((HB.out.cell (World.block_lt_of_cell? w _ hw831_1)).trans hw831_1), ((HB.out.cell (World.block_lt_of_cell? w _ hw833_0)).trans hw833_0), ((HB.out.cell (World.block_lt_of_cell? w _ hw833_1)).trans hw833_1), ((HB.out.cell (World.block_lt_of_cell? w _ hw834_0)).trans hw834_0), ((HB.out.cell (World.block_lt_of_cell? w _ hw834_1)).trans hw834_1)⟩ (fun hHeld => ?_); refine with_tabW spec_SetOk.tab4 spec_SetOk.bits4 (fun HT_ HW_ => ?_)
          generalize wr.drew = w12 at HB hx831_0 hx831_1 hx833_0 hx833_1 hx834_0 hx834_1 hHeld ⊢
          refine pw_ 0 10 (b_ 1 24) rfl rfl HT_.out ?_
          refine pw_ 1 11 (b_ 2 23) rfl rfl HT_.out ?_
          refine pw_ 2 12 (b_ 3 22) rfl rfl HT_.out ?_
          refine take_ (i := 3) (N := some 13) (v := ?_) (a' := ?_) (b_ 4 21) rfl rfl (take_ofW HT_.out HW_.out (by kernel_rfl)) (fun _ _ _ h => h) (Or.inl ⟨by rfl, ?_⟩) hHeld ?_ ?_
          rotate_left
          ·
           rintro w' ⟨s0, s1, s2, s3, s4, s5⟩
           go_simp
           with_reducible rfl
          rotate_left
          ·
           simp only [fr_]
           rfl
          refine one_ (i := 4) (N := some 14) (b_ 5 20) rfl rfl (one_of HT_.out (by kernel_rfl)) (by decide) (fun K hK => ?_)
          refine gs_ Tryd.func80 #[.agg #[.string ((rd_T83 l0 x3_1).f0), .string ((rd_T83 l0 x3_1).f1)]] ?_
          with_reducible refine (spec_LabelOk.calls k1 ((rd_T83 l0 x3_1).f0) ((rd_T83 l0 x3_1).f1) true _ A4.out).mono ?_
          rintro e w13 ⟨rfl, hb⟩
          refine ⟨_, rfl, ?_⟩
          replace HB := st_ HB hb
          (try clear hb)
          (try clear hk)
          refine hK.out _ _ ⟨((HB.out.cell (World.block_lt_of_cell? w _ hw831_0)).trans hw831_0), ((HB.out.cell (World.block_lt_of_cell? w _ hw831_1)).trans hw831_1), ((HB.out.cell (World.block_lt_of_cell? w _ hw833_0)).trans hw833_0), ((HB.out.cell (World.block_lt_of_cell? w _ hw833_1)).trans hw833_1), ((HB.out.cell (World.block_lt_of_cell? w _ hw834_0)).trans hw834_0), ((HB.out.cell (World.block_lt_of_cell? w _ hw834_1)).trans hw834_1)⟩ (fun hHeld => ?_)
          clear hK K
          refine norm_ (a' := ?_) ?_ ?_
          rotate_left
          ·
           show Act.put _ (some 14) _ = _
           simp only [fr_]
           rfl
          refine pw_ 5 15 (b_ 6 19) rfl rfl HT_.out ?_
          refine pw_ 6 16 (b_ 7 18) rfl rfl HT_.out ?_
          refine pw_ 7 17 (b_ 8 17) rfl rfl HT_.out ?_
          refine pw_ 8 18 (b_ 9 16) rfl rfl HT_.out ?_
          refine pw_ 9 19 (b_ 10 15) rfl rfl HT_.out ?_
          refine pw_ 10 20 (b_ 11 14) rfl rfl HT_.out ?_
          refine pw_ 11 21 (b_ 12 13) rfl rfl HT_.out ?_
          refine pw_ 12 22 (b_ 13 12) rfl rfl HT_.out ?_
          refine pw_ 13 23 (b_ 14 11) rfl rfl HT_.out ?_
          refine pw_ 14 24 (b_ 15 10) rfl rfl HT_.out ?_
          refine pw_ 16 26 #[t_,t_,t_,t_,t_,t_,t_,t_,t_,t_,t_,t_,t_,t_,t_,f_,t_,f_,f_,f_,f_,f_,f_,f_,f_] rfl rfl HT_.out ?_
          refine pw_ 17 27 #[t_,t_,t_,t_,t_,t_,t_,t_,t_,t_,t_,t_,t_,t_,t_,f_,t_,t_,f_,f_,f_,f_,f_,f_,f_] rfl rfl HT_.out ?_
          refine pw_ 18 28 #[t_,t_,t_,t_,t_,t_,t_,t_,t_,t_,t_,t_,t_,t_,t_,f_,t_,t_,t_,f_,f_,f_,f_,f_,f_] rfl rfl HT_.out ?_
          refine pw_ 19 29 #[t_,t_,t_,t_,t_,t_,t_,t_,t_,t_,t_,t_,t_,t_,t_,f_,t_,t_,t_,t_,f_,f_,f_,f_,f_] rfl rfl HT_.out ?_
          refine take_ (i := 15) (N := some 25) (v := ?_) (a' := ?_) (b_ 20 5) rfl rfl (take_ofW HT_.out HW_.out (by kernel_rfl)) (fun _ _ _ h => h) (Or.inl ⟨by rfl, ?_⟩) hHeld ?_ ?_
          rotate_left
          ·
           rintro w' ⟨s0, s1, s2, s3, s4, s5⟩
           go_simp
           with_reducible rfl
          rotate_left
          ·
           simp only [fr_]
           rfl
          refine take_ (i := 20) (N := some 30) (v := ?_) (a' := ?_) (b_ 21 4) rfl rfl (take_ofW HT_.out HW_.out (by kernel_rfl)) (fun _ _ _ h => h) (Or.inl ⟨by rfl, ?_⟩) hHeld ?_ ?_
          rotate_left
          ·
           rintro w' ⟨s0, s1, s2, s3, s4, s5⟩
           go_simp
           with_reducible rfl
          rotate_left
          ·
           simp only [fr_]
           rfl
          refine one_ (i := 21) (N := some 31) (b_ 22 3) rfl rfl (one_of HT_.out (by kernel_rfl)) (by decide) (fun K hK => ?_)
          refine goes_ Tryd.func76 (by kernel_rfl) rfl #[.string ((rd_T83 l0 (ji7)).f0), .string ((rd_T83 l0 x3_1).f0)] (by rfl) rfl rfl (by (try simp only [mp_]); first | done | (simp only [hji7]; rfl) | rfl | (simp only [List.length_drop, List.length_take]; rfl)) ?_
          with_reducible refine (spec_Less.calls ((rd_T83 l0 (ji7)).f0) ((rd_T83 l0 x3_1).f0) true _ A10.out).mono ?_
          rintro e w' ⟨rfl, ⟨nd, rfl⟩⟩
          refine ⟨_, rfl, ?_⟩
          refine hK.out _ _ ⟨((HB.out.cell (World.block_lt_of_cell? w _ hw831_0)).trans hw831_0), ((HB.out.cell (World.block_lt_of_cell? w _ hw831_1)).trans hw831_1), ((HB.out.cell (World.block_lt_of_cell? w _ hw833_0)).trans hw833_0), ((HB.out.cell (World.block_lt_of_cell? w _ hw833_1)).trans hw833_1), ((HB.out.cell (World.block_lt_of_cell? w _ hw834_0)).trans hw834_0), ((HB.out.cell (World.block_lt_of_cell? w _ hw834_1)).trans hw834_1)⟩ (fun hHeld => ?_)
          clear hK K
          refine norm_ (a' := ?_) ?_ ?_
          rotate_left
          ·
           show Act.put _ (some 31) _ = _
           simp only [fr_]
           rfl
          refine pw_ 22 32 (b_ 23 2) rfl rfl HT_.out ?_
          refine pw_ 23 33 (b_ 24 1) rfl rfl HT_.out ?_
          refine pw_ 24 34 (b_ 25 0) rfl rfl HT_.out ?_
          refine done_ (done_of HT_.out (by kernel_rfl)) ?_
          try go_wp2
          go_roundg k1
          case measure => have := HK1.out; omega
          case rel => exact ⟨(wrap64 (x3_1 + 1)), (by first | rfl | (simp; done) | (simp [*]; done)), H', ⟨by have := HK1.out; omega⟩, ⟨by exact hs_ HB.out⟩⟩
         replace c11 := Bool.eq_false_iff.mpr c11
         subst c11
         rw [if_neg (show ¬ (false = true) by decide)] at H
         obtain rfl := Option.some.inj H
         try go_wp2
         replace HB := Aside0.mk (bd_ HB.out)
         have p831 : 0 ≤ (x3_1 : Int) := of_decide_eq_true (by with_reducible assumption)
         have q831 : x3_1 < (l0.length : Int) := of_decide_eq_true (by with_reducible assumption)
         obtain ⟨ad831, e831, hx831_0, hx831_1⟩ := at_T83 HR0.out x3_1 p831 q831
         have hw831_1 := hx831_1
         have hw831_0 := hx831_0
         cases e831
         replace hx831_0 := cl_ HB.out hx831_0
         replace hx831_1 := cl_ HB.out hx831_1
         replace p831 := eq_true p831
         replace q831 := eq_true q831
         have p833 : 0 ≤ ((ji7) : Int) := of_decide_eq_true (by with_reducible assumption)
         have q833 : (ji7) < (l0.length : Int) := of_decide_eq_true (by with_reducible assumption)
         obtain ⟨ad833, e833, hx833_0, hx833_1⟩ := at_T83 HR0.out (ji7) p833 q833
         have hw833_1 := hx833_1
         have hw833_0 := hx833_0
         obtain rfl : ad831 = ad833 := (by injection e833)
         replace hx833_0 := cl_ HB.out hx833_0
         replace hx833_1 := cl_ HB.out hx833_1
         replace p833 := eq_true p833
         replace q833 := eq_true q833
         have p834 : 0 ≤ (x3_1 : Int) := of_decide_eq_true (by with_reducible assumption)
         have q834 : x3_1 < (l0.length : Int) := of_decide_eq_true (by with_reducible assumption)
         obtain ⟨ad834, e834, hx834_0, hx834_1⟩ := at_T83 HR0.out x3_1 p834 q834
         have hw834_1 := hx834_1
         have hw834_0 := hx834_0
         obtain rfl : ad831 = ad834 := (by injection e834)
         replace hx834_0 := cl_ HB.out hx834_0
         replace hx834_1 := cl_ HB.out hx834_1
         replace p834 := eq_true p834
         replace q834 := eq_true q834
         refine start_ (n := 25) (S := fun w' => w'.cell? (ad831.add ((x3_1).toNat * 2)) = some (.string ((rd_T83 l0 x3_1).f0)) ∧ w'.cell? ⟨(ad831.add ((x3_1).toNat * 2)).block, (ad831.add ((x3_1).toNat * 2)).off + 1, none⟩ = some (.string ((rd_T83 l0 x3_1).f1)) ∧ w'.cell? (ad831.add (((ji7)).toNat * 2)) = some (.string ((rd_T83 l0 (ji7)).f0)) ∧ w'.cell? ⟨(ad831.add (((ji7)).toNat * 2)).block, (ad831.add (((ji7)).toNat * 2)).off + 1, none⟩ = some (.string ((rd_T83 l0 (ji7)).f1)) ∧ w'.cell? (ad831.add ((x3_1).toNat * 2)) = some (.string ((rd_T83 l0 x3_1).f0)) ∧ w'.cell? ⟨(ad831.add ((x3_1).toNat * 2)).block, (ad831.add ((x3_1).toNat * 2)).off + 1, none⟩ = some (.string ((rd_T83 l0 x3_1).f1))) (ds := []) (b_ 0 25) (by kernel_rfl) rfl rfl ⟨((HB.out.cell (World.block_lt_of_cell? w _ hw831_0)).trans hw831_0), ((HB.out.cell (World.block_lt_of_cell? w _ hw831_1)).trans hw831_1), ((HB.out.cell (World.block_lt_of_cell? w _ hw833_0)).trans hw833_0), ((HB.out.cell (World.block_lt_of_cell? w _ hw833_1)).trans hw833_1), ((HB.out.cell (World.block_lt_of_cell? w _ hw834_0)).trans hw834_0), ((HB.out.cell (World.block_lt_of_cell? w _ hw834_1)).trans hw834_1)⟩ (fun hHeld => ?_); refine with_tabW spec_SetOk.tab4 spec_SetOk.bits4 (fun HT_ HW_ => ?_)
         generalize wr.drew = w14 at HB hx831_0 hx831_1 hx833_0 hx833_1 hx834_0 hx834_1 hHeld ⊢
         refine pw_ 0 10 (b_ 1 24) rfl rfl HT_.out ?_
         refine pw_ 1 11 (b_ 2 23) rfl rfl HT_.out ?_
         refine pw_ 2 12 (b_ 3 22) rfl rfl HT_.out ?_
         refine take_ (i := 3) (N := some 13) (v := ?_) (a' := ?_) (b_ 4 21) rfl rfl (take_ofW HT_.out HW_.out (by kernel_rfl)) (fun _ _ _ h => h) (Or.inl ⟨by rfl, ?_⟩) hHeld ?_ ?_
         rotate_left
         ·
          rintro w' ⟨s0, s1, s2, s3, s4, s5⟩
          go_simp
          with_reducible rfl
         rotate_left
         ·
          simp only [fr_]
          rfl
         refine one_ (i := 4) (N := some 14) (b_ 5 20) rfl rfl (one_of HT_.out (by kernel_rfl)) (by decide) (fun K hK => ?_)
         refine gs_ Tryd.func80 #[.agg #[.string ((rd_T83 l0 x3_1).f0), .string ((rd_T83 l0 x3_1).f1)]] ?_
         with_reducible refine (spec_LabelOk.calls k1 ((rd_T83 l0 x3_1).f0) ((rd_T83 l0 x3_1).f1) true _ A4.out).mono ?_
         rintro e w15 ⟨rfl, hb⟩
         refine ⟨_, rfl, ?_⟩
         replace HB := st_ HB hb
         (try clear hb)
         (try clear hk)
         refine hK.out _ _ ⟨((HB.out.cell (World.block_lt_of_cell? w _ hw831_0)).trans hw831_0), ((HB.out.cell (World.block_lt_of_cell? w _ hw831_1)).trans hw831_1), ((HB.out.cell (World.block_lt_of_cell? w _ hw833_0)).trans hw833_0), ((HB.out.cell (World.block_lt_of_cell? w _ hw833_1)).trans hw833_1), ((HB.out.cell (World.block_lt_of_cell? w _ hw834_0)).trans hw834_0), ((HB.out.cell (World.block_lt_of_cell? w _ hw834_1)).trans hw834_1)⟩ (fun hHeld => ?_)
         clear hK K
         refine norm_ (a' := ?_) ?_ ?_
         rotate_left
         ·
          show Act.put _ (some 14) _ = _
          simp only [fr_]
          rfl
         refine pw_ 5 15 (b_ 6 19) rfl rfl HT_.out ?_
         refine pw_ 6 16 (b_ 7 18) rfl rfl HT_.out ?_
         refine pw_ 7 17 (b_ 8 17) rfl rfl HT_.out ?_
         refine pw_ 8 18 (b_ 9 16) rfl rfl HT_.out ?_
         refine pw_ 9 19 (b_ 10 15) rfl rfl HT_.out ?_
         refine pw_ 10 20 (b_ 11 14) rfl rfl HT_.out ?_
         refine pw_ 11 21 (b_ 12 13) rfl rfl HT_.out ?_
         refine pw_ 12 22 (b_ 13 12) rfl rfl HT_.out ?_
         refine pw_ 13 23 (b_ 14 11) rfl rfl HT_.out ?_
         refine pw_ 14 24 (b_ 15 10) rfl rfl HT_.out ?_
         refine pw_ 16 26 #[t_,t_,t_,t_,t_,t_,t_,t_,t_,t_,t_,t_,t_,t_,t_,f_,t_,f_,f_,f_,f_,f_,f_,f_,f_] rfl rfl HT_.out ?_
         refine pw_ 17 27 #[t_,t_,t_,t_,t_,t_,t_,t_,t_,t_,t_,t_,t_,t_,t_,f_,t_,t_,f_,f_,f_,f_,f_,f_,f_] rfl rfl HT_.out ?_
         refine pw_ 18 28 #[t_,t_,t_,t_,t_,t_,t_,t_,t_,t_,t_,t_,t_,t_,t_,f_,t_,t_,t_,f_,f_,f_,f_,f_,f_] rfl rfl HT_.out ?_
         refine pw_ 19 29 #[t_,t_,t_,t_,t_,t_,t_,t_,t_,t_,t_,t_,t_,t_,t_,f_,t_,t_,t_,t_,f_,f_,f_,f_,f_] rfl rfl HT_.out ?_
         refine take_ (i := 15) (N := some 25) (v := ?_) (a' := ?_) (b_ 20 5) rfl rfl (take_ofW HT_.out HW_.out (by kernel_rfl)) (fun _ _ _ h => h) (Or.inl ⟨by rfl, ?_⟩) hHeld ?_ ?_
         rotate_left
         ·
          rintro w' ⟨s0, s1, s2, s3, s4, s5⟩
          go_simp
          with_reducible rfl
         rotate_left
         ·
          simp only [fr_]
          rfl
         refine take_ (i := 20) (N := some 30) (v := ?_) (a' := ?_) (b_ 21 4) rfl rfl (take_ofW HT_.out HW_.out (by kernel_rfl)) (fun _ _ _ h => h) (Or.inl ⟨by rfl, ?_⟩) hHeld ?_ ?_
         rotate_left
         ·
          rintro w' ⟨s0, s1, s2, s3, s4, s5⟩
          go_simp
          with_reducible rfl
         rotate_left
         ·
          simp only [fr_]
          rfl
         refine one_ (i := 21) (N := some 31) (b_ 22 3) rfl rfl (one_of HT_.out (by kernel_rfl)) (by decide) (fun K hK => ?_)
         refine goes_ Tryd.func76 (by kernel_rfl) rfl #[.string ((rd_T83 l0 (ji7)).f0), .string ((rd_T83 l0 x3_1).f0)] (by rfl) rfl rfl (by (try simp only [mp_]); first | done | (simp only [hji7]; rfl) | rfl | (simp only [List.length_drop, List.length_take]; rfl)) ?_
         with_reducible refine (spec_Less.calls ((rd_T83 l0 (ji7)).f0) ((rd_T83 l0 x3_1).f0) false _ A10.out).mono ?_
         rintro e w' ⟨rfl, ⟨nd, rfl⟩⟩
         refine ⟨_, rfl, ?_⟩
         refine hK.out _ _ ⟨((HB.out.cell (World.block_lt_of_cell? w _ hw831_0)).trans hw831_0), ((HB.out.cell (World.block_lt_of_cell? w _ hw831_1)).trans hw831_1), ((HB.out.cell (World.block_lt_of_cell? w _ hw833_0)).trans hw833_0), ((HB.out.cell (World.block_lt_of_cell? w _ hw833_1)).trans hw833_1), ((HB.out.cell (World.block_lt_of_cell? w _ hw834_0)).trans hw834_0), ((HB.out.cell (World.block_lt_of_cell? w _ hw834_1)).trans hw834_1)⟩ (fun hHeld => ?_)
         clear hK K
         refine norm_ (a' := ?_) ?_ ?_
         rotate_left
         ·
          show Act.put _ (some 31) _ = _
          simp only [fr_]
          rfl
         refine pw_ 22 32 (b_ 23 2) rfl rfl HT_.out ?_
         refine pw_ 23 33 (b_ 24 1) rfl rfl HT_.out ?_
         refine pw_ 24 34 (b_ 25 0) rfl rfl HT_.out ?_
         refine done_ (done_of HT_.out (by kernel_rfl)) ?_
         try go_wp2
         go_ret
         exact ⟨by first | rfl | (simp [errW_none, errW_some] <;> rfl) | (simp only [← hji7]; first | rfl | (simp [errW_none, errW_some] <;> rfl)) | (simp [*, errW_none, errW_some] <;> rfl), by exact hs_ HB.out⟩
        rw [if_neg c9] at H
        exact absurd H (by simp)
       rw [if_neg c8] at H
       exact absurd H (by simp)
      rw [if_neg c6] at H
      have c6b0 : decide (0 < x3_1) = false := decide_eq_false c6
      clear c6
      have H' := Aside0.mk H
      clear H
      try go_wp2
      replace HB := Aside0.mk (bd_ HB.out)
      have p831 : 0 ≤ (x3_1 : Int) := of_decide_eq_true (by with_reducible assumption)
      have q831 : x3_1 < (l0.length : Int) := of_decide_eq_true (by with_reducible assumption)
      obtain ⟨ad831, e831, hx831_0, hx831_1⟩ := at_T83 HR0.out x3_1 p831 q831
      have hw831_1 := hx831_1
      have hw831_0 := hx831_0
      cases e831
      replace hx831_0 := cl_ HB.out hx831_0
      replace hx831_1 := cl_ HB.out hx831_1
      replace p831 := eq_true p831
      replace q831 := eq_true q831
      refine start_ (n := 25) (S := fun w' => w'.cell? (ad831.add ((x3_1).toNat * 2)) = some (.string ((rd_T83 l0 x3_1).f0)) ∧ w'.cell? ⟨(ad831.add ((x3_1).toNat * 2)).block, (ad831.add ((x3_1).toNat * 2)).off + 1, none⟩ = some (.string ((rd_T83 l0 x3_1).f1))) (ds := []) (b_ 0 25) (by kernel_rfl) rfl rfl ⟨((HB.out.cell (World.block_lt_of_cell? w _ hw831_0)).trans hw831_0), ((HB.out.cell (World.block_lt_of_cell? w _ hw831_1)).trans hw831_1)⟩ (fun hHeld => ?_); refine with_tabW spec_SetOk.tab4 spec_SetOk.bits4 (fun HT_ HW_ => ?_)
      generalize wr.drew = w16 at HB hx831_0 hx831_1 hHeld ⊢
      refine pw_ 0 10 (b_ 1 24) rfl rfl HT_.out ?_
      refine pw_ 1 11 (b_ 2 23) rfl rfl HT_.out ?_
      refine pw_ 2 12 (b_ 3 22) rfl rfl HT_.out ?_
      refine take_ (i := 3) (N := some 13) (v := ?_) (a' := ?_) (b_ 4 21) rfl rfl (take_ofW HT_.out HW_.out (by kernel_rfl)) (fun _ _ _ h => h) (Or.inl ⟨by rfl, ?_⟩) hHeld ?_ ?_
      rotate_left
      ·
       rintro w' ⟨s0, s1⟩
       go_simp
       with_reducible rfl
      rotate_left
      ·
       simp only [fr_]
       rfl
      refine one_ (i := 4) (N := some 14) (b_ 5 20) rfl rfl (one_of HT_.out (by kernel_rfl)) (by decide) (fun K hK => ?_)
      refine gs_ Tryd.func80 #[.agg #[.string ((rd_T83 l0 x3_1).f0), .string ((rd_T83 l0 x3_1).f1)]] ?_
      with_reducible refine (spec_LabelOk.calls k1 ((rd_T83 l0 x3_1).f0) ((rd_T83 l0 x3_1).f1) true _ A4.out).mono ?_
      rintro e w17 ⟨rfl, hb⟩
      refine ⟨_, rfl, ?_⟩
      replace HB := st_ HB hb
      (try clear hb)
      (try clear hk)
      refine hK.out _ _ ⟨((HB.out.cell (World.block_lt_of_cell? w _ hw831_0)).trans hw831_0), ((HB.out.cell (World.block_lt_of_cell? w _ hw831_1)).trans hw831_1)⟩ (fun hHeld => ?_)
      clear hK K
      refine norm_ (a' := ?_) ?_ ?_
      rotate_left
      ·
       show Act.put _ (some 14) _ = _
       simp only [fr_]
       rfl
      refine pw_ 5 15 (b_ 6 19) rfl rfl HT_.out ?_
      refine pw_ 6 16 (b_ 7 18) rfl rfl HT_.out ?_
      refine pw_ 7 17 (b_ 8 17) rfl rfl HT_.out ?_
      refine pw_ 8 18 (b_ 9 16) rfl rfl HT_.out ?_
      refine pw_ 9 19 (b_ 10 15) rfl rfl HT_.out ?_
      refine pv_ 10 20 ?_ (b_ 11 14) rfl rfl HT_.out ?_ ?_; rotate_left; simp only [fr_]; rfl
      refine pv_ 11 21 ?_ (b_ 12 13) rfl rfl HT_.out ?_ ?_; rotate_left; simp only [fr_]; rfl
      refine pv_ 12 22 ?_ (b_ 13 12) rfl rfl HT_.out ?_ ?_; rotate_left; simp only [fr_]; rfl
      refine pv_ 13 23 ?_ (b_ 14 11) rfl rfl HT_.out ?_ ?_; rotate_left; simp only [fr_]; rfl
      refine pv_ 14 24 ?_ (b_ 15 10) rfl rfl HT_.out ?_ ?_; rotate_left; simp only [fr_]; rfl
      refine pv_ 15 25 ?_ (b_ 16 9) rfl rfl HT_.out ?_ ?_; rotate_left; simp only [fr_]; rfl
      refine pv_ 16 26 ?_ (b_ 17 8) rfl rfl HT_.out ?_ ?_; rotate_left; simp only [fr_]; rfl
      refine pv_ 17 27 ?_ (b_ 18 7) rfl rfl HT_.out ?_ ?_; rotate_left; simp only [fr_]; rfl
      refine pv_ 18 28 ?_ (b_ 19 6) rfl rfl HT_.out ?_ ?_; rotate_left; simp only [fr_]; rfl
      refine pv_ 19 29 ?_ (b_ 20 5) rfl rfl HT_.out ?_ ?_; rotate_left; simp only [fr_]; rfl
      refine pv_ 20 30 ?_ (b_ 21 4) rfl rfl HT_.out ?_ ?_; rotate_left; simp only [fr_]; rfl
      refine pv_ 21 31 ?_ (b_ 22 3) rfl rfl HT_.out ?_ ?_; rotate_left; simp only [fr_]; rfl
      refine pv_ 22 32 ?_ (b_ 23 2) rfl rfl HT_.out ?_ ?_; rotate_left; simp only [fr_]; rfl
      refine pw_ 23 33 (b_ 24 1) rfl rfl HT_.out ?_
      refine pw_ 24 34 (b_ 25 0) rfl rfl HT_.out ?_
      refine done_ (done_of HT_.out (by kernel_rfl)) ?_
      try go_wp2
      go_roundg k1
      case measure => have := HK1.out; omega
      case rel => exact ⟨(wrap64 (x3_1 + 1)), (by first | rfl | (simp; done) | (simp [*]; done)), H', ⟨by have := HK1.out; omega⟩, ⟨by exact hs_ HB.out⟩⟩
     replace c5 := Bool.eq_false_iff.mpr c5
     subst c5
     rw [if_neg (show ¬ (false = true) by decide)] at H
     obtain rfl := Option.some.inj H
     try go_wp2
     replace HB := Aside0.mk (bd_ HB.out)
     have p831 : 0 ≤ (x3_1 : Int) := of_decide_eq_true (by with_reducible assumption)
     have q831 : x3_1 < (l0.length : Int) := of_decide_eq_true (by with_reducible assumption)
     obtain ⟨ad831, e831, hx831_0, hx831_1⟩ := at_T83 HR0.out x3_1 p831 q831
     have hw831_1 := hx831_1
     have hw831_0 := hx831_0
     cases e831
     replace hx831_0 := cl_ HB.out hx831_0
     replace hx831_1 := cl_ HB.out hx831_1
     replace p831 := eq_true p831
     replace q831 := eq_true q831
     refine start_ (n := 25) (S := fun w' => w'.cell? (ad831.add ((x3_1).toNat * 2)) = some (.string ((rd_T83 l0 x3_1).f0)) ∧ w'.cell? ⟨(ad831.add ((x3_1).toNat * 2)).block, (ad831.add ((x3_1).toNat * 2)).off + 1, none⟩ = some (.string ((rd_T83 l0 x3_1).f1))) (ds := []) (b_ 0 25) (by kernel_rfl) rfl rfl ⟨((HB.out.cell (World.block_lt_of_cell? w _ hw831_0)).trans hw831_0), ((HB.out.cell (World.block_lt_of_cell? w _ hw831_1)).trans hw831_1)⟩ (fun hHeld => ?_); refine with_tabW spec_SetOk.tab4 spec_SetOk.bits4 (fun HT_ HW_ => ?_)
     generalize wr.drew = w18 at HB hx831_0 hx831_1 hHeld ⊢
     refine pw_ 0 10 (b_ 1 24) rfl rfl HT_.out ?_
     refine pw_ 1 11 (b_ 2 23) rfl rfl HT_.out ?_
     refine pw_ 2 12 (b_ 3 22) rfl rfl HT_.out ?_
     refine take_ (i := 3) (N := some 13) (v := ?_) (a' := ?_) (b_ 4 21) rfl rfl (take_ofW HT_.out HW_.out (by kernel_rfl)) (fun _ _ _ h => h) (Or.inl ⟨by rfl, ?_⟩) hHeld ?_ ?_
     rotate_left
     ·
      rintro w' ⟨s0, s1⟩
      go_simp
      with_reducible rfl
     rotate_left
     ·
      simp only [fr_]
      rfl
     refine one_ (i := 4) (N := some 14) (b_ 5 20) rfl rfl (one_of HT_.out (by kernel_rfl)) (by decide) (fun K hK => ?_)
     refine gs_ Tryd.func80 #[.agg #[.string ((rd_T83 l0 x3_1).f0), .string ((rd_T83 l0 x3_1).f1)]] ?_
     with_reducible refine (spec_LabelOk.calls k1 ((rd_T83 l0 x3_1).f0) ((rd_T83 l0 x3_1).f1) false _ A4.out).mono ?_
     rintro e w19 ⟨rfl, hb⟩
     refine ⟨_, rfl, ?_⟩
     replace HB := st_ HB hb
     (try clear hb)
     (try clear hk)
     refine hK.out _ _ ⟨((HB.out.cell (World.block_lt_of_cell? w _ hw831_0)).trans hw831_0), ((HB.out.cell (World.block_lt_of_cell? w _ hw831_1)).trans hw831_1)⟩ (fun hHeld => ?_)
     clear hK K
     refine norm_ (a' := ?_) ?_ ?_
     rotate_left
     ·
      show Act.put _ (some 14) _ = _
      simp only [fr_]
      rfl
     refine pw_ 5 15 (b_ 6 19) rfl rfl HT_.out ?_
     refine pw_ 6 16 (b_ 7 18) rfl rfl HT_.out ?_
     refine pv_ 7 17 ?_ (b_ 8 17) rfl rfl HT_.out ?_ ?_; rotate_left; simp only [fr_]; rfl
     refine pv_ 8 18 ?_ (b_ 9 16) rfl rfl HT_.out ?_ ?_; rotate_left; simp only [fr_]; rfl
     refine pv_ 9 19 ?_ (b_ 10 15) rfl rfl HT_.out ?_ ?_; rotate_left; simp only [fr_]; rfl
     refine pv_ 10 20 ?_ (b_ 11 14) rfl rfl HT_.out ?_ ?_; rotate_left; simp only [fr_]; rfl
     refine pv_ 11 21 ?_ (b_ 12 13) rfl rfl HT_.out ?_ ?_; rotate_left; simp only [fr_]; rfl
     refine pv_ 12 22 ?_ (b_ 13 12) rfl rfl HT_.out ?_ ?_; rotate_left; simp only [fr_]; rfl
     refine pv_ 13 23 ?_ (b_ 14 11) rfl rfl HT_.out ?_ ?_; rotate_left; simp only [fr_]; rfl
     refine pv_ 14 24 ?_ (b_ 15 10) rfl rfl HT_.out ?_ ?_; rotate_left; simp only [fr_]; rfl
     refine pv_ 15 25 ?_ (b_ 16 9) rfl rfl HT_.out ?_ ?_; rotate_left; simp only [fr_]; rfl
     refine pv_ 16 26 ?_ (b_ 17 8) rfl rfl HT_.out ?_ ?_; rotate_left; simp only [fr_]; rfl
     refine pv_ 17 27 ?_ (b_ 18 7) rfl rfl HT_.out ?_ ?_; rotate_left; simp only [fr_]; rfl
     refine pv_ 18 28 ?_ (b_ 19 6) rfl rfl HT_.out ?_ ?_; rotate_left; simp only [fr_]; rfl
     refine pv_ 19 29 ?_ (b_ 20 5) rfl rfl HT_.out ?_ ?_; rotate_left; simp only [fr_]; rfl
     refine pv_ 20 30 ?_ (b_ 21 4) rfl rfl HT_.out ?_ ?_; rotate_left; simp only [fr_]; rfl
     refine pv_ 21 31 ?_ (b_ 22 3) rfl rfl HT_.out ?_ ?_; rotate_left; simp only [fr_]; rfl
     refine pv_ 22 32 ?_ (b_ 23 2) rfl rfl HT_.out ?_ ?_; rotate_left; simp only [fr_]; rfl
     refine pv_ 23 33 ?_ (b_ 24 1) rfl rfl HT_.out ?_ ?_; rotate_left; simp only [fr_]; rfl
     refine pw_ 24 34 (b_ 25 0) rfl rfl HT_.out ?_
     refine done_ (done_of HT_.out (by kernel_rfl)) ?_
     try go_wp2
     go_ret
     exact an_ (by exact hs_ HB.out)
    rw [if_neg c3] at H
    exact absurd H (by simp)
   rw [if_neg c2] at H
   have c2b0 : decide (x3_1 < (l0.length : Int)) = false := decide_eq_false c2
   clear c2
   obtain rfl := Option.some.inj H
   go_wp2
   go_ret
   exact an_ (by exact hs_ HB.out)
def spec_AlarmOk.f (k : Nat) (l0_0 : List (S83)) (a0_1 : Int) (a0_2 : Int) (a0_3 : ByteArray) : Option (Bool) := (spec_SetOk.f k l0_0).bind fun t837 => (if t837 = true then (if (l0_0.length : Int) > 0 then ((spec_l1In.f a0_1 0 99999).bind fun t838 => (if t838 = true then ((spec_l1In.f a0_2 a0_1 99999).bind fun t839 => (if t839 = true then ((spec_PlainOk.f k a0_3).bind fun t840 => (some t840)) else (some false))) else (some false))) else (some false)) else (some false))
theorem spec_AlarmOk.mono : ∀ a0 a1 a2 a3 k, LeO (spec_AlarmOk.f k a0 a1 a2 a3) (spec_AlarmOk.f (k + 1) a0 a1 a2 a3) := by
 intro a0 a1 a2 a3 k
 unfold spec_AlarmOk.f
 repeat' first | (with_reducible first | exact spec_PlainOk.mono _ _ | exact spec_SetOk.mono _ _ | exact LeO.refl _ | exact LeO.none _ | refine LeO.ite ?_ ?_ | refine LeO.bind ?_ (fun _ => ?_)) | exact spec_PlainOk.mono _ _ | exact spec_SetOk.mono _ _
theorem spec_AlarmOk.calls (k : Nat) (A0_0 : Option Addr) (c0_0 : Nat) (l0_0 : List (S83)) (a0_1 : Int) (a0_2 : Int) (a0_3 : ByteArray) (r : Bool) (w : World) (hr0_0 : Kd.C k83 w A0_0 l0_0.length l0_0) (hc0_0 : l0_0.length ≤ c0_0) (h : spec_AlarmOk.f k l0_0 a0_1 a0_2 a0_3 = some r) :
  Calls Tryd.prog 39 #[.agg #[.slice A0_0 l0_0.length c0_0, .int .i64 a0_1, .int .i64 a0_2, .string a0_3]] w fun e w' => e = .returned (.bool r) ∧ Below w.heap.size w w' := by
 have hu37 := Tryd.underlying37
 have HR0_0 := Aside0.mk hr0_0
 have HC0_0 := Aside0.mk hc0_0
 clear hr0_0 hc0_0
 have HB := Aside0.mk (Below.refl w.heap.size w)
 have H : ((spec_SetOk.f k l0_0).bind fun t837 => (if t837 = true then (if (l0_0.length : Int) > 0 then ((spec_l1In.f a0_1 0 99999).bind fun t838 => (if t838 = true then ((spec_l1In.f a0_2 a0_1 99999).bind fun t839 => (if t839 = true then ((spec_PlainOk.f k a0_3).bind fun t840 => (some t840)) else (some false))) else (some false))) else (some false)) else (some false))) = some r := h
 clear h
 replace H := Option.bind_eq_some_iff.mp H
 obtain ⟨t837, A20, H⟩ := H
 have A2 := Aside0.mk A20
 clear A20
 have AHz_ := Aside0.mk H
 clear H
 go_enter Tryd.func39, Tryd.ntmps39
 go_wp2_with (first | (((with_reducible refine gd_ 1 rfl ?_); refine bv_ 1 #[.slice A0_0 l0_0.length c0_0, .int .i64 a0_1, .int .i64 a0_2, .string a0_3] 37 ?_; intro gb836 hg w10 hbox hb; have BK836 := Aside0.mk (hbox); have GW836 := Ge_.mk ((gw_ hg (hs_ HB.out))); replace HB := st_ HB hb; have GE836 := Ge_.mk GW836.out; clear hb hbox hg; obtain ⟨z11_0, z11_1, z11_2, z11_3, y11_0, y11_1, y11_2, y11_3⟩ := bc4_ BK836.out); refine Aside0.out ?_))
 have H := AHz_.out
 clear AHz_
 by_cases c3 : t837 = true
 ·
  subst c3
  rw [if_pos rfl] at H
  have AHz_ := Aside0.mk H
  clear H
  refine ⟨?_⟩
  go_wp2_with (first | (((with_reducible refine gate_callee (f := 60) rfl ?_); refine gl_ (some 5) Tryd.func60 #[.slice A0_0 l0_0.length c0_0] ?_; (with_reducible refine (spec_SetOk.calls k _ _ l0_0 true _ ?side1 ?side2 A2.out).mono ?_); (case side1 => exact cp_ ((Kd.C_below HR0_0.out HB.out))); (case side2 => exact HC0_0.out); rintro e w12 ⟨rfl, hb⟩; refine ⟨_, rfl, ?_⟩; replace BK836 := bk2_ BK836 hb; replace HB := st_ HB hb; (try clear hb); (try clear hk); obtain ⟨z13_0, z13_1, z13_2, z13_3, y13_0, y13_1, y13_2, y13_3⟩ := bc4_ BK836.out); refine Aside0.out ?_))
  have H := AHz_.out
  clear AHz_
  by_cases c4 : (l0_0.length : Int) > 0
  ·
   rw [if_pos c4] at H
   have c4b0 : decide (0 < (l0_0.length : Int)) = true := decide_eq_true c4
   have c4b1 : decide (0 < l0_0.length) = true := decide_eq_true (by omega)
   clear c4
   replace H := Option.bind_eq_some_iff.mp H
   obtain ⟨t838, A50, H⟩ := H
   have A5 := Aside0.mk A50
   clear A50
   by_cases c6 : t838 = true
   ·
    subst c6
    rw [if_pos rfl] at H
    replace H := Option.bind_eq_some_iff.mp H
    obtain ⟨t839, A70, H⟩ := H
    have A7 := Aside0.mk A70
    clear A70
    by_cases c8 : t839 = true
    ·
     subst c8
     rw [if_pos rfl] at H
     replace H := Option.bind_eq_some_iff.mp H
     obtain ⟨t840, A90, H⟩ := H
     have A9 := Aside0.mk A90
     clear A90
     obtain rfl := Option.some.inj H
     refine ⟨?_⟩
     go_wp2_with (first | (go_at_call 31; (with_reducible refine (spec_l1In.calls a0_1 0 99999 true _ A5.out).mono ?_); rintro e w' ⟨rfl, ⟨nd, rfl⟩⟩) | (go_at_call 31; (with_reducible refine (spec_l1In.calls a0_2 a0_1 99999 true _ A7.out).mono ?_); rintro e w' ⟨rfl, ⟨nd, rfl⟩⟩) | (go_at_call 61; (with_reducible refine (spec_PlainOk.calls k a0_3 t840 _ A9.out).mono ?_); rintro e w' ⟨rfl, ⟨nd, rfl⟩⟩))
     go_ret
     exact an_ (by exact hs_ HB.out)
    replace c8 := Bool.eq_false_iff.mpr c8
    subst c8
    rw [if_neg (show ¬ (false = true) by decide)] at H
    obtain rfl := Option.some.inj H
    refine ⟨?_⟩
    go_wp2_with (first | (go_at_call 31; (with_reducible refine (spec_l1In.calls a0_1 0 99999 true _ A5.out).mono ?_); rintro e w' ⟨rfl, ⟨nd, rfl⟩⟩) | (go_at_call 31; (with_reducible refine (spec_l1In.calls a0_2 a0_1 99999 false _ A7.out).mono ?_); rintro e w' ⟨rfl, ⟨nd, rfl⟩⟩))
    go_ret
    exact an_ (by exact hs_ HB.out)
   replace c6 := Bool.eq_false_iff.mpr c6
   subst c6
   rw [if_neg (show ¬ (false = true) by decide)] at H
   obtain rfl := Option.some.inj H
   refine ⟨?_⟩
   go_wp2_with (first | (go_at_call 31; (with_reducible refine (spec_l1In.calls a0_1 0 99999 false _ A5.out).mono ?_); rintro e w' ⟨rfl, ⟨nd, rfl⟩⟩))
   go_ret
   exact an_ (by exact hs_ HB.out)
  rw [if_neg c4] at H
  have c4b0 : decide (0 < (l0_0.length : Int)) = false := decide_eq_false c4
  have c4b1 : decide (0 < l0_0.length) = false := decide_eq_false (by omega)
  clear c4
  obtain rfl := Option.some.inj H
  refine ⟨?_⟩
  go_wp2
  go_ret
  exact an_ (by exact hs_ HB.out)
 replace c3 := Bool.eq_false_iff.mpr c3
 subst c3
 rw [if_neg (show ¬ (false = true) by decide)] at H
 obtain rfl := Option.some.inj H
 refine ⟨?_⟩
 go_wp2_with (first | ((with_reducible refine gate_callee (f := 60) rfl ?_); refine gl_ (some 5) Tryd.func60 #[.slice A0_0 l0_0.length c0_0] ?_; (with_reducible refine (spec_SetOk.calls k _ _ l0_0 false _ ?side1 ?side2 A2.out).mono ?_); (case side1 => exact cp_ ((Kd.C_below HR0_0.out HB.out))); (case side2 => exact HC0_0.out); rintro e w28 ⟨rfl, hb⟩; refine ⟨_, rfl, ?_⟩; replace BK836 := bk2_ BK836 hb; replace HB := st_ HB hb; (try clear hb); (try clear hk)))
 go_ret
 exact an_ (by exact hs_ HB.out)
def spec_Fits.f (k : Nat) (a0_0 : Int) (a0_1 : Int) (a0_2 : Int) (a0_3 : Int) (a0_4 : Int) (l0_5 : List ByteArray) (l1_0 : List (S83)) (a1_1 : Int) (a1_2 : Int) (a1_3 : ByteArray) : Option (Bool) := (spec_AlarmOk.f k l1_0 a1_1 a1_2 a1_3).bind fun t843 => (if t843 = true then (some (decide (a1_2 ≤ 99899))) else (some false))
theorem spec_Fits.mono : ∀ a0 a1 a2 a3 a4 a5 a6 a7 a8 a9 k, LeO (spec_Fits.f k a0 a1 a2 a3 a4 a5 a6 a7 a8 a9) (spec_Fits.f (k + 1) a0 a1 a2 a3 a4 a5 a6 a7 a8 a9) := by
 intro a0 a1 a2 a3 a4 a5 a6 a7 a8 a9 k
 unfold spec_Fits.f
 repeat' first | (with_reducible first | exact spec_AlarmOk.mono _ _ _ _ _ | exact LeO.refl _ | exact LeO.none _ | refine LeO.ite ?_ ?_ | refine LeO.bind ?_ (fun _ => ?_)) | exact spec_AlarmOk.mono _ _ _ _ _
theorem spec_Fits.calls (k : Nat) (a0_0 : Int) (a0_1 : Int) (a0_2 : Int) (a0_3 : Int) (a0_4 : Int) (A0_5 : Option Addr) (c0_5 : Nat) (l0_5 : List ByteArray) (A1_0 : Option Addr) (c1_0 : Nat) (l1_0 : List (S83)) (a1_1 : Int) (a1_2 : Int) (a1_3 : ByteArray) (r : Bool) (w : World) (hr0_5 : Kd.C Kd.string w A0_5 l0_5.length l0_5) (hc0_5 : l0_5.length ≤ c0_5) (hr1_0 : Kd.C k83 w A1_0 l1_0.length l1_0) (hc1_0 : l1_0.length ≤ c1_0) (h : spec_Fits.f k a0_0 a0_1 a0_2 a0_3 a0_4 l0_5 l1_0 a1_1 a1_2 a1_3 = some r) :
  Calls Tryd.prog 20 #[.agg #[.int .i64 a0_0, .int .i64 a0_1, .int .i64 a0_2, .int .i64 a0_3, .int .i64 a0_4, .slice A0_5 l0_5.length c0_5], .agg #[.slice A1_0 l1_0.length c1_0, .int .i64 a1_1, .int .i64 a1_2, .string a1_3]] w fun e w' => e = .returned (.bool r) ∧ Below w.heap.size w w' := by
 have hu26 := Tryd.underlying26
 have hu37 := Tryd.underlying37
 have HR0_5 := Aside0.mk hr0_5
 have HC0_5 := Aside0.mk hc0_5
 clear hr0_5 hc0_5
 have HR1_0 := Aside0.mk hr1_0
 have HC1_0 := Aside0.mk hc1_0
 clear hr1_0 hc1_0
 have HB := Aside0.mk (Below.refl w.heap.size w)
 have H : ((spec_AlarmOk.f k l1_0 a1_1 a1_2 a1_3).bind fun t843 => (if t843 = true then (some (decide (a1_2 ≤ 99899))) else (some false))) = some r := h
 clear h
 replace H := Option.bind_eq_some_iff.mp H
 obtain ⟨t843, A30, H⟩ := H
 have A3 := Aside0.mk A30
 clear A30
 have AHz_ := Aside0.mk H
 clear H
 go_enter Tryd.func20, Tryd.ntmps20
 go_wp2_with (first | ((with_reducible refine gd_ 2 rfl ?_); refine bv_ 2 #[.int .i64 a0_0, .int .i64 a0_1, .int .i64 a0_2, .int .i64 a0_3, .int .i64 a0_4, .slice A0_5 l0_5.length c0_5] 26 ?_; intro gb841 hg w5 hbox hb; have BK841 := Aside0.mk (hbox); have GW841 := Ge_.mk ((gw_ hg (hs_ HB.out))); replace HB := st_ HB hb; have GE841 := Ge_.mk GW841.out; clear hb hbox hg) | (((with_reducible refine gd_ 3 rfl ?_); refine bv_ 3 #[.slice A1_0 l1_0.length c1_0, .int .i64 a1_1, .int .i64 a1_2, .string a1_3] 37 ?_; intro gb842 hg w6 hbox hb; have BK842 := Aside0.mk (hbox); have GW842 := Ge_.mk ((gw_ hg (hs_ HB.out))); replace HB := st_ HB hb; have GE842 := Ge_.mk GW842.out; have NB841_842 := nk_ BK841 hg; replace BK841 := bk2_ BK841 hb; have NB842_841 := ns_ NB841_842; clear hb hbox hg; have hnb7 := NB842_841.out; have hnc7 := NB841_842.out; obtain ⟨z8_0, z8_1, z8_2, z8_3, y8_0, y8_1, y8_2, y8_3⟩ := bc4_ BK842.out); refine Aside0.out ?_))
 have H := AHz_.out
 clear AHz_
 by_cases c4 : t843 = true
 ·
  subst c4
  rw [if_pos rfl] at H
  obtain rfl := Option.some.inj H
  refine ⟨?_⟩
  go_wp2_with (first | ((with_reducible refine gate_callee (f := 39) rfl ?_); refine gl_ (some 6) Tryd.func39 #[.agg #[.slice A1_0 l1_0.length c1_0, .int .i64 a1_1, .int .i64 a1_2, .string a1_3]] ?_; (with_reducible refine (spec_AlarmOk.calls k _ _ l1_0 a1_1 a1_2 a1_3 true _ ?side1 ?side2 A3.out).mono ?_); (case side1 => exact cp_ ((Kd.C_below HR1_0.out HB.out))); (case side2 => exact HC1_0.out); rintro e w9 ⟨rfl, hb⟩; refine ⟨_, rfl, ?_⟩; replace BK841 := bk2_ BK841 hb; replace BK842 := bk2_ BK842 hb; replace HB := st_ HB hb; (try clear hb); (try clear hk); obtain ⟨z10_0, z10_1, z10_2, z10_3, y10_0, y10_1, y10_2, y10_3⟩ := bc4_ BK842.out))
  go_ret
  exact an_ (by exact hs_ HB.out)
 replace c4 := Bool.eq_false_iff.mpr c4
 subst c4
 rw [if_neg (show ¬ (false = true) by decide)] at H
 obtain rfl := Option.some.inj H
 refine ⟨?_⟩
 go_wp2_with (first | ((with_reducible refine gate_callee (f := 39) rfl ?_); refine gl_ (some 6) Tryd.func39 #[.agg #[.slice A1_0 l1_0.length c1_0, .int .i64 a1_1, .int .i64 a1_2, .string a1_3]] ?_; (with_reducible refine (spec_AlarmOk.calls k _ _ l1_0 a1_1 a1_2 a1_3 false _ ?side1 ?side2 A3.out).mono ?_); (case side1 => exact cp_ ((Kd.C_below HR1_0.out HB.out))); (case side2 => exact HC1_0.out); rintro e w15 ⟨rfl, hb⟩; refine ⟨_, rfl, ?_⟩; replace BK841 := bk2_ BK841 hb; replace BK842 := bk2_ BK842 hb; replace HB := st_ HB hb; (try clear hb); (try clear hk)))
 go_ret
 exact an_ (by exact hs_ HB.out)
def laws_FnConfs.f (k : Nat) (l0 : List Int) : Option (Bool) := (laws_big.f l0).bind fun t844 => (if t844 = true then (some true) else ((spec_DrawConfOk.f k l0).bind fun bt845 => ((spec_DrawSameConf.f k l0).bind fun bt854 => ((spec_DrawConfText.f k l0).bind fun bt872 => ((spec_DrawDue.f k l0).bind fun bt881 => ((spec_DrawFits.f k l0).bind fun bt900 => ((impl_ConfOk.f k bt845.1 bt845.2.1 bt845.2.2.1 bt845.2.2.2.1 bt845.2.2.2.2.1 bt845.2.2.2.2.2).bind fun t916 => ((spec_ConfOk.f k bt845.1 bt845.2.1 bt845.2.2.1 bt845.2.2.2.1 bt845.2.2.2.2.1 bt845.2.2.2.2.2).bind fun t917 => (if (t916 == t917) = true then ((impl_SameConf.f k bt854.1 bt854.2.1 bt854.2.2.1 bt854.2.2.2.1 bt854.2.2.2.2.1 bt854.2.2.2.2.2.1 bt854.2.2.2.2.2.2.1 bt854.2.2.2.2.2.2.2.1 bt854.2.2.2.2.2.2.2.2.1 bt854.2.2.2.2.2.2.2.2.2.1 bt854.2.2.2.2.2.2.2.2.2.2.1 bt854.2.2.2.2.2.2.2.2.2.2.2).bind fun t918 => ((spec_SameConf.f k bt854.1 bt854.2.1 bt854.2.2.1 bt854.2.2.2.1 bt854.2.2.2.2.1 bt854.2.2.2.2.2.1 bt854.2.2.2.2.2.2.1 bt854.2.2.2.2.2.2.2.1 bt854.2.2.2.2.2.2.2.2.1 bt854.2.2.2.2.2.2.2.2.2.1 bt854.2.2.2.2.2.2.2.2.2.2.1 bt854.2.2.2.2.2.2.2.2.2.2.2).bind fun t919 => (if (t918 == t919) = true then ((impl_SameConf.f k bt845.1 bt845.2.1 bt845.2.2.1 bt845.2.2.2.1 bt845.2.2.2.2.1 bt845.2.2.2.2.2 bt845.1 bt845.2.1 bt845.2.2.1 bt845.2.2.2.1 bt845.2.2.2.2.1 bt845.2.2.2.2.2).bind fun t920 => (if t920 = true then ((impl_ConfText.f k bt872.1 bt872.2.1 bt872.2.2.1 bt872.2.2.2.1 bt872.2.2.2.2.1 bt872.2.2.2.2.2).bind fun t921 => ((spec_ConfText.f k bt872.1 bt872.2.1 bt872.2.2.1 bt872.2.2.2.1 bt872.2.2.2.2.1 bt872.2.2.2.2.2).bind fun t922 => (if t921.toList = t922.toList then ((impl_ConfText.f k bt872.1 bt872.2.1 bt872.2.2.1 bt872.2.2.2.1 bt872.2.2.2.2.1 bt872.2.2.2.2.2).bind fun t923 => ((impl_ConfOk.f k bt872.1 bt872.2.1 bt872.2.2.1 bt872.2.2.2.1 bt872.2.2.2.2.1 bt872.2.2.2.2.2).bind fun t924 => (if ((t923.toList != ([] : List UInt8)) == t924) = true then ((impl_Due.f bt881.1 bt881.2.1 bt881.2.2.1 bt881.2.2.2.1 bt881.2.2.2.2.1 bt881.2.2.2.2.2.1 bt881.2.2.2.2.2.2.1 bt881.2.2.2.2.2.2.2.1 bt881.2.2.2.2.2.2.2.2.1 bt881.2.2.2.2.2.2.2.2.2.1 bt881.2.2.2.2.2.2.2.2.2.2).bind fun t925 => ((spec_Due.f bt881.1 bt881.2.1 bt881.2.2.1 bt881.2.2.2.1 bt881.2.2.2.2.1 bt881.2.2.2.2.2.1 bt881.2.2.2.2.2.2.1 bt881.2.2.2.2.2.2.2.1 bt881.2.2.2.2.2.2.2.2.1 bt881.2.2.2.2.2.2.2.2.2.1 bt881.2.2.2.2.2.2.2.2.2.2).bind fun t926 => (if t925 = t926 then ((impl_Due.f bt881.1 bt881.2.1 bt881.2.2.1 bt881.2.2.2.1 bt881.2.2.2.2.1 bt881.2.2.2.2.2.1 bt881.2.2.2.2.2.2.1 bt881.2.2.2.2.2.2.2.1 bt881.2.2.2.2.2.2.2.2.1 bt881.2.2.2.2.2.2.2.2.2.1 bt881.2.2.2.2.2.2.2.2.2.2).bind fun t927 => ((impl_NextDue.f bt881.2.2.2.2.2.2.1 bt881.2.2.2.2.2.2.2.1 bt881.2.2.2.2.2.2.2.2.1 bt881.2.2.2.2.2.2.2.2.2.1 bt881.2.2.2.2.2.2.2.2.2.2 bt881.2.2.2.1 bt881.2.2.2.2.1).bind fun t928 => (if t927 = t928 then ((impl_Fits.f k bt900.1 bt900.2.1 bt900.2.2.1 bt900.2.2.2.1 bt900.2.2.2.2.1 bt900.2.2.2.2.2.1 bt900.2.2.2.2.2.2.1 bt900.2.2.2.2.2.2.2.1 bt900.2.2.2.2.2.2.2.2.1 bt900.2.2.2.2.2.2.2.2.2).bind fun t929 => ((spec_Fits.f k bt900.1 bt900.2.1 bt900.2.2.1 bt900.2.2.2.1 bt900.2.2.2.2.1 bt900.2.2.2.2.2.1 bt900.2.2.2.2.2.2.1 bt900.2.2.2.2.2.2.2.1 bt900.2.2.2.2.2.2.2.2.1 bt900.2.2.2.2.2.2.2.2.2).bind fun t930 => (if (t929 == t930) = true then ((impl_Fits.f k bt900.1 bt900.2.1 bt900.2.2.1 bt900.2.2.2.1 bt900.2.2.2.2.1 bt900.2.2.2.2.2.1 bt900.2.2.2.2.2.2.1 bt900.2.2.2.2.2.2.2.1 bt900.2.2.2.2.2.2.2.2.1 bt900.2.2.2.2.2.2.2.2.2).bind fun t931 => (if t931 = true then ((impl_AlarmOk.f k bt900.2.2.2.2.2.2.1 bt900.2.2.2.2.2.2.2.1 bt900.2.2.2.2.2.2.2.2.1 bt900.2.2.2.2.2.2.2.2.2).bind fun t932 => (some t932)) else (some true))) else (none)))) else (none)))) else (none)))) else (none)))) else (none)))) else (none))) else (none)))) else (none))))))))))
theorem laws_FnConfs.mono : ∀ a0 k, LeO (laws_FnConfs.f k a0) (laws_FnConfs.f (k + 1) a0) := by
 intro a0 k
 unfold laws_FnConfs.f
 repeat' first | (with_reducible first | exact impl_AlarmOk.mono _ _ _ _ _ | exact impl_ConfOk.mono _ _ _ _ _ _ _ | exact impl_ConfText.mono _ _ _ _ _ _ _ | exact impl_Fits.mono _ _ _ _ _ _ _ _ _ _ _ | exact impl_SameConf.mono _ _ _ _ _ _ _ _ _ _ _ _ _ | exact spec_ConfOk.mono _ _ _ _ _ _ _ | exact spec_ConfText.mono _ _ _ _ _ _ _ | exact spec_DrawConfOk.mono _ _ | exact spec_DrawConfText.mono _ _ | exact spec_DrawDue.mono _ _ | exact spec_DrawFits.mono _ _ | exact spec_DrawSameConf.mono _ _ | exact spec_Fits.mono _ _ _ _ _ _ _ _ _ _ _ | exact spec_SameConf.mono _ _ _ _ _ _ _ _ _ _ _ _ _ | exact LeO.refl _ | exact LeO.none _ | refine LeO.ite ?_ ?_ | refine LeO.bind ?_ (fun _ => ?_)) | exact impl_AlarmOk.mono _ _ _ _ _ | exact impl_ConfOk.mono _ _ _ _ _ _ _ | exact impl_ConfText.mono _ _ _ _ _ _ _ | exact impl_Fits.mono _ _ _ _ _ _ _ _ _ _ _ | exact impl_SameConf.mono _ _ _ _ _ _ _ _ _ _ _ _ _ | exact spec_ConfOk.mono _ _ _ _ _ _ _ | exact spec_ConfText.mono _ _ _ _ _ _ _ | exact spec_DrawConfOk.mono _ _ | exact spec_DrawConfText.mono _ _ | exact spec_DrawDue.mono _ _ | exact spec_DrawFits.mono _ _ | exact spec_DrawSameConf.mono _ _ | exact spec_Fits.mono _ _ _ _ _ _ _ _ _ _ _ | exact spec_SameConf.mono _ _ _ _ _ _ _ _ _ _ _ _ _
def laws_FnConfs.T8 : Bool × List (List Nat × List Nat) := (true, [([], []), ([0], [0]), ([], []), ([2, 1], [2]), ([1, 3], [1, 3]), ([4, 3], [4]), ([5], [5]), ([5], [5]), ([6, 7, 5, 5], [5, 6, 7]), ([5], [5]), ([5], [5]), ([9, 10, 8, 5], [5, 9, 10]), ([8, 11, 5], [5, 8, 11]), ([5, 12], [5, 12]), ([13, 11], [13]), ([14], [14]), ([14], [14]), ([15, 16, 14, 14], [14, 15, 16]), ([14, 17], [14, 17]), ([18, 17], [18]), ([19], [19]), ([20, 19, 19], [19, 20]), ([19], [19]), ([22, 21, 19], [19, 22]), ([21, 23, 19], [19, 21, 23]), ([19, 24], [19, 24]), ([25, 23], [25]), ([26], [26]), ([27, 26, 26], [26, 27]), ([28, 26], [26, 28]), ([26], [26]), ([30, 28, 26], [26, 30]), ([29, 31, 26], [26, 29, 31]), ([26, 32], [26, 32]), ([33, 31], [33]), ([34], [34]), ([34], [34]), ([35, 36, 34, 34], [34, 35, 36]), ([34], [34]), ([34], [34]), ([38, 39, 37, 34], [34, 38, 39]), ([37, 40, 34], [34, 37, 40]), ([34, 41], [34, 41]), ([42, 40], [42]), ([43], [43]), ([43], [43]), ([44, 45, 43, 43], [43, 44, 45]), ([43], [43]), ([43], [43]), ([48, 43], [43, 48]), ([43], [43]), ([50, 43], [43, 50]), ([47, 49, 51, 46, 43], [43, 47, 49, 51]), ([46, 52, 43], [43, 46, 52]), ([43, 53], [43, 53]), ([54, 52], [54]), ([55], [55]), ([55], [55]), ([56, 57, 55, 55], [55, 56, 57]), ([55], [55]), ([55], [55]), ([59, 60, 58, 55], [55, 59, 60]), ([58, 61, 55], [55, 58, 61]), ([55, 62], [55, 62]), ([63, 61], [63]), ([64], [64]), ([64], [64]), ([65, 66, 64, 64], [64, 65, 66]), ([67, 64], [64, 67]), ([68, 67, 64], [64, 68]), ([69], [69]), ([70, 69, 69], [69, 70]), ([69, 71, 64], [64, 69, 71]), ([64, 72], [64, 72]), ([73, 71, 0, 1, 2, 3, 4, 5, 6, 7, 8, 9, 10, 11, 12, 13, 14, 15, 16, 17, 18, 19, 20, 21, 22, 23, 24, 25, 26, 27, 28, 29, 30, 31, 32, 33, 34, 35, 36, 37, 38, 39, 40, 41, 42, 43, 44, 45, 46, 47, 48, 49, 50, 51, 52, 53, 54, 55, 56, 57, 58, 59, 60, 61, 62, 63, 64, 65, 66, 67, 68, 69, 70, 71, 72, 73], [73])])
def laws_FnConfs.B8 : List Nat := [0, 1, 0, 7, 15, 31, 63, 63, 255, 63, 63, 2047, 4095, 8191, 16383, 32767, 32767, 131071, 262143, 524287, 1048575, 2097151, 1048575, 8388607, 16777215, 33554431, 67108863, 134217727, 268435455, 536870911, 134217727, 1610612735, 4294967295, 8589934591, 17179869183, 34359738367, 34359738367, 137438953471, 34359738367, 34359738367, 1099511627775, 2199023255551, 4398046511103, 8796093022207, 17592186044415, 17592186044415, 70368744177663, 17592186044415, 17592186044415, 299067162755071, 17592186044415, 1143492092887039, 4503599627370495, 9007199254740991, 18014398509481983, 36028797018963967, 72057594037927935, 72057594037927935, 288230376151711743, 72057594037927935, 72057594037927935, 2305843009213693951, 4611686018427387903, 9223372036854775807, 18446744073709551615, 36893488147419103231, 36893488147419103231, 147573952589676412927, 295147905179352825855, 590295810358705651711, 1180591620717411303423, 2361183241434822606847, 4722366482869645213695, 9444732965739290427391, 18889465931478580854783]
theorem laws_FnConfs.tab8 : rtab .any (opsOf Tryd.f3 8) = laws_FnConfs.T8 := by kernel_rfl
theorem laws_FnConfs.bits8 : waitsOk laws_FnConfs.T8.2 laws_FnConfs.B8 = true := by kernel_rfl
theorem laws_FnConfs.calls (k : Nat) (A0 : Option Addr) (c0 : Nat) (l0 : List Int) (r : Bool) (w : World) (hr0 : Kd.C (Kd.int .u8) w A0 l0.length l0) (hc0 : l0.length ≤ c0) (h : laws_FnConfs.f k l0 = some r) :
  Calls Tryd.prog 3 #[.slice A0 l0.length c0] w fun e w' => e = .returned (.bool r) ∧ Below w.heap.size w w' := by
 have hu26 := Tryd.underlying26
 have hu33 := Tryd.underlying33
 have hu37 := Tryd.underlying37
 have HR0 := Aside0.mk hr0
 have HC0 := Aside0.mk hc0
 clear hr0 hc0
 have HB := Aside0.mk (Below.refl w.heap.size w)
 have H : ((laws_big.f l0).bind fun t844 => (if t844 = true then (some true) else ((spec_DrawConfOk.f k l0).bind fun bt845 => ((spec_DrawSameConf.f k l0).bind fun bt854 => ((spec_DrawConfText.f k l0).bind fun bt872 => ((spec_DrawDue.f k l0).bind fun bt881 => ((spec_DrawFits.f k l0).bind fun bt900 => ((impl_ConfOk.f k bt845.1 bt845.2.1 bt845.2.2.1 bt845.2.2.2.1 bt845.2.2.2.2.1 bt845.2.2.2.2.2).bind fun t916 => ((spec_ConfOk.f k bt845.1 bt845.2.1 bt845.2.2.1 bt845.2.2.2.1 bt845.2.2.2.2.1 bt845.2.2.2.2.2).bind fun t917 => (if (t916 == t917) = true then ((impl_SameConf.f k bt854.1 bt854.2.1 bt854.2.2.1 bt854.2.2.2.1 bt854.2.2.2.2.1 bt854.2.2.2.2.2.1 bt854.2.2.2.2.2.2.1 bt854.2.2.2.2.2.2.2.1 bt854.2.2.2.2.2.2.2.2.1 bt854.2.2.2.2.2.2.2.2.2.1 bt854.2.2.2.2.2.2.2.2.2.2.1 bt854.2.2.2.2.2.2.2.2.2.2.2).bind fun t918 => ((spec_SameConf.f k bt854.1 bt854.2.1 bt854.2.2.1 bt854.2.2.2.1 bt854.2.2.2.2.1 bt854.2.2.2.2.2.1 bt854.2.2.2.2.2.2.1 bt854.2.2.2.2.2.2.2.1 bt854.2.2.2.2.2.2.2.2.1 bt854.2.2.2.2.2.2.2.2.2.1 bt854.2.2.2.2.2.2.2.2.2.2.1 bt854.2.2.2.2.2.2.2.2.2.2.2).bind fun t919 => (if (t918 == t919) = true then ((impl_SameConf.f k bt845.1 bt845.2.1 bt845.2.2.1 bt845.2.2.2.1 bt845.2.2.2.2.1 bt845.2.2.2.2.2 bt845.1 bt845.2.1 bt845.2.2.1 bt845.2.2.2.1 bt845.2.2.2.2.1 bt845.2.2.2.2.2).bind fun t920 => (if t920 = true then ((impl_ConfText.f k bt872.1 bt872.2.1 bt872.2.2.1 bt872.2.2.2.1 bt872.2.2.2.2.1 bt872.2.2.2.2.2).bind fun t921 => ((spec_ConfText.f k bt872.1 bt872.2.1 bt872.2.2.1 bt872.2.2.2.1 bt872.2.2.2.2.1 bt872.2.2.2.2.2).bind fun t922 => (if t921.toList = t922.toList then ((impl_ConfText.f k bt872.1 bt872.2.1 bt872.2.2.1 bt872.2.2.2.1 bt872.2.2.2.2.1 bt872.2.2.2.2.2).bind fun t923 => ((impl_ConfOk.f k bt872.1 bt872.2.1 bt872.2.2.1 bt872.2.2.2.1 bt872.2.2.2.2.1 bt872.2.2.2.2.2).bind fun t924 => (if ((t923.toList != ([] : List UInt8)) == t924) = true then ((impl_Due.f bt881.1 bt881.2.1 bt881.2.2.1 bt881.2.2.2.1 bt881.2.2.2.2.1 bt881.2.2.2.2.2.1 bt881.2.2.2.2.2.2.1 bt881.2.2.2.2.2.2.2.1 bt881.2.2.2.2.2.2.2.2.1 bt881.2.2.2.2.2.2.2.2.2.1 bt881.2.2.2.2.2.2.2.2.2.2).bind fun t925 => ((spec_Due.f bt881.1 bt881.2.1 bt881.2.2.1 bt881.2.2.2.1 bt881.2.2.2.2.1 bt881.2.2.2.2.2.1 bt881.2.2.2.2.2.2.1 bt881.2.2.2.2.2.2.2.1 bt881.2.2.2.2.2.2.2.2.1 bt881.2.2.2.2.2.2.2.2.2.1 bt881.2.2.2.2.2.2.2.2.2.2).bind fun t926 => (if t925 = t926 then ((impl_Due.f bt881.1 bt881.2.1 bt881.2.2.1 bt881.2.2.2.1 bt881.2.2.2.2.1 bt881.2.2.2.2.2.1 bt881.2.2.2.2.2.2.1 bt881.2.2.2.2.2.2.2.1 bt881.2.2.2.2.2.2.2.2.1 bt881.2.2.2.2.2.2.2.2.2.1 bt881.2.2.2.2.2.2.2.2.2.2).bind fun t927 => ((impl_NextDue.f bt881.2.2.2.2.2.2.1 bt881.2.2.2.2.2.2.2.1 bt881.2.2.2.2.2.2.2.2.1 bt881.2.2.2.2.2.2.2.2.2.1 bt881.2.2.2.2.2.2.2.2.2.2 bt881.2.2.2.1 bt881.2.2.2.2.1).bind fun t928 => (if t927 = t928 then ((impl_Fits.f k bt900.1 bt900.2.1 bt900.2.2.1 bt900.2.2.2.1 bt900.2.2.2.2.1 bt900.2.2.2.2.2.1 bt900.2.2.2.2.2.2.1 bt900.2.2.2.2.2.2.2.1 bt900.2.2.2.2.2.2.2.2.1 bt900.2.2.2.2.2.2.2.2.2).bind fun t929 => ((spec_Fits.f k bt900.1 bt900.2.1 bt900.2.2.1 bt900.2.2.2.1 bt900.2.2.2.2.1 bt900.2.2.2.2.2.1 bt900.2.2.2.2.2.2.1 bt900.2.2.2.2.2.2.2.1 bt900.2.2.2.2.2.2.2.2.1 bt900.2.2.2.2.2.2.2.2.2).bind fun t930 => (if (t929 == t930) = true then ((impl_Fits.f k bt900.1 bt900.2.1 bt900.2.2.1 bt900.2.2.2.1 bt900.2.2.2.2.1 bt900.2.2.2.2.2.1 bt900.2.2.2.2.2.2.1 bt900.2.2.2.2.2.2.2.1 bt900.2.2.2.2.2.2.2.2.1 bt900.2.2.2.2.2.2.2.2.2).bind fun t931 => (if t931 = true then ((impl_AlarmOk.f k bt900.2.2.2.2.2.2.1 bt900.2.2.2.2.2.2.2.1 bt900.2.2.2.2.2.2.2.2.1 bt900.2.2.2.2.2.2.2.2.2).bind fun t932 => (some t932)) else (some true))) else (none)))) else (none)))) else (none)))) else (none)))) else (none)))) else (none))) else (none)))) else (none))))))))))) = some r := h
 clear h
 replace H := Option.bind_eq_some_iff.mp H
 obtain ⟨t844, A20, H⟩ := H
 have A2 := Aside0.mk A20
 clear A20
 by_cases c3 : t844 = true
 ·
  subst c3
  rw [if_pos rfl] at H
  obtain rfl := Option.some.inj H
  go_enter Tryd.func3, Tryd.ntmps3
  go_wp2_with (first | ((with_reducible refine gate_callee (f := 4) rfl ?_); refine gl_ (some 12) Tryd.func4 #[.slice A0 l0.length c0] ?_; (with_reducible refine (laws_big.calls _ _ l0 true _ ?side1 ?side2 A2.out).mono ?_); (case side1 => exact cp_ (HR0.out)); (case side2 => exact HC0.out); rintro e w' ⟨rfl, ⟨nd, rfl⟩⟩; refine ⟨_, rfl, ?_⟩))
  go_ret
  exact an_ (by exact hs_ HB.out)
 replace c3 := Bool.eq_false_iff.mpr c3
 subst c3
 rw [if_neg (show ¬ (false = true) by decide)] at H
 replace H := Option.bind_eq_some_iff.mp H
 obtain ⟨⟨t845, t846, t847, t848, t849, t850⟩, A40, H⟩ := H
 have A4 := Aside0.mk A40
 clear A40
 replace H := Option.bind_eq_some_iff.mp H
 obtain ⟨⟨t854, t855, t856, t857, t858, t859, t862, t863, t864, t865, t866, t867⟩, A50, H⟩ := H
 have A5 := Aside0.mk A50
 clear A50
 replace H := Option.bind_eq_some_iff.mp H
 obtain ⟨⟨t872, t873, t874, t875, t876, t877⟩, A60, H⟩ := H
 have A6 := Aside0.mk A60
 clear A60
 replace H := Option.bind_eq_some_iff.mp H
 obtain ⟨⟨t881, t882, t883, t884, t885, t886, t889, t890, t893, t894, t895⟩, A70, H⟩ := H
 have A7 := Aside0.mk A70
 clear A70
 replace H := Option.bind_eq_some_iff.mp H
 obtain ⟨⟨t900, t901, t902, t903, t904, t905, t908, t911, t912, t913⟩, A80, H⟩ := H
 have A8 := Aside0.mk A80
 clear A80
 replace H := Option.bind_eq_some_iff.mp H
 obtain ⟨t916, A90, H⟩ := H
 have A9 := Aside0.mk A90
 clear A90
 replace H := Option.bind_eq_some_iff.mp H
 obtain ⟨t917, A100, H⟩ := H
 have A10 := Aside0.mk A100
 clear A100
 by_cases c11 : (t916 == t917) = true
 ·
  rw [if_pos c11] at H
  have c11b0 : (t916 == t917) = true := c11
  (try (have c11b1 : decide (t916 = t917) = true := by simpa using c11))
  (try (have c11b2 : (t916 == t917) = true := by simpa using c11))
  clear c11
  replace H := Option.bind_eq_some_iff.mp H
  obtain ⟨t918, A120, H⟩ := H
  have A12 := Aside0.mk A120
  clear A120
  replace H := Option.bind_eq_some_iff.mp H
  obtain ⟨t919, A130, H⟩ := H
  have A13 := Aside0.mk A130
  clear A130
  by_cases c14 : (t918 == t919) = true
  ·
   rw [if_pos c14] at H
   have c14b0 : (t918 == t919) = true := c14
   (try (have c14b1 : decide (t918 = t919) = true := by simpa using c14))
   (try (have c14b2 : (t918 == t919) = true := by simpa using c14))
   clear c14
   replace H := Option.bind_eq_some_iff.mp H
   obtain ⟨t920, A150, H⟩ := H
   have A15 := Aside0.mk A150
   clear A150
   by_cases c16 : t920 = true
   ·
    subst c16
    rw [if_pos rfl] at H
    replace H := Option.bind_eq_some_iff.mp H
    obtain ⟨t921, A170, H⟩ := H
    have A17 := Aside0.mk A170
    clear A170
    replace H := Option.bind_eq_some_iff.mp H
    obtain ⟨t922, A180, H⟩ := H
    have A18 := Aside0.mk A180
    clear A180
    by_cases c19 : t921.toList = t922.toList
    ·
     rw [if_pos c19] at H
     have c19b0 : (t921.toList == t922.toList) = true := beq_iff_eq.mpr c19
     have c19b1 : (t921.toList != t922.toList) = false := bne_eq_false_iff_eq.mpr c19
     clear c19
     replace H := Option.bind_eq_some_iff.mp H
     obtain ⟨t923, A200, H⟩ := H
     have A20 := Aside0.mk A200
     clear A200
     replace H := Option.bind_eq_some_iff.mp H
     obtain ⟨t924, A210, H⟩ := H
     have A21 := Aside0.mk A210
     clear A210
     by_cases c22 : ((t923.toList != ([] : List UInt8)) == t924) = true
     ·
      rw [if_pos c22] at H
      have c22b0 : ((t923.toList != ([] : List UInt8)) == t924) = true := c22
      have c22b9 : ((!t923.toList.isEmpty) == t924) = true := by rw [← c22b0]; cases t923.toList <;> rfl
      (try (have c22b1 : decide ((t923.toList != ([] : List UInt8)) = t924) = true := by simpa using c22))
      (try (have c22b2 : ((t923.toList != ([] : List UInt8)) == t924) = true := by simpa using c22))
      clear c22
      replace H := Option.bind_eq_some_iff.mp H
      obtain ⟨t925, A230, H⟩ := H
      have A23 := Aside0.mk A230
      clear A230
      replace H := Option.bind_eq_some_iff.mp H
      obtain ⟨t926, A240, H⟩ := H
      have A24 := Aside0.mk A240
      clear A240
      by_cases c25 : t925 = t926
      ·
       rw [if_pos c25] at H
       have c25b0 : (t925 == t926) = true := beq_iff_eq.mpr c25
       have c25b1 : (t925 != t926) = false := bne_eq_false_iff_eq.mpr c25
       clear c25
       replace H := Option.bind_eq_some_iff.mp H
       obtain ⟨t927, A260, H⟩ := H
       have A26 := Aside0.mk A260
       clear A260
       replace H := Option.bind_eq_some_iff.mp H
       obtain ⟨t928, A270, H⟩ := H
       have A27 := Aside0.mk A270
       clear A270
       by_cases c28 : t927 = t928
       ·
        rw [if_pos c28] at H
        have c28b0 : (t927 == t928) = true := beq_iff_eq.mpr c28
        have c28b1 : (t927 != t928) = false := bne_eq_false_iff_eq.mpr c28
        clear c28
        replace H := Option.bind_eq_some_iff.mp H
        obtain ⟨t929, A290, H⟩ := H
        have A29 := Aside0.mk A290
        clear A290
        replace H := Option.bind_eq_some_iff.mp H
        obtain ⟨t930, A300, H⟩ := H
        have A30 := Aside0.mk A300
        clear A300
        by_cases c31 : (t929 == t930) = true
        ·
         rw [if_pos c31] at H
         have c31b0 : (t929 == t930) = true := c31
         (try (have c31b1 : decide (t929 = t930) = true := by simpa using c31))
         (try (have c31b2 : (t929 == t930) = true := by simpa using c31))
         clear c31
         replace H := Option.bind_eq_some_iff.mp H
         obtain ⟨t931, A320, H⟩ := H
         have A32 := Aside0.mk A320
         clear A320
         have AHz_ := Aside0.mk H
         clear H
         go_enter Tryd.func3, Tryd.ntmps3
         try go_wp2_with (first | ((with_reducible refine gate_callee (f := 4) rfl ?_); refine gl_ (some 12) Tryd.func4 #[.slice A0 l0.length c0] ?_; (with_reducible refine (laws_big.calls _ _ l0 false _ ?side1 ?side2 A2.out).mono ?_); (case side1 => exact cp_ (HR0.out)); (case side2 => exact HC0.out); rintro e w' ⟨rfl, ⟨nd, rfl⟩⟩; refine ⟨_, rfl, ?_⟩) | ((with_reducible refine gate_callee (f := 5) rfl ?_); refine gl_ (some 14) Tryd.func5 #[.slice A0 l0.length c0] ?_; (with_reducible refine (spec_DrawConfOk.calls k _ _ l0 t845 t846 t847 t848 t849 t850 _ ?side1 ?side2 A4.out).mono ?_); (case side1 => exact cp_ (HR0.out)); (case side2 => exact HC0.out); rintro e w35 ⟨v851, rfl, ho0, hb⟩; refine ⟨_, rfl, ?_⟩; obtain ⟨gbz851, hz851⟩ := Kd.R_name ho0; have HO852 := Aside0.mk (Kd.R_lower (Kd.R_gez hz851 ho0) (below_size (hs_ HB.out))); have n1_ := st_ HB hb; clear HB; have HB := n1_; clear n1_; (try clear hb); (try clear hk); (try clear ho0)) | ((with_reducible refine gd_ 3 rfl ?_); refine bv_ 3 #[.int .i64 0, .int .i64 0, .int .i64 0, .int .i64 0, .int .i64 0, .slice none 0 0] 26 ?_; intro gb853 hg w36 hbox hb; replace HO852 := rb_ HO852 hb; have BK853 := Aside0.mk (hbox); have GW853 := Ge_.mk ((gw_ hg (hs_ HB.out))); replace HB := st_ HB hb; have GE853 := Ge_.mk GW853.out; clear hb hbox hg; obtain ⟨z37_0, z37_1, z37_2, z37_3, z37_4, z37_5, y37_0, y37_1, y37_2, y37_3, y37_4, y37_5⟩ := bc6_ BK853.out; obtain ⟨Ao38, co38, eo38⟩ := Kd.R_slice HO852.out; subst eo38) | ((with_reducible refine gate_callee (f := 6) rfl ?_); refine gl_ (some 17) Tryd.func6 #[.slice A0 l0.length c0] ?_; (with_reducible refine (spec_DrawSameConf.calls k _ _ l0 t854 t855 t856 t857 t858 t859 t862 t863 t864 t865 t866 t867 _ ?side1 ?side2 A5.out).mono ?_); (case side1 => exact Kd.C_below HR0.out (hs_ HB.out)); (case side2 => exact HC0.out); rintro e w39 ⟨v860, v868, rfl, ho0, ho1, hb⟩; refine ⟨_, rfl, ?_⟩; obtain ⟨gbz860, hz860⟩ := Kd.R_name ho0; replace HO852 := Aside0.mk (Kd.R_below (Kd.R_ltz hz860 (by (with_reducible repeat (first | apply Kd.R_alloc | apply Kd.R_drewN | apply Kd.R_drew)); exact (Kd.R_mono (rf_ gb853 (Kd.R_types HO852.out BK853.out (by decide)) (fun _ hk => hk.2)) (fun _ h_ => h_.1)))) hb); have HO861 := Aside0.mk (Kd.R_lower (Kd.R_gez hz860 ho0) (below_size (hs_ HB.out))); have HO869 := Aside0.mk (Kd.R_lower (Kd.R_gez hz860 ho1) (below_size (hs_ HB.out))); replace BK853 := Aside0.mk (blk_below (g := gb853) (o := .cells #[.int .i64 t845, .int .i64 t846, .int .i64 t847, .int .i64 t848, .int .i64 t849, .slice Ao38 t850.length co38] 26 (0, 0)) (bp_ BK853.out) hb); replace HB := st_ HB hb; (try clear hb); (try clear hk); (try clear ho0); (try clear ho1)) | ((with_reducible refine gd_ 4 rfl ?_); refine bv_ 4 #[.int .i64 0, .int .i64 0, .int .i64 0, .int .i64 0, .int .i64 0, .slice none 0 0] 26 ?_; intro gb870 hg w40 hbox hb; replace HO852 := rb_ HO852 hb; replace HO861 := rb_ HO861 hb; replace HO869 := rb_ HO869 hb; have BK870 := Aside0.mk (hbox); have GW870 := Ge_.mk ((gw_ hg (hs_ HB.out))); replace HB := st_ HB hb; have GE870 := Ge_.mk GW870.out; have NB853_870 := nk_ BK853 hg; replace BK853 := bk2_ BK853 hb; have NB870_853 := ns_ NB853_870; clear hb hbox hg) | ((with_reducible refine gd_ 5 rfl ?_); refine bv_ 5 #[.int .i64 0, .int .i64 0, .int .i64 0, .int .i64 0, .int .i64 0, .slice none 0 0] 26 ?_; intro gb871 hg w41 hbox hb; replace HO852 := rb_ HO852 hb; replace HO861 := rb_ HO861 hb; replace HO869 := rb_ HO869 hb; have BK871 := Aside0.mk (hbox); have GW871 := Ge_.mk ((gw_ hg (hs_ HB.out))); replace HB := st_ HB hb; have GE871 := Ge_.mk GW871.out; have NB853_871 := nk_ BK853 hg; replace BK853 := bk2_ BK853 hb; have NB871_853 := ns_ NB853_871; have NB870_871 := nk_ BK870 hg; replace BK870 := bk2_ BK870 hb; have NB871_870 := ns_ NB870_871; clear hb hbox hg; have hnb42 := NB870_853.out; have hnc42 := NB853_870.out; have hnb43 := NB870_871.out; have hnc43 := NB871_870.out; obtain ⟨z44_0, z44_1, z44_2, z44_3, z44_4, z44_5, y44_0, y44_1, y44_2, y44_3, y44_4, y44_5⟩ := bc6_ BK870.out; obtain ⟨Ao45, co45, eo45⟩ := Kd.R_slice HO861.out; subst eo45; have hnb46 := NB871_853.out; have hnc46 := NB853_871.out; obtain ⟨z47_0, z47_1, z47_2, z47_3, z47_4, z47_5, y47_0, y47_1, y47_2, y47_3, y47_4, y47_5⟩ := bc6_ BK871.out; obtain ⟨Ao48, co48, eo48⟩ := Kd.R_slice HO869.out; subst eo48) | ((with_reducible refine gate_callee (f := 7) rfl ?_); refine gl_ (some 21) Tryd.func7 #[.slice A0 l0.length c0] ?_; (with_reducible refine (spec_DrawConfText.calls k _ _ l0 t872 t873 t874 t875 t876 t877 _ ?side1 ?side2 A6.out).mono ?_); (case side1 => exact Kd.C_below HR0.out (hs_ HB.out)); (case side2 => exact HC0.out); rintro e w49 ⟨v878, rfl, ho0, hb⟩; refine ⟨_, rfl, ?_⟩; obtain ⟨gbz878, hz878⟩ := Kd.R_name ho0; replace HO852 := Aside0.mk (Kd.R_below (Kd.R_ltz hz878 (by (with_reducible repeat (first | apply Kd.R_alloc | apply Kd.R_drewN | apply Kd.R_drew)); exact (Kd.R_mono (Kd.R_mono (rf_ gb871 (Kd.R_far (p := ⟨gb870, 5, none⟩) (Kd.R_far (p := ⟨gb870, 4, none⟩) (Kd.R_far (p := ⟨gb870, 3, none⟩) (Kd.R_far (p := ⟨gb870, 2, none⟩) (Kd.R_far (p := ⟨gb870, 1, none⟩) (Kd.R_far (p := ⟨gb870, 0, none⟩) (Kd.R_types (Kd.R_types HO852.out BK870.out (by decide)) BK871.out (by decide)) (fun _ hk => hk.1.2) (.int .i64 t854)) (fun _ hk => hk.1.2) (.int .i64 t855)) (fun _ hk => hk.1.2) (.int .i64 t856)) (fun _ hk => hk.1.2) (.int .i64 t857)) (fun _ hk => hk.1.2) (.int .i64 t858)) (fun _ hk => hk.1.2) (.slice Ao45 t859.length co45)) (fun _ hk => hk.2)) (fun _ h_ => h_.1)) (fun _ h_ => h_.1)))) hb); replace HO861 := Aside0.mk (Kd.R_below (Kd.R_ltz hz878 (by (with_reducible repeat (first | apply Kd.R_alloc | apply Kd.R_drewN | apply Kd.R_drew)); exact (Kd.R_mono (Kd.R_mono (rf_ gb871 (Kd.R_far (p := ⟨gb870, 5, none⟩) (Kd.R_far (p := ⟨gb870, 4, none⟩) (Kd.R_far (p := ⟨gb870, 3, none⟩) (Kd.R_far (p := ⟨gb870, 2, none⟩) (Kd.R_far (p := ⟨gb870, 1, none⟩) (Kd.R_far (p := ⟨gb870, 0, none⟩) (Kd.R_types (Kd.R_types HO861.out BK870.out (by decide)) BK871.out (by decide)) (fun _ hk => hk.1.2) (.int .i64 t854)) (fun _ hk => hk.1.2) (.int .i64 t855)) (fun _ hk => hk.1.2) (.int .i64 t856)) (fun _ hk => hk.1.2) (.int .i64 t857)) (fun _ hk => hk.1.2) (.int .i64 t858)) (fun _ hk => hk.1.2) (.slice Ao45 t859.length co45)) (fun _ hk => hk.2)) (fun _ h_ => h_.1)) (fun _ h_ => h_.1)))) hb); replace HO869 := Aside0.mk (Kd.R_below (Kd.R_ltz hz878 (by (with_reducible repeat (first | apply Kd.R_alloc | apply Kd.R_drewN | apply Kd.R_drew)); exact (Kd.R_mono (Kd.R_mono (rf_ gb871 (Kd.R_far (p := ⟨gb870, 5, none⟩) (Kd.R_far (p := ⟨gb870, 4, none⟩) (Kd.R_far (p := ⟨gb870, 3, none⟩) (Kd.R_far (p := ⟨gb870, 2, none⟩) (Kd.R_far (p := ⟨gb870, 1, none⟩) (Kd.R_far (p := ⟨gb870, 0, none⟩) (Kd.R_types (Kd.R_types HO869.out BK870.out (by decide)) BK871.out (by decide)) (fun _ hk => hk.1.2) (.int .i64 t854)) (fun _ hk => hk.1.2) (.int .i64 t855)) (fun _ hk => hk.1.2) (.int .i64 t856)) (fun _ hk => hk.1.2) (.int .i64 t857)) (fun _ hk => hk.1.2) (.int .i64 t858)) (fun _ hk => hk.1.2) (.slice Ao45 t859.length co45)) (fun _ hk => hk.2)) (fun _ h_ => h_.1)) (fun _ h_ => h_.1)))) hb); have HO879 := Aside0.mk (Kd.R_lower (Kd.R_gez hz878 ho0) (below_size (hs_ HB.out))); replace BK853 := bk2_ BK853 hb; replace BK870 := Aside0.mk (blk_below (g := gb870) (o := .cells #[.int .i64 t854, .int .i64 t855, .int .i64 t856, .int .i64 t857, .int .i64 t858, .slice Ao45 t859.length co45] 26 (0, 0)) (bp_ BK870.out) hb); replace BK871 := Aside0.mk (blk_below (g := gb871) (o := .cells #[.int .i64 t862, .int .i64 t863, .int .i64 t864, .int .i64 t865, .int .i64 t866, .slice Ao48 t867.length co48] 26 (0, 0)) (bp_ BK871.out) hb); replace HB := st_ HB hb; (try clear hb); (try clear hk); (try clear ho0)) | ((with_reducible refine gd_ 6 rfl ?_); refine bv_ 6 #[.int .i64 0, .int .i64 0, .int .i64 0, .int .i64 0, .int .i64 0, .slice none 0 0] 26 ?_; intro gb880 hg w50 hbox hb; replace HO852 := rb_ HO852 hb; replace HO861 := rb_ HO861 hb; replace HO869 := rb_ HO869 hb; replace HO879 := rb_ HO879 hb; have BK880 := Aside0.mk (hbox); have GW880 := Ge_.mk ((gw_ hg (hs_ HB.out))); have GE880 := Ge_.mk ((gw_ hg (hs_ HB.out))); replace HB := st_ HB hb; have NB853_880 := nk_ BK853 hg; replace BK853 := bk2_ BK853 hb; have NB880_853 := ns_ NB853_880; have NB870_880 := nk_ BK870 hg; replace BK870 := bk2_ BK870 hb; have NB880_870 := ns_ NB870_880; have NB871_880 := nk_ BK871 hg; replace BK871 := bk2_ BK871 hb; have NB880_871 := ns_ NB871_880; clear hb hbox hg; have hnb51 := NB880_853.out; have hnc51 := NB853_880.out; have hnb52 := NB880_870.out; have hnc52 := NB870_880.out; have hnb53 := NB880_871.out; have hnc53 := NB871_880.out; obtain ⟨z54_0, z54_1, z54_2, z54_3, z54_4, z54_5, y54_0, y54_1, y54_2, y54_3, y54_4, y54_5⟩ := bc6_ BK880.out; obtain ⟨Ao55, co55, eo55⟩ := Kd.R_slice HO879.out; subst eo55) | ((with_reducible refine gate_callee (f := 8) rfl ?_); refine gl_ (some 24) Tryd.func8 #[.slice A0 l0.length c0] ?_; (with_reducible refine (spec_DrawDue.calls k _ _ l0 t881 t882 t883 t884 t885 t886 t889 t890 t893 t894 t895 _ ?side1 ?side2 A7.out).mono ?_); (case side1 => exact Kd.C_below HR0.out (hs_ HB.out)); (case side2 => exact HC0.out); rintro e w56 ⟨v887, v891, v896, rfl, ho0, ho1, ho2, hb⟩; refine ⟨_, rfl, ?_⟩; obtain ⟨gbz887, hz887⟩ := Kd.R_name ho0; replace HO852 := Aside0.mk (Kd.R_below (Kd.R_ltz hz887 (by (with_reducible repeat (first | apply Kd.R_alloc | apply Kd.R_drewN | apply Kd.R_drew)); exact (Kd.R_mono (rf_ gb880 (Kd.R_types HO852.out BK880.out (by decide)) (fun _ hk => hk.2)) (fun _ h_ => h_.1)))) hb); replace HO861 := Aside0.mk (Kd.R_below (Kd.R_ltz hz887 (by (with_reducible repeat (first | apply Kd.R_alloc | apply Kd.R_drewN | apply Kd.R_drew)); exact (Kd.R_mono (rf_ gb880 (Kd.R_types HO861.out BK880.out (by decide)) (fun _ hk => hk.2)) (fun _ h_ => h_.1)))) hb); replace HO869 := Aside0.mk (Kd.R_below (Kd.R_ltz hz887 (by (with_reducible repeat (first | apply Kd.R_alloc | apply Kd.R_drewN | apply Kd.R_drew)); exact (Kd.R_mono (rf_ gb880 (Kd.R_types HO869.out BK880.out (by decide)) (fun _ hk => hk.2)) (fun _ h_ => h_.1)))) hb); replace HO879 := Aside0.mk (Kd.R_below (Kd.R_ltz hz887 (by (with_reducible repeat (first | apply Kd.R_alloc | apply Kd.R_drewN | apply Kd.R_drew)); exact (Kd.R_mono (rf_ gb880 (Kd.R_types HO879.out BK880.out (by decide)) (fun _ hk => hk.2)) (fun _ h_ => h_.1)))) hb); have HO888 := Aside0.mk (Kd.R_lower (Kd.R_gez hz887 ho0) (below_size (hs_ HB.out))); have HO892 := Aside0.mk (Kd.R_lower (Kd.R_gez hz887 ho1) (below_size (hs_ HB.out))); have HO897 := Aside0.mk (Kd.S_lower (Kd.S_gez hz887 ho2) (below_size (hs_ HB.out))); replace BK853 := bk2_ BK853 hb; replace BK870 := bk2_ BK870 hb; replace BK871 := bk2_ BK871 hb; replace BK880 := Aside0.mk (blk_below (g := gb880) (o := .cells #[.int .i64 t872, .int .i64 t873, .int .i64 t874, .int .i64 t875, .int .i64 t876, .slice Ao55 t877.length co55] 26 (0, 0)) (bp_ BK880.out) hb); replace HB := st_ HB hb; (try clear hb); (try clear hk); (try clear ho0); (try clear ho1); (try clear ho2)) | ((with_reducible refine gd_ 7 rfl ?_); refine bv_ 7 #[.int .i64 0, .int .i64 0, .int .i64 0, .int .i64 0, .int .i64 0, .slice none 0 0] 26 ?_; intro gb898 hg w57 hbox hb; replace HO852 := rb_ HO852 hb; replace HO861 := rb_ HO861 hb; replace HO869 := rb_ HO869 hb; replace HO879 := rb_ HO879 hb; replace HO888 := rb_ HO888 hb; replace HO892 := rb_ HO892 hb; replace HO897 := sb_ HO897 hb; have BK898 := Aside0.mk (hbox); have GW898 := Ge_.mk ((gw_ hg (hs_ HB.out))); have GE898 := Ge_.mk ((gw_ hg (hs_ HB.out))); replace HB := st_ HB hb; have NB853_898 := nk_ BK853 hg; replace BK853 := bk2_ BK853 hb; have NB898_853 := ns_ NB853_898; have NB870_898 := nk_ BK870 hg; replace BK870 := bk2_ BK870 hb; have NB898_870 := ns_ NB870_898; have NB871_898 := nk_ BK871 hg; replace BK871 := bk2_ BK871 hb; have NB898_871 := ns_ NB871_898; have NB880_898 := nk_ BK880 hg; replace BK880 := bk2_ BK880 hb; have NB898_880 := ns_ NB880_898; clear hb hbox hg) | ((with_reducible refine gd_ 8 rfl ?_); refine bv_ 8 #[.int .i64 0, .slice none 0 0, .int .i64 0, .int .i64 0, .slice none 0 0] 33 ?_; intro gb899 hg w58 hbox hb; replace HO852 := rb_ HO852 hb; replace HO861 := rb_ HO861 hb; replace HO869 := rb_ HO869 hb; replace HO879 := rb_ HO879 hb; replace HO888 := rb_ HO888 hb; replace HO892 := rb_ HO892 hb; replace HO897 := sb_ HO897 hb; have BK899 := Aside0.mk (hbox); have GW899 := Ge_.mk ((gw_ hg (hs_ HB.out))); have GE899 := Ge_.mk ((gw_ hg (hs_ HB.out))); replace HB := st_ HB hb; have NB853_899 := nk_ BK853 hg; replace BK853 := bk2_ BK853 hb; have NB899_853 := ns_ NB853_899; have NB870_899 := nk_ BK870 hg; replace BK870 := bk2_ BK870 hb; have NB899_870 := ns_ NB870_899; have NB871_899 := nk_ BK871 hg; replace BK871 := bk2_ BK871 hb; have NB899_871 := ns_ NB871_899; have NB880_899 := nk_ BK880 hg; replace BK880 := bk2_ BK880 hb; have NB899_880 := ns_ NB880_899; have NB898_899 := nk_ BK898 hg; replace BK898 := bk2_ BK898 hb; have NB899_898 := ns_ NB898_899; clear hb hbox hg; have hnb59 := NB898_853.out; have hnc59 := NB853_898.out; have hnb60 := NB898_870.out; have hnc60 := NB870_898.out; have hnb61 := NB898_871.out; have hnc61 := NB871_898.out; have hnb62 := NB898_880.out; have hnc62 := NB880_898.out; have hnb63 := NB898_899.out; have hnc63 := NB899_898.out; obtain ⟨z64_0, z64_1, z64_2, z64_3, z64_4, z64_5, y64_0, y64_1, y64_2, y64_3, y64_4, y64_5⟩ := bc6_ BK898.out; obtain ⟨Ao65, co65, eo65⟩ := Kd.R_slice HO888.out; subst eo65; have hnb66 := NB899_853.out; have hnc66 := NB853_899.out; have hnb67 := NB899_870.out; have hnc67 := NB870_899.out; have hnb68 := NB899_871.out; have hnc68 := NB871_899.out; have hnb69 := NB899_880.out; have hnc69 := NB880_899.out; obtain ⟨z70_0, z70_1, z70_2, z70_3, z70_4, y70_0, y70_1, y70_2, y70_3, y70_4⟩ := bc5_ BK899.out; obtain ⟨Ao71, co71, eo71⟩ := Kd.R_slice HO892.out; subst eo71; obtain ⟨Ao72, co72, eo72⟩ := Kd.S_slice HO897.out; subst eo72) | ((with_reducible refine gate_callee (f := 9) rfl ?_); refine gl_ (some 29) Tryd.func9 #[.slice A0 l0.length c0] ?_; (with_reducible refine (spec_DrawFits.calls k _ _ l0 t900 t901 t902 t903 t904 t905 t908 t911 t912 t913 _ ?side1 ?side2 A8.out).mono ?_); (case side1 => exact Kd.C_below HR0.out (hs_ HB.out)); (case side2 => exact HC0.out); rintro e w73 ⟨v906, v909, rfl, ho0, ho1, hb⟩; refine ⟨_, rfl, ?_⟩; obtain ⟨gbz906, hz906⟩ := Kd.R_name ho0; replace HO852 := Aside0.mk (Kd.R_below (Kd.R_ltz hz906 (by (with_reducible repeat (first | apply Kd.R_alloc | apply Kd.R_drewN | apply Kd.R_drew)); exact (Kd.R_mono (Kd.R_mono (rf_ gb899 (Kd.R_far (p := ⟨gb898, 5, none⟩) (Kd.R_far (p := ⟨gb898, 4, none⟩) (Kd.R_far (p := ⟨gb898, 3, none⟩) (Kd.R_far (p := ⟨gb898, 2, none⟩) (Kd.R_far (p := ⟨gb898, 1, none⟩) (Kd.R_far (p := ⟨gb898, 0, none⟩) (Kd.R_types (Kd.R_types HO852.out BK898.out (by decide)) BK899.out (by decide)) (fun _ hk => hk.1.2) (.int .i64 t881)) (fun _ hk => hk.1.2) (.int .i64 t882)) (fun _ hk => hk.1.2) (.int .i64 t883)) (fun _ hk => hk.1.2) (.int .i64 t884)) (fun _ hk => hk.1.2) (.int .i64 t885)) (fun _ hk => hk.1.2) (.slice Ao65 t886.length co65)) (fun _ hk => hk.2)) (fun _ h_ => h_.1)) (fun _ h_ => h_.1)))) hb); replace HO861 := Aside0.mk (Kd.R_below (Kd.R_ltz hz906 (by (with_reducible repeat (first | apply Kd.R_alloc | apply Kd.R_drewN | apply Kd.R_drew)); exact (Kd.R_mono (Kd.R_mono (rf_ gb899 (Kd.R_far (p := ⟨gb898, 5, none⟩) (Kd.R_far (p := ⟨gb898, 4, none⟩) (Kd.R_far (p := ⟨gb898, 3, none⟩) (Kd.R_far (p := ⟨gb898, 2, none⟩) (Kd.R_far (p := ⟨gb898, 1, none⟩) (Kd.R_far (p := ⟨gb898, 0, none⟩) (Kd.R_types (Kd.R_types HO861.out BK898.out (by decide)) BK899.out (by decide)) (fun _ hk => hk.1.2) (.int .i64 t881)) (fun _ hk => hk.1.2) (.int .i64 t882)) (fun _ hk => hk.1.2) (.int .i64 t883)) (fun _ hk => hk.1.2) (.int .i64 t884)) (fun _ hk => hk.1.2) (.int .i64 t885)) (fun _ hk => hk.1.2) (.slice Ao65 t886.length co65)) (fun _ hk => hk.2)) (fun _ h_ => h_.1)) (fun _ h_ => h_.1)))) hb); replace HO869 := Aside0.mk (Kd.R_below (Kd.R_ltz hz906 (by (with_reducible repeat (first | apply Kd.R_alloc | apply Kd.R_drewN | apply Kd.R_drew)); exact (Kd.R_mono (Kd.R_mono (rf_ gb899 (Kd.R_far (p := ⟨gb898, 5, none⟩) (Kd.R_far (p := ⟨gb898, 4, none⟩) (Kd.R_far (p := ⟨gb898, 3, none⟩) (Kd.R_far (p := ⟨gb898, 2, none⟩) (Kd.R_far (p := ⟨gb898, 1, none⟩) (Kd.R_far (p := ⟨gb898, 0, none⟩) (Kd.R_types (Kd.R_types HO869.out BK898.out (by decide)) BK899.out (by decide)) (fun _ hk => hk.1.2) (.int .i64 t881)) (fun _ hk => hk.1.2) (.int .i64 t882)) (fun _ hk => hk.1.2) (.int .i64 t883)) (fun _ hk => hk.1.2) (.int .i64 t884)) (fun _ hk => hk.1.2) (.int .i64 t885)) (fun _ hk => hk.1.2) (.slice Ao65 t886.length co65)) (fun _ hk => hk.2)) (fun _ h_ => h_.1)) (fun _ h_ => h_.1)))) hb); replace HO879 := Aside0.mk (Kd.R_below (Kd.R_ltz hz906 (by (with_reducible repeat (first | apply Kd.R_alloc | apply Kd.R_drewN | apply Kd.R_drew)); exact (Kd.R_mono (Kd.R_mono (rf_ gb899 (Kd.R_far (p := ⟨gb898, 5, none⟩) (Kd.R_far (p := ⟨gb898, 4, none⟩) (Kd.R_far (p := ⟨gb898, 3, none⟩) (Kd.R_far (p := ⟨gb898, 2, none⟩) (Kd.R_far (p := ⟨gb898, 1, none⟩) (Kd.R_far (p := ⟨gb898, 0, none⟩) (Kd.R_types (Kd.R_types HO879.out BK898.out (by decide)) BK899.out (by decide)) (fun _ hk => hk.1.2) (.int .i64 t881)) (fun _ hk => hk.1.2) (.int .i64 t882)) (fun _ hk => hk.1.2) (.int .i64 t883)) (fun _ hk => hk.1.2) (.int .i64 t884)) (fun _ hk => hk.1.2) (.int .i64 t885)) (fun _ hk => hk.1.2) (.slice Ao65 t886.length co65)) (fun _ hk => hk.2)) (fun _ h_ => h_.1)) (fun _ h_ => h_.1)))) hb); replace HO888 := Aside0.mk (Kd.R_below (Kd.R_ltz hz906 (by (with_reducible repeat (first | apply Kd.R_alloc | apply Kd.R_drewN | apply Kd.R_drew)); exact (Kd.R_mono (Kd.R_mono (rf_ gb899 (Kd.R_far (p := ⟨gb898, 5, none⟩) (Kd.R_far (p := ⟨gb898, 4, none⟩) (Kd.R_far (p := ⟨gb898, 3, none⟩) (Kd.R_far (p := ⟨gb898, 2, none⟩) (Kd.R_far (p := ⟨gb898, 1, none⟩) (Kd.R_far (p := ⟨gb898, 0, none⟩) (Kd.R_types (Kd.R_types HO888.out BK898.out (by decide)) BK899.out (by decide)) (fun _ hk => hk.1.2) (.int .i64 t881)) (fun _ hk => hk.1.2) (.int .i64 t882)) (fun _ hk => hk.1.2) (.int .i64 t883)) (fun _ hk => hk.1.2) (.int .i64 t884)) (fun _ hk => hk.1.2) (.int .i64 t885)) (fun _ hk => hk.1.2) (.slice Ao65 t886.length co65)) (fun _ hk => hk.2)) (fun _ h_ => h_.1)) (fun _ h_ => h_.1)))) hb); replace HO892 := Aside0.mk (Kd.R_below (Kd.R_ltz hz906 (by (with_reducible repeat (first | apply Kd.R_alloc | apply Kd.R_drewN | apply Kd.R_drew)); exact (Kd.R_mono (Kd.R_mono (rf_ gb899 (Kd.R_far (p := ⟨gb898, 5, none⟩) (Kd.R_far (p := ⟨gb898, 4, none⟩) (Kd.R_far (p := ⟨gb898, 3, none⟩) (Kd.R_far (p := ⟨gb898, 2, none⟩) (Kd.R_far (p := ⟨gb898, 1, none⟩) (Kd.R_far (p := ⟨gb898, 0, none⟩) (Kd.R_types (Kd.R_types HO892.out BK898.out (by decide)) BK899.out (by decide)) (fun _ hk => hk.1.2) (.int .i64 t881)) (fun _ hk => hk.1.2) (.int .i64 t882)) (fun _ hk => hk.1.2) (.int .i64 t883)) (fun _ hk => hk.1.2) (.int .i64 t884)) (fun _ hk => hk.1.2) (.int .i64 t885)) (fun _ hk => hk.1.2) (.slice Ao65 t886.length co65)) (fun _ hk => hk.2)) (fun _ h_ => h_.1)) (fun _ h_ => h_.1)))) hb); replace HO897 := Aside0.mk (Kd.S_below (Kd.S_ltz hz906 (by (with_reducible repeat (first | apply Kd.S_alloc | apply Kd.S_drewN | apply Kd.S_drew)); exact (Kd.S_mono (Kd.S_mono (sf_ gb899 (Kd.S_far (p := ⟨gb898, 5, none⟩) (Kd.S_far (p := ⟨gb898, 4, none⟩) (Kd.S_far (p := ⟨gb898, 3, none⟩) (Kd.S_far (p := ⟨gb898, 2, none⟩) (Kd.S_far (p := ⟨gb898, 1, none⟩) (Kd.S_far (p := ⟨gb898, 0, none⟩) (Kd.S_types (Kd.S_types HO897.out BK898.out (by decide)) BK899.out (by decide)) (fun _ hk => hk.1.2) (.int .i64 t881)) (fun _ hk => hk.1.2) (.int .i64 t882)) (fun _ hk => hk.1.2) (.int .i64 t883)) (fun _ hk => hk.1.2) (.int .i64 t884)) (fun _ hk => hk.1.2) (.int .i64 t885)) (fun _ hk => hk.1.2) (.slice Ao65 t886.length co65)) (fun _ hk => hk.2)) (fun _ h_ => h_.1)) (fun _ h_ => h_.1)))) hb); have HO907 := Aside0.mk (Kd.R_lower (Kd.R_gez hz906 ho0) (below_size (hs_ HB.out))); have HO910 := Aside0.mk (Kd.R_lower (Kd.R_gez hz906 ho1) (below_size (hs_ HB.out))); replace BK853 := bk2_ BK853 hb; replace BK870 := bk2_ BK870 hb; replace BK871 := bk2_ BK871 hb; replace BK880 := bk2_ BK880 hb; replace BK898 := Aside0.mk (blk_below (g := gb898) (o := .cells #[.int .i64 t881, .int .i64 t882, .int .i64 t883, .int .i64 t884, .int .i64 t885, .slice Ao65 t886.length co65] 26 (0, 0)) (bp_ BK898.out) hb); replace BK899 := Aside0.mk (blk_below (g := gb899) (o := .cells #[.int .i64 t889, .slice Ao71 t890.length co71, .int .i64 t893, .int .i64 t894, .slice Ao72 t895.length co72] 33 (0, 0)) (bp_ BK899.out) hb); replace HB := st_ HB hb; (try clear hb); (try clear hk); (try clear ho0); (try clear ho1)) | ((with_reducible refine gd_ 9 rfl ?_); refine bv_ 9 #[.int .i64 0, .int .i64 0, .int .i64 0, .int .i64 0, .int .i64 0, .slice none 0 0] 26 ?_; intro gb914 hg w74 hbox hb; replace HO852 := rb_ HO852 hb; replace HO861 := rb_ HO861 hb; replace HO869 := rb_ HO869 hb; replace HO879 := rb_ HO879 hb; replace HO888 := rb_ HO888 hb; replace HO892 := rb_ HO892 hb; replace HO897 := sb_ HO897 hb; replace HO907 := rb_ HO907 hb; replace HO910 := rb_ HO910 hb; have BK914 := Aside0.mk (hbox); have GW914 := Ge_.mk ((gw_ hg (hs_ HB.out))); have GE914 := Ge_.mk ((gw_ hg (hs_ HB.out))); replace HB := st_ HB hb; have NB853_914 := nk_ BK853 hg; replace BK853 := bk2_ BK853 hb; have NB914_853 := ns_ NB853_914; have NB870_914 := nk_ BK870 hg; replace BK870 := bk2_ BK870 hb; have NB914_870 := ns_ NB870_914; have NB871_914 := nk_ BK871 hg; replace BK871 := bk2_ BK871 hb; have NB914_871 := ns_ NB871_914; have NB880_914 := nk_ BK880 hg; replace BK880 := bk2_ BK880 hb; have NB914_880 := ns_ NB880_914; have NB898_914 := nk_ BK898 hg; replace BK898 := bk2_ BK898 hb; have NB914_898 := ns_ NB898_914; have NB899_914 := nk_ BK899 hg; replace BK899 := bk2_ BK899 hb; have NB914_899 := ns_ NB899_914; clear hb hbox hg) | ((with_reducible refine gd_ 10 rfl ?_); refine bv_ 10 #[.slice none 0 0, .int .i64 0, .int .i64 0, .string (⟨#[]⟩ : ByteArray)] 37 ?_; intro gb915 hg w75 hbox hb; replace HO852 := rb_ HO852 hb; replace HO861 := rb_ HO861 hb; replace HO869 := rb_ HO869 hb; replace HO879 := rb_ HO879 hb; replace HO888 := rb_ HO888 hb; replace HO892 := rb_ HO892 hb; replace HO897 := Aside0.mk (Kd.S_below (Kd.S_elderB (sp_ HO897.out) gb915 (Nat.le_of_eq hg.symm)) hb); replace HO907 := rb_ HO907 hb; replace HO910 := rb_ HO910 hb; have BK915 := Aside0.mk (hbox); have GW915 := Ge_.mk ((gw_ hg (hs_ HB.out))); have GE915 := Ge_.mk ((gw_ hg (hs_ HB.out))); replace HB := st_ HB hb; have NB853_915 := nk_ BK853 hg; replace BK853 := bk2_ BK853 hb; have NB915_853 := ns_ NB853_915; have NB870_915 := nk_ BK870 hg; replace BK870 := bk2_ BK870 hb; have NB915_870 := ns_ NB870_915; have NB871_915 := nk_ BK871 hg; replace BK871 := bk2_ BK871 hb; have NB915_871 := ns_ NB871_915; have NB880_915 := nk_ BK880 hg; replace BK880 := bk2_ BK880 hb; have NB915_880 := ns_ NB880_915; have NB898_915 := nk_ BK898 hg; replace BK898 := bk2_ BK898 hb; have NB915_898 := ns_ NB898_915; have NB899_915 := nk_ BK899 hg; replace BK899 := bk2_ BK899 hb; have NB915_899 := ns_ NB899_915; have NB914_915 := nk_ BK914 hg; replace BK914 := bk2_ BK914 hb; have NB915_914 := ns_ NB914_915; clear hb hbox hg; have hnb76 := NB914_853.out; have hnc76 := NB853_914.out; have hnb77 := NB914_870.out; have hnc77 := NB870_914.out; have hnb78 := NB914_871.out; have hnc78 := NB871_914.out; have hnb79 := NB914_880.out; have hnc79 := NB880_914.out; have hnb80 := NB914_898.out; have hnc80 := NB898_914.out; have hnb81 := NB914_899.out; have hnc81 := NB899_914.out; have hnb82 := NB914_915.out; have hnc82 := NB915_914.out; obtain ⟨z83_0, z83_1, z83_2, z83_3, z83_4, z83_5, y83_0, y83_1, y83_2, y83_3, y83_4, y83_5⟩ := bc6_ BK914.out; obtain ⟨Ao84, co84, eo84⟩ := Kd.R_slice HO907.out; subst eo84; obtain ⟨Ao85, co85, eo85⟩ := Kd.R_slice HO910.out; subst eo85; have hnb86 := NB915_853.out; have hnc86 := NB853_915.out; have hnb87 := NB915_870.out; have hnc87 := NB870_915.out; have hnb88 := NB915_871.out; have hnc88 := NB871_915.out; have hnb89 := NB915_880.out; have hnc89 := NB880_915.out; have hnb90 := NB915_898.out; have hnc90 := NB898_915.out; have hnb91 := NB915_899.out; have hnc91 := NB899_915.out; obtain ⟨z92_0, z92_1, z92_2, z92_3, y92_0, y92_1, y92_2, y92_3⟩ := bc4_ BK915.out))
         generalize hw_ : ((((((((((w75.setCell ⟨gb914, 0, none⟩ (.int .i64 t900)).setCell ⟨gb914, 1, none⟩ (.int .i64 t901)).setCell ⟨gb914, 2, none⟩ (.int .i64 t902)).setCell ⟨gb914, 3, none⟩ (.int .i64 t903)).setCell ⟨gb914, 4, none⟩ (.int .i64 t904)).setCell ⟨gb914, 5, none⟩ (.slice Ao84 t905.length co84)).setCell ⟨gb915, 0, none⟩ (.slice Ao85 t908.length co85)).setCell ⟨gb915, 1, none⟩ (.int .i64 t911)).setCell ⟨gb915, 2, none⟩ (.int .i64 t912)).setCell ⟨gb915, 3, none⟩ (.string t913)) = w93
         have n0_ : Aside0 (Kd.R Kd.string 9 w93 w.heap.size (fun k_ => gbz851 ≤ k_ ∧ k_ < gbz860 ∧ k_ < gbz878 ∧ k_ < gbz887 ∧ k_ < gbz906) (.slice Ao38 t850.length co38) t850) := ⟨by rw [← hw_]; exact (Kd.R_mono (rf_ gb915 (Kd.R_far (p := ⟨gb914, 5, none⟩) (Kd.R_far (p := ⟨gb914, 4, none⟩) (Kd.R_far (p := ⟨gb914, 3, none⟩) (Kd.R_far (p := ⟨gb914, 2, none⟩) (Kd.R_far (p := ⟨gb914, 1, none⟩) (Kd.R_far (p := ⟨gb914, 0, none⟩) (Kd.R_types (Kd.R_types HO852.out BK914.out (by decide)) BK915.out (by decide)) (fun _ hk => hk.1.2) (.int .i64 t900)) (fun _ hk => hk.1.2) (.int .i64 t901)) (fun _ hk => hk.1.2) (.int .i64 t902)) (fun _ hk => hk.1.2) (.int .i64 t903)) (fun _ hk => hk.1.2) (.int .i64 t904)) (fun _ hk => hk.1.2) (.slice Ao84 t905.length co84)) (fun _ hk => hk.2)) (fun _ hk => ⟨hk.1.1.1.1.1.1.2, ⟨hk.1.1.1.1.1.2, ⟨hk.1.1.1.1.2, ⟨hk.1.1.1.2, hk.1.1.2⟩⟩⟩⟩))⟩
         have n1_ : Aside0 (Kd.R Kd.string 9 w93 w.heap.size (fun k_ => some k_ ≠ (.slice Ao48 t867.length co48 : Value).ownBlock ∧ gbz860 ≤ k_ ∧ k_ < gbz878 ∧ k_ < gbz887 ∧ k_ < gbz906) (.slice Ao45 t859.length co45) t859) := ⟨by rw [← hw_]; exact (Kd.R_mono (rf_ gb915 (Kd.R_far (p := ⟨gb914, 5, none⟩) (Kd.R_far (p := ⟨gb914, 4, none⟩) (Kd.R_far (p := ⟨gb914, 3, none⟩) (Kd.R_far (p := ⟨gb914, 2, none⟩) (Kd.R_far (p := ⟨gb914, 1, none⟩) (Kd.R_far (p := ⟨gb914, 0, none⟩) (Kd.R_types (Kd.R_types HO861.out BK914.out (by decide)) BK915.out (by decide)) (fun _ hk => hk.1.2) (.int .i64 t900)) (fun _ hk => hk.1.2) (.int .i64 t901)) (fun _ hk => hk.1.2) (.int .i64 t902)) (fun _ hk => hk.1.2) (.int .i64 t903)) (fun _ hk => hk.1.2) (.int .i64 t904)) (fun _ hk => hk.1.2) (.slice Ao84 t905.length co84)) (fun _ hk => hk.2)) (fun _ hk => ⟨hk.1.1.1.1.1.1, ⟨hk.1.1.1.1.1.2, ⟨hk.1.1.1.1.2, ⟨hk.1.1.1.2, hk.1.1.2⟩⟩⟩⟩))⟩
         have n2_ : Aside0 (Kd.R Kd.string 9 w93 w.heap.size (fun k_ => some k_ ≠ (.slice Ao45 t859.length co45 : Value).ownBlock ∧ gbz860 ≤ k_ ∧ k_ < gbz878 ∧ k_ < gbz887 ∧ k_ < gbz906) (.slice Ao48 t867.length co48) t867) := ⟨by rw [← hw_]; exact (Kd.R_mono (rf_ gb915 (Kd.R_far (p := ⟨gb914, 5, none⟩) (Kd.R_far (p := ⟨gb914, 4, none⟩) (Kd.R_far (p := ⟨gb914, 3, none⟩) (Kd.R_far (p := ⟨gb914, 2, none⟩) (Kd.R_far (p := ⟨gb914, 1, none⟩) (Kd.R_far (p := ⟨gb914, 0, none⟩) (Kd.R_types (Kd.R_types HO869.out BK914.out (by decide)) BK915.out (by decide)) (fun _ hk => hk.1.2) (.int .i64 t900)) (fun _ hk => hk.1.2) (.int .i64 t901)) (fun _ hk => hk.1.2) (.int .i64 t902)) (fun _ hk => hk.1.2) (.int .i64 t903)) (fun _ hk => hk.1.2) (.int .i64 t904)) (fun _ hk => hk.1.2) (.slice Ao84 t905.length co84)) (fun _ hk => hk.2)) (fun _ hk => ⟨hk.1.1.1.1.1.1, ⟨hk.1.1.1.1.1.2, ⟨hk.1.1.1.1.2, ⟨hk.1.1.1.2, hk.1.1.2⟩⟩⟩⟩))⟩
         have n3_ : Aside0 (Kd.R Kd.string 9 w93 w.heap.size (fun k_ => gbz878 ≤ k_ ∧ k_ < gbz887 ∧ k_ < gbz906) (.slice Ao55 t877.length co55) t877) := ⟨by rw [← hw_]; exact (Kd.R_mono (rf_ gb915 (Kd.R_far (p := ⟨gb914, 5, none⟩) (Kd.R_far (p := ⟨gb914, 4, none⟩) (Kd.R_far (p := ⟨gb914, 3, none⟩) (Kd.R_far (p := ⟨gb914, 2, none⟩) (Kd.R_far (p := ⟨gb914, 1, none⟩) (Kd.R_far (p := ⟨gb914, 0, none⟩) (Kd.R_types (Kd.R_types HO879.out BK914.out (by decide)) BK915.out (by decide)) (fun _ hk => hk.1.2) (.int .i64 t900)) (fun _ hk => hk.1.2) (.int .i64 t901)) (fun _ hk => hk.1.2) (.int .i64 t902)) (fun _ hk => hk.1.2) (.int .i64 t903)) (fun _ hk => hk.1.2) (.int .i64 t904)) (fun _ hk => hk.1.2) (.slice Ao84 t905.length co84)) (fun _ hk => hk.2)) (fun _ hk => ⟨hk.1.1.1.1.2, ⟨hk.1.1.1.2, hk.1.1.2⟩⟩))⟩
         have n4_ : Aside0 (Kd.R Kd.string 9 w93 w.heap.size (fun k_ => gbz887 ≤ k_ ∧ k_ < gbz906) (.slice Ao65 t886.length co65) t886) := ⟨by rw [← hw_]; exact (Kd.R_mono (rf_ gb915 (Kd.R_far (p := ⟨gb914, 5, none⟩) (Kd.R_far (p := ⟨gb914, 4, none⟩) (Kd.R_far (p := ⟨gb914, 3, none⟩) (Kd.R_far (p := ⟨gb914, 2, none⟩) (Kd.R_far (p := ⟨gb914, 1, none⟩) (Kd.R_far (p := ⟨gb914, 0, none⟩) (Kd.R_types (Kd.R_types HO888.out BK914.out (by decide)) BK915.out (by decide)) (fun _ hk => hk.1.2) (.int .i64 t900)) (fun _ hk => hk.1.2) (.int .i64 t901)) (fun _ hk => hk.1.2) (.int .i64 t902)) (fun _ hk => hk.1.2) (.int .i64 t903)) (fun _ hk => hk.1.2) (.int .i64 t904)) (fun _ hk => hk.1.2) (.slice Ao84 t905.length co84)) (fun _ hk => hk.2)) (fun _ hk => ⟨hk.1.1.1.2, hk.1.1.2⟩))⟩
         have n5_ : Aside0 (Kd.R k83 83 w93 w.heap.size (fun k_ => gbz887 ≤ k_ ∧ k_ < gbz906) (.slice Ao71 t890.length co71) t890) := ⟨by rw [← hw_]; exact (Kd.R_mono (rf_ gb915 (Kd.R_far (p := ⟨gb914, 5, none⟩) (Kd.R_far (p := ⟨gb914, 4, none⟩) (Kd.R_far (p := ⟨gb914, 3, none⟩) (Kd.R_far (p := ⟨gb914, 2, none⟩) (Kd.R_far (p := ⟨gb914, 1, none⟩) (Kd.R_far (p := ⟨gb914, 0, none⟩) (Kd.R_types (Kd.R_types HO892.out BK914.out (by decide)) BK915.out (by decide)) (fun _ hk => hk.1.2) (.int .i64 t900)) (fun _ hk => hk.1.2) (.int .i64 t901)) (fun _ hk => hk.1.2) (.int .i64 t902)) (fun _ hk => hk.1.2) (.int .i64 t903)) (fun _ hk => hk.1.2) (.int .i64 t904)) (fun _ hk => hk.1.2) (.slice Ao84 t905.length co84)) (fun _ hk => hk.2)) (fun _ hk => ⟨hk.1.1.1.2, hk.1.1.2⟩))⟩
         have n6_ : Aside0 (Kd.S k37 37 w93 w.heap.size (fun k_ => some k_ ≠ (.slice Ao71 t890.length co71 : Value).ownBlock ∧ gbz887 ≤ k_ ∧ k_ < gbz906 ∧ k_ ≠ gb915) (.slice Ao72 t895.length co72) t895) := ⟨by rw [← hw_]; exact (Kd.S_mono (sf_ gb915 (Kd.S_far (p := ⟨gb914, 5, none⟩) (Kd.S_far (p := ⟨gb914, 4, none⟩) (Kd.S_far (p := ⟨gb914, 3, none⟩) (Kd.S_far (p := ⟨gb914, 2, none⟩) (Kd.S_far (p := ⟨gb914, 1, none⟩) (Kd.S_far (p := ⟨gb914, 0, none⟩) (Kd.S_mono (Kd.S_types HO897.out BK914.out (by decide)) (fun k_ hk => (⟨hk, hk.1.2⟩ : _ ∧ k_ ≠ gb915))) (fun _ hk => hk.1.2) (.int .i64 t900)) (fun _ hk => hk.1.2) (.int .i64 t901)) (fun _ hk => hk.1.2) (.int .i64 t902)) (fun _ hk => hk.1.2) (.int .i64 t903)) (fun _ hk => hk.1.2) (.int .i64 t904)) (fun _ hk => hk.1.2) (.slice Ao84 t905.length co84)) (fun _ hk => hk.2)) (fun _ hk => ⟨hk.1.1.1.1.1, ⟨hk.1.1.1.1.2, ⟨hk.1.1.1.2, hk.1.1.2⟩⟩⟩))⟩
         have n7_ : Aside0 (Kd.R Kd.string 9 w93 w.heap.size (fun k_ => gbz906 ≤ k_) (.slice Ao84 t905.length co84) t905) := ⟨by rw [← hw_]; exact (Kd.R_mono (rf_ gb915 (Kd.R_far (p := ⟨gb914, 5, none⟩) (Kd.R_far (p := ⟨gb914, 4, none⟩) (Kd.R_far (p := ⟨gb914, 3, none⟩) (Kd.R_far (p := ⟨gb914, 2, none⟩) (Kd.R_far (p := ⟨gb914, 1, none⟩) (Kd.R_far (p := ⟨gb914, 0, none⟩) (Kd.R_types (Kd.R_types HO907.out BK914.out (by decide)) BK915.out (by decide)) (fun _ hk => hk.1.2) (.int .i64 t900)) (fun _ hk => hk.1.2) (.int .i64 t901)) (fun _ hk => hk.1.2) (.int .i64 t902)) (fun _ hk => hk.1.2) (.int .i64 t903)) (fun _ hk => hk.1.2) (.int .i64 t904)) (fun _ hk => hk.1.2) (.slice Ao84 t905.length co84)) (fun _ hk => hk.2)) (fun _ hk => hk.1.1.2))⟩
         have n8_ : Aside0 (Kd.R k83 83 w93 w.heap.size (fun k_ => gbz906 ≤ k_) (.slice Ao85 t908.length co85) t908) := ⟨by rw [← hw_]; exact (Kd.R_mono (rf_ gb915 (Kd.R_far (p := ⟨gb914, 5, none⟩) (Kd.R_far (p := ⟨gb914, 4, none⟩) (Kd.R_far (p := ⟨gb914, 3, none⟩) (Kd.R_far (p := ⟨gb914, 2, none⟩) (Kd.R_far (p := ⟨gb914, 1, none⟩) (Kd.R_far (p := ⟨gb914, 0, none⟩) (Kd.R_types (Kd.R_types HO910.out BK914.out (by decide)) BK915.out (by decide)) (fun _ hk => hk.1.2) (.int .i64 t900)) (fun _ hk => hk.1.2) (.int .i64 t901)) (fun _ hk => hk.1.2) (.int .i64 t902)) (fun _ hk => hk.1.2) (.int .i64 t903)) (fun _ hk => hk.1.2) (.int .i64 t904)) (fun _ hk => hk.1.2) (.slice Ao84 t905.length co84)) (fun _ hk => hk.2)) (fun _ hk => hk.1.1.2))⟩
         have n9_ : Aside0 (w93.heap[gb853]? = some (.cells #[.int .i64 t845, .int .i64 t846, .int .i64 t847, .int .i64 t848, .int .i64 t849, .slice Ao38 t850.length co38] 26 (0, 0))) := ⟨by rw [← hw_]; exact (bq_ BK853.out)⟩
         have n10_ : Aside0 (w93.heap[gb870]? = some (.cells #[.int .i64 t854, .int .i64 t855, .int .i64 t856, .int .i64 t857, .int .i64 t858, .slice Ao45 t859.length co45] 26 (0, 0))) := ⟨by rw [← hw_]; exact (bq_ BK870.out)⟩
         have n11_ : Aside0 (w93.heap[gb871]? = some (.cells #[.int .i64 t862, .int .i64 t863, .int .i64 t864, .int .i64 t865, .int .i64 t866, .slice Ao48 t867.length co48] 26 (0, 0))) := ⟨by rw [← hw_]; exact (bq_ BK871.out)⟩
         have n12_ : Aside0 (w93.heap[gb880]? = some (.cells #[.int .i64 t872, .int .i64 t873, .int .i64 t874, .int .i64 t875, .int .i64 t876, .slice Ao55 t877.length co55] 26 (0, 0))) := ⟨by rw [← hw_]; exact (bq_ BK880.out)⟩
         have n13_ : Aside0 (w93.heap[gb898]? = some (.cells #[.int .i64 t881, .int .i64 t882, .int .i64 t883, .int .i64 t884, .int .i64 t885, .slice Ao65 t886.length co65] 26 (0, 0))) := ⟨by rw [← hw_]; exact (bq_ BK898.out)⟩
         have n14_ : Aside0 (w93.heap[gb899]? = some (.cells #[.int .i64 t889, .slice Ao71 t890.length co71, .int .i64 t893, .int .i64 t894, .slice Ao72 t895.length co72] 33 (0, 0))) := ⟨by rw [← hw_]; exact (bq_ BK899.out)⟩
         have n15_ : Aside0 (w93.heap[gb914]? = some (.cells #[.int .i64 t900, .int .i64 t901, .int .i64 t902, .int .i64 t903, .int .i64 t904, .slice Ao84 t905.length co84] 26 (0, 0))) := ⟨by rw [← hw_]; exact (bp_ BK914.out)⟩
         have n16_ : Aside0 (w93.heap[gb915]? = some (.cells #[.slice Ao85 t908.length co85, .int .i64 t911, .int .i64 t912, .string t913] 37 (0, 0))) := ⟨by rw [← hw_]; exact (bp_ BK915.out)⟩
         have n17_ : Aside0 (Below w.heap.size w w93) := ⟨by rw [← hw_]; exact (hs_ HB.out)⟩
         clear hw_
         (try clear HO852)
         (try clear HO861)
         (try clear HO869)
         (try clear HO879)
         (try clear HO888)
         (try clear HO892)
         (try clear HO897)
         (try clear HO907)
         (try clear HO910)
         (try clear BK853)
         (try clear BK870)
         (try clear BK871)
         (try clear BK880)
         (try clear BK898)
         (try clear BK899)
         (try clear BK914)
         (try clear BK915)
         (try clear HB)
         have HO852 := n0_
         have HO861 := n1_
         have HO869 := n2_
         have HO879 := n3_
         have HO888 := n4_
         have HO892 := n5_
         have HO897 := n6_
         have HO907 := n7_
         have HO910 := n8_
         have BK853 := n9_
         have BK870 := n10_
         have BK871 := n11_
         have BK880 := n12_
         have BK898 := n13_
         have BK899 := n14_
         have BK914 := n15_
         have BK915 := n16_
         have HB := n17_
         clear n0_ n1_ n2_ n3_ n4_ n5_ n6_ n7_ n8_ n9_ n10_ n11_ n12_ n13_ n14_ n15_ n16_ n17_
         replace HO852 := Aside0.mk (Kd.R_drew HO852.out)
         replace HO861 := Aside0.mk (Kd.R_drew HO861.out)
         replace HO869 := Aside0.mk (Kd.R_drew HO869.out)
         replace HO879 := Aside0.mk (Kd.R_drew HO879.out)
         replace HO888 := Aside0.mk (Kd.R_drew HO888.out)
         replace HO892 := Aside0.mk (Kd.R_drew HO892.out)
         replace HO897 := Aside0.mk (Kd.S_drew HO897.out)
         replace HO907 := Aside0.mk (Kd.R_drew HO907.out)
         replace HO910 := Aside0.mk (Kd.R_drew HO910.out)
         replace BK853 := Aside0.mk (blk_drew BK853.out)
         replace BK870 := Aside0.mk (blk_drew BK870.out)
         replace BK871 := Aside0.mk (blk_drew BK871.out)
         replace BK880 := Aside0.mk (blk_drew BK880.out)
         replace BK898 := Aside0.mk (blk_drew BK898.out)
         replace BK899 := Aside0.mk (blk_drew BK899.out)
         replace BK914 := Aside0.mk (blk_drew BK914.out)
         replace BK915 := Aside0.mk (blk_drew BK915.out)
         replace HB := Aside0.mk (bd_ HB.out)
         refine start_ (n := 75) (S := fun w' => w'.cell? ⟨gb853, 0, none⟩ = some (.int .i64 t845) ∧ w'.cell? ⟨gb853, 1, none⟩ = some (.int .i64 t846) ∧ w'.cell? ⟨gb853, 2, none⟩ = some (.int .i64 t847) ∧ w'.cell? ⟨gb853, 3, none⟩ = some (.int .i64 t848) ∧ w'.cell? ⟨gb853, 4, none⟩ = some (.int .i64 t849) ∧ w'.cell? ⟨gb853, 5, none⟩ = some (.slice Ao38 t850.length co38) ∧ w'.cell? ⟨gb870, 0, none⟩ = some (.int .i64 t854) ∧ w'.cell? ⟨gb870, 1, none⟩ = some (.int .i64 t855) ∧ w'.cell? ⟨gb870, 2, none⟩ = some (.int .i64 t856) ∧ w'.cell? ⟨gb870, 3, none⟩ = some (.int .i64 t857) ∧ w'.cell? ⟨gb870, 4, none⟩ = some (.int .i64 t858) ∧ w'.cell? ⟨gb870, 5, none⟩ = some (.slice Ao45 t859.length co45) ∧ w'.cell? ⟨gb871, 0, none⟩ = some (.int .i64 t862) ∧ w'.cell? ⟨gb871, 1, none⟩ = some (.int .i64 t863) ∧ w'.cell? ⟨gb871, 2, none⟩ = some (.int .i64 t864) ∧ w'.cell? ⟨gb871, 3, none⟩ = some (.int .i64 t865) ∧ w'.cell? ⟨gb871, 4, none⟩ = some (.int .i64 t866) ∧ w'.cell? ⟨gb871, 5, none⟩ = some (.slice Ao48 t867.length co48) ∧ w'.cell? ⟨gb880, 0, none⟩ = some (.int .i64 t872) ∧ w'.cell? ⟨gb880, 1, none⟩ = some (.int .i64 t873) ∧ w'.cell? ⟨gb880, 2, none⟩ = some (.int .i64 t874) ∧ w'.cell? ⟨gb880, 3, none⟩ = some (.int .i64 t875) ∧ w'.cell? ⟨gb880, 4, none⟩ = some (.int .i64 t876) ∧ w'.cell? ⟨gb880, 5, none⟩ = some (.slice Ao55 t877.length co55) ∧ w'.cell? ⟨gb898, 0, none⟩ = some (.int .i64 t881) ∧ w'.cell? ⟨gb898, 1, none⟩ = some (.int .i64 t882) ∧ w'.cell? ⟨gb898, 2, none⟩ = some (.int .i64 t883) ∧ w'.cell? ⟨gb898, 3, none⟩ = some (.int .i64 t884) ∧ w'.cell? ⟨gb898, 4, none⟩ = some (.int .i64 t885) ∧ w'.cell? ⟨gb898, 5, none⟩ = some (.slice Ao65 t886.length co65) ∧ w'.cell? ⟨gb899, 0, none⟩ = some (.int .i64 t889) ∧ w'.cell? ⟨gb899, 1, none⟩ = some (.slice Ao71 t890.length co71) ∧ w'.cell? ⟨gb899, 2, none⟩ = some (.int .i64 t893) ∧ w'.cell? ⟨gb899, 3, none⟩ = some (.int .i64 t894) ∧ w'.cell? ⟨gb899, 4, none⟩ = some (.slice Ao72 t895.length co72) ∧ w'.cell? ⟨gb914, 0, none⟩ = some (.int .i64 t900) ∧ w'.cell? ⟨gb914, 1, none⟩ = some (.int .i64 t901) ∧ w'.cell? ⟨gb914, 2, none⟩ = some (.int .i64 t902) ∧ w'.cell? ⟨gb914, 3, none⟩ = some (.int .i64 t903) ∧ w'.cell? ⟨gb914, 4, none⟩ = some (.int .i64 t904) ∧ w'.cell? ⟨gb914, 5, none⟩ = some (.slice Ao84 t905.length co84) ∧ w'.cell? ⟨gb915, 0, none⟩ = some (.slice Ao85 t908.length co85) ∧ w'.cell? ⟨gb915, 1, none⟩ = some (.int .i64 t911) ∧ w'.cell? ⟨gb915, 2, none⟩ = some (.int .i64 t912) ∧ w'.cell? ⟨gb915, 3, none⟩ = some (.string t913)) (ds := []) (b_ 0 75) (by kernel_rfl) rfl rfl ⟨bx_ BK853.out 0, bx_ BK853.out 1, bx_ BK853.out 2, bx_ BK853.out 3, bx_ BK853.out 4, bx_ BK853.out 5, bx_ BK870.out 0, bx_ BK870.out 1, bx_ BK870.out 2, bx_ BK870.out 3, bx_ BK870.out 4, bx_ BK870.out 5, bx_ BK871.out 0, bx_ BK871.out 1, bx_ BK871.out 2, bx_ BK871.out 3, bx_ BK871.out 4, bx_ BK871.out 5, bx_ BK880.out 0, bx_ BK880.out 1, bx_ BK880.out 2, bx_ BK880.out 3, bx_ BK880.out 4, bx_ BK880.out 5, bx_ BK898.out 0, bx_ BK898.out 1, bx_ BK898.out 2, bx_ BK898.out 3, bx_ BK898.out 4, bx_ BK898.out 5, bx_ BK899.out 0, bx_ BK899.out 1, bx_ BK899.out 2, bx_ BK899.out 3, bx_ BK899.out 4, bx_ BK914.out 0, bx_ BK914.out 1, bx_ BK914.out 2, bx_ BK914.out 3, bx_ BK914.out 4, bx_ BK914.out 5, bx_ BK915.out 0, bx_ BK915.out 1, bx_ BK915.out 2, bx_ BK915.out 3⟩ (fun hHeld => ?_); refine with_tabW laws_FnConfs.tab8 laws_FnConfs.bits8 (fun HT_ HW_ => ?_)
         generalize w93.drew = w94 at HO852 HO861 HO869 HO879 HO888 HO892 HO897 HO907 HO910 BK853 BK870 BK871 BK880 BK898 BK899 BK914 BK915 HB hHeld ⊢
         refine take_ (i := 0) (N := some 32) (v := ?_) (a' := ?_) (b_ 1 74) rfl rfl (take_ofW HT_.out HW_.out (by kernel_rfl)) (fun _ _ _ h => h) (Or.inl ⟨by rfl, ?_⟩) hHeld ?_ ?_
         rotate_left
         ·
          rintro w' ⟨s0, s1, s2, s3, s4, s5, s6, s7, s8, s9, s10, s11, s12, s13, s14, s15, s16, s17, s18, s19, s20, s21, s22, s23, s24, s25, s26, s27, s28, s29, s30, s31, s32, s33, s34, s35, s36, s37, s38, s39, s40, s41, s42, s43, s44⟩
          go_simp
          with_reducible rfl
         rotate_left
         ·
          simp only [fr_]
          rfl
         refine take_ (i := 2) (N := some 34) (v := ?_) (a' := ?_) #[t_,f_,t_,f_,f_,f_,f_,f_,f_,f_,f_,f_,f_,f_,f_,f_,f_,f_,f_,f_,f_,f_,f_,f_,f_,f_,f_,f_,f_,f_,f_,f_,f_,f_,f_,f_,f_,f_,f_,f_,f_,f_,f_,f_,f_,f_,f_,f_,f_,f_,f_,f_,f_,f_,f_,f_,f_,f_,f_,f_,f_,f_,f_,f_,f_,f_,f_,f_,f_,f_,f_,f_,f_,f_,f_] rfl rfl (take_ofW HT_.out HW_.out (by kernel_rfl)) (fun _ _ _ h => h) (Or.inl ⟨by rfl, ?_⟩) hHeld ?_ ?_
         rotate_left
         ·
          rintro w' ⟨s0, s1, s2, s3, s4, s5, s6, s7, s8, s9, s10, s11, s12, s13, s14, s15, s16, s17, s18, s19, s20, s21, s22, s23, s24, s25, s26, s27, s28, s29, s30, s31, s32, s33, s34, s35, s36, s37, s38, s39, s40, s41, s42, s43, s44⟩
          go_simp
          with_reducible rfl
         rotate_left
         ·
          simp only [fr_]
          rfl
         refine one_ (i := 1) (N := some 33) (b_ 3 72) rfl rfl (one_of HT_.out (by kernel_rfl)) (by decide) (fun K hK => ?_)
         refine gs_ Tryd.func10 #[.agg #[.int .i64 t845, .int .i64 t846, .int .i64 t847, .int .i64 t848, .int .i64 t849, .slice Ao38 t850.length co38]] ?_
         with_reducible refine (impl_ConfOk.calls k t845 t846 t847 t848 t849 _ _ t850 t916 _ ?side1 ?side2 A9.out).mono ?_
         (case side1 => exact cp_ ((Kd.R_reads' HO852.out).2.2))
         (case side2 => exact (Kd.R_reads' HO852.out).2.1)
         rintro e w95 ⟨rfl, hb⟩
         refine ⟨_, rfl, ?_⟩
         replace HO852 := rb_ HO852 hb
         replace HO861 := rb_ HO861 hb
         replace HO869 := rb_ HO869 hb
         replace HO879 := rb_ HO879 hb
         replace HO888 := rb_ HO888 hb
         replace HO892 := rb_ HO892 hb
         replace HO897 := sb_ HO897 hb
         replace HO907 := rb_ HO907 hb
         replace HO910 := rb_ HO910 hb
         replace BK853 := bk2_ BK853 hb
         replace BK870 := bk2_ BK870 hb
         replace BK871 := bk2_ BK871 hb
         replace BK880 := bk2_ BK880 hb
         replace BK898 := bk2_ BK898 hb
         replace BK899 := bk2_ BK899 hb
         replace BK914 := bk2_ BK914 hb
         replace BK915 := bk2_ BK915 hb
         replace HB := st_ HB hb
         (try clear hb)
         (try clear hk)
         refine hK.out _ _ (f6_ BK853.out (f6_ BK870.out (f6_ BK871.out (f6_ BK880.out (f6_ BK898.out (f5_ BK899.out (f6_ BK914.out (e4_ BK915.out)))))))) (fun hHeld => ?_)
         clear hK K
         refine norm_ (a' := ?_) ?_ ?_
         rotate_left
         ·
          show Act.put _ (some 33) _ = _
          simp only [fr_]
          rfl
         refine one_ (i := 3) (N := some 35) (b_ 4 71) rfl rfl (one_of HT_.out (by kernel_rfl)) (by decide) (fun K hK => ?_)
         refine gs_ Tryd.func11 #[.agg #[.int .i64 t845, .int .i64 t846, .int .i64 t847, .int .i64 t848, .int .i64 t849, .slice Ao38 t850.length co38]] ?_
         with_reducible refine (spec_ConfOk.calls k t845 t846 t847 t848 t849 _ _ t850 t917 _ ?side1 ?side2 A10.out).mono ?_
         (case side1 => exact cp_ ((Kd.R_reads' HO852.out).2.2))
         (case side2 => exact (Kd.R_reads' HO852.out).2.1)
         rintro e w96 ⟨rfl, hb⟩
         refine ⟨_, rfl, ?_⟩
         replace HO852 := rb_ HO852 hb
         replace HO861 := rb_ HO861 hb
         replace HO869 := rb_ HO869 hb
         replace HO879 := rb_ HO879 hb
         replace HO888 := rb_ HO888 hb
         replace HO892 := rb_ HO892 hb
         replace HO897 := sb_ HO897 hb
         replace HO907 := rb_ HO907 hb
         replace HO910 := rb_ HO910 hb
         replace BK853 := bk2_ BK853 hb
         replace BK870 := bk2_ BK870 hb
         replace BK871 := bk2_ BK871 hb
         replace BK880 := bk2_ BK880 hb
         replace BK898 := bk2_ BK898 hb
         replace BK899 := bk2_ BK899 hb
         replace BK914 := bk2_ BK914 hb
         replace BK915 := bk2_ BK915 hb
         replace HB := st_ HB hb
         (try clear hb)
         (try clear hk)
         refine hK.out _ _ (f6_ BK853.out (f6_ BK870.out (f6_ BK871.out (f6_ BK880.out (f6_ BK898.out (f5_ BK899.out (f6_ BK914.out (e4_ BK915.out)))))))) (fun hHeld => ?_)
         clear hK K
         refine norm_ (a' := ?_) ?_ ?_
         rotate_left
         ·
          show Act.put _ (some 35) _ = _
          simp only [fr_]
          rfl
         refine pw_ 4 36 (b_ 5 70) rfl rfl HT_.out ?_
         refine pw_ 5 37 (b_ 6 69) rfl rfl HT_.out ?_
         refine take_ (i := 6) (N := some 38) (v := ?_) (a' := ?_) (b_ 7 68) rfl rfl (take_ofW HT_.out HW_.out (by kernel_rfl)) (fun _ _ _ h => h) (Or.inl ⟨by rfl, ?_⟩) hHeld ?_ ?_
         rotate_left
         ·
          rintro w' ⟨s0, s1, s2, s3, s4, s5, s6, s7, s8, s9, s10, s11, s12, s13, s14, s15, s16, s17, s18, s19, s20, s21, s22, s23, s24, s25, s26, s27, s28, s29, s30, s31, s32, s33, s34, s35, s36, s37, s38, s39, s40, s41, s42, s43, s44⟩
          go_simp
          with_reducible rfl
         rotate_left
         ·
          simp only [fr_]
          rfl
         refine take_ (i := 7) (N := some 39) (v := ?_) (a' := ?_) (b_ 8 67) rfl rfl (take_ofW HT_.out HW_.out (by kernel_rfl)) (fun _ _ _ h => h) (Or.inl ⟨by rfl, ?_⟩) hHeld ?_ ?_
         rotate_left
         ·
          rintro w' ⟨s0, s1, s2, s3, s4, s5, s6, s7, s8, s9, s10, s11, s12, s13, s14, s15, s16, s17, s18, s19, s20, s21, s22, s23, s24, s25, s26, s27, s28, s29, s30, s31, s32, s33, s34, s35, s36, s37, s38, s39, s40, s41, s42, s43, s44⟩
          go_simp
          with_reducible rfl
         rotate_left
         ·
          simp only [fr_]
          rfl
         refine take_ (i := 9) (N := some 41) (v := ?_) (a' := ?_) #[t_,t_,t_,t_,t_,t_,t_,t_,f_,t_,f_,f_,f_,f_,f_,f_,f_,f_,f_,f_,f_,f_,f_,f_,f_,f_,f_,f_,f_,f_,f_,f_,f_,f_,f_,f_,f_,f_,f_,f_,f_,f_,f_,f_,f_,f_,f_,f_,f_,f_,f_,f_,f_,f_,f_,f_,f_,f_,f_,f_,f_,f_,f_,f_,f_,f_,f_,f_,f_,f_,f_,f_,f_,f_,f_] rfl rfl (take_ofW HT_.out HW_.out (by kernel_rfl)) (fun _ _ _ h => h) (Or.inl ⟨by rfl, ?_⟩) hHeld ?_ ?_
         rotate_left
         ·
          rintro w' ⟨s0, s1, s2, s3, s4, s5, s6, s7, s8, s9, s10, s11, s12, s13, s14, s15, s16, s17, s18, s19, s20, s21, s22, s23, s24, s25, s26, s27, s28, s29, s30, s31, s32, s33, s34, s35, s36, s37, s38, s39, s40, s41, s42, s43, s44⟩
          go_simp
          with_reducible rfl
         rotate_left
         ·
          simp only [fr_]
          rfl
         refine take_ (i := 10) (N := some 42) (v := ?_) (a' := ?_) #[t_,t_,t_,t_,t_,t_,t_,t_,f_,t_,t_,f_,f_,f_,f_,f_,f_,f_,f_,f_,f_,f_,f_,f_,f_,f_,f_,f_,f_,f_,f_,f_,f_,f_,f_,f_,f_,f_,f_,f_,f_,f_,f_,f_,f_,f_,f_,f_,f_,f_,f_,f_,f_,f_,f_,f_,f_,f_,f_,f_,f_,f_,f_,f_,f_,f_,f_,f_,f_,f_,f_,f_,f_,f_,f_] rfl rfl (take_ofW HT_.out HW_.out (by kernel_rfl)) (fun _ _ _ h => h) (Or.inl ⟨by rfl, ?_⟩) hHeld ?_ ?_
         rotate_left
         ·
          rintro w' ⟨s0, s1, s2, s3, s4, s5, s6, s7, s8, s9, s10, s11, s12, s13, s14, s15, s16, s17, s18, s19, s20, s21, s22, s23, s24, s25, s26, s27, s28, s29, s30, s31, s32, s33, s34, s35, s36, s37, s38, s39, s40, s41, s42, s43, s44⟩
          go_simp
          with_reducible rfl
         rotate_left
         ·
          simp only [fr_]
          rfl
         refine one_ (i := 8) (N := some 40) (b_ 11 64) rfl rfl (one_of HT_.out (by kernel_rfl)) (by decide) (fun K hK => ?_)
         refine gs_ Tryd.func12 #[.agg #[.int .i64 t854, .int .i64 t855, .int .i64 t856, .int .i64 t857, .int .i64 t858, .slice Ao45 t859.length co45], .agg #[.int .i64 t862, .int .i64 t863, .int .i64 t864, .int .i64 t865, .int .i64 t866, .slice Ao48 t867.length co48]] ?_
         with_reducible refine (impl_SameConf.calls k t854 t855 t856 t857 t858 _ _ t859 t862 t863 t864 t865 t866 _ _ t867 t918 _ ?side1 ?side2 ?side3 ?side4 A12.out).mono ?_
         (case side1 => exact cp_ ((Kd.R_reads' HO861.out).2.2))
         (case side2 => exact (Kd.R_reads' HO861.out).2.1)
         (case side3 => exact cp_ ((Kd.R_reads' HO869.out).2.2))
         (case side4 => exact (Kd.R_reads' HO869.out).2.1)
         rintro e w97 ⟨rfl, hb⟩
         refine ⟨_, rfl, ?_⟩
         replace HO852 := rb_ HO852 hb
         replace HO861 := rb_ HO861 hb
         replace HO869 := rb_ HO869 hb
         replace HO879 := rb_ HO879 hb
         replace HO888 := rb_ HO888 hb
         replace HO892 := rb_ HO892 hb
         replace HO897 := sb_ HO897 hb
         replace HO907 := rb_ HO907 hb
         replace HO910 := rb_ HO910 hb
         replace BK853 := bk2_ BK853 hb
         replace BK870 := bk2_ BK870 hb
         replace BK871 := bk2_ BK871 hb
         replace BK880 := bk2_ BK880 hb
         replace BK898 := bk2_ BK898 hb
         replace BK899 := bk2_ BK899 hb
         replace BK914 := bk2_ BK914 hb
         replace BK915 := bk2_ BK915 hb
         replace HB := st_ HB hb
         (try clear hb)
         (try clear hk)
         refine hK.out _ _ (f6_ BK853.out (f6_ BK870.out (f6_ BK871.out (f6_ BK880.out (f6_ BK898.out (f5_ BK899.out (f6_ BK914.out (e4_ BK915.out)))))))) (fun hHeld => ?_)
         clear hK K
         refine norm_ (a' := ?_) ?_ ?_
         rotate_left
         ·
          show Act.put _ (some 40) _ = _
          simp only [fr_]
          rfl
         refine one_ (i := 11) (N := some 43) (b_ 12 63) rfl rfl (one_of HT_.out (by kernel_rfl)) (by decide) (fun K hK => ?_)
         refine gs_ Tryd.func13 #[.agg #[.int .i64 t854, .int .i64 t855, .int .i64 t856, .int .i64 t857, .int .i64 t858, .slice Ao45 t859.length co45], .agg #[.int .i64 t862, .int .i64 t863, .int .i64 t864, .int .i64 t865, .int .i64 t866, .slice Ao48 t867.length co48]] ?_
         with_reducible refine (spec_SameConf.calls k t854 t855 t856 t857 t858 _ _ t859 t862 t863 t864 t865 t866 _ _ t867 t919 _ ?side1 ?side2 ?side3 ?side4 A13.out).mono ?_
         (case side1 => exact cp_ ((Kd.R_reads' HO861.out).2.2))
         (case side2 => exact (Kd.R_reads' HO861.out).2.1)
         (case side3 => exact cp_ ((Kd.R_reads' HO869.out).2.2))
         (case side4 => exact (Kd.R_reads' HO869.out).2.1)
         rintro e w98 ⟨rfl, hb⟩
         refine ⟨_, rfl, ?_⟩
         replace HO852 := rb_ HO852 hb
         replace HO861 := rb_ HO861 hb
         replace HO869 := rb_ HO869 hb
         replace HO879 := rb_ HO879 hb
         replace HO888 := rb_ HO888 hb
         replace HO892 := rb_ HO892 hb
         replace HO897 := sb_ HO897 hb
         replace HO907 := rb_ HO907 hb
         replace HO910 := rb_ HO910 hb
         replace BK853 := bk2_ BK853 hb
         replace BK870 := bk2_ BK870 hb
         replace BK871 := bk2_ BK871 hb
         replace BK880 := bk2_ BK880 hb
         replace BK898 := bk2_ BK898 hb
         replace BK899 := bk2_ BK899 hb
         replace BK914 := bk2_ BK914 hb
         replace BK915 := bk2_ BK915 hb
         replace HB := st_ HB hb
         (try clear hb)
         (try clear hk)
         refine hK.out _ _ (f6_ BK853.out (f6_ BK870.out (f6_ BK871.out (f6_ BK880.out (f6_ BK898.out (f5_ BK899.out (f6_ BK914.out (e4_ BK915.out)))))))) (fun hHeld => ?_)
         clear hK K
         refine norm_ (a' := ?_) ?_ ?_
         rotate_left
         ·
          show Act.put _ (some 43) _ = _
          simp only [fr_]
          rfl
         refine pw_ 12 44 (b_ 13 62) rfl rfl HT_.out ?_
         refine pw_ 13 45 (b_ 14 61) rfl rfl HT_.out ?_
         refine pw_ 14 46 (b_ 15 60) rfl rfl HT_.out ?_
         refine take_ (i := 15) (N := some 47) (v := ?_) (a' := ?_) (b_ 16 59) rfl rfl (take_ofW HT_.out HW_.out (by kernel_rfl)) (fun _ _ _ h => h) (Or.inl ⟨by rfl, ?_⟩) hHeld ?_ ?_
         rotate_left
         ·
          rintro w' ⟨s0, s1, s2, s3, s4, s5, s6, s7, s8, s9, s10, s11, s12, s13, s14, s15, s16, s17, s18, s19, s20, s21, s22, s23, s24, s25, s26, s27, s28, s29, s30, s31, s32, s33, s34, s35, s36, s37, s38, s39, s40, s41, s42, s43, s44⟩
          go_simp
          with_reducible rfl
         rotate_left
         ·
          simp only [fr_]
          rfl
         refine take_ (i := 16) (N := some 48) (v := ?_) (a' := ?_) (b_ 17 58) rfl rfl (take_ofW HT_.out HW_.out (by kernel_rfl)) (fun _ _ _ h => h) (Or.inl ⟨by rfl, ?_⟩) hHeld ?_ ?_
         rotate_left
         ·
          rintro w' ⟨s0, s1, s2, s3, s4, s5, s6, s7, s8, s9, s10, s11, s12, s13, s14, s15, s16, s17, s18, s19, s20, s21, s22, s23, s24, s25, s26, s27, s28, s29, s30, s31, s32, s33, s34, s35, s36, s37, s38, s39, s40, s41, s42, s43, s44⟩
          go_simp
          with_reducible rfl
         rotate_left
         ·
          simp only [fr_]
          rfl
         refine one_ (i := 17) (N := some 49) (b_ 18 57) rfl rfl (one_of HT_.out (by kernel_rfl)) (by decide) (fun K hK => ?_)
         refine gs_ Tryd.func12 #[.agg #[.int .i64 t845, .int .i64 t846, .int .i64 t847, .int .i64 t848, .int .i64 t849, .slice Ao38 t850.length co38], .agg #[.int .i64 t845, .int .i64 t846, .int .i64 t847, .int .i64 t848, .int .i64 t849, .slice Ao38 t850.length co38]] ?_
         with_reducible refine (impl_SameConf.calls k t845 t846 t847 t848 t849 _ _ t850 t845 t846 t847 t848 t849 _ _ t850 true _ ?side1 ?side2 ?side3 ?side4 A15.out).mono ?_
         (case side1 => exact cp_ ((Kd.R_reads' HO852.out).2.2))
         (case side2 => exact (Kd.R_reads' HO852.out).2.1)
         (case side3 => exact cp_ ((Kd.R_reads' HO852.out).2.2))
         (case side4 => exact (Kd.R_reads' HO852.out).2.1)
         rintro e w99 ⟨rfl, hb⟩
         refine ⟨_, rfl, ?_⟩
         replace HO852 := rb_ HO852 hb
         replace HO861 := rb_ HO861 hb
         replace HO869 := rb_ HO869 hb
         replace HO879 := rb_ HO879 hb
         replace HO888 := rb_ HO888 hb
         replace HO892 := rb_ HO892 hb
         replace HO897 := sb_ HO897 hb
         replace HO907 := rb_ HO907 hb
         replace HO910 := rb_ HO910 hb
         replace BK853 := bk2_ BK853 hb
         replace BK870 := bk2_ BK870 hb
         replace BK871 := bk2_ BK871 hb
         replace BK880 := bk2_ BK880 hb
         replace BK898 := bk2_ BK898 hb
         replace BK899 := bk2_ BK899 hb
         replace BK914 := bk2_ BK914 hb
         replace BK915 := bk2_ BK915 hb
         replace HB := st_ HB hb
         (try clear hb)
         (try clear hk)
         refine hK.out _ _ (f6_ BK853.out (f6_ BK870.out (f6_ BK871.out (f6_ BK880.out (f6_ BK898.out (f5_ BK899.out (f6_ BK914.out (e4_ BK915.out)))))))) (fun hHeld => ?_)
         clear hK K
         refine norm_ (a' := ?_) ?_ ?_
         rotate_left
         ·
          show Act.put _ (some 49) _ = _
          simp only [fr_]
          rfl
         refine pw_ 18 50 (b_ 19 56) rfl rfl HT_.out ?_
         refine pw_ 19 51 (b_ 20 55) rfl rfl HT_.out ?_
         refine take_ (i := 20) (N := some 52) (v := ?_) (a' := ?_) (b_ 21 54) rfl rfl (take_ofW HT_.out HW_.out (by kernel_rfl)) (fun _ _ _ h => h) (Or.inl ⟨by rfl, ?_⟩) hHeld ?_ ?_
         rotate_left
         ·
          rintro w' ⟨s0, s1, s2, s3, s4, s5, s6, s7, s8, s9, s10, s11, s12, s13, s14, s15, s16, s17, s18, s19, s20, s21, s22, s23, s24, s25, s26, s27, s28, s29, s30, s31, s32, s33, s34, s35, s36, s37, s38, s39, s40, s41, s42, s43, s44⟩
          go_simp
          with_reducible rfl
         rotate_left
         ·
          simp only [fr_]
          rfl
         refine take_ (i := 22) (N := some 54) (v := ?_) (a' := ?_) #[t_,t_,t_,t_,t_,t_,t_,t_,t_,t_,t_,t_,t_,t_,t_,t_,t_,t_,t_,t_,t_,f_,t_,f_,f_,f_,f_,f_,f_,f_,f_,f_,f_,f_,f_,f_,f_,f_,f_,f_,f_,f_,f_,f_,f_,f_,f_,f_,f_,f_,f_,f_,f_,f_,f_,f_,f_,f_,f_,f_,f_,f_,f_,f_,f_,f_,f_,f_,f_,f_,f_,f_,f_,f_,f_] rfl rfl (take_ofW HT_.out HW_.out (by kernel_rfl)) (fun _ _ _ h => h) (Or.inl ⟨by rfl, ?_⟩) hHeld ?_ ?_
         rotate_left
         ·
          rintro w' ⟨s0, s1, s2, s3, s4, s5, s6, s7, s8, s9, s10, s11, s12, s13, s14, s15, s16, s17, s18, s19, s20, s21, s22, s23, s24, s25, s26, s27, s28, s29, s30, s31, s32, s33, s34, s35, s36, s37, s38, s39, s40, s41, s42, s43, s44⟩
          go_simp
          with_reducible rfl
         rotate_left
         ·
          simp only [fr_]
          rfl
         refine one_ (i := 21) (N := some 53) (b_ 23 52) rfl rfl (one_of HT_.out (by kernel_rfl)) (by decide) (fun K hK => ?_)
         refine gs_ Tryd.func14 #[.agg #[.int .i64 t872, .int .i64 t873, .int .i64 t874, .int .i64 t875, .int .i64 t876, .slice Ao55 t877.length co55]] ?_
         with_reducible refine (impl_ConfText.calls k t872 t873 t874 t875 t876 _ _ t877 t921 _ ?side1 ?side2 A17.out).mono ?_
         (case side1 => exact cp_ ((Kd.R_reads' HO879.out).2.2))
         (case side2 => exact (Kd.R_reads' HO879.out).2.1)
         rintro e w100 ⟨rfl, hb⟩
         refine ⟨_, rfl, ?_⟩
         replace HO852 := rb_ HO852 hb
         replace HO861 := rb_ HO861 hb
         replace HO869 := rb_ HO869 hb
         replace HO879 := rb_ HO879 hb
         replace HO888 := rb_ HO888 hb
         replace HO892 := rb_ HO892 hb
         replace HO897 := sb_ HO897 hb
         replace HO907 := rb_ HO907 hb
         replace HO910 := rb_ HO910 hb
         replace BK853 := bk2_ BK853 hb
         replace BK870 := bk2_ BK870 hb
         replace BK871 := bk2_ BK871 hb
         replace BK880 := bk2_ BK880 hb
         replace BK898 := bk2_ BK898 hb
         replace BK899 := bk2_ BK899 hb
         replace BK914 := bk2_ BK914 hb
         replace BK915 := bk2_ BK915 hb
         replace HB := st_ HB hb
         (try clear hb)
         (try clear hk)
         refine hK.out _ _ (f6_ BK853.out (f6_ BK870.out (f6_ BK871.out (f6_ BK880.out (f6_ BK898.out (f5_ BK899.out (f6_ BK914.out (e4_ BK915.out)))))))) (fun hHeld => ?_)
         clear hK K
         refine norm_ (a' := ?_) ?_ ?_
         rotate_left
         ·
          show Act.put _ (some 53) _ = _
          simp only [fr_]
          rfl
         refine one_ (i := 23) (N := some 55) (b_ 24 51) rfl rfl (one_of HT_.out (by kernel_rfl)) (by decide) (fun K hK => ?_)
         refine gs_ Tryd.func15 #[.agg #[.int .i64 t872, .int .i64 t873, .int .i64 t874, .int .i64 t875, .int .i64 t876, .slice Ao55 t877.length co55]] ?_
         with_reducible refine (spec_ConfText.calls k t872 t873 t874 t875 t876 _ _ t877 t922 _ ?side1 ?side2 A18.out).mono ?_
         (case side1 => exact cp_ ((Kd.R_reads' HO879.out).2.2))
         (case side2 => exact (Kd.R_reads' HO879.out).2.1)
         rintro e w101 ⟨rfl, hb⟩
         refine ⟨_, rfl, ?_⟩
         replace HO852 := rb_ HO852 hb
         replace HO861 := rb_ HO861 hb
         replace HO869 := rb_ HO869 hb
         replace HO879 := rb_ HO879 hb
         replace HO888 := rb_ HO888 hb
         replace HO892 := rb_ HO892 hb
         replace HO897 := sb_ HO897 hb
         replace HO907 := rb_ HO907 hb
         replace HO910 := rb_ HO910 hb
         replace BK853 := bk2_ BK853 hb
         replace BK870 := bk2_ BK870 hb
         replace BK871 := bk2_ BK871 hb
         replace BK880 := bk2_ BK880 hb
         replace BK898 := bk2_ BK898 hb
         replace BK899 := bk2_ BK899 hb
         replace BK914 := bk2_ BK914 hb
         replace BK915 := bk2_ BK915 hb
         replace HB := st_ HB hb
         (try clear hb)
         (try clear hk)
         refine hK.out _ _ (f6_ BK853.out (f6_ BK870.out (f6_ BK871.out (f6_ BK880.out (f6_ BK898.out (f5_ BK899.out (f6_ BK914.out (e4_ BK915.out)))))))) (fun hHeld => ?_)
         clear hK K
         refine norm_ (a' := ?_) ?_ ?_
         rotate_left
         ·
          show Act.put _ (some 55) _ = _
          simp only [fr_]
          rfl
         refine pw_ 24 56 (b_ 25 50) rfl rfl HT_.out ?_
         refine pw_ 25 57 (b_ 26 49) rfl rfl HT_.out ?_
         refine pw_ 26 58 (b_ 27 48) rfl rfl HT_.out ?_
         refine take_ (i := 27) (N := some 59) (v := ?_) (a' := ?_) (b_ 28 47) rfl rfl (take_ofW HT_.out HW_.out (by kernel_rfl)) (fun _ _ _ h => h) (Or.inl ⟨by rfl, ?_⟩) hHeld ?_ ?_
         rotate_left
         ·
          rintro w' ⟨s0, s1, s2, s3, s4, s5, s6, s7, s8, s9, s10, s11, s12, s13, s14, s15, s16, s17, s18, s19, s20, s21, s22, s23, s24, s25, s26, s27, s28, s29, s30, s31, s32, s33, s34, s35, s36, s37, s38, s39, s40, s41, s42, s43, s44⟩
          go_simp
          with_reducible rfl
         rotate_left
         ·
          simp only [fr_]
          rfl
         refine take_ (i := 30) (N := some 62) (v := ?_) (a' := ?_) #[t_,t_,t_,t_,t_,t_,t_,t_,t_,t_,t_,t_,t_,t_,t_,t_,t_,t_,t_,t_,t_,t_,t_,t_,t_,t_,t_,t_,f_,f_,t_,f_,f_,f_,f_,f_,f_,f_,f_,f_,f_,f_,f_,f_,f_,f_,f_,f_,f_,f_,f_,f_,f_,f_,f_,f_,f_,f_,f_,f_,f_,f_,f_,f_,f_,f_,f_,f_,f_,f_,f_,f_,f_,f_,f_] rfl rfl (take_ofW HT_.out HW_.out (by kernel_rfl)) (fun _ _ _ h => h) (Or.inl ⟨by rfl, ?_⟩) hHeld ?_ ?_
         rotate_left
         ·
          rintro w' ⟨s0, s1, s2, s3, s4, s5, s6, s7, s8, s9, s10, s11, s12, s13, s14, s15, s16, s17, s18, s19, s20, s21, s22, s23, s24, s25, s26, s27, s28, s29, s30, s31, s32, s33, s34, s35, s36, s37, s38, s39, s40, s41, s42, s43, s44⟩
          go_simp
          with_reducible rfl
         rotate_left
         ·
          simp only [fr_]
          rfl
         refine one_ (i := 28) (N := some 60) #[t_,t_,t_,t_,t_,t_,t_,t_,t_,t_,t_,t_,t_,t_,t_,t_,t_,t_,t_,t_,t_,t_,t_,t_,t_,t_,t_,t_,t_,f_,t_,f_,f_,f_,f_,f_,f_,f_,f_,f_,f_,f_,f_,f_,f_,f_,f_,f_,f_,f_,f_,f_,f_,f_,f_,f_,f_,f_,f_,f_,f_,f_,f_,f_,f_,f_,f_,f_,f_,f_,f_,f_,f_,f_,f_] rfl rfl (one_of HT_.out (by kernel_rfl)) (by decide) (fun K hK => ?_)
         refine gs_ Tryd.func14 #[.agg #[.int .i64 t872, .int .i64 t873, .int .i64 t874, .int .i64 t875, .int .i64 t876, .slice Ao55 t877.length co55]] ?_
         with_reducible refine (impl_ConfText.calls k t872 t873 t874 t875 t876 _ _ t877 t923 _ ?side1 ?side2 A20.out).mono ?_
         (case side1 => exact cp_ ((Kd.R_reads' HO879.out).2.2))
         (case side2 => exact (Kd.R_reads' HO879.out).2.1)
         rintro e w102 ⟨rfl, hb⟩
         refine ⟨_, rfl, ?_⟩
         replace HO852 := rb_ HO852 hb
         replace HO861 := rb_ HO861 hb
         replace HO869 := rb_ HO869 hb
         replace HO879 := rb_ HO879 hb
         replace HO888 := rb_ HO888 hb
         replace HO892 := rb_ HO892 hb
         replace HO897 := sb_ HO897 hb
         replace HO907 := rb_ HO907 hb
         replace HO910 := rb_ HO910 hb
         replace BK853 := bk2_ BK853 hb
         replace BK870 := bk2_ BK870 hb
         replace BK871 := bk2_ BK871 hb
         replace BK880 := bk2_ BK880 hb
         replace BK898 := bk2_ BK898 hb
         replace BK899 := bk2_ BK899 hb
         replace BK914 := bk2_ BK914 hb
         replace BK915 := bk2_ BK915 hb
         replace HB := st_ HB hb
         (try clear hb)
         (try clear hk)
         refine hK.out _ _ (f6_ BK853.out (f6_ BK870.out (f6_ BK871.out (f6_ BK880.out (f6_ BK898.out (f5_ BK899.out (f6_ BK914.out (e4_ BK915.out)))))))) (fun hHeld => ?_)
         clear hK K
         refine norm_ (a' := ?_) ?_ ?_
         rotate_left
         ·
          show Act.put _ (some 60) _ = _
          simp only [fr_]
          rfl
         refine pw_ 29 61 (b_ 31 44) rfl rfl HT_.out ?_
         refine one_ (i := 31) (N := some 63) (b_ 32 43) rfl rfl (one_of HT_.out (by kernel_rfl)) (by decide) (fun K hK => ?_)
         refine gs_ Tryd.func10 #[.agg #[.int .i64 t872, .int .i64 t873, .int .i64 t874, .int .i64 t875, .int .i64 t876, .slice Ao55 t877.length co55]] ?_
         with_reducible refine (impl_ConfOk.calls k t872 t873 t874 t875 t876 _ _ t877 t924 _ ?side1 ?side2 A21.out).mono ?_
         (case side1 => exact cp_ ((Kd.R_reads' HO879.out).2.2))
         (case side2 => exact (Kd.R_reads' HO879.out).2.1)
         rintro e w103 ⟨rfl, hb⟩
         refine ⟨_, rfl, ?_⟩
         replace HO852 := rb_ HO852 hb
         replace HO861 := rb_ HO861 hb
         replace HO869 := rb_ HO869 hb
         replace HO879 := rb_ HO879 hb
         replace HO888 := rb_ HO888 hb
         replace HO892 := rb_ HO892 hb
         replace HO897 := sb_ HO897 hb
         replace HO907 := rb_ HO907 hb
         replace HO910 := rb_ HO910 hb
         replace BK853 := bk2_ BK853 hb
         replace BK870 := bk2_ BK870 hb
         replace BK871 := bk2_ BK871 hb
         replace BK880 := bk2_ BK880 hb
         replace BK898 := bk2_ BK898 hb
         replace BK899 := bk2_ BK899 hb
         replace BK914 := bk2_ BK914 hb
         replace BK915 := bk2_ BK915 hb
         replace HB := st_ HB hb
         (try clear hb)
         (try clear hk)
         refine hK.out _ _ (f6_ BK853.out (f6_ BK870.out (f6_ BK871.out (f6_ BK880.out (f6_ BK898.out (f5_ BK899.out (f6_ BK914.out (e4_ BK915.out)))))))) (fun hHeld => ?_)
         clear hK K
         refine norm_ (a' := ?_) ?_ ?_
         rotate_left
         ·
          show Act.put _ (some 63) _ = _
          simp only [fr_]
          rfl
         refine pw_ 32 64 (b_ 33 42) rfl rfl HT_.out ?_
         refine pw_ 33 65 (b_ 34 41) rfl rfl HT_.out ?_
         refine pw_ 34 66 (b_ 35 40) rfl rfl HT_.out ?_
         refine take_ (i := 35) (N := some 67) (v := ?_) (a' := ?_) (b_ 36 39) rfl rfl (take_ofW HT_.out HW_.out (by kernel_rfl)) (fun _ _ _ h => h) (Or.inl ⟨by rfl, ?_⟩) hHeld ?_ ?_
         rotate_left
         ·
          rintro w' ⟨s0, s1, s2, s3, s4, s5, s6, s7, s8, s9, s10, s11, s12, s13, s14, s15, s16, s17, s18, s19, s20, s21, s22, s23, s24, s25, s26, s27, s28, s29, s30, s31, s32, s33, s34, s35, s36, s37, s38, s39, s40, s41, s42, s43, s44⟩
          go_simp
          with_reducible rfl
         rotate_left
         ·
          simp only [fr_]
          rfl
         refine take_ (i := 36) (N := some 68) (v := ?_) (a' := ?_) (b_ 37 38) rfl rfl (take_ofW HT_.out HW_.out (by kernel_rfl)) (fun _ _ _ h => h) (Or.inl ⟨by rfl, ?_⟩) hHeld ?_ ?_
         rotate_left
         ·
          rintro w' ⟨s0, s1, s2, s3, s4, s5, s6, s7, s8, s9, s10, s11, s12, s13, s14, s15, s16, s17, s18, s19, s20, s21, s22, s23, s24, s25, s26, s27, s28, s29, s30, s31, s32, s33, s34, s35, s36, s37, s38, s39, s40, s41, s42, s43, s44⟩
          go_simp
          with_reducible rfl
         rotate_left
         ·
          simp only [fr_]
          rfl
         refine take_ (i := 38) (N := some 70) (v := ?_) (a' := ?_) #[t_,t_,t_,t_,t_,t_,t_,t_,t_,t_,t_,t_,t_,t_,t_,t_,t_,t_,t_,t_,t_,t_,t_,t_,t_,t_,t_,t_,t_,t_,t_,t_,t_,t_,t_,t_,t_,f_,t_,f_,f_,f_,f_,f_,f_,f_,f_,f_,f_,f_,f_,f_,f_,f_,f_,f_,f_,f_,f_,f_,f_,f_,f_,f_,f_,f_,f_,f_,f_,f_,f_,f_,f_,f_,f_] rfl rfl (take_ofW HT_.out HW_.out (by kernel_rfl)) (fun _ _ _ h => h) (Or.inl ⟨by rfl, ?_⟩) hHeld ?_ ?_
         rotate_left
         ·
          rintro w' ⟨s0, s1, s2, s3, s4, s5, s6, s7, s8, s9, s10, s11, s12, s13, s14, s15, s16, s17, s18, s19, s20, s21, s22, s23, s24, s25, s26, s27, s28, s29, s30, s31, s32, s33, s34, s35, s36, s37, s38, s39, s40, s41, s42, s43, s44⟩
          go_simp
          with_reducible rfl
         rotate_left
         ·
          simp only [fr_]
          rfl
         refine take_ (i := 39) (N := some 71) (v := ?_) (a' := ?_) #[t_,t_,t_,t_,t_,t_,t_,t_,t_,t_,t_,t_,t_,t_,t_,t_,t_,t_,t_,t_,t_,t_,t_,t_,t_,t_,t_,t_,t_,t_,t_,t_,t_,t_,t_,t_,t_,f_,t_,t_,f_,f_,f_,f_,f_,f_,f_,f_,f_,f_,f_,f_,f_,f_,f_,f_,f_,f_,f_,f_,f_,f_,f_,f_,f_,f_,f_,f_,f_,f_,f_,f_,f_,f_,f_] rfl rfl (take_ofW HT_.out HW_.out (by kernel_rfl)) (fun _ _ _ h => h) (Or.inl ⟨by rfl, ?_⟩) hHeld ?_ ?_
         rotate_left
         ·
          rintro w' ⟨s0, s1, s2, s3, s4, s5, s6, s7, s8, s9, s10, s11, s12, s13, s14, s15, s16, s17, s18, s19, s20, s21, s22, s23, s24, s25, s26, s27, s28, s29, s30, s31, s32, s33, s34, s35, s36, s37, s38, s39, s40, s41, s42, s43, s44⟩
          go_simp
          with_reducible rfl
         rotate_left
         ·
          simp only [fr_]
          rfl
         refine one_ (i := 37) (N := some 69) (b_ 40 35) rfl rfl (one_of HT_.out (by kernel_rfl)) (by decide) (fun K hK => ?_)
         refine gs_ Tryd.func16 #[.agg #[.int .i64 t881, .int .i64 t882, .int .i64 t883, .int .i64 t884, .int .i64 t885, .slice Ao65 t886.length co65], .agg #[.int .i64 t889, .slice Ao71 t890.length co71, .int .i64 t893, .int .i64 t894, .slice Ao72 t895.length co72]] ?_
         with_reducible refine (impl_Due.calls t881 t882 t883 t884 t885 _ _ t886 t889 _ _ t890 t893 t894 _ _ t895 t925 _ ?side1 ?side2 ?side3 ?side4 ?side5 ?side6 A23.out).mono ?_
         (case side1 => exact cp_ ((Kd.R_reads' HO888.out).2.2))
         (case side2 => exact (Kd.R_reads' HO888.out).2.1)
         (case side3 => exact cp_ ((Kd.R_reads' HO892.out).2.2))
         (case side4 => exact (Kd.R_reads' HO892.out).2.1)
         (case side5 => exact cp_ ((Kd.S_reads' HO897.out).2.2))
         (case side6 => exact (Kd.S_reads' HO897.out).2.1)
         rintro e w104 ⟨rfl, hb⟩
         refine ⟨_, rfl, ?_⟩
         replace HO852 := rb_ HO852 hb
         replace HO861 := rb_ HO861 hb
         replace HO869 := rb_ HO869 hb
         replace HO879 := rb_ HO879 hb
         replace HO888 := rb_ HO888 hb
         replace HO892 := rb_ HO892 hb
         replace HO897 := sb_ HO897 hb
         replace HO907 := rb_ HO907 hb
         replace HO910 := rb_ HO910 hb
         replace BK853 := bk2_ BK853 hb
         replace BK870 := bk2_ BK870 hb
         replace BK871 := bk2_ BK871 hb
         replace BK880 := bk2_ BK880 hb
         replace BK898 := bk2_ BK898 hb
         replace BK899 := bk2_ BK899 hb
         replace BK914 := bk2_ BK914 hb
         replace BK915 := bk2_ BK915 hb
         replace HB := st_ HB hb
         (try clear hb)
         (try clear hk)
         refine hK.out _ _ (f6_ BK853.out (f6_ BK870.out (f6_ BK871.out (f6_ BK880.out (f6_ BK898.out (f5_ BK899.out (f6_ BK914.out (e4_ BK915.out)))))))) (fun hHeld => ?_)
         clear hK K
         refine norm_ (a' := ?_) ?_ ?_
         rotate_left
         ·
          show Act.put _ (some 69) _ = _
          simp only [fr_]
          rfl
         refine one_ (i := 40) (N := some 72) (b_ 41 34) rfl rfl (one_of HT_.out (by kernel_rfl)) (by decide) (fun K hK => ?_)
         refine gs_ Tryd.func17 #[.agg #[.int .i64 t881, .int .i64 t882, .int .i64 t883, .int .i64 t884, .int .i64 t885, .slice Ao65 t886.length co65], .agg #[.int .i64 t889, .slice Ao71 t890.length co71, .int .i64 t893, .int .i64 t894, .slice Ao72 t895.length co72]] ?_
         with_reducible refine (spec_Due.calls t881 t882 t883 t884 t885 _ _ t886 t889 _ _ t890 t893 t894 _ _ t895 t926 _ ?side1 ?side2 ?side3 ?side4 ?side5 ?side6 A24.out).mono ?_
         (case side1 => exact cp_ ((Kd.R_reads' HO888.out).2.2))
         (case side2 => exact (Kd.R_reads' HO888.out).2.1)
         (case side3 => exact cp_ ((Kd.R_reads' HO892.out).2.2))
         (case side4 => exact (Kd.R_reads' HO892.out).2.1)
         (case side5 => exact cp_ ((Kd.S_reads' HO897.out).2.2))
         (case side6 => exact (Kd.S_reads' HO897.out).2.1)
         rintro e w105 ⟨rfl, hb⟩
         refine ⟨_, rfl, ?_⟩
         replace HO852 := rb_ HO852 hb
         replace HO861 := rb_ HO861 hb
         replace HO869 := rb_ HO869 hb
         replace HO879 := rb_ HO879 hb
         replace HO888 := rb_ HO888 hb
         replace HO892 := rb_ HO892 hb
         replace HO897 := sb_ HO897 hb
         replace HO907 := rb_ HO907 hb
         replace HO910 := rb_ HO910 hb
         replace BK853 := bk2_ BK853 hb
         replace BK870 := bk2_ BK870 hb
         replace BK871 := bk2_ BK871 hb
         replace BK880 := bk2_ BK880 hb
         replace BK898 := bk2_ BK898 hb
         replace BK899 := bk2_ BK899 hb
         replace BK914 := bk2_ BK914 hb
         replace BK915 := bk2_ BK915 hb
         replace HB := st_ HB hb
         (try clear hb)
         (try clear hk)
         refine hK.out _ _ (f6_ BK853.out (f6_ BK870.out (f6_ BK871.out (f6_ BK880.out (f6_ BK898.out (f5_ BK899.out (f6_ BK914.out (e4_ BK915.out)))))))) (fun hHeld => ?_)
         clear hK K
         refine norm_ (a' := ?_) ?_ ?_
         rotate_left
         ·
          show Act.put _ (some 72) _ = _
          simp only [fr_]
          rfl
         refine pw_ 41 73 (b_ 42 33) rfl rfl HT_.out ?_
         refine pw_ 42 74 (b_ 43 32) rfl rfl HT_.out ?_
         refine pw_ 43 75 (b_ 44 31) rfl rfl HT_.out ?_
         refine pw_ 48 80 #[t_,t_,t_,t_,t_,t_,t_,t_,t_,t_,t_,t_,t_,t_,t_,t_,t_,t_,t_,t_,t_,t_,t_,t_,t_,t_,t_,t_,t_,t_,t_,t_,t_,t_,t_,t_,t_,t_,t_,t_,t_,t_,t_,t_,f_,f_,f_,f_,t_,f_,f_,f_,f_,f_,f_,f_,f_,f_,f_,f_,f_,f_,f_,f_,f_,f_,f_,f_,f_,f_,f_,f_,f_,f_,f_] rfl rfl HT_.out ?_
         refine pw_ 50 82 #[t_,t_,t_,t_,t_,t_,t_,t_,t_,t_,t_,t_,t_,t_,t_,t_,t_,t_,t_,t_,t_,t_,t_,t_,t_,t_,t_,t_,t_,t_,t_,t_,t_,t_,t_,t_,t_,t_,t_,t_,t_,t_,t_,t_,f_,f_,f_,f_,t_,f_,t_,f_,f_,f_,f_,f_,f_,f_,f_,f_,f_,f_,f_,f_,f_,f_,f_,f_,f_,f_,f_,f_,f_,f_,f_] rfl rfl HT_.out ?_
         refine take_ (i := 44) (N := some 76) (v := ?_) (a' := ?_) #[t_,t_,t_,t_,t_,t_,t_,t_,t_,t_,t_,t_,t_,t_,t_,t_,t_,t_,t_,t_,t_,t_,t_,t_,t_,t_,t_,t_,t_,t_,t_,t_,t_,t_,t_,t_,t_,t_,t_,t_,t_,t_,t_,t_,t_,f_,f_,f_,t_,f_,t_,f_,f_,f_,f_,f_,f_,f_,f_,f_,f_,f_,f_,f_,f_,f_,f_,f_,f_,f_,f_,f_,f_,f_,f_] rfl rfl (take_ofW HT_.out HW_.out (by kernel_rfl)) (fun _ _ _ h => h) (Or.inl ⟨by rfl, ?_⟩) hHeld ?_ ?_
         rotate_left
         ·
          rintro w' ⟨s0, s1, s2, s3, s4, s5, s6, s7, s8, s9, s10, s11, s12, s13, s14, s15, s16, s17, s18, s19, s20, s21, s22, s23, s24, s25, s26, s27, s28, s29, s30, s31, s32, s33, s34, s35, s36, s37, s38, s39, s40, s41, s42, s43, s44⟩
          go_simp
          with_reducible rfl
         rotate_left
         ·
          simp only [fr_]
          rfl
         refine take_ (i := 45) (N := some 77) (v := ?_) (a' := ?_) #[t_,t_,t_,t_,t_,t_,t_,t_,t_,t_,t_,t_,t_,t_,t_,t_,t_,t_,t_,t_,t_,t_,t_,t_,t_,t_,t_,t_,t_,t_,t_,t_,t_,t_,t_,t_,t_,t_,t_,t_,t_,t_,t_,t_,t_,t_,f_,f_,t_,f_,t_,f_,f_,f_,f_,f_,f_,f_,f_,f_,f_,f_,f_,f_,f_,f_,f_,f_,f_,f_,f_,f_,f_,f_,f_] rfl rfl (take_ofW HT_.out HW_.out (by kernel_rfl)) (fun _ _ _ h => h) (Or.inl ⟨by rfl, ?_⟩) hHeld ?_ ?_
         rotate_left
         ·
          rintro w' ⟨s0, s1, s2, s3, s4, s5, s6, s7, s8, s9, s10, s11, s12, s13, s14, s15, s16, s17, s18, s19, s20, s21, s22, s23, s24, s25, s26, s27, s28, s29, s30, s31, s32, s33, s34, s35, s36, s37, s38, s39, s40, s41, s42, s43, s44⟩
          go_simp
          with_reducible rfl
         rotate_left
         ·
          simp only [fr_]
          rfl
         refine take_ (i := 47) (N := some 79) (v := ?_) (a' := ?_) #[t_,t_,t_,t_,t_,t_,t_,t_,t_,t_,t_,t_,t_,t_,t_,t_,t_,t_,t_,t_,t_,t_,t_,t_,t_,t_,t_,t_,t_,t_,t_,t_,t_,t_,t_,t_,t_,t_,t_,t_,t_,t_,t_,t_,t_,t_,f_,t_,t_,f_,t_,f_,f_,f_,f_,f_,f_,f_,f_,f_,f_,f_,f_,f_,f_,f_,f_,f_,f_,f_,f_,f_,f_,f_,f_] rfl rfl (take_ofW HT_.out HW_.out (by kernel_rfl)) (fun _ _ _ h => h) (Or.inl ⟨by rfl, ?_⟩) hHeld ?_ ?_
         rotate_left
         ·
          rintro w' ⟨s0, s1, s2, s3, s4, s5, s6, s7, s8, s9, s10, s11, s12, s13, s14, s15, s16, s17, s18, s19, s20, s21, s22, s23, s24, s25, s26, s27, s28, s29, s30, s31, s32, s33, s34, s35, s36, s37, s38, s39, s40, s41, s42, s43, s44⟩
          go_simp
          with_reducible rfl
         rotate_left
         ·
          simp only [fr_]
          rfl
         refine take_ (i := 49) (N := some 81) (v := ?_) (a' := ?_) #[t_,t_,t_,t_,t_,t_,t_,t_,t_,t_,t_,t_,t_,t_,t_,t_,t_,t_,t_,t_,t_,t_,t_,t_,t_,t_,t_,t_,t_,t_,t_,t_,t_,t_,t_,t_,t_,t_,t_,t_,t_,t_,t_,t_,t_,t_,f_,t_,t_,t_,t_,f_,f_,f_,f_,f_,f_,f_,f_,f_,f_,f_,f_,f_,f_,f_,f_,f_,f_,f_,f_,f_,f_,f_,f_] rfl rfl (take_ofW HT_.out HW_.out (by kernel_rfl)) (fun _ _ _ h => h) (Or.inl ⟨by rfl, ?_⟩) hHeld ?_ ?_
         rotate_left
         ·
          rintro w' ⟨s0, s1, s2, s3, s4, s5, s6, s7, s8, s9, s10, s11, s12, s13, s14, s15, s16, s17, s18, s19, s20, s21, s22, s23, s24, s25, s26, s27, s28, s29, s30, s31, s32, s33, s34, s35, s36, s37, s38, s39, s40, s41, s42, s43, s44⟩
          go_simp
          with_reducible rfl
         rotate_left
         ·
          simp only [fr_]
          rfl
         refine take_ (i := 51) (N := some 83) (v := ?_) (a' := ?_) #[t_,t_,t_,t_,t_,t_,t_,t_,t_,t_,t_,t_,t_,t_,t_,t_,t_,t_,t_,t_,t_,t_,t_,t_,t_,t_,t_,t_,t_,t_,t_,t_,t_,t_,t_,t_,t_,t_,t_,t_,t_,t_,t_,t_,t_,t_,f_,t_,t_,t_,t_,t_,f_,f_,f_,f_,f_,f_,f_,f_,f_,f_,f_,f_,f_,f_,f_,f_,f_,f_,f_,f_,f_,f_,f_] rfl rfl (take_ofW HT_.out HW_.out (by kernel_rfl)) (fun _ _ _ h => h) (Or.inl ⟨by rfl, ?_⟩) hHeld ?_ ?_
         rotate_left
         ·
          rintro w' ⟨s0, s1, s2, s3, s4, s5, s6, s7, s8, s9, s10, s11, s12, s13, s14, s15, s16, s17, s18, s19, s20, s21, s22, s23, s24, s25, s26, s27, s28, s29, s30, s31, s32, s33, s34, s35, s36, s37, s38, s39, s40, s41, s42, s43, s44⟩
          go_simp
          with_reducible rfl
         rotate_left
         ·
          simp only [fr_]
          rfl
         refine one_ (i := 46) (N := some 78) (b_ 52 23) rfl rfl (one_of HT_.out (by kernel_rfl)) (by decide) (fun K hK => ?_)
         refine gs_ Tryd.func16 #[.agg #[.int .i64 t881, .int .i64 t882, .int .i64 t883, .int .i64 t884, .int .i64 t885, .slice Ao65 t886.length co65], .agg #[.int .i64 t889, .slice Ao71 t890.length co71, .int .i64 t893, .int .i64 t894, .slice Ao72 t895.length co72]] ?_
         with_reducible refine (impl_Due.calls t881 t882 t883 t884 t885 _ _ t886 t889 _ _ t890 t893 t894 _ _ t895 t927 _ ?side1 ?side2 ?side3 ?side4 ?side5 ?side6 A26.out).mono ?_
         (case side1 => exact cp_ ((Kd.R_reads' HO888.out).2.2))
         (case side2 => exact (Kd.R_reads' HO888.out).2.1)
         (case side3 => exact cp_ ((Kd.R_reads' HO892.out).2.2))
         (case side4 => exact (Kd.R_reads' HO892.out).2.1)
         (case side5 => exact cp_ ((Kd.S_reads' HO897.out).2.2))
         (case side6 => exact (Kd.S_reads' HO897.out).2.1)
         rintro e w106 ⟨rfl, hb⟩
         refine ⟨_, rfl, ?_⟩
         replace HO852 := rb_ HO852 hb
         replace HO861 := rb_ HO861 hb
         replace HO869 := rb_ HO869 hb
         replace HO879 := rb_ HO879 hb
         replace HO888 := rb_ HO888 hb
         replace HO892 := rb_ HO892 hb
         replace HO897 := sb_ HO897 hb
         replace HO907 := rb_ HO907 hb
         replace HO910 := rb_ HO910 hb
         replace BK853 := bk2_ BK853 hb
         replace BK870 := bk2_ BK870 hb
         replace BK871 := bk2_ BK871 hb
         replace BK880 := bk2_ BK880 hb
         replace BK898 := bk2_ BK898 hb
         replace BK899 := bk2_ BK899 hb
         replace BK914 := bk2_ BK914 hb
         replace BK915 := bk2_ BK915 hb
         replace HB := st_ HB hb
         (try clear hb)
         (try clear hk)
         refine hK.out _ _ (f6_ BK853.out (f6_ BK870.out (f6_ BK871.out (f6_ BK880.out (f6_ BK898.out (f5_ BK899.out (f6_ BK914.out (e4_ BK915.out)))))))) (fun hHeld => ?_)
         clear hK K
         refine norm_ (a' := ?_) ?_ ?_
         rotate_left
         ·
          show Act.put _ (some 78) _ = _
          simp only [fr_]
          rfl
         refine one_ (i := 52) (N := some 84) (b_ 53 22) rfl rfl (one_of HT_.out (by kernel_rfl)) (by decide) (fun K hK => ?_)
         refine gs_ Tryd.func18 #[.agg #[.int .i64 t889, .slice Ao71 t890.length co71, .int .i64 t893, .int .i64 t894, .slice Ao72 t895.length co72], .int .i64 t884, .int .i64 t885] ?_
         with_reducible refine (impl_NextDue.calls t889 _ _ t890 t893 t894 _ _ t895 t884 t885 t928 _ ?side1 ?side2 ?side3 ?side4 A27.out).mono ?_
         (case side1 => exact cp_ ((Kd.R_reads' HO892.out).2.2))
         (case side2 => exact (Kd.R_reads' HO892.out).2.1)
         (case side3 => exact cp_ ((Kd.S_reads' HO897.out).2.2))
         (case side4 => exact (Kd.S_reads' HO897.out).2.1)
         rintro e w107 ⟨rfl, hb⟩
         refine ⟨_, rfl, ?_⟩
         replace HO852 := rb_ HO852 hb
         replace HO861 := rb_ HO861 hb
         replace HO869 := rb_ HO869 hb
         replace HO879 := rb_ HO879 hb
         replace HO888 := rb_ HO888 hb
         replace HO892 := rb_ HO892 hb
         replace HO897 := sb_ HO897 hb
         replace HO907 := rb_ HO907 hb
         replace HO910 := rb_ HO910 hb
         replace BK853 := bk2_ BK853 hb
         replace BK870 := bk2_ BK870 hb
         replace BK871 := bk2_ BK871 hb
         replace BK880 := bk2_ BK880 hb
         replace BK898 := bk2_ BK898 hb
         replace BK899 := bk2_ BK899 hb
         replace BK914 := bk2_ BK914 hb
         replace BK915 := bk2_ BK915 hb
         replace HB := st_ HB hb
         (try clear hb)
         (try clear hk)
         refine hK.out _ _ (f6_ BK853.out (f6_ BK870.out (f6_ BK871.out (f6_ BK880.out (f6_ BK898.out (f5_ BK899.out (f6_ BK914.out (e4_ BK915.out)))))))) (fun hHeld => ?_)
         clear hK K
         refine norm_ (a' := ?_) ?_ ?_
         rotate_left
         ·
          show Act.put _ (some 84) _ = _
          simp only [fr_]
          rfl
         refine pw_ 53 85 (b_ 54 21) rfl rfl HT_.out ?_
         refine pw_ 54 86 (b_ 55 20) rfl rfl HT_.out ?_
         refine pw_ 55 87 (b_ 56 19) rfl rfl HT_.out ?_
         refine take_ (i := 56) (N := some 88) (v := ?_) (a' := ?_) (b_ 57 18) rfl rfl (take_ofW HT_.out HW_.out (by kernel_rfl)) (fun _ _ _ h => h) (Or.inl ⟨by rfl, ?_⟩) hHeld ?_ ?_
         rotate_left
         ·
          rintro w' ⟨s0, s1, s2, s3, s4, s5, s6, s7, s8, s9, s10, s11, s12, s13, s14, s15, s16, s17, s18, s19, s20, s21, s22, s23, s24, s25, s26, s27, s28, s29, s30, s31, s32, s33, s34, s35, s36, s37, s38, s39, s40, s41, s42, s43, s44⟩
          go_simp
          with_reducible rfl
         rotate_left
         ·
          simp only [fr_]
          rfl
         refine take_ (i := 57) (N := some 89) (v := ?_) (a' := ?_) (b_ 58 17) rfl rfl (take_ofW HT_.out HW_.out (by kernel_rfl)) (fun _ _ _ h => h) (Or.inl ⟨by rfl, ?_⟩) hHeld ?_ ?_
         rotate_left
         ·
          rintro w' ⟨s0, s1, s2, s3, s4, s5, s6, s7, s8, s9, s10, s11, s12, s13, s14, s15, s16, s17, s18, s19, s20, s21, s22, s23, s24, s25, s26, s27, s28, s29, s30, s31, s32, s33, s34, s35, s36, s37, s38, s39, s40, s41, s42, s43, s44⟩
          go_simp
          with_reducible rfl
         rotate_left
         ·
          simp only [fr_]
          rfl
         refine take_ (i := 59) (N := some 91) (v := ?_) (a' := ?_) #[t_,t_,t_,t_,t_,t_,t_,t_,t_,t_,t_,t_,t_,t_,t_,t_,t_,t_,t_,t_,t_,t_,t_,t_,t_,t_,t_,t_,t_,t_,t_,t_,t_,t_,t_,t_,t_,t_,t_,t_,t_,t_,t_,t_,t_,t_,t_,t_,t_,t_,t_,t_,t_,t_,t_,t_,t_,t_,f_,t_,f_,f_,f_,f_,f_,f_,f_,f_,f_,f_,f_,f_,f_,f_,f_] rfl rfl (take_ofW HT_.out HW_.out (by kernel_rfl)) (fun _ _ _ h => h) (Or.inl ⟨by rfl, ?_⟩) hHeld ?_ ?_
         rotate_left
         ·
          rintro w' ⟨s0, s1, s2, s3, s4, s5, s6, s7, s8, s9, s10, s11, s12, s13, s14, s15, s16, s17, s18, s19, s20, s21, s22, s23, s24, s25, s26, s27, s28, s29, s30, s31, s32, s33, s34, s35, s36, s37, s38, s39, s40, s41, s42, s43, s44⟩
          go_simp
          with_reducible rfl
         rotate_left
         ·
          simp only [fr_]
          rfl
         refine take_ (i := 60) (N := some 92) (v := ?_) (a' := ?_) #[t_,t_,t_,t_,t_,t_,t_,t_,t_,t_,t_,t_,t_,t_,t_,t_,t_,t_,t_,t_,t_,t_,t_,t_,t_,t_,t_,t_,t_,t_,t_,t_,t_,t_,t_,t_,t_,t_,t_,t_,t_,t_,t_,t_,t_,t_,t_,t_,t_,t_,t_,t_,t_,t_,t_,t_,t_,t_,f_,t_,t_,f_,f_,f_,f_,f_,f_,f_,f_,f_,f_,f_,f_,f_,f_] rfl rfl (take_ofW HT_.out HW_.out (by kernel_rfl)) (fun _ _ _ h => h) (Or.inl ⟨by rfl, ?_⟩) hHeld ?_ ?_
         rotate_left
         ·
          rintro w' ⟨s0, s1, s2, s3, s4, s5, s6, s7, s8, s9, s10, s11, s12, s13, s14, s15, s16, s17, s18, s19, s20, s21, s22, s23, s24, s25, s26, s27, s28, s29, s30, s31, s32, s33, s34, s35, s36, s37, s38, s39, s40, s41, s42, s43, s44⟩
          go_simp
          with_reducible rfl
         rotate_left
         ·
          simp only [fr_]
          rfl
         refine one_ (i := 58) (N := some 90) (b_ 61 14) rfl rfl (one_of HT_.out (by kernel_rfl)) (by decide) (fun K hK => ?_)
         refine gs_ Tryd.func19 #[.agg #[.int .i64 t900, .int .i64 t901, .int .i64 t902, .int .i64 t903, .int .i64 t904, .slice Ao84 t905.length co84], .agg #[.slice Ao85 t908.length co85, .int .i64 t911, .int .i64 t912, .string t913]] ?_
         with_reducible refine (impl_Fits.calls k t900 t901 t902 t903 t904 _ _ t905 _ _ t908 t911 t912 t913 t929 _ ?side1 ?side2 ?side3 ?side4 A29.out).mono ?_
         (case side1 => exact cp_ ((Kd.R_reads' HO907.out).2.2))
         (case side2 => exact (Kd.R_reads' HO907.out).2.1)
         (case side3 => exact cp_ ((Kd.R_reads' HO910.out).2.2))
         (case side4 => exact (Kd.R_reads' HO910.out).2.1)
         rintro e w108 ⟨rfl, hb⟩
         refine ⟨_, rfl, ?_⟩
         replace HO852 := rb_ HO852 hb
         replace HO861 := rb_ HO861 hb
         replace HO869 := rb_ HO869 hb
         replace HO879 := rb_ HO879 hb
         replace HO888 := rb_ HO888 hb
         replace HO892 := rb_ HO892 hb
         replace HO897 := sb_ HO897 hb
         replace HO907 := rb_ HO907 hb
         replace HO910 := rb_ HO910 hb
         replace BK853 := bk2_ BK853 hb
         replace BK870 := bk2_ BK870 hb
         replace BK871 := bk2_ BK871 hb
         replace BK880 := bk2_ BK880 hb
         replace BK898 := bk2_ BK898 hb
         replace BK899 := bk2_ BK899 hb
         replace BK914 := bk2_ BK914 hb
         replace BK915 := bk2_ BK915 hb
         replace HB := st_ HB hb
         (try clear hb)
         (try clear hk)
         refine hK.out _ _ (f6_ BK853.out (f6_ BK870.out (f6_ BK871.out (f6_ BK880.out (f6_ BK898.out (f5_ BK899.out (f6_ BK914.out (e4_ BK915.out)))))))) (fun hHeld => ?_)
         clear hK K
         refine norm_ (a' := ?_) ?_ ?_
         rotate_left
         ·
          show Act.put _ (some 90) _ = _
          simp only [fr_]
          rfl
         refine one_ (i := 61) (N := some 93) (b_ 62 13) rfl rfl (one_of HT_.out (by kernel_rfl)) (by decide) (fun K hK => ?_)
         refine gs_ Tryd.func20 #[.agg #[.int .i64 t900, .int .i64 t901, .int .i64 t902, .int .i64 t903, .int .i64 t904, .slice Ao84 t905.length co84], .agg #[.slice Ao85 t908.length co85, .int .i64 t911, .int .i64 t912, .string t913]] ?_
         with_reducible refine (spec_Fits.calls k t900 t901 t902 t903 t904 _ _ t905 _ _ t908 t911 t912 t913 t930 _ ?side1 ?side2 ?side3 ?side4 A30.out).mono ?_
         (case side1 => exact cp_ ((Kd.R_reads' HO907.out).2.2))
         (case side2 => exact (Kd.R_reads' HO907.out).2.1)
         (case side3 => exact cp_ ((Kd.R_reads' HO910.out).2.2))
         (case side4 => exact (Kd.R_reads' HO910.out).2.1)
         rintro e w109 ⟨rfl, hb⟩
         refine ⟨_, rfl, ?_⟩
         replace HO852 := rb_ HO852 hb
         replace HO861 := rb_ HO861 hb
         replace HO869 := rb_ HO869 hb
         replace HO879 := rb_ HO879 hb
         replace HO888 := rb_ HO888 hb
         replace HO892 := rb_ HO892 hb
         replace HO897 := sb_ HO897 hb
         replace HO907 := rb_ HO907 hb
         replace HO910 := rb_ HO910 hb
         replace BK853 := bk2_ BK853 hb
         replace BK870 := bk2_ BK870 hb
         replace BK871 := bk2_ BK871 hb
         replace BK880 := bk2_ BK880 hb
         replace BK898 := bk2_ BK898 hb
         replace BK899 := bk2_ BK899 hb
         replace BK914 := bk2_ BK914 hb
         replace BK915 := bk2_ BK915 hb
         replace HB := st_ HB hb
         (try clear hb)
         (try clear hk)
         refine hK.out _ _ (f6_ BK853.out (f6_ BK870.out (f6_ BK871.out (f6_ BK880.out (f6_ BK898.out (f5_ BK899.out (f6_ BK914.out (e4_ BK915.out)))))))) (fun hHeld => ?_)
         clear hK K
         refine norm_ (a' := ?_) ?_ ?_
         rotate_left
         ·
          show Act.put _ (some 93) _ = _
          simp only [fr_]
          rfl
         refine pw_ 62 94 (b_ 63 12) rfl rfl HT_.out ?_
         refine pw_ 63 95 (b_ 64 11) rfl rfl HT_.out ?_
         refine pw_ 64 96 (b_ 65 10) rfl rfl HT_.out ?_
         refine take_ (i := 65) (N := some 97) (v := ?_) (a' := ?_) (b_ 66 9) rfl rfl (take_ofW HT_.out HW_.out (by kernel_rfl)) (fun _ _ _ h => h) (Or.inl ⟨by rfl, ?_⟩) hHeld ?_ ?_
         rotate_left
         ·
          rintro w' ⟨s0, s1, s2, s3, s4, s5, s6, s7, s8, s9, s10, s11, s12, s13, s14, s15, s16, s17, s18, s19, s20, s21, s22, s23, s24, s25, s26, s27, s28, s29, s30, s31, s32, s33, s34, s35, s36, s37, s38, s39, s40, s41, s42, s43, s44⟩
          go_simp
          with_reducible rfl
         rotate_left
         ·
          simp only [fr_]
          rfl
         refine take_ (i := 66) (N := some 98) (v := ?_) (a' := ?_) (b_ 67 8) rfl rfl (take_ofW HT_.out HW_.out (by kernel_rfl)) (fun _ _ _ h => h) (Or.inl ⟨by rfl, ?_⟩) hHeld ?_ ?_
         rotate_left
         ·
          rintro w' ⟨s0, s1, s2, s3, s4, s5, s6, s7, s8, s9, s10, s11, s12, s13, s14, s15, s16, s17, s18, s19, s20, s21, s22, s23, s24, s25, s26, s27, s28, s29, s30, s31, s32, s33, s34, s35, s36, s37, s38, s39, s40, s41, s42, s43, s44⟩
          go_simp
          with_reducible rfl
         rotate_left
         ·
          simp only [fr_]
          rfl
         refine one_ (i := 67) (N := some 99) (b_ 68 7) rfl rfl (one_of HT_.out (by kernel_rfl)) (by decide) (fun K hK => ?_)
         refine gs_ Tryd.func19 #[.agg #[.int .i64 t900, .int .i64 t901, .int .i64 t902, .int .i64 t903, .int .i64 t904, .slice Ao84 t905.length co84], .agg #[.slice Ao85 t908.length co85, .int .i64 t911, .int .i64 t912, .string t913]] ?_
         have H := AHz_.out
         clear AHz_
         by_cases c33 : t931 = true
         ·
          subst c33
          rw [if_pos rfl] at H
          replace H := Option.bind_eq_some_iff.mp H
          obtain ⟨t932, A340, H⟩ := H
          have A34 := Aside0.mk A340
          clear A340
          obtain rfl := Option.some.inj H
          with_reducible refine (impl_Fits.calls k t900 t901 t902 t903 t904 _ _ t905 _ _ t908 t911 t912 t913 true _ ?side1 ?side2 ?side3 ?side4 A32.out).mono ?_
          (case side1 => exact cp_ ((Kd.R_reads' HO907.out).2.2))
          (case side2 => exact (Kd.R_reads' HO907.out).2.1)
          (case side3 => exact cp_ ((Kd.R_reads' HO910.out).2.2))
          (case side4 => exact (Kd.R_reads' HO910.out).2.1)
          rintro e w110 ⟨rfl, hb⟩
          refine ⟨_, rfl, ?_⟩
          replace HO852 := rb_ HO852 hb
          replace HO861 := rb_ HO861 hb
          replace HO869 := rb_ HO869 hb
          replace HO879 := rb_ HO879 hb
          replace HO888 := rb_ HO888 hb
          replace HO892 := rb_ HO892 hb
          replace HO897 := sb_ HO897 hb
          replace HO907 := rb_ HO907 hb
          replace HO910 := rb_ HO910 hb
          replace BK853 := bk2_ BK853 hb
          replace BK870 := bk2_ BK870 hb
          replace BK871 := bk2_ BK871 hb
          replace BK880 := bk2_ BK880 hb
          replace BK898 := bk2_ BK898 hb
          replace BK899 := bk2_ BK899 hb
          replace BK914 := bk2_ BK914 hb
          replace BK915 := bk2_ BK915 hb
          replace HB := st_ HB hb
          (try clear hb)
          (try clear hk)
          refine hK.out _ _ (f6_ BK853.out (f6_ BK870.out (f6_ BK871.out (f6_ BK880.out (f6_ BK898.out (f5_ BK899.out (f6_ BK914.out (e4_ BK915.out)))))))) (fun hHeld => ?_)
          clear hK K
          refine norm_ (a' := ?_) ?_ ?_
          rotate_left
          ·
           show Act.put _ (some 99) _ = _
           simp only [fr_]
           rfl
          refine pw_ 68 100 (b_ 69 6) rfl rfl HT_.out ?_
          refine pw_ 69 101 (b_ 70 5) rfl rfl HT_.out ?_
          refine take_ (i := 70) (N := some 102) (v := ?_) (a' := ?_) (b_ 71 4) rfl rfl (take_ofW HT_.out HW_.out (by kernel_rfl)) (fun _ _ _ h => h) (Or.inl ⟨by rfl, ?_⟩) hHeld ?_ ?_
          rotate_left
          ·
           rintro w' ⟨s0, s1, s2, s3, s4, s5, s6, s7, s8, s9, s10, s11, s12, s13, s14, s15, s16, s17, s18, s19, s20, s21, s22, s23, s24, s25, s26, s27, s28, s29, s30, s31, s32, s33, s34, s35, s36, s37, s38, s39, s40, s41, s42, s43, s44⟩
           go_simp
           with_reducible rfl
          rotate_left
          ·
           simp only [fr_]
           rfl
          refine one_ (i := 71) (N := some 103) (b_ 72 3) rfl rfl (one_of HT_.out (by kernel_rfl)) (by decide) (fun K hK => ?_)
          refine gs_ Tryd.func21 #[.agg #[.slice Ao85 t908.length co85, .int .i64 t911, .int .i64 t912, .string t913]] ?_
          with_reducible refine (impl_AlarmOk.calls k _ _ t908 t911 t912 t913 t932 _ ?side1 ?side2 A34.out).mono ?_
          (case side1 => exact cp_ ((Kd.R_reads' HO910.out).2.2))
          (case side2 => exact (Kd.R_reads' HO910.out).2.1)
          rintro e w111 ⟨rfl, hb⟩
          refine ⟨_, rfl, ?_⟩
          replace HO852 := rb_ HO852 hb
          replace HO861 := rb_ HO861 hb
          replace HO869 := rb_ HO869 hb
          replace HO879 := rb_ HO879 hb
          replace HO888 := rb_ HO888 hb
          replace HO892 := rb_ HO892 hb
          replace HO897 := sb_ HO897 hb
          replace HO907 := rb_ HO907 hb
          replace HO910 := rb_ HO910 hb
          replace BK853 := bk2_ BK853 hb
          replace BK870 := bk2_ BK870 hb
          replace BK871 := bk2_ BK871 hb
          replace BK880 := bk2_ BK880 hb
          replace BK898 := bk2_ BK898 hb
          replace BK899 := bk2_ BK899 hb
          replace BK914 := bk2_ BK914 hb
          replace BK915 := bk2_ BK915 hb
          replace HB := st_ HB hb
          (try clear hb)
          (try clear hk)
          refine hK.out _ _ (f6_ BK853.out (f6_ BK870.out (f6_ BK871.out (f6_ BK880.out (f6_ BK898.out (f5_ BK899.out (f6_ BK914.out (e4_ BK915.out)))))))) (fun hHeld => ?_)
          clear hK K
          refine norm_ (a' := ?_) ?_ ?_
          rotate_left
          ·
           show Act.put _ (some 103) _ = _
           simp only [fr_]
           rfl
          refine pw_ 72 104 (b_ 73 2) rfl rfl HT_.out ?_
          refine pw_ 73 105 (b_ 74 1) rfl rfl HT_.out ?_
          refine pw_ 74 2 (b_ 75 0) rfl rfl HT_.out ?_
          refine done_ (done_of HT_.out (by kernel_rfl)) ?_
          try go_wp2
          go_ret
          exact an_ (by exact hs_ HB.out)
         replace c33 := Bool.eq_false_iff.mpr c33
         subst c33
         rw [if_neg (show ¬ (false = true) by decide)] at H
         obtain rfl := Option.some.inj H
         with_reducible refine (impl_Fits.calls k t900 t901 t902 t903 t904 _ _ t905 _ _ t908 t911 t912 t913 false _ ?side1 ?side2 ?side3 ?side4 A32.out).mono ?_
         (case side1 => exact cp_ ((Kd.R_reads' HO907.out).2.2))
         (case side2 => exact (Kd.R_reads' HO907.out).2.1)
         (case side3 => exact cp_ ((Kd.R_reads' HO910.out).2.2))
         (case side4 => exact (Kd.R_reads' HO910.out).2.1)
         rintro e w187 ⟨rfl, hb⟩
         refine ⟨_, rfl, ?_⟩
         replace HO852 := rb_ HO852 hb
         replace HO861 := rb_ HO861 hb
         replace HO869 := rb_ HO869 hb
         replace HO879 := rb_ HO879 hb
         replace HO888 := rb_ HO888 hb
         replace HO892 := rb_ HO892 hb
         replace HO897 := sb_ HO897 hb
         replace HO907 := rb_ HO907 hb
         replace HO910 := rb_ HO910 hb
         replace BK853 := bk2_ BK853 hb
         replace BK870 := bk2_ BK870 hb
         replace BK871 := bk2_ BK871 hb
         replace BK880 := bk2_ BK880 hb
         replace BK898 := bk2_ BK898 hb
         replace BK899 := bk2_ BK899 hb
         replace BK914 := bk2_ BK914 hb
         replace BK915 := bk2_ BK915 hb
         replace HB := st_ HB hb
         (try clear hb)
         (try clear hk)
         refine hK.out _ _ (f6_ BK853.out (f6_ BK870.out (f6_ BK871.out (f6_ BK880.out (f6_ BK898.out (f5_ BK899.out (f6_ BK914.out (e4_ BK915.out)))))))) (fun hHeld => ?_)
         clear hK K
         refine norm_ (a' := ?_) ?_ ?_
         rotate_left
         ·
          show Act.put _ (some 99) _ = _
          simp only [fr_]
          rfl
         refine pw_ 68 100 (b_ 69 6) rfl rfl HT_.out ?_
         refine pw_ 69 101 (b_ 70 5) rfl rfl HT_.out ?_
         refine pv_ 70 102 ?_ (b_ 71 4) rfl rfl HT_.out ?_ ?_; rotate_left; simp only [fr_]; rfl
         refine pv_ 71 103 ?_ (b_ 72 3) rfl rfl HT_.out ?_ ?_; rotate_left; simp only [fr_]; rfl
         refine pw_ 72 104 (b_ 73 2) rfl rfl HT_.out ?_
         refine pw_ 73 105 (b_ 74 1) rfl rfl HT_.out ?_
         refine pw_ 74 2 (b_ 75 0) rfl rfl HT_.out ?_
         refine done_ (done_of HT_.out (by kernel_rfl)) ?_
         try go_wp2
         go_ret
         exact an_ (by exact hs_ HB.out)
        rw [if_neg c31] at H
        have c31b0 : (t929 == t930) = false := by simpa using c31
        (try (have c31b1 : decide (t929 = t930) = false := by simpa using c31))
        (try (have c31b2 : (t929 == t930) = false := by simpa using c31))
        (try (have c31b3 : ¬ (t929 = t930) := by simpa using c31))
        clear c31
        exact absurd H (by simp)
       rw [if_neg c28] at H
       have c28b0 : (t927 == t928) = false := beq_eq_false_iff_ne.mpr c28
       have c28b1 : (t927 != t928) = true := bne_iff_ne.mpr c28
       exact absurd H (by simp)
      rw [if_neg c25] at H
      have c25b0 : (t925 == t926) = false := beq_eq_false_iff_ne.mpr c25
      have c25b1 : (t925 != t926) = true := bne_iff_ne.mpr c25
      exact absurd H (by simp)
     rw [if_neg c22] at H
     have c22b0 : ((t923.toList != ([] : List UInt8)) == t924) = false := by simpa using c22
     have c22b9 : ((!t923.toList.isEmpty) == t924) = false := by rw [← c22b0]; cases t923.toList <;> rfl
     (try (have c22b1 : decide ((t923.toList != ([] : List UInt8)) = t924) = false := by simpa using c22))
     (try (have c22b2 : ((t923.toList != ([] : List UInt8)) == t924) = false := by simpa using c22))
     (try (have c22b3 : ¬ ((t923.toList != ([] : List UInt8)) = t924) := by simpa using c22))
     clear c22
     exact absurd H (by simp)
    rw [if_neg c19] at H
    have c19b0 : (t921.toList == t922.toList) = false := beq_eq_false_iff_ne.mpr c19
    have c19b1 : (t921.toList != t922.toList) = true := bne_iff_ne.mpr c19
    exact absurd H (by simp)
   replace c16 := Bool.eq_false_iff.mpr c16
   subst c16
   rw [if_neg (show ¬ (false = true) by decide)] at H
   exact absurd H (by simp)
  rw [if_neg c14] at H
  have c14b0 : (t918 == t919) = false := by simpa using c14
  (try (have c14b1 : decide (t918 = t919) = false := by simpa using c14))
  (try (have c14b2 : (t918 == t919) = false := by simpa using c14))
  (try (have c14b3 : ¬ (t918 = t919) := by simpa using c14))
  clear c14
  exact absurd H (by simp)
 rw [if_neg c11] at H
 have c11b0 : (t916 == t917) = false := by simpa using c11
 (try (have c11b1 : decide (t916 = t917) = false := by simpa using c11))
 (try (have c11b2 : (t916 == t917) = false := by simpa using c11))
 (try (have c11b3 : ¬ (t916 = t917) := by simpa using c11))
 clear c11
 exact absurd H (by simp)
/-- THE ONE PURE STATEMENT of laws_FnConfs: yours. -/
def laws_FnConfs.Pure : Prop := ∀ (l0 : List Int), l0.length ≤ maxLen → l0.length * 1 ≤ 140737488351232 → (∀ x ∈ l0, (Lit.int .u8 x).wf = true) → ∃ k, laws_FnConfs.f k l0 = some true
theorem laws_FnConfs.walk (P : laws_FnConfs.Pure) (a0 : Option Addr) (len0 cap0 : Nat) (z0 : List Int) (w : World) (w0 : (a0 = none ∧ len0 = 0 ∧ cap0 = 0 ∧ z0 = []) ∨ ∃ x, a0 = some x ∧ len0 ≤ cap0 ∧ cap0 ≤ maxLen ∧ z0.length = cap0 ∧ (∀ i, i < z0.length → w.cell? (x.add i) = some (.int .u8 (z0.getD i 0))) ∧ ∀ n ∈ z0, (Lit.int .u8 n).wf = true) (y0 : len0 * 1 ≤ 140737488351232) :
  Calls Tryd.prog 3 #[.slice a0 len0 cap0] w fun e w' => e = .returned (.bool true) ∧ Below w.heap.size w w' := by
 obtain ⟨l0, rfl, hr0, hm0, hw0, hc0⟩ := ReadsInt.ofRowC w0
 obtain ⟨k, h⟩ := P l0 hm0 y0 hw0
 refine (laws_FnConfs.calls k _ _ l0 true w (Kd.C_of_reads (d := (0 : Int)) (h1 := fun _ => rfl) hr0) hc0 h).mono ?_
 rintro e w' ⟨rfl, hd⟩
 exact ⟨rfl, hd⟩
end Go.Proofs.YtanfohlpkppeiaaDoor.Print
end
section
namespace Go.Proofs.YtanfohlpkppeiaaDoor.Print
open Go.RowKit Go.Proofs.YtanfohlpkppeiaaDoorV.PrintWords Go.Proofs.YtanfohlpkppeiaaDoorV.PrintLast Go.Proofs.YtanfohlpkppeiaaDoorV.PrintMore
set_option linter.unusedVariables false
set_option linter.unusedSimpArgs false
def WiLabel (x : S83) : Prop := x.f0.size ≤ 4000000 ∧ x.f1.size ≤ 4000000
def WiAlarm (x : S37) : Prop := (x.f0.length ≤ 4000000 ∧ ∀ y ∈ x.f0, WiLabel y) ∧ True ∧ True ∧ x.f3.size ≤ 4000000
structure S26 where mk :: (f0 : Int) (f1 : Int) (f2 : Int) (f3 : Int) (f4 : Int) (f5 : List ByteArray)
structure S33 where mk :: (f0 : Int) (f1 : List S83) (f2 : Int) (f3 : Int) (f4 : List S37)
theorem wrap_id {x : Int} (h1 : -9223372036854775808 ≤ x) (h2 : x ≤ 9223372036854775807) : wrap64 x = x := by unfold wrap64; omega
theorem wrap_up (n : Nat) (h : n < 9223372036854775807) : wrap64 ((n : Int) + 1) = ((n + 1 : Nat) : Int) := by unfold wrap64; omega
theorem lt_mid {α : Type} (pre suf : List α) (y : α) : (pre.length : Int) < ((pre ++ y :: suf).length : Int) := by simp only [List.length_append, List.length_cons]; omega
theorem not_lt_end {α : Type} (pre : List α) : ¬ ((pre.length : Int) < ((pre ++ []).length : Int)) := by simp
theorem nn (n : Nat) : (0 : Int) ≤ (n : Int) := by omega
theorem mid_assoc {α : Type} (pre suf : List α) (y : α) : pre ++ y :: suf = (pre ++ [y]) ++ suf := by simp
theorem and_top (x : Int) (m : Nat) (hm : m < 9223372036854775808) : 0 ≤ Go.bits .and .i64 x (m : Int) ∧ Go.bits .and .i64 x (m : Int) ≤ m := by
  have h1 : (BitVec.ofInt 64 x &&& BitVec.ofInt 64 (m : Int)).toNat ≤ m := by
    rw [BitVec.toNat_and]
    refine Nat.le_trans Nat.and_le_right ?_
    rw [BitVec.ofInt_natCast, BitVec.toNat_ofNat]
    exact Nat.mod_le _ _
  have h2 : Go.bits .and .i64 x (m : Int) = ((BitVec.ofInt 64 x &&& BitVec.ofInt 64 (m : Int)).toNat : Int) := by
    show IntKind.i64.wrap ((BitVec.ofInt 64 x &&& BitVec.ofInt 64 (m : Int)).toNat : Int) = _
    rw [IntKind.wrap_i64]
    omega
  rw [h2]; omega
theorem dNew_l0 (l : List Int) (hl : l.length ≤ 1048576) : ∀ (n i : Nat) (h : Int), l.length ≤ i + n → ∃ s, Ev (fun k => spec_l1New.l0 k l h (i : Int)) (l, 0, s)
  | 0, i, h, hn => ⟨h, 1, fun k hk => by
    obtain ⟨k, rfl⟩ : ∃ m, k = m + 1 := ⟨k - 1, by omega⟩
    simp only [spec_l1New.l0]; rw [if_neg (by omega)]⟩
  | n + 1, i, h, hn => by
    by_cases c : (i : Int) < (l.length : Int)
    · by_cases c2 : (i : Int) < 4000
      · obtain ⟨s, K, g⟩ := dNew_l0 l hl n (i + 1) (Go.bits .and .i64 (wrap64 ((wrap64 ((wrap64 (h * 137)) + (wrap64 (rd l (i : Int))))) + 11)) 1073741823) (by omega)
        refine ⟨s, K + 1, fun k hk => ?_⟩
        obtain ⟨k, rfl⟩ : ∃ m, k = m + 1 := ⟨k - 1, by omega⟩
        have e := g k (by omega)
        simp only at e
        simp only [spec_l1New.l0]
        rw [if_pos c, if_pos c2, if_pos (by omega), wrap_up i (by omega), e]
      · refine ⟨h, 1, fun k hk => ?_⟩
        obtain ⟨k, rfl⟩ : ∃ m, k = m + 1 := ⟨k - 1, by omega⟩
        simp only [spec_l1New.l0]; rw [if_pos c, if_neg c2]
    · refine ⟨h, 1, fun k hk => ?_⟩
      obtain ⟨k, rfl⟩ : ∃ m, k = m + 1 := ⟨k - 1, by omega⟩
      simp only [spec_l1New.l0]; rw [if_neg c]
theorem dNew (l : List Int) (hl : l.length ≤ 1048576) : ∃ s, Ev (fun k => spec_l1New.f k l) (l, 0, s) := by
  obtain ⟨s, g⟩ := dNew_l0 l hl l.length 0 (wrap64 (140873 + (l.length : Int))) (by omega)
  exact ⟨s, g⟩
section
variable (l : List Int) (hl : l.length ≤ 1048576)
include hl
theorem dByte (p s : Int) (hp : 0 ≤ p) : ∃ v p' s', spec_l1Byte.f l p s = some (v, p', s') ∧ 0 ≤ p' ∧ 0 ≤ v ∧ v < 256 := by
  unfold spec_l1Byte.f
  have a1 := fun x => and_top x 255 (by decide)
  by_cases c : p < (l.length : Int)
  · rw [if_pos c, if_pos hp]
    refine ⟨_, _, _, rfl, by rw [wrap_id (by omega) (by omega)]; omega, (a1 _).1, by have := (a1 (wrap64 ((Go.bits .and .i64 (Go.bits .xor .i64 ((wrap64 ((wrap64 (s * 6364136223846793005)) + 1442695040888963407)) / 8589934592) ((wrap64 ((wrap64 (s * 6364136223846793005)) + 1442695040888963407)) / 140737488355328)) 255) + (wrap64 (rd l p))))).2; exact Int.lt_of_le_of_lt this (by decide)⟩
  · rw [if_neg c]
    exact ⟨_, _, _, rfl, hp, (a1 _).1, Int.lt_of_le_of_lt (a1 _).2 (by decide)⟩
theorem dBelow (p s a : Int) (hp : 0 ≤ p) (h0 : 0 < a) (h1 : a ≤ 256) : ∃ v p' s', spec_l1Below.f l p s a = some (v, p', s') ∧ 0 ≤ p' ∧ 0 ≤ v ∧ v < a := by
  obtain ⟨v, p', s', e, q, v0, _⟩ := dByte l hl p s hp
  refine ⟨Int.tmod v a, p', s', ?_, q, Int.tmod_nonneg _ v0, Int.tmod_lt_of_pos _ h0⟩
  simp only [spec_l1Below.f]
  rw [if_neg (by omega), if_pos h1, e, Option.bind_some, if_neg (by omega)]
theorem dOnce (p s a : Int) (hp : 0 ≤ p) (h0 : 0 < a) (h1 : a ≤ 256) : ∃ v p' s', spec_l1Once.f l p s a = some (v, p', s') ∧ 0 ≤ p' := by
  obtain ⟨v, p', s', e, q, _, _⟩ := dBelow l hl p s a hp h0 h1
  exact ⟨v == 0, p', s', by simp only [spec_l1Once.f, e, Option.bind_some], q⟩
end
/-- A loop that goes on or stops with an answer. -/
def scan {ρ : Type} (step : Nat → Option ρ) (fin : ρ) : Nat → Nat → ρ
  | 0, _ => fin
  | d + 1, i => match step i with
    | some r => r
    | none => scan step fin d (i + 1)
/-- What one round does. -/
def goOn {ρ : Type} (o : Option ρ) (next : Option ρ) : Option ρ := match o with
  | some r => some r
  | none => next
theorem scan_ev2 {ρ : Type} {F : Nat → Int → Option ρ} {n : Nat} {step : Nat → Option ρ} {fin : ρ} (hend : ∃ K, ∀ k, K ≤ k → F (k + 1) (n : Int) = some fin)
    (hstep : ∀ i, i < n → ∃ K, ∀ k, K ≤ k → F (k + 1) (i : Int) = goOn (step i) (F k ((i + 1 : Nat) : Int))) : ∀ d i, d + i = n → Ev (fun k => F k (i : Int)) (scan step fin d i)
  | 0, i, h => by
    obtain rfl : i = n := by omega
    obtain ⟨K, hK⟩ := hend
    refine ⟨K + 1, fun k hk => ?_⟩
    obtain ⟨m, rfl⟩ : ∃ m, k = m + 1 := ⟨k - 1, by omega⟩
    exact hK m (by omega)
  | d + 1, i, h => by
    obtain ⟨K, hK⟩ := hstep i (by omega)
    unfold scan
    cases hs : step i with
    | some r =>
      refine ⟨K + 1, fun k hk => ?_⟩
      obtain ⟨m, rfl⟩ : ∃ m, k = m + 1 := ⟨k - 1, by omega⟩
      have := hK m (by omega)
      rw [hs] at this
      exact this
    | none =>
      obtain ⟨K', hK'⟩ := scan_ev2 hend hstep d (i + 1) (by omega)
      refine ⟨max K K' + 1, fun k hk => ?_⟩
      obtain ⟨m, rfl⟩ : ∃ m, k = m + 1 := ⟨k - 1, by omega⟩
      have := hK m (by omega)
      rw [hs] at this
      exact this.trans (hK' m (by omega))
theorem scan_ev {ρ : Type} {F : Nat → Int → Option ρ} {n : Nat} {step : Nat → Option ρ} {fin : ρ} (hend : ∀ k, F (k + 1) (n : Int) = some fin)
    (hstep : ∀ i, i < n → ∃ K, ∀ k, K ≤ k → F (k + 1) (i : Int) = goOn (step i) (F k ((i + 1 : Nat) : Int))) : ∀ d i, d + i = n → Ev (fun k => F k (i : Int)) (scan step fin d i) := scan_ev2 ⟨0, fun k _ => hend k⟩ hstep
theorem scan_congr {ρ : Type} {s s' : Nat → Option ρ} {f : ρ} : ∀ d i, (∀ j, i ≤ j → j < i + d → s j = s' j) → scan s f d i = scan s' f d i
  | 0, _, _ => rfl
  | d + 1, i, h => by
    unfold scan
    rw [h i (Nat.le_refl _) (by omega)]
    cases s' i with
    | some r => rfl
    | none => exact scan_congr d (i + 1) (fun j h1 h2 => h j (by omega) (by omega))
/-- All of a list, and e. -/
theorem scan_all {α : Type} (p : α → Bool) (z : α) (e : Bool) : ∀ (suf pre : List α), scan (fun i => if p ((pre ++ suf).getD i z) = true then none else some false) e suf.length pre.length = (suf.all p && e)
  | [], pre => by simp [scan]
  | y :: suf, pre => by
    have ih := scan_all p z e suf (pre ++ [y])
    simp only [List.append_assoc, List.singleton_append, List.length_append, List.length_singleton] at ih
    simp only [List.length_cons, scan]
    rw [show (pre ++ y :: suf).getD pre.length z = y by simp]
    cases hp : p y with
    | true => simp only [if_true]; rw [ih]; simp [hp]
    | false => simp [hp]
theorem scan_all0 {α : Type} (p : α → Bool) (z : α) (e : Bool) (l : List α) : scan (fun i => if p (l.getD i z) = true then none else some false) e l.length 0 = (l.all p && e) := scan_all p z e l []
/-- Two lists of one length, element by element. -/
theorem scan_same {α β : Type} [DecidableEq β] (f : α → β) (z : α) : ∀ (a b pa pb : List α), a.length = b.length → pa.length = pb.length →
    scan (fun i => if f ((pa ++ a).getD i z) = f ((pb ++ b).getD i z) then none else some false) true a.length pa.length = decide (a.map f = b.map f)
  | [], [], pa, pb, _, _ => by simp [scan]
  | [], _ :: _, _, _, h, _ => by simp at h
  | _ :: _, [], _, _, h, _ => by simp at h
  | x :: a, y :: b, pa, pb, h, h2 => by
    have ih := scan_same f z a b (pa ++ [x]) (pb ++ [y]) (by simpa using h) (by simp [h2])
    simp only [List.append_assoc, List.singleton_append, List.length_append, List.length_singleton] at ih
    simp only [List.length_cons, scan]
    rw [show (pa ++ x :: a).getD pa.length z = x by simp, show (pb ++ y :: b).getD pa.length z = y by rw [h2]; simp]
    by_cases he : f x = f y
    · simp only [if_pos he]; rw [ih]; simp [he]
    · simp [he]
theorem scan_same0 {α β : Type} [DecidableEq β] (f : α → β) (z : α) (a b : List α) (h : a.length = b.length) : scan (fun i => if f (a.getD i z) = f (b.getD i z) then none else some false) true a.length 0 = decide (a.map f = b.map f) := scan_same f z a b [] [] h rfl
/-- The place of the first that is so, or -1. -/
def place {α : Type} (p : α → Bool) : List α → Nat → Int
  | [], _ => -1
  | x :: l, i => if p x = true then (i : Int) else place p l (i + 1)
theorem scan_place {α : Type} (p : α → Bool) (z : α) : ∀ (suf pre : List α), scan (fun i => if p ((pre ++ suf).getD i z) = true then some (i : Int) else none) (-1) suf.length pre.length = place p suf pre.length
  | [], pre => by simp [scan, place]
  | y :: suf, pre => by
    have ih := scan_place p z suf (pre ++ [y])
    simp only [List.append_assoc, List.singleton_append, List.length_append, List.length_singleton] at ih
    simp only [List.length_cons, scan, place]
    rw [show (pre ++ y :: suf).getD pre.length z = y by simp]
    by_cases hp : p y = true
    · simp [hp]
    · simp only [if_neg hp]; exact ih
theorem scan_place0 {α : Type} (p : α → Bool) (z : α) (l : List α) : scan (fun i => if p (l.getD i z) = true then some (i : Int) else none) (-1) l.length 0 = place p l 0 := scan_place p z l []
theorem getD_eq {α : Type} (l : List α) (i : Nat) (z : α) (h : i < l.length) : l.getD i z = l[i] := by simp [List.getD_eq_getElem?_getD, List.getElem?_eq_getElem h]
theorem getD_mem {α : Type} (l : List α) (i : Nat) (z : α) (h : i < l.length) : l.getD i z ∈ l := by rw [getD_eq l i z h]; exact List.getElem_mem h
section
variable (l : List Int) (hl : l.length ≤ 1048576)
include hl
theorem dStr (p s : Int) (m : List ByteArray) (hp : 0 ≤ p) (h0 : 0 < m.length) (h1 : m.length ≤ 256) : ∃ v p' s', spec_l1Str.f l p s m = some (v, p', s') ∧ 0 ≤ p' ∧ v ∈ m := by
  obtain ⟨v, p', s', e, q, v0, v1⟩ := dBelow l hl p s (m.length : Int) hp (by omega) (by omega)
  refine ⟨rdOf ByteArray.empty m v, p', s', ?_, q, ?_⟩
  · simp only [spec_l1Str.f, e, Option.bind_some]
    rw [if_pos v0, if_pos v1]
  · show m.getD v.toNat _ ∈ m
    exact getD_mem m v.toNat _ (by omega)
theorem dInt (p s : Int) (m : List Int) (hp : 0 ≤ p) (h0 : 0 < m.length) (h1 : m.length ≤ 256) : ∃ v p' s', spec_l1Int.f l p s m = some (v, p', s') ∧ 0 ≤ p' ∧ v ∈ m := by
  obtain ⟨v, p', s', e, q, v0, v1⟩ := dBelow l hl p s (m.length : Int) hp (by omega) (by omega)
  refine ⟨rd m v, p', s', ?_, q, ?_⟩
  · simp only [spec_l1Int.f, e, Option.bind_some]
    rw [if_pos v0, if_pos v1]
  · show m.getD v.toNat _ ∈ m
    exact getD_mem m v.toNat _ (by omega)
/-- A short list of labels. -/
def ShortL (n : Nat) (x : List S83) : Prop := x.length ≤ n ∧ ∀ y ∈ x, WiLabel y
theorem dLabels_l0 (m : List ByteArray) (hm : ∀ v ∈ m, v.size ≤ 4000000) (hm2 : m.length ≤ 100) : ∀ (n i : Nat) (x : List S83) (p s : Int), 0 ≤ p → m.length ≤ i + n → x.length + n ≤ 100 → (∀ y ∈ x, WiLabel y) →
    ∃ r p' s', Ev (fun k => spec_l2Draw.l0 k x m (m.length : Int) (i : Int) l p s) (r, p', s') ∧ 0 ≤ p' ∧ ShortL (x.length + n) r ∧ x.length ≤ r.length
  | 0, i, x, p, s, hp, hi, hx, hw => ⟨x, p, s, ⟨1, fun k hk => by
    obtain ⟨k, rfl⟩ : ∃ j, k = j + 1 := ⟨k - 1, by omega⟩
    simp only [spec_l2Draw.l0]; rw [if_neg (by omega)]⟩, hp, ⟨by omega, hw⟩, Nat.le_refl _⟩
  | n + 1, i, x, p, s, hp, hi, hx, hw => by
    by_cases c : (i : Int) < (m.length : Int)
    · obtain ⟨v, p1, s1, e1, q1⟩ := dOnce l hl p s 4 hp (by decide) (by decide)
      cases v with
      | true =>
        obtain ⟨u, p2, s2, e2, q2, u2⟩ := dStr l hl p1 s1 [(⟨#[49]⟩ : ByteArray), (⟨#[50]⟩ : ByteArray)] q1 (by decide) (by decide)
        obtain ⟨r, p', s', ⟨K, g⟩, q, w, w2⟩ := dLabels_l0 m hm hm2 n (i + 1) (x ++ [(⟨rdOf ByteArray.empty m (i : Int), u⟩ : S83)]) p2 s2 q2 (by omega) (by simp only [List.length_append, List.length_singleton]; omega) (fun y hy => by
          rcases List.mem_append.1 hy with h | h
          · exact hw y h
          · rw [List.mem_singleton.1 h]
            refine ⟨hm _ ?_, ?_⟩
            · show m.getD (i : Int).toNat _ ∈ m
              exact getD_mem m _ _ (by omega)
            · exact (show ∀ v ∈ [(⟨#[49]⟩ : ByteArray), (⟨#[50]⟩ : ByteArray)], v.size ≤ 4000000 by decide) u u2)
        refine ⟨r, p', s', ⟨K + 1, fun k hk => ?_⟩, q, ⟨by have := w.1; simp only [List.length_append, List.length_singleton] at this; omega, w.2⟩, by simp only [List.length_append, List.length_singleton] at w2; omega⟩
        obtain ⟨k, rfl⟩ : ∃ j, k = j + 1 := ⟨k - 1, by omega⟩
        have e := g k (by omega)
        simp only at e
        simp only [spec_l2Draw.l0]
        rw [if_pos c, if_pos (by omega), if_pos c, e1]
        simp only [Option.bind_some, if_true]
        rw [e2]
        simp only [Option.bind_some]
        rw [if_pos (by omega), wrap_up i (by omega), e]
      | false =>
        obtain ⟨r, p', s', ⟨K, g⟩, q, w, w2⟩ := dLabels_l0 m hm hm2 n (i + 1) x p1 s1 q1 (by omega) (by omega) hw
        refine ⟨r, p', s', ⟨K + 1, fun k hk => ?_⟩, q, ⟨by have := w.1; omega, w.2⟩, w2⟩
        obtain ⟨k, rfl⟩ : ∃ j, k = j + 1 := ⟨k - 1, by omega⟩
        have e := g k (by omega)
        simp only at e
        simp only [spec_l2Draw.l0]
        rw [if_pos c, if_pos (by omega), if_pos c, e1]
        simp only [Option.bind_some, Bool.false_eq_true, if_false]
        rw [wrap_up i (by omega), e]
    · refine ⟨x, p, s, ⟨1, fun k hk => ?_⟩, hp, ⟨by omega, hw⟩, Nat.le_refl _⟩
      obtain ⟨k, rfl⟩ : ∃ j, k = j + 1 := ⟨k - 1, by omega⟩
      simp only [spec_l2Draw.l0]; rw [if_neg c]
theorem dLabels (p s : Int) (hp : 0 ≤ p) : ∃ r p' s', Ev (fun k => spec_l2Draw.f k l p s) (r, p', s') ∧ 0 ≤ p' ∧ ShortL 4 r ∧ 1 ≤ r.length := by
  obtain ⟨u, p1, s1, e1, q1, u1⟩ := dStr l hl p s [(⟨#[97]⟩ : ByteArray), (⟨#[98]⟩ : ByteArray), (⟨#[99]⟩ : ByteArray)] hp (by decide) (by decide)
  have hu := (show ∀ v ∈ [(⟨#[97]⟩ : ByteArray), (⟨#[98]⟩ : ByteArray), (⟨#[99]⟩ : ByteArray)], v.size ≤ 4000000 by decide) u u1
  obtain ⟨r, p', s', ⟨K, g⟩, q, w, w2⟩ := dLabels_l0 l hl [(⟨#[104, 111, 115, 116]⟩ : ByteArray), (⟨#[115, 101, 118]⟩ : ByteArray), (⟨#[122, 111, 110, 101]⟩ : ByteArray)] (by decide) (by decide) 3 0 [(⟨(⟨#[97, 112, 112]⟩ : ByteArray), u⟩ : S83)] p1 s1 q1 (by decide) (by simp only [List.length_singleton]; omega) (fun y hy => by
    rw [List.mem_singleton.1 hy]; exact ⟨(show (⟨#[97, 112, 112]⟩ : ByteArray).size ≤ 4000000 by decide), hu⟩)
  refine ⟨r, p', s', ⟨K, fun k hk => ?_⟩, q, w, w2⟩
  have e := g k hk
  simp only at e
  simp only [spec_l2Draw.f, e1, Option.bind_some]
  exact e
theorem dPlain (p s : Int) (hp : 0 ≤ p) : ∃ v p' s', spec_l1Plain.f l p s = some (v, p', s') ∧ 0 ≤ p' ∧ v.size ≤ 4000000 := by
  obtain ⟨u, p1, s1, e1, q1, u1⟩ := dStr l hl p s [(⟨#[97]⟩ : ByteArray), (⟨#[98]⟩ : ByteArray), (⟨#[120, 32, 121]⟩ : ByteArray), (⟨#[]⟩ : ByteArray), (⟨#[99, 114, 105, 116]⟩ : ByteArray), (⟨#[125, 45]⟩ : ByteArray)] hp (by decide) (by decide)
  refine ⟨u, p1, s1, by simp only [spec_l1Plain.f, e1, Option.bind_some], q1, ?_⟩
  exact (show ∀ v ∈ [(⟨#[97]⟩ : ByteArray), (⟨#[98]⟩ : ByteArray), (⟨#[120, 32, 121]⟩ : ByteArray), (⟨#[]⟩ : ByteArray), (⟨#[99, 114, 105, 116]⟩ : ByteArray), (⟨#[125, 45]⟩ : ByteArray)], v.size ≤ 4000000 by decide) u u1
/-- A drawn alarm. -/
def ShortA (a : S37) : Prop := a.f0.length ≤ 100 ∧ WiAlarm a
omit hl in
theorem shortA_mk {n : Nat} {r : List S83} (b c : Int) {t : ByteArray} (h : ShortL n r) (hn : n ≤ 100) (ht : t.size ≤ 4000000) : ShortA ⟨r, b, c, t⟩ :=
  ⟨Nat.le_trans h.1 hn, ⟨⟨Nat.le_trans h.1 (Nat.le_trans hn (by decide)), h.2⟩, trivial, trivial, ht⟩⟩
theorem dAlarm (p s : Int) (hp : 0 ≤ p) : ∃ (a : S37) (p' s' : Int), Ev (fun k => spec_l4Draw.f k l p s) (a.f0, a.f1, a.f2, a.f3, p', s') ∧ 0 ≤ p' ∧ ShortL 4 a.f0 ∧ 1 ≤ a.f0.length ∧ a.f3.size ≤ 4000000 := by
  obtain ⟨r, p1, s1, ⟨K, g⟩, q1, w, w2⟩ := dLabels l hl p s hp
  obtain ⟨b, p2, s2, e2, q2, _, _⟩ := dBelow l hl p1 s1 8 q1 (by decide) (by decide)
  obtain ⟨t, p3, s3, e3, q3, ht⟩ := dPlain l hl p2 s2 q2
  obtain ⟨c, p4, s4, e4, q4, _⟩ := dInt l hl p3 s3 [0, 2, 5, 20, 60] q3 (by decide) (by decide)
  refine ⟨⟨r, b, wrap64 (b + c), t⟩, p4, s4, ⟨K, fun k hk => ?_⟩, q4, w, w2, ht⟩
  have e := g k hk
  simp only at e
  simp only [spec_l4Draw.f, e, Option.bind_some, e2, e3, e4]
theorem dAnyPlain (p s : Int) (hp : 0 ≤ p) : ∃ v p' s', spec_l1AnyPlain.f l p s = some (v, p', s') ∧ 0 ≤ p' ∧ v.size ≤ 4000000 := by
  obtain ⟨v, p1, s1, e1, q1⟩ := dOnce l hl p s 2 hp (by decide) (by decide)
  cases v with
  | true =>
    obtain ⟨u, p2, s2, e2, q2, u2⟩ := dPlain l hl p1 s1 q1
    exact ⟨u, p2, s2, by simp only [spec_l1AnyPlain.f, e1, Option.bind_some, if_true, e2], q2, u2⟩
  | false =>
    obtain ⟨u, p2, s2, e2, q2, u2⟩ := dStr l hl p1 s1 [(⟨#[34]⟩ : ByteArray), (⟨#[92]⟩ : ByteArray), (⟨#[127]⟩ : ByteArray), (⟨#[31]⟩ : ByteArray), (⟨#[116, 119, 101, 108, 118, 101, 32, 98, 121, 116, 101, 115]⟩ : ByteArray), (⟨#[116, 104, 105, 114, 116, 101, 101, 110, 98, 121, 116, 101, 115]⟩ : ByteArray), (⟨#[126]⟩ : ByteArray), (⟨#[125]⟩ : ByteArray), (⟨#[44, 32, 98, 61]⟩ : ByteArray), (⟨#[125, 32, 49, 45, 50]⟩ : ByteArray)] q1 (by decide) (by decide)
    refine ⟨u, p2, s2, by simp only [spec_l1AnyPlain.f, e1, Option.bind_some, Bool.false_eq_true, if_false, e2], q2, ?_⟩
    exact (show ∀ v ∈ [(⟨#[34]⟩ : ByteArray), (⟨#[92]⟩ : ByteArray), (⟨#[127]⟩ : ByteArray), (⟨#[31]⟩ : ByteArray), (⟨#[116, 119, 101, 108, 118, 101, 32, 98, 121, 116, 101, 115]⟩ : ByteArray), (⟨#[116, 104, 105, 114, 116, 101, 101, 110, 98, 121, 116, 101, 115]⟩ : ByteArray), (⟨#[126]⟩ : ByteArray), (⟨#[125]⟩ : ByteArray), (⟨#[44, 32, 98, 61]⟩ : ByteArray), (⟨#[125, 32, 49, 45, 50]⟩ : ByteArray)], v.size ≤ 4000000 by decide) u u2
theorem dNames (p s : Int) (hp : 0 ≤ p) : ∃ v p' s', spec_l1Names.f l p s = some (v, p', s') ∧ 0 ≤ p' ∧ v.size ≤ 4000000 := by
  obtain ⟨u, p1, s1, e1, q1, u1⟩ := dStr l hl p s [(⟨#[97, 112, 112]⟩ : ByteArray), (⟨#[104, 111, 115, 116]⟩ : ByteArray), (⟨#[115, 101, 118]⟩ : ByteArray), (⟨#[122, 111, 110, 101]⟩ : ByteArray)] hp (by decide) (by decide)
  refine ⟨u, p1, s1, by simp only [spec_l1Names.f, e1, Option.bind_some], q1, ?_⟩
  exact (show ∀ v ∈ [(⟨#[97, 112, 112]⟩ : ByteArray), (⟨#[104, 111, 115, 116]⟩ : ByteArray), (⟨#[115, 101, 118]⟩ : ByteArray), (⟨#[122, 111, 110, 101]⟩ : ByteArray)], v.size ≤ 4000000 by decide) u u1
theorem dAnyName (p s : Int) (hp : 0 ≤ p) : ∃ v p' s', spec_l1AnyName.f l p s = some (v, p', s') ∧ 0 ≤ p' ∧ v.size ≤ 4000000 := by
  obtain ⟨v, p1, s1, e1, q1⟩ := dOnce l hl p s 2 hp (by decide) (by decide)
  cases v with
  | true =>
    obtain ⟨u, p2, s2, e2, q2, u2⟩ := dNames l hl p1 s1 q1
    exact ⟨u, p2, s2, by simp only [spec_l1AnyName.f, e1, Option.bind_some, if_true, e2], q2, u2⟩
  | false =>
    obtain ⟨u, p2, s2, e2, q2, u2⟩ := dStr l hl p1 s1 [(⟨#[]⟩ : ByteArray), (⟨#[65]⟩ : ByteArray), (⟨#[110, 105, 110, 101, 99, 104, 97, 114, 115]⟩ : ByteArray), (⟨#[101, 105, 103, 104, 116, 97, 98, 99]⟩ : ByteArray), (⟨#[97, 32, 98]⟩ : ByteArray), (⟨#[97, 49]⟩ : ByteArray)] q1 (by decide) (by decide)
    refine ⟨u, p2, s2, by simp only [spec_l1AnyName.f, e1, Option.bind_some, Bool.false_eq_true, if_false, e2], q2, ?_⟩
    exact (show ∀ v ∈ [(⟨#[]⟩ : ByteArray), (⟨#[65]⟩ : ByteArray), (⟨#[110, 105, 110, 101, 99, 104, 97, 114, 115]⟩ : ByteArray), (⟨#[101, 105, 103, 104, 116, 97, 98, 99]⟩ : ByteArray), (⟨#[97, 32, 98]⟩ : ByteArray), (⟨#[97, 49]⟩ : ByteArray)], v.size ≤ 4000000 by decide) u u2
omit hl in
theorem shortL_add {n m : Nat} {a b : List S83} (ha : ShortL n a) (hb : ShortL m b) : ShortL (n + m) (a ++ b) :=
  ⟨by have := ha.1; have := hb.1; simp only [List.length_append]; omega, fun y hy => (List.mem_append.1 hy).elim (ha.2 y) (hb.2 y)⟩
omit hl in
theorem shortL_one (y : S83) (h : WiLabel y) : ShortL 1 [y] := ⟨Nat.le_refl _, fun z hz => by rw [List.mem_singleton.1 hz]; exact h⟩
omit hl in
theorem shortL_up {n m : Nat} {a : List S83} (h : ShortL n a) (hm : n ≤ m) : ShortL m a := ⟨Nat.le_trans h.1 hm, h.2⟩
theorem dAnyLabels (p s : Int) (hp : 0 ≤ p) : ∃ r p' s', Ev (fun k => spec_l2Any.f k l p s) (r, p', s') ∧ 0 ≤ p' ∧ ShortL 8 r := by
  obtain ⟨r, p1, s1, ⟨K, g⟩, q1, w, w2⟩ := dLabels l hl p s hp
  obtain ⟨b, p2, s2, e2, q2, _, _⟩ := dBelow l hl p1 s1 10 q1 (by decide) (by decide)
  have lr := w.1
  have l0 : (0 : Int) < (r.length : Int) := by omega
  have m0 : WiLabel (rd_T83 r 0) := w.2 _ (getD_mem r 0 _ (by omega))
  by_cases c0 : b = 0
  · obtain ⟨t, p3, s3, e3, q3, ht⟩ := dAnyName l hl p2 s2 q2
    obtain ⟨u, p4, s4, e4, q4, hu⟩ := dAnyPlain l hl p3 s3 q3
    refine ⟨r ++ [(⟨t, u⟩ : S83)], p4, s4, ⟨K, fun k hk => ?_⟩, q4, shortL_up (shortL_add w (shortL_one _ ⟨ht, hu⟩)) (by decide)⟩
    have e := g k hk
    simp only at e
    simp only [spec_l2Any.f, e, Option.bind_some, e2, if_pos c0, e3, e4]
    rw [if_pos (by omega)]
  by_cases c1 : b = 1
  · refine ⟨[(⟨(⟨#[122, 122]⟩ : ByteArray), (⟨#[49]⟩ : ByteArray)⟩ : S83)] ++ r, p2, s2, ⟨K, fun k hk => ?_⟩, q2, shortL_up (shortL_add (shortL_one _ (by constructor <;> decide)) w) (by decide)⟩
    have e := g k hk
    simp only at e
    simp only [spec_l2Any.f, e, Option.bind_some, e2, if_neg c0, if_pos c1]
    rw [if_pos (by simp only [List.length_singleton]; omega)]
  by_cases c2 : b = 2
  · refine ⟨r ++ [(⟨(rd_T83 r 0).f0, (rd_T83 r 0).f1⟩ : S83)], p2, s2, ⟨K, fun k hk => ?_⟩, q2, shortL_up (shortL_add w (shortL_one _ m0)) (by decide)⟩
    have e := g k hk
    simp only at e
    simp only [spec_l2Any.f, e, Option.bind_some, e2, if_neg c0, if_neg c1, if_pos c2]
    rw [if_pos l0, if_pos (by omega)]
  by_cases c3 : b = 3
  · refine ⟨r ++ [(⟨(⟨#[122, 117]⟩ : ByteArray), (⟨#[]⟩ : ByteArray)⟩ : S83), (⟨(⟨#[122, 118]⟩ : ByteArray), (⟨#[]⟩ : ByteArray)⟩ : S83), (⟨(⟨#[122, 119]⟩ : ByteArray), (⟨#[]⟩ : ByteArray)⟩ : S83), (⟨(⟨#[122, 120]⟩ : ByteArray), (⟨#[]⟩ : ByteArray)⟩ : S83)], p2, s2, ⟨K, fun k hk => ?_⟩, q2, shortL_add (m := 4) w ⟨Nat.le_refl 4, fun y hy => ?_⟩⟩
    · have e := g k hk
      simp only at e
      simp only [spec_l2Any.f, e, Option.bind_some, e2, if_neg c0, if_neg c1, if_neg c2, if_pos c3]
      rw [if_pos (by simp only [List.length_cons, List.length_nil]; omega)]
    · simp only [List.mem_cons, List.not_mem_nil, or_false] at hy
      rcases hy with rfl | rfl | rfl | rfl <;> (constructor <;> decide)
  by_cases c4 : b = 4
  · obtain ⟨u, p4, s4, e4, q4, hu⟩ := dAnyPlain l hl p2 s2 q2
    refine ⟨r.set (0 : Int).toNat (⟨(rd_T83 r 0).f0, u⟩ : S83), p4, s4, ⟨K, fun k hk => ?_⟩, q4, ⟨by rw [List.length_set]; omega, fun y hy => ?_⟩⟩
    · have e := g k hk
      simp only at e
      simp only [spec_l2Any.f, e, Option.bind_some, e2, if_neg c0, if_neg c1, if_neg c2, if_neg c3, if_pos c4, e4]
      rw [if_pos l0]
    · rcases List.mem_or_eq_of_mem_set hy with h | h
      · exact w.2 y h
      · rw [h]; exact ⟨m0.1, hu⟩
  by_cases c5 : b = 5
  · refine ⟨[], p2, s2, ⟨K, fun k hk => ?_⟩, q2, ⟨Nat.zero_le _, fun y hy => by simp at hy⟩⟩
    have e := g k hk
    simp only at e
    simp only [spec_l2Any.f, e, Option.bind_some, e2, if_neg c0, if_neg c1, if_neg c2, if_neg c3, if_neg c4, if_pos c5]
  · refine ⟨r, p2, s2, ⟨K, fun k hk => ?_⟩, q2, shortL_up w (by decide)⟩
    have e := g k hk
    simp only at e
    simp only [spec_l2Any.f, e, Option.bind_some, e2, if_neg c0, if_neg c1, if_neg c2, if_neg c3, if_neg c4, if_neg c5]
theorem dRaw (p s : Int) (hp : 0 ≤ p) : ∃ v p' s', spec_l1Raw.f l p s = some (v, p', s') ∧ 0 ≤ p' := by
  obtain ⟨v, p1, s1, e1, q1⟩ := dOnce l hl p s 2 hp (by decide) (by decide)
  cases v with
  | true =>
    obtain ⟨u, p2, s2, e2, q2, _⟩ := dInt l hl p1 s1 [(-1), 0, 1, 2, 255, 256, 65535, 2147483647, 2147483648, 4294967295, 4294967296, (-2147483648), 9223372036854775807, (-9223372036854775808)] q1 (by decide) (by decide)
    exact ⟨u, p2, s2, by simp only [spec_l1Raw.f, e1, Option.bind_some, if_true, spec_l1Odd.f, e2], q2⟩
  | false =>
    obtain ⟨u, p2, s2, e2, q2, _⟩ := dInt l hl p1 s1 [(-1), 0, 1, 3, 99999, 100000] q1 (by decide) (by decide)
    exact ⟨u, p2, s2, by simp only [spec_l1Raw.f, e1, Option.bind_some, Bool.false_eq_true, if_false, e2], q2⟩
theorem dAnyAlarm (p s : Int) (hp : 0 ≤ p) : ∃ (a : S37) (p' s' : Int), Ev (fun k => spec_l4Any.f k l p s) (a.f0, a.f1, a.f2, a.f3, p', s') ∧ 0 ≤ p' ∧ ShortA a := by
  obtain ⟨a, p1, s1, ⟨K, g⟩, q1, w, w2, ht⟩ := dAlarm l hl p s hp
  obtain ⟨b, p2, s2, e2, q2, _, _⟩ := dBelow l hl p1 s1 12 q1 (by decide) (by decide)
  by_cases c0 : b = 0
  · obtain ⟨r, p3, s3, ⟨K3, g3⟩, q3, w3⟩ := dAnyLabels l hl p2 s2 q2
    refine ⟨⟨r, a.f1, a.f2, a.f3⟩, p3, s3, ⟨K + K3, fun k hk => ?_⟩, q3, shortA_mk _ _ w3 (by decide) ht⟩
    have e := g k (by omega)
    have e3 := g3 k (by omega)
    simp only at e e3
    simp only [spec_l4Any.f, e, Option.bind_some, e2, if_pos c0, e3]
  by_cases c1 : b = 1
  · obtain ⟨u, p3, s3, e3, q3, _⟩ := dInt l hl p2 s2 [(-1), 99999, 100000] q2 (by decide) (by decide)
    refine ⟨⟨a.f0, u, a.f2, a.f3⟩, p3, s3, ⟨K, fun k hk => ?_⟩, q3, shortA_mk _ _ w (by decide) ht⟩
    have e := g k (by omega)
    simp only at e
    simp only [spec_l4Any.f, e, Option.bind_some, e2, if_neg c0, if_pos c1, e3]
  by_cases c2 : b = 2
  · obtain ⟨u, p3, s3, e3, q3⟩ := dRaw l hl p2 s2 q2
    refine ⟨⟨a.f0, a.f1, u, a.f3⟩, p3, s3, ⟨K, fun k hk => ?_⟩, q3, shortA_mk _ _ w (by decide) ht⟩
    have e := g k (by omega)
    simp only at e
    simp only [spec_l4Any.f, e, Option.bind_some, e2, if_neg c0, if_neg c1, if_pos c2, e3]
  by_cases c3 : b = 3
  · obtain ⟨u, p3, s3, e3, q3, hu⟩ := dAnyPlain l hl p2 s2 q2
    refine ⟨⟨a.f0, a.f1, a.f2, u⟩, p3, s3, ⟨K, fun k hk => ?_⟩, q3, shortA_mk _ _ w (by decide) hu⟩
    have e := g k (by omega)
    simp only at e
    simp only [spec_l4Any.f, e, Option.bind_some, e2, if_neg c0, if_neg c1, if_neg c2, if_pos c3, e3]
  · refine ⟨a, p2, s2, ⟨K, fun k hk => ?_⟩, q2, shortA_mk _ _ w (by decide) ht⟩
    have e := g k (by omega)
    simp only at e
    simp only [spec_l4Any.f, e, Option.bind_some, e2, if_neg c0, if_neg c1, if_neg c2, if_neg c3]
end
theorem inEq (a b c : Int) : impl_in.f a b c = some (decide (b ≤ a) && decide (a ≤ c)) := by
  unfold impl_in.f
  by_cases h : a ≥ b
  · rw [if_pos h]; simp [show b ≤ a from h]
  · rw [if_neg h]; simp [show ¬ b ≤ a from h]
theorem l1InEq (a b c : Int) : spec_l1In.f a b c = some (decide (b ≤ a) && decide (a ≤ c)) := by
  unfold spec_l1In.f
  by_cases h : a ≥ b
  · rw [if_pos h]; simp [show b ≤ a from h]
  · rw [if_neg h]; simp [show ¬ b ≤ a from h]
/-- Each byte of a name. -/
def nameStep {ρ : Type} (no : ρ) (s : ByteArray) (i : Nat) : Option ρ := if (bt s (i : Int)) < 97 then some no else if (bt s (i : Int)) > 122 then some no else none
def nameOk (s : ByteArray) : Bool := (decide (1 ≤ (s.size : Int)) && decide ((s.size : Int) ≤ 8)) && scan (nameStep false s) true s.size 0
/-- Where nothing stops a loop but with 'false', its end may wait. -/
theorem scan_end {step : Nat → Option Bool} (h : ∀ i r, step i = some r → r = false) (e : Bool) : ∀ d i, scan step e d i = (e && scan step true d i)
  | 0, i => by simp [scan]
  | d + 1, i => by
    unfold scan
    cases hs : step i with
    | some r => rw [h i r hs]; simp
    | none => exact scan_end h e d (i + 1)
theorem nameStep_false (s : ByteArray) (i : Nat) (r : Bool) (h : nameStep false s i = some r) : r = false := by
  unfold nameStep at h
  split at h
  · injection h with h; exact h.symm
  · split at h
    · injection h with h; exact h.symm
    · cases h
theorem implNameOk_ev (s : ByteArray) (h : s.size < 4611686018427387904) : Ev (fun k => impl_NameOk.f k s) (nameOk s) := by
  unfold impl_NameOk.f nameOk
  simp only [inEq, Option.bind_some]
  cases hc : (decide (1 ≤ (s.size : Int)) && decide ((s.size : Int) ≤ 8)) with
  | false => simp only [Bool.false_eq_true, if_false, Bool.false_and]; exact Ev.now _
  | true =>
    simp only [if_true, Bool.true_and]
    refine scan_ev (F := fun k i => impl_NameOk.l0 k s i) (n := s.size) (fun k => ?_) (fun i hi => ⟨0, fun k _ => ?_⟩) s.size 0 (by omega)
    · simp only [impl_NameOk.l0]; rw [if_neg (by omega)]
    · simp only [impl_NameOk.l0, nameStep]
      rw [if_pos (by omega), if_pos (by omega), wrap_up i (by omega)]
      split
      · rfl
      · split <;> rfl
theorem specNameOk_ev (s : ByteArray) (h : s.size < 4611686018427387904) : Ev (fun k => spec_NameOk.f k s) (nameOk s) := by
  unfold spec_NameOk.f nameOk
  rw [← scan_end (nameStep_false s)]
  refine scan_ev (F := fun k i => spec_NameOk.l0 k s i) (n := s.size) (fun k => ?_) (fun i hi => ⟨0, fun k _ => ?_⟩) s.size 0 (by omega)
  · simp only [spec_NameOk.l0]; rw [if_neg (by omega), l1InEq]; rfl
  · simp only [spec_NameOk.l0, nameStep]
    rw [if_pos (by omega), if_pos (by omega), wrap_up i (by omega)]
    split
    · rfl
    · split <;> rfl
def WiConf (x : S26) : Prop := True ∧ True ∧ True ∧ True ∧ True ∧ (x.f5.length ≤ 4000000 ∧ ∀ y ∈ x.f5, y.size ≤ 4000000)
theorem rdnString (l : List ByteArray) (i : Nat) : rdOf ByteArray.empty l (i : Int) = l.getD i ByteArray.empty := by unfold rdOf; simp
def ordStep (l : List ByteArray) (i : Nat) : Option Bool := if Op.bytesLess (l.getD i ByteArray.empty).toList (l.getD (i + 1) ByteArray.empty).toList = true then none else some false
def inOrder (l : List ByteArray) : Bool := scan (ordStep l) true (l.length - 1) 0
theorem up1 (i : Nat) (hi : i < 4611686018427387904) : wrap64 ((i : Int) + 1 - 1) = (i : Int) := by rw [wrap_id (by omega) (by omega)]; omega
theorem implInOrder_ev (l : List ByteArray) (h : l.length < 4611686018427387904) : Ev (fun k => impl_InOrder.f k l) (inOrder l) := by
  unfold impl_InOrder.f inOrder
  by_cases h0 : l.length = 0
  · rw [h0]
    refine Ev.step (f := fun _ => some true) (fun k => ?_) (Ev.now _)
    simp only [impl_InOrder.l0]; rw [if_neg (by omega)]
  · refine scan_ev (F := fun k i => impl_InOrder.l0 k l (i + 1)) (n := l.length - 1) (fun k => ?_) (fun i hi => ⟨0, fun k _ => ?_⟩) (l.length - 1) 0 (by omega)
    · simp only [impl_InOrder.l0]; rw [if_neg (by omega)]
    · simp only [impl_InOrder.l0]
      rw [if_pos (by omega), up1 i (by omega), if_pos (by omega), if_pos (by omega), if_pos (by omega), show (i : Int) + 1 = ((i + 1 : Nat) : Int) by omega, rdnString, rdnString, wrap_up (i + 1) (by omega)]
      unfold ordStep
      cases Op.bytesLess (l.getD i ByteArray.empty).toList (l.getD (i + 1) ByteArray.empty).toList <;> simp [goOn]
theorem specInOrder_ev (l : List ByteArray) (h : l.length < 4611686018427387904) : Ev (fun k => spec_InOrder.f k l) (inOrder l) := by
  unfold spec_InOrder.f inOrder
  by_cases h0 : l.length = 0
  · rw [h0]
    refine Ev.step (f := fun _ => some true) (fun k => ?_) (Ev.now _)
    simp only [spec_InOrder.l0]; rw [if_neg (by omega)]
  · refine scan_ev (F := fun k i => spec_InOrder.l0 k l (i + 1)) (n := l.length - 1) (fun k => ?_) (fun i hi => ⟨0, fun k _ => ?_⟩) (l.length - 1) 0 (by omega)
    · simp only [spec_InOrder.l0]; rw [if_neg (by omega)]
    · simp only [spec_InOrder.l0, spec_Less.f, Option.bind_some]
      rw [if_pos (by omega), up1 i (by omega), if_pos (by omega), if_pos (by omega), if_pos (by omega), show (i : Int) + 1 = ((i + 1 : Nat) : Int) by omega, rdnString, rdnString, wrap_up (i + 1) (by omega)]
      unfold ordStep
      cases Op.bytesLess (l.getD i ByteArray.empty).toList (l.getD (i + 1) ByteArray.empty).toList <;> simp [goOn]
def byOk (l : List ByteArray) : Bool := l.all nameOk && (decide ((l.length : Int) ≤ 2) && inOrder l)
theorem implByOk_ev (l : List ByteArray) (h : l.length ≤ 4000000 ∧ ∀ y ∈ l, y.size ≤ 4000000) : Ev (fun k => impl_ByOk.f k l) (byOk l) := by
  have h1 := h.1
  unfold impl_ByOk.f byOk
  obtain ⟨K0, g0⟩ := implInOrder_ev l (by omega)
  rw [← scan_all0 nameOk ByteArray.empty _ l]
  refine scan_ev2 (F := fun k i => impl_ByOk.l0 k l l (l.length : Int) i) (n := l.length) ⟨K0, fun k hk => ?_⟩ (fun i hi => ?_) l.length 0 (by omega)
  · have e := g0 k hk
    simp only at e
    simp only [impl_ByOk.l0]
    rw [if_neg (by omega), e]
    by_cases h2 : (l.length : Int) ≤ 2
    · rw [if_pos h2]; simp [h2]
    · rw [if_neg h2]; simp [h2]
  · have hs := h.2 _ (getD_mem l i ByteArray.empty hi)
    obtain ⟨K, g⟩ := implNameOk_ev (l.getD i ByteArray.empty) (by omega)
    refine ⟨K, fun k hk => ?_⟩
    have e := g k hk
    simp only at e
    simp only [impl_ByOk.l0]
    rw [if_pos (by omega), if_pos (by omega), if_pos (by omega), rdnString, e, Option.bind_some, wrap_up i (by omega)]
    cases nameOk (l.getD i ByteArray.empty) <;> simp [goOn]
theorem specByOk_ev (l : List ByteArray) (h : l.length ≤ 4000000 ∧ ∀ y ∈ l, y.size ≤ 4000000) : Ev (fun k => spec_ByOk.f k l) (byOk l) := by
  have h1 := h.1
  unfold spec_ByOk.f byOk
  obtain ⟨K0, g0⟩ := specInOrder_ev l (by omega)
  rw [← scan_all0 nameOk ByteArray.empty _ l]
  refine scan_ev2 (F := fun k i => spec_ByOk.l0 k l i) (n := l.length) ⟨K0, fun k hk => ?_⟩ (fun i hi => ?_) l.length 0 (by omega)
  · have e := g0 k hk
    simp only at e
    simp only [spec_ByOk.l0]
    rw [if_neg (by omega), e]
    by_cases h2 : (l.length : Int) ≤ 2
    · rw [if_pos h2]; simp [h2]
    · rw [if_neg h2]; simp [h2]
  · have hs := h.2 _ (getD_mem l i ByteArray.empty hi)
    obtain ⟨K, g⟩ := specNameOk_ev (l.getD i ByteArray.empty) (by omega)
    refine ⟨K, fun k hk => ?_⟩
    have e := g k hk
    simp only at e
    simp only [spec_ByOk.l0]
    rw [if_pos (by omega), if_pos (by omega), rdnString, e, Option.bind_some, wrap_up i (by omega)]
    cases nameOk (l.getD i ByteArray.empty) <;> simp [goOn]
def confOk (c : S26) : Bool := (decide (1 ≤ c.f0) && decide (c.f0 ≤ 3)) && ((decide (1 ≤ c.f1) && decide (c.f1 ≤ 8)) && ((decide (1 ≤ c.f2) && decide (c.f2 ≤ 2)) && ((decide (1 ≤ c.f3) && decide (c.f3 ≤ 9)) && ((decide (1 ≤ c.f4) && decide (c.f4 ≤ 9)) && byOk c.f5))))
theorem implConfOk_ev (c : S26) (h : WiConf c) : Ev (fun k => impl_ConfOk.f k c.f0 c.f1 c.f2 c.f3 c.f4 c.f5) (confOk c) := by
  obtain ⟨K, g⟩ := implByOk_ev c.f5 h.2.2.2.2.2
  refine ⟨K, fun k hk => ?_⟩
  have e := g k hk
  simp only at e
  simp only [impl_ConfOk.f, inEq, e, Option.bind_some, confOk]
  cases (decide (1 ≤ c.f0) && decide (c.f0 ≤ 3)) <;> cases (decide (1 ≤ c.f1) && decide (c.f1 ≤ 8)) <;> cases (decide (1 ≤ c.f2) && decide (c.f2 ≤ 2)) <;> cases (decide (1 ≤ c.f3) && decide (c.f3 ≤ 9)) <;> cases (decide (1 ≤ c.f4) && decide (c.f4 ≤ 9)) <;> simp
theorem specConfOk_ev (c : S26) (h : WiConf c) : Ev (fun k => spec_ConfOk.f k c.f0 c.f1 c.f2 c.f3 c.f4 c.f5) (confOk c) := by
  obtain ⟨K, g⟩ := specByOk_ev c.f5 h.2.2.2.2.2
  refine ⟨K, fun k hk => ?_⟩
  have e := g k hk
  simp only at e
  simp only [spec_ConfOk.f, l1InEq, e, Option.bind_some, confOk]
  cases (decide (1 ≤ c.f0) && decide (c.f0 ≤ 3)) <;> cases (decide (1 ≤ c.f1) && decide (c.f1 ≤ 8)) <;> cases (decide (1 ≤ c.f2) && decide (c.f2 ≤ 2)) <;> cases (decide (1 ≤ c.f3) && decide (c.f3 ≤ 9)) <;> cases (decide (1 ≤ c.f4) && decide (c.f4 ≤ 9)) <;> simp
theorem rdnString2 (l : List ByteArray) (i : Nat) : rdOf ByteArray.empty l (i : Int) = l.getD i ByteArray.empty := by unfold rdOf; simp
def sameTexts (a b : List ByteArray) : Bool := decide (a.map ByteArray.toList = b.map ByteArray.toList)
theorem map_ne_of_length2 {α β : Type} {f : α → β} {a b : List α} (h : ¬ a.length = b.length) : ¬ (a.map f = b.map f) := fun e => h (by simpa using congrArg List.length e)
theorem implSameTexts_ev (a b : List ByteArray) (h : a.length < 4611686018427387904) : Ev (fun k => impl_sameTexts.f k a b) (sameTexts a b) := by
  unfold impl_sameTexts.f sameTexts
  by_cases hl : a.length = b.length
  · simp only [if_pos (show (a.length : Int) = (b.length : Int) by omega)]
    rw [← scan_same0 ByteArray.toList ByteArray.empty a b hl]
    refine scan_ev (F := fun k i => impl_sameTexts.l0 k a b (a.length : Int) i) (n := a.length) (fun k => ?_) (fun i hi => ⟨0, fun k _ => ?_⟩) a.length 0 (by omega)
    · simp only [impl_sameTexts.l0]; rw [if_neg (by omega)]
    · simp only [impl_sameTexts.l0]
      rw [if_pos (by omega), if_pos (by omega), if_pos (by omega), if_pos (by omega), rdnString2, rdnString2, wrap_up i (by omega)]
      by_cases hc : (a.getD i ByteArray.empty).toList = (b.getD i ByteArray.empty).toList
      · rw [if_pos hc, if_pos hc]; rfl
      · rw [if_neg hc, if_neg hc]; rfl
  · simp only [if_neg (show ¬ (a.length : Int) = (b.length : Int) by omega), decide_eq_false (map_ne_of_length2 hl)]
    exact Ev.now _
theorem specSameTexts_ev (a b : List ByteArray) (h : a.length < 4611686018427387904) : Ev (fun k => spec_l13By.f k a b) (sameTexts a b) := by
  unfold spec_l13By.f sameTexts
  by_cases hl : a.length = b.length
  · simp only [if_pos (show (a.length : Int) = (b.length : Int) by omega)]
    rw [← scan_same0 ByteArray.toList ByteArray.empty a b hl]
    refine scan_ev (F := fun k i => spec_l13By.l0 k a b i) (n := a.length) (fun k => ?_) (fun i hi => ⟨0, fun k _ => ?_⟩) a.length 0 (by omega)
    · simp only [spec_l13By.l0]; rw [if_neg (by omega)]
    · simp only [spec_l13By.l0]
      rw [if_pos (by omega), if_pos (by omega), if_pos (by omega), rdnString2, rdnString2, wrap_up i (by omega)]
      by_cases hc : (a.getD i ByteArray.empty).toList = (b.getD i ByteArray.empty).toList
      · rw [if_pos hc, if_pos hc]; rfl
      · rw [if_neg hc, if_neg hc]; rfl
  · simp only [if_neg (show ¬ (a.length : Int) = (b.length : Int) by omega), decide_eq_false (map_ne_of_length2 hl)]
    exact Ev.now _
def sameConf (x y : S26) : Bool := decide (x.f0 = y.f0) && (decide (x.f1 = y.f1) && (decide (x.f2 = y.f2) && (decide (x.f3 = y.f3) && (decide (x.f4 = y.f4) && sameTexts x.f5 y.f5))))
theorem implSameConf_ev (x y : S26) (h : WiConf x) : Ev (fun k => impl_SameConf.f k x.f0 x.f1 x.f2 x.f3 x.f4 x.f5 y.f0 y.f1 y.f2 y.f3 y.f4 y.f5) (sameConf x y) := by
  have h1 := h.2.2.2.2.2.1
  obtain ⟨K, g⟩ := implSameTexts_ev x.f5 y.f5 (by omega)
  refine ⟨K, fun k hk => ?_⟩
  have e := g k hk
  simp only at e
  simp only [impl_SameConf.f, e, Option.bind_some, sameConf]
  by_cases c0 : x.f0 = y.f0
  · by_cases c1 : x.f1 = y.f1
    · by_cases c2 : x.f2 = y.f2
      · by_cases c3 : x.f3 = y.f3
        · by_cases c4 : x.f4 = y.f4 <;> simp [c0, c1, c2, c3, c4]
        · simp [c0, c1, c2, c3]
      · simp [c0, c1, c2]
    · simp [c0, c1]
  · simp [c0]
theorem specSameConf_ev (x y : S26) (h : WiConf x) : Ev (fun k => spec_SameConf.f k x.f0 x.f1 x.f2 x.f3 x.f4 x.f5 y.f0 y.f1 y.f2 y.f3 y.f4 y.f5) (sameConf x y) := by
  have h1 := h.2.2.2.2.2.1
  obtain ⟨K, g⟩ := specSameTexts_ev x.f5 y.f5 (by omega)
  refine ⟨K, fun k hk => ?_⟩
  have e := g k hk
  simp only at e
  simp only [spec_SameConf.f, e, Option.bind_some, sameConf]
  by_cases c0 : x.f0 = y.f0
  · by_cases c1 : x.f1 = y.f1
    · by_cases c2 : x.f2 = y.f2
      · by_cases c3 : x.f3 = y.f3
        · by_cases c4 : x.f4 = y.f4 <;> simp [c0, c1, c2, c3, c4]
        · simp [c0, c1, c2, c3]
      · simp [c0, c1, c2]
    · simp [c0, c1]
  · simp [c0]
end Go.Proofs.YtanfohlpkppeiaaDoor.Print
end
