import Derived.Test.YtfholjcelnkleaaMFnSubs1
import Derived.Laws.Cover1
section
namespace Go.Proofs.Ytfholjcelnkleaa.Print
open Go.RowKit Go.Proofs.YtfholjcelnkleaaV.PrintWords Go.Proofs.YtfholjcelnkleaaV.PrintLast Go.Proofs.YtfholjcelnkleaaV.PrintMore
attribute [local go_sem] max2_int min2_int max_two min_two max_three min_three max_four min_four
set_option linter.unusedVariables false
set_option linter.unusedSimpArgs false
set_option maxHeartbeats 8000000
set_option maxRecDepth 100000
def impl_sameAlarms.l0 : Nat → List (S44) → List (S44) → Int → Int → Option (Bool)
 | 0, _, _, _, _ => none
 | k + 1, x0, x1, x12, x13 => if x13 < x12 then (if 0 ≤ x13 then (if x13 < (x0.length : Int) then (if x13 < (x1.length : Int) then ((impl_SameAlarm.f k ((rd_T44 x0 x13).f0) ((rd_T44 x0 x13).f1) ((rd_T44 x0 x13).f2) ((rd_T44 x0 x13).f3) ((rd_T44 x1 x13).f0) ((rd_T44 x1 x13).f1) ((rd_T44 x1 x13).f2) ((rd_T44 x1 x13).f3)).bind fun t1288 => (if t1288 = true then (impl_sameAlarms.l0 k x0 x1 x12 (wrap64 (x13 + 1))) else (some false))) else (none)) else (none)) else (none)) else (some true)
def impl_sameAlarms.f (k : Nat) (l0 : List (S44)) (l1 : List (S44)) : Option (Bool) := if (l0.length : Int) = (l1.length : Int) then (impl_sameAlarms.l0 k l0 l1 (l0.length : Int) 0) else (some false)
theorem impl_sameAlarms.mono_l : ∀ k, (∀ y0 y1 y2 y3, LeO (impl_sameAlarms.l0 k y0 y1 y2 y3) (impl_sameAlarms.l0 (k + 1) y0 y1 y2 y3))
 | 0 => fun _ _ _ _ r h => by simp [impl_sameAlarms.l0] at h
 | k + 1 => by
  have ih0 := impl_sameAlarms.mono_l k
  intro y0 y1 y2 y3
  unfold impl_sameAlarms.l0
  repeat' first
  | (with_reducible exact ih0 _ _ _ _)
  | (with_reducible exact impl_SameAlarm.mono _ _ _ _ _ _ _ _ _)
  | (with_reducible exact LeO.refl _)
  | (with_reducible exact LeO.none _)
  | (with_reducible refine LeO.ite ?_ ?_)
  | (with_reducible refine LeO.bind ?_ (fun _ => ?_))
  | exact ih0 _ _ _ _
  | exact impl_SameAlarm.mono _ _ _ _ _ _ _ _ _
theorem impl_sameAlarms.mono : ∀ a0 a1 k, LeO (impl_sameAlarms.f k a0 a1) (impl_sameAlarms.f (k + 1) a0 a1) := by
 intro a0 a1 k
 have ih0 := impl_sameAlarms.mono_l k
 unfold impl_sameAlarms.f
 repeat' first | (with_reducible first | exact ih0 _ _ _ _ | exact impl_SameAlarm.mono _ _ _ _ _ _ _ _ _ | exact LeO.refl _ | exact LeO.none _ | refine LeO.ite ?_ ?_ | refine LeO.bind ?_ (fun _ => ?_)) | exact ih0 _ _ _ _ | exact impl_SameAlarm.mono _ _ _ _ _ _ _ _ _
def impl_sameAlarms.T6 : Bool × List (List Nat × List Nat) := (true, [([], []), ([], []), ([0, 1], [0, 1]), ([2], [2]), ([], []), ([], []), ([4, 5], [4, 5]), ([6], [6]), ([3, 7], [3, 7]), ([8], [8])])
def impl_sameAlarms.B6 : List Nat := [0, 0, 3, 7, 0, 0, 48, 112, 255, 511]
theorem impl_sameAlarms.tab6 : rtab .any (opsOf Try.f138 6) = impl_sameAlarms.T6 := by kernel_rfl
theorem impl_sameAlarms.bits6 : waitsOk impl_sameAlarms.T6.2 impl_sameAlarms.B6 = true := by kernel_rfl
theorem impl_sameAlarms.calls (k : Nat) (A0 : Option Addr) (c0 : Nat) (l0 : List (S44)) (A1 : Option Addr) (c1 : Nat) (l1 : List (S44)) (r : Bool) (w : World) (hr0 : Kd.C k44 w A0 l0.length l0) (hc0 : l0.length ≤ c0) (hr1 : Kd.C k44 w A1 l1.length l1) (hc1 : l1.length ≤ c1) (h : impl_sameAlarms.f k l0 l1 = some r) :
  Calls Try.prog 138 #[.slice A0 l0.length c0, .slice A1 l1.length c1] w fun e w' => e = .returned (.bool r) ∧ Below w.heap.size w w' := by
 have hu44 := Try.underlying44
 have HR0 := Aside0.mk hr0
 have HC0 := Aside0.mk hc0
 clear hr0 hc0
 have HR1 := Aside0.mk hr1
 have HC1 := Aside0.mk hc1
 clear hr1 hc1
 have HB := Aside0.mk (Below.refl w.heap.size w)
 have H : (if (l0.length : Int) = (l1.length : Int) then (impl_sameAlarms.l0 k l0 l1 (l0.length : Int) 0) else (some false)) = some r := h
 clear h
 by_cases c3 : (l0.length : Int) = (l1.length : Int)
 ·
  rw [if_pos c3] at H
  have c3b0 : ((l0.length : Int) == (l1.length : Int)) = true := beq_iff_eq.mpr c3
  have c3b1 : ((l0.length : Int) != (l1.length : Int)) = false := bne_eq_false_iff_eq.mpr c3
  have c3b2 : (l0.length == l1.length) = true := by first | simpa using c3 | (simp at c3 ⊢; omega)
  clear c3
  have H' := Aside0.mk H
  clear H
  go_enter Try.func138, Try.ntmps138
  go_wp2
  go_loopg [13] k (fun kq v13 w' => ∃ (x13_1 : Int), v13 = .int .i64 x13_1 ∧ Aside0 (impl_sameAlarms.l0 kq l0 l1 (l0.length : Int) x13_1 = some r) ∧ Aside0 (kq ≤ k) ∧ Aside0 (Below w.heap.size w w'))
  case atStart => exact ⟨(0), (by first | rfl | (simp; done) | (simp [*]; done)), H', ⟨Nat.le_refl _⟩, ⟨by exact hs_ HB.out⟩⟩
  case round =>
   clear H'
   try clear c1
   try clear p2
   try clear c3
   try clear c3b0
   try clear c3b1
   try clear c3b2
   obtain ⟨x13_1, rfl, HA, HK1, HB⟩ := hrel
   cases gk with
   | zero => exact absurd HA.out (by simp [impl_sameAlarms.l0])
   | succ k1 =>
    have H := HA.out
    clear HA
    simp only [impl_sameAlarms.l0] at H
    by_cases c4 : x13_1 < (l0.length : Int)
    ·
     rw [if_pos c4] at H
     have c4b0 := decide_eq_true c4
     clear c4
     by_cases c5 : 0 ≤ x13_1
     ·
      rw [if_pos c5] at H
      have c5b0 := decide_eq_true c5
      clear c5
      by_cases c6 : x13_1 < (l0.length : Int)
      ·
       rw [if_pos c6] at H
       have c6b0 := decide_eq_true c6
       clear c6
       by_cases c7 : x13_1 < (l1.length : Int)
       ·
        rw [if_pos c7] at H
        have c7b0 := decide_eq_true c7
        clear c7
        replace H := Option.bind_eq_some_iff.mp H
        obtain ⟨t1288, A80, H⟩ := H
        have A8 := Aside0.mk A80
        clear A80
        by_cases c9 : t1288 = true
        ·
         subst c9
         rw [if_pos rfl] at H
         have H' := Aside0.mk H
         clear H
         try go_wp2
         replace HB := Aside0.mk (bd_ HB.out)
         have p1286 : 0 ≤ (x13_1 : Int) := of_decide_eq_true (by with_reducible assumption)
         have q1286 : x13_1 < (l0.length : Int) := of_decide_eq_true (by with_reducible assumption)
         obtain ⟨ad1286, A1286_0, c1286_0, e1286, hx1286_0, hx1286_1, hx1286_2, hx1286_3, hl1286_0, hi1286_0⟩ := at_T44 HR0.out x13_1 p1286 q1286
         have hw1286_3 := hx1286_3
         have hw1286_2 := hx1286_2
         have hw1286_1 := hx1286_1
         have hw1286_0 := hx1286_0
         cases e1286
         replace hx1286_0 := cl_ HB.out hx1286_0
         replace hx1286_1 := cl_ HB.out hx1286_1
         replace hx1286_2 := cl_ HB.out hx1286_2
         replace hx1286_3 := cl_ HB.out hx1286_3
         have HR1286_0 := Aside0.mk hi1286_0
         have HC1286_0 := Aside0.mk hl1286_0
         clear hi1286_0 hl1286_0
         replace p1286 := eq_true p1286
         replace q1286 := eq_true q1286
         have p1287 : 0 ≤ (x13_1 : Int) := of_decide_eq_true (by with_reducible assumption)
         have q1287 : x13_1 < (l1.length : Int) := of_decide_eq_true (by with_reducible assumption)
         obtain ⟨ad1287, A1287_0, c1287_0, e1287, hx1287_0, hx1287_1, hx1287_2, hx1287_3, hl1287_0, hi1287_0⟩ := at_T44 HR1.out x13_1 p1287 q1287
         have hw1287_3 := hx1287_3
         have hw1287_2 := hx1287_2
         have hw1287_1 := hx1287_1
         have hw1287_0 := hx1287_0
         cases e1287
         replace hx1287_0 := cl_ HB.out hx1287_0
         replace hx1287_1 := cl_ HB.out hx1287_1
         replace hx1287_2 := cl_ HB.out hx1287_2
         replace hx1287_3 := cl_ HB.out hx1287_3
         have HR1287_0 := Aside0.mk hi1287_0
         have HC1287_0 := Aside0.mk hl1287_0
         clear hi1287_0 hl1287_0
         replace p1287 := eq_true p1287
         replace q1287 := eq_true q1287
         refine start_ (n := 10) (S := fun w' => w'.cell? (ad1286.add ((x13_1).toNat * 4)) = some (.slice A1286_0 ((rd_T44 l0 x13_1).f0).length c1286_0) ∧ w'.cell? ⟨(ad1286.add ((x13_1).toNat * 4)).block, (ad1286.add ((x13_1).toNat * 4)).off + 1, none⟩ = some (.int .i64 ((rd_T44 l0 x13_1).f1)) ∧ w'.cell? ⟨(ad1286.add ((x13_1).toNat * 4)).block, (ad1286.add ((x13_1).toNat * 4)).off + 2, none⟩ = some (.int .i64 ((rd_T44 l0 x13_1).f2)) ∧ w'.cell? ⟨(ad1286.add ((x13_1).toNat * 4)).block, (ad1286.add ((x13_1).toNat * 4)).off + 3, none⟩ = some (.string ((rd_T44 l0 x13_1).f3)) ∧ w'.cell? (ad1287.add ((x13_1).toNat * 4)) = some (.slice A1287_0 ((rd_T44 l1 x13_1).f0).length c1287_0) ∧ w'.cell? ⟨(ad1287.add ((x13_1).toNat * 4)).block, (ad1287.add ((x13_1).toNat * 4)).off + 1, none⟩ = some (.int .i64 ((rd_T44 l1 x13_1).f1)) ∧ w'.cell? ⟨(ad1287.add ((x13_1).toNat * 4)).block, (ad1287.add ((x13_1).toNat * 4)).off + 2, none⟩ = some (.int .i64 ((rd_T44 l1 x13_1).f2)) ∧ w'.cell? ⟨(ad1287.add ((x13_1).toNat * 4)).block, (ad1287.add ((x13_1).toNat * 4)).off + 3, none⟩ = some (.string ((rd_T44 l1 x13_1).f3))) (ds := []) #[f_,f_,f_,f_,f_,f_,f_,f_,f_,f_] (by kernel_rfl) rfl rfl ⟨((HB.out.cell (World.block_lt_of_cell? w _ hw1286_0)).trans hw1286_0), ((HB.out.cell (World.block_lt_of_cell? w _ hw1286_1)).trans hw1286_1), ((HB.out.cell (World.block_lt_of_cell? w _ hw1286_2)).trans hw1286_2), ((HB.out.cell (World.block_lt_of_cell? w _ hw1286_3)).trans hw1286_3), ((HB.out.cell (World.block_lt_of_cell? w _ hw1287_0)).trans hw1287_0), ((HB.out.cell (World.block_lt_of_cell? w _ hw1287_1)).trans hw1287_1), ((HB.out.cell (World.block_lt_of_cell? w _ hw1287_2)).trans hw1287_2), ((HB.out.cell (World.block_lt_of_cell? w _ hw1287_3)).trans hw1287_3)⟩ (fun hHeld => ?_); refine with_tabW impl_sameAlarms.tab6 impl_sameAlarms.bits6 (fun HT_ HW_ => ?_)
         generalize wr.drew = w10 at HB HR1286_0 HR1287_0 hx1286_0 hx1286_1 hx1286_2 hx1286_3 hx1287_0 hx1287_1 hx1287_2 hx1287_3 hHeld ⊢
         refine pw_ 0 16 (b_ 1 9) rfl rfl HT_.out ?_
         refine pw_ 1 17 (b_ 2 8) rfl rfl HT_.out ?_
         refine pw_ 2 18 (b_ 3 7) rfl rfl HT_.out ?_
         refine pw_ 4 20 #[t_,t_,t_,f_,t_,f_,f_,f_,f_,f_] rfl rfl HT_.out ?_
         refine pw_ 5 21 #[t_,t_,t_,f_,t_,t_,f_,f_,f_,f_] rfl rfl HT_.out ?_
         refine pw_ 6 22 #[t_,t_,t_,f_,t_,t_,t_,f_,f_,f_] rfl rfl HT_.out ?_
         refine take_ (i := 3) (N := some 19) (v := ?_) (a' := ?_) #[t_,t_,t_,t_,t_,t_,t_,f_,f_,f_] rfl rfl (take_ofW HT_.out HW_.out (by kernel_rfl)) (fun _ _ _ h => h) (Or.inl ⟨by rfl, ?_⟩) hHeld ?_ ?_
         rotate_left
         ·
          rintro w' ⟨s0, s1, s2, s3, s4, s5, s6, s7⟩
          go_simp
          with_reducible rfl
         rotate_left
         ·
          simp only [fr_]
          rfl
         refine take_ (i := 7) (N := some 23) (v := ?_) (a' := ?_) #[t_,t_,t_,t_,t_,t_,t_,t_,f_,f_] rfl rfl (take_ofW HT_.out HW_.out (by kernel_rfl)) (fun _ _ _ h => h) (Or.inl ⟨by rfl, ?_⟩) hHeld ?_ ?_
         rotate_left
         ·
          rintro w' ⟨s0, s1, s2, s3, s4, s5, s6, s7⟩
          go_simp
          with_reducible rfl
         rotate_left
         ·
          simp only [fr_]
          rfl
         refine one_ (i := 8) (N := some 24) #[t_,t_,t_,t_,t_,t_,t_,t_,t_,f_] rfl rfl (one_of HT_.out (by kernel_rfl)) (by decide) (fun K hK => ?_)
         refine gs_ Try.func85 #[.agg #[.slice A1286_0 ((rd_T44 l0 x13_1).f0).length c1286_0, .int .i64 ((rd_T44 l0 x13_1).f1), .int .i64 ((rd_T44 l0 x13_1).f2), .string ((rd_T44 l0 x13_1).f3)], .agg #[.slice A1287_0 ((rd_T44 l1 x13_1).f0).length c1287_0, .int .i64 ((rd_T44 l1 x13_1).f1), .int .i64 ((rd_T44 l1 x13_1).f2), .string ((rd_T44 l1 x13_1).f3)]] ?_
         with_reducible refine (impl_SameAlarm.calls k1 _ _ ((rd_T44 l0 x13_1).f0) ((rd_T44 l0 x13_1).f1) ((rd_T44 l0 x13_1).f2) ((rd_T44 l0 x13_1).f3) _ _ ((rd_T44 l1 x13_1).f0) ((rd_T44 l1 x13_1).f1) ((rd_T44 l1 x13_1).f2) ((rd_T44 l1 x13_1).f3) true _ ?side1 ?side2 ?side3 ?side4 A8.out).mono ?_
         (case side1 => exact cp_ ((Kd.C_below HR1286_0.out HB.out)))
         (case side2 => exact HC1286_0.out)
         (case side3 => exact cp_ ((Kd.C_below HR1287_0.out HB.out)))
         (case side4 => exact HC1287_0.out)
         rintro e w11 ⟨rfl, hb⟩
         refine ⟨_, rfl, ?_⟩
         replace HB := st_ HB hb
         (try clear hb)
         (try clear hk)
         refine hK.out _ _ ⟨((HB.out.cell (World.block_lt_of_cell? w _ hw1286_0)).trans hw1286_0), ((HB.out.cell (World.block_lt_of_cell? w _ hw1286_1)).trans hw1286_1), ((HB.out.cell (World.block_lt_of_cell? w _ hw1286_2)).trans hw1286_2), ((HB.out.cell (World.block_lt_of_cell? w _ hw1286_3)).trans hw1286_3), ((HB.out.cell (World.block_lt_of_cell? w _ hw1287_0)).trans hw1287_0), ((HB.out.cell (World.block_lt_of_cell? w _ hw1287_1)).trans hw1287_1), ((HB.out.cell (World.block_lt_of_cell? w _ hw1287_2)).trans hw1287_2), ((HB.out.cell (World.block_lt_of_cell? w _ hw1287_3)).trans hw1287_3)⟩ (fun hHeld => ?_)
         clear hK K
         refine norm_ (a' := ?_) ?_ ?_
         rotate_left
         ·
          show Act.put _ (some 24) _ = _
          simp only [fr_]
          rfl
         refine pw_ 9 25 (b_ 10 0) rfl rfl HT_.out ?_
         refine done_ (done_of HT_.out (by kernel_rfl)) ?_
         try go_wp2
         go_roundg k1
         case measure => have := HK1.out; omega
         case rel => exact ⟨(wrap64 (x13_1 + 1)), (by first | rfl | (simp; done) | (simp [*]; done)), H', ⟨by have := HK1.out; omega⟩, ⟨by exact hs_ HB.out⟩⟩
        replace c9 := Bool.eq_false_iff.mpr c9
        subst c9
        rw [if_neg (show ¬ (false = true) by decide)] at H
        obtain rfl := Option.some.inj H
        try go_wp2
        replace HB := Aside0.mk (bd_ HB.out)
        have p1286 : 0 ≤ (x13_1 : Int) := of_decide_eq_true (by with_reducible assumption)
        have q1286 : x13_1 < (l0.length : Int) := of_decide_eq_true (by with_reducible assumption)
        obtain ⟨ad1286, A1286_0, c1286_0, e1286, hx1286_0, hx1286_1, hx1286_2, hx1286_3, hl1286_0, hi1286_0⟩ := at_T44 HR0.out x13_1 p1286 q1286
        have hw1286_3 := hx1286_3
        have hw1286_2 := hx1286_2
        have hw1286_1 := hx1286_1
        have hw1286_0 := hx1286_0
        cases e1286
        replace hx1286_0 := cl_ HB.out hx1286_0
        replace hx1286_1 := cl_ HB.out hx1286_1
        replace hx1286_2 := cl_ HB.out hx1286_2
        replace hx1286_3 := cl_ HB.out hx1286_3
        have HR1286_0 := Aside0.mk hi1286_0
        have HC1286_0 := Aside0.mk hl1286_0
        clear hi1286_0 hl1286_0
        replace p1286 := eq_true p1286
        replace q1286 := eq_true q1286
        have p1287 : 0 ≤ (x13_1 : Int) := of_decide_eq_true (by with_reducible assumption)
        have q1287 : x13_1 < (l1.length : Int) := of_decide_eq_true (by with_reducible assumption)
        obtain ⟨ad1287, A1287_0, c1287_0, e1287, hx1287_0, hx1287_1, hx1287_2, hx1287_3, hl1287_0, hi1287_0⟩ := at_T44 HR1.out x13_1 p1287 q1287
        have hw1287_3 := hx1287_3
        have hw1287_2 := hx1287_2
        have hw1287_1 := hx1287_1
        have hw1287_0 := hx1287_0
        cases e1287
        replace hx1287_0 := cl_ HB.out hx1287_0
        replace hx1287_1 := cl_ HB.out hx1287_1
        replace hx1287_2 := cl_ HB.out hx1287_2
        replace hx1287_3 := cl_ HB.out hx1287_3
        have HR1287_0 := Aside0.mk hi1287_0
        have HC1287_0 := Aside0.mk hl1287_0
        clear hi1287_0 hl1287_0
        replace p1287 := eq_true p1287
        replace q1287 := eq_true q1287
        refine start_ (n := 10) (S := fun w' => w'.cell? (ad1286.add ((x13_1).toNat * 4)) = some (.slice A1286_0 ((rd_T44 l0 x13_1).f0).length c1286_0) ∧ w'.cell? ⟨(ad1286.add ((x13_1).toNat * 4)).block, (ad1286.add ((x13_1).toNat * 4)).off + 1, none⟩ = some (.int .i64 ((rd_T44 l0 x13_1).f1)) ∧ w'.cell? ⟨(ad1286.add ((x13_1).toNat * 4)).block, (ad1286.add ((x13_1).toNat * 4)).off + 2, none⟩ = some (.int .i64 ((rd_T44 l0 x13_1).f2)) ∧ w'.cell? ⟨(ad1286.add ((x13_1).toNat * 4)).block, (ad1286.add ((x13_1).toNat * 4)).off + 3, none⟩ = some (.string ((rd_T44 l0 x13_1).f3)) ∧ w'.cell? (ad1287.add ((x13_1).toNat * 4)) = some (.slice A1287_0 ((rd_T44 l1 x13_1).f0).length c1287_0) ∧ w'.cell? ⟨(ad1287.add ((x13_1).toNat * 4)).block, (ad1287.add ((x13_1).toNat * 4)).off + 1, none⟩ = some (.int .i64 ((rd_T44 l1 x13_1).f1)) ∧ w'.cell? ⟨(ad1287.add ((x13_1).toNat * 4)).block, (ad1287.add ((x13_1).toNat * 4)).off + 2, none⟩ = some (.int .i64 ((rd_T44 l1 x13_1).f2)) ∧ w'.cell? ⟨(ad1287.add ((x13_1).toNat * 4)).block, (ad1287.add ((x13_1).toNat * 4)).off + 3, none⟩ = some (.string ((rd_T44 l1 x13_1).f3))) (ds := []) #[f_,f_,f_,f_,f_,f_,f_,f_,f_,f_] (by kernel_rfl) rfl rfl ⟨((HB.out.cell (World.block_lt_of_cell? w _ hw1286_0)).trans hw1286_0), ((HB.out.cell (World.block_lt_of_cell? w _ hw1286_1)).trans hw1286_1), ((HB.out.cell (World.block_lt_of_cell? w _ hw1286_2)).trans hw1286_2), ((HB.out.cell (World.block_lt_of_cell? w _ hw1286_3)).trans hw1286_3), ((HB.out.cell (World.block_lt_of_cell? w _ hw1287_0)).trans hw1287_0), ((HB.out.cell (World.block_lt_of_cell? w _ hw1287_1)).trans hw1287_1), ((HB.out.cell (World.block_lt_of_cell? w _ hw1287_2)).trans hw1287_2), ((HB.out.cell (World.block_lt_of_cell? w _ hw1287_3)).trans hw1287_3)⟩ (fun hHeld => ?_); refine with_tabW impl_sameAlarms.tab6 impl_sameAlarms.bits6 (fun HT_ HW_ => ?_)
        generalize wr.drew = w12 at HB HR1286_0 HR1287_0 hx1286_0 hx1286_1 hx1286_2 hx1286_3 hx1287_0 hx1287_1 hx1287_2 hx1287_3 hHeld ⊢
        refine pw_ 0 16 (b_ 1 9) rfl rfl HT_.out ?_
        refine pw_ 1 17 (b_ 2 8) rfl rfl HT_.out ?_
        refine pw_ 2 18 (b_ 3 7) rfl rfl HT_.out ?_
        refine pw_ 4 20 #[t_,t_,t_,f_,t_,f_,f_,f_,f_,f_] rfl rfl HT_.out ?_
        refine pw_ 5 21 #[t_,t_,t_,f_,t_,t_,f_,f_,f_,f_] rfl rfl HT_.out ?_
        refine pw_ 6 22 #[t_,t_,t_,f_,t_,t_,t_,f_,f_,f_] rfl rfl HT_.out ?_
        refine take_ (i := 3) (N := some 19) (v := ?_) (a' := ?_) #[t_,t_,t_,t_,t_,t_,t_,f_,f_,f_] rfl rfl (take_ofW HT_.out HW_.out (by kernel_rfl)) (fun _ _ _ h => h) (Or.inl ⟨by rfl, ?_⟩) hHeld ?_ ?_
        rotate_left
        ·
         rintro w' ⟨s0, s1, s2, s3, s4, s5, s6, s7⟩
         go_simp
         with_reducible rfl
        rotate_left
        ·
         simp only [fr_]
         rfl
        refine take_ (i := 7) (N := some 23) (v := ?_) (a' := ?_) #[t_,t_,t_,t_,t_,t_,t_,t_,f_,f_] rfl rfl (take_ofW HT_.out HW_.out (by kernel_rfl)) (fun _ _ _ h => h) (Or.inl ⟨by rfl, ?_⟩) hHeld ?_ ?_
        rotate_left
        ·
         rintro w' ⟨s0, s1, s2, s3, s4, s5, s6, s7⟩
         go_simp
         with_reducible rfl
        rotate_left
        ·
         simp only [fr_]
         rfl
        refine one_ (i := 8) (N := some 24) #[t_,t_,t_,t_,t_,t_,t_,t_,t_,f_] rfl rfl (one_of HT_.out (by kernel_rfl)) (by decide) (fun K hK => ?_)
        refine gs_ Try.func85 #[.agg #[.slice A1286_0 ((rd_T44 l0 x13_1).f0).length c1286_0, .int .i64 ((rd_T44 l0 x13_1).f1), .int .i64 ((rd_T44 l0 x13_1).f2), .string ((rd_T44 l0 x13_1).f3)], .agg #[.slice A1287_0 ((rd_T44 l1 x13_1).f0).length c1287_0, .int .i64 ((rd_T44 l1 x13_1).f1), .int .i64 ((rd_T44 l1 x13_1).f2), .string ((rd_T44 l1 x13_1).f3)]] ?_
        with_reducible refine (impl_SameAlarm.calls k1 _ _ ((rd_T44 l0 x13_1).f0) ((rd_T44 l0 x13_1).f1) ((rd_T44 l0 x13_1).f2) ((rd_T44 l0 x13_1).f3) _ _ ((rd_T44 l1 x13_1).f0) ((rd_T44 l1 x13_1).f1) ((rd_T44 l1 x13_1).f2) ((rd_T44 l1 x13_1).f3) false _ ?side1 ?side2 ?side3 ?side4 A8.out).mono ?_
        (case side1 => exact cp_ ((Kd.C_below HR1286_0.out HB.out)))
        (case side2 => exact HC1286_0.out)
        (case side3 => exact cp_ ((Kd.C_below HR1287_0.out HB.out)))
        (case side4 => exact HC1287_0.out)
        rintro e w13 ⟨rfl, hb⟩
        refine ⟨_, rfl, ?_⟩
        replace HB := st_ HB hb
        (try clear hb)
        (try clear hk)
        refine hK.out _ _ ⟨((HB.out.cell (World.block_lt_of_cell? w _ hw1286_0)).trans hw1286_0), ((HB.out.cell (World.block_lt_of_cell? w _ hw1286_1)).trans hw1286_1), ((HB.out.cell (World.block_lt_of_cell? w _ hw1286_2)).trans hw1286_2), ((HB.out.cell (World.block_lt_of_cell? w _ hw1286_3)).trans hw1286_3), ((HB.out.cell (World.block_lt_of_cell? w _ hw1287_0)).trans hw1287_0), ((HB.out.cell (World.block_lt_of_cell? w _ hw1287_1)).trans hw1287_1), ((HB.out.cell (World.block_lt_of_cell? w _ hw1287_2)).trans hw1287_2), ((HB.out.cell (World.block_lt_of_cell? w _ hw1287_3)).trans hw1287_3)⟩ (fun hHeld => ?_)
        clear hK K
        refine norm_ (a' := ?_) ?_ ?_
        rotate_left
        ·
         show Act.put _ (some 24) _ = _
         simp only [fr_]
         rfl
        refine pw_ 9 25 (b_ 10 0) rfl rfl HT_.out ?_
        refine done_ (done_of HT_.out (by kernel_rfl)) ?_
        try go_wp2
        go_ret
        exact an_ (by exact hs_ HB.out)
       rw [if_neg c7] at H
       exact absurd H (by simp)
      rw [if_neg c6] at H
      exact absurd H (by simp)
     rw [if_neg c5] at H
     exact absurd H (by simp)
    rw [if_neg c4] at H
    have c4b0 : decide (x13_1 < (l0.length : Int)) = false := decide_eq_false c4
    clear c4
    obtain rfl := Option.some.inj H
    go_wp2
    go_ret
    exact an_ (by exact hs_ HB.out)
 rw [if_neg c3] at H
 have c3b0 : ((l0.length : Int) == (l1.length : Int)) = false := beq_eq_false_iff_ne.mpr c3
 have c3b1 : ((l0.length : Int) != (l1.length : Int)) = true := bne_iff_ne.mpr c3
 have c3b2 : (l0.length == l1.length) = false := by first | simpa using c3 | (simp at c3 ⊢; omega)
 obtain rfl := Option.some.inj H
 go_enter Try.func138, Try.ntmps138
 go_wp2
 go_ret
 exact an_ (by exact hs_ HB.out)
def impl_SameSub.f (k : Nat) (l0_0 : List (S44)) (a0_1 : Bool) (l1_0 : List (S44)) (a1_1 : Bool) : Option (Bool) := if (a0_1 == a1_1) = true then ((impl_sameAlarms.f k l0_0 l1_0).bind fun t1983 => (some t1983)) else (some false)
theorem impl_SameSub.mono : ∀ a0 a1 a2 a3 k, LeO (impl_SameSub.f k a0 a1 a2 a3) (impl_SameSub.f (k + 1) a0 a1 a2 a3) := by
 intro a0 a1 a2 a3 k
 unfold impl_SameSub.f
 repeat' first | (with_reducible first | exact impl_sameAlarms.mono _ _ _ | exact LeO.refl _ | exact LeO.none _ | refine LeO.ite ?_ ?_ | refine LeO.bind ?_ (fun _ => ?_)) | exact impl_sameAlarms.mono _ _ _
theorem impl_SameSub.calls (k : Nat) (A0_0 : Option Addr) (c0_0 : Nat) (l0_0 : List (S44)) (a0_1 : Bool) (A1_0 : Option Addr) (c1_0 : Nat) (l1_0 : List (S44)) (a1_1 : Bool) (r : Bool) (w : World) (hr0_0 : Kd.C k44 w A0_0 l0_0.length l0_0) (hc0_0 : l0_0.length ≤ c0_0) (hr1_0 : Kd.C k44 w A1_0 l1_0.length l1_0) (hc1_0 : l1_0.length ≤ c1_0) (h : impl_SameSub.f k l0_0 a0_1 l1_0 a1_1 = some r) :
  Calls Try.prog 84 #[.agg #[.slice A0_0 l0_0.length c0_0, .bool a0_1], .agg #[.slice A1_0 l1_0.length c1_0, .bool a1_1]] w fun e w' => e = .returned (.bool r) ∧ Below w.heap.size w w' := by
 have hu39 := Try.underlying39
 have HR0_0 := Aside0.mk hr0_0
 have HC0_0 := Aside0.mk hc0_0
 clear hr0_0 hc0_0
 have HR1_0 := Aside0.mk hr1_0
 have HC1_0 := Aside0.mk hc1_0
 clear hr1_0 hc1_0
 have HB := Aside0.mk (Below.refl w.heap.size w)
 have H : (if (a0_1 == a1_1) = true then ((impl_sameAlarms.f k l0_0 l1_0).bind fun t1983 => (some t1983)) else (some false)) = some r := h
 clear h
 by_cases c3 : (a0_1 == a1_1) = true
 ·
  rw [if_pos c3] at H
  have c3b0 : (a0_1 == a1_1) = true := c3
  (try (have c3b1 : decide (a0_1 = a1_1) = true := by simpa using c3))
  (try (have c3b2 : (a0_1 == a1_1) = true := by simpa using c3))
  clear c3
  replace H := Option.bind_eq_some_iff.mp H
  obtain ⟨t1983, A40, H⟩ := H
  have A4 := Aside0.mk A40
  clear A40
  obtain rfl := Option.some.inj H
  go_enter Try.func84, Try.ntmps84
  go_wp2_with (first | ((with_reducible refine gd_ 2 rfl ?_); refine bv_ 2 #[.slice A0_0 l0_0.length c0_0, .bool a0_1] 39 ?_; intro gb1981 hg w5 hbox hb; have BK1981 := Aside0.mk (hbox); have GW1981 := Aside0.mk ((gw_ hg (hs_ HB.out))); replace HB := st_ HB hb; have GE1981 := Ge_.mk GW1981.out; clear hb hbox hg) | ((with_reducible refine gd_ 3 rfl ?_); refine bv_ 3 #[.slice A1_0 l1_0.length c1_0, .bool a1_1] 39 ?_; intro gb1982 hg w6 hbox hb; have BK1982 := Aside0.mk (hbox); have GW1982 := Aside0.mk ((gw_ hg (hs_ HB.out))); replace HB := st_ HB hb; have GE1982 := Ge_.mk GW1982.out; have NB1981_1982 := Ne_.mk (nl_ BK1981.out hg); replace BK1981 := bk2_ BK1981 hb; have NB1982_1981 := Ne_.mk (NB1981_1982.out.symm); clear hb hbox hg; have hnb7 := NB1981_1982.out; have hnc7 := NB1982_1981.out; obtain ⟨z8_0, z8_1, y8_0, y8_1⟩ := bc2_ BK1981.out; obtain ⟨z9_0, z9_1, y9_0, y9_1⟩ := bc2_ BK1982.out) | (go_at_call 138; (with_reducible refine (impl_sameAlarms.calls k _ _ l0_0 _ _ l1_0 t1983 _ ?side1 ?side2 ?side3 ?side4 A4.out).mono ?_); (case side1 => exact cp_ ((Kd.C_below HR0_0.out HB.out))); (case side2 => exact HC0_0.out); (case side3 => exact cp_ ((Kd.C_below HR1_0.out HB.out))); (case side4 => exact HC1_0.out); rintro e w10 ⟨rfl, hb⟩; replace BK1981 := bk2_ BK1981 hb; replace BK1982 := bk2_ BK1982 hb; replace HB := st_ HB hb; (try clear hb); (try clear hk)))
  go_ret
  exact an_ (by exact hs_ HB.out)
 rw [if_neg c3] at H
 have c3b0 : (a0_1 == a1_1) = false := by simpa using c3
 (try (have c3b1 : decide (a0_1 = a1_1) = false := by simpa using c3))
 (try (have c3b2 : (a0_1 == a1_1) = false := by simpa using c3))
 (try (have c3b3 : ¬ (a0_1 = a1_1) := by simpa using c3))
 clear c3
 obtain rfl := Option.some.inj H
 go_enter Try.func84, Try.ntmps84
 go_wp2_with (first | ((with_reducible refine gd_ 2 rfl ?_); refine bv_ 2 #[.slice A0_0 l0_0.length c0_0, .bool a0_1] 39 ?_; intro gb1981 hg w11 hbox hb; have BK1981 := Aside0.mk (hbox); have GW1981 := Aside0.mk ((gw_ hg (hs_ HB.out))); replace HB := st_ HB hb; have GE1981 := Ge_.mk GW1981.out; clear hb hbox hg) | ((with_reducible refine gd_ 3 rfl ?_); refine bv_ 3 #[.slice A1_0 l1_0.length c1_0, .bool a1_1] 39 ?_; intro gb1982 hg w12 hbox hb; have BK1982 := Aside0.mk (hbox); have GW1982 := Aside0.mk ((gw_ hg (hs_ HB.out))); replace HB := st_ HB hb; have GE1982 := Ge_.mk GW1982.out; have NB1981_1982 := Ne_.mk (nl_ BK1981.out hg); replace BK1981 := bk2_ BK1981 hb; have NB1982_1981 := Ne_.mk (NB1981_1982.out.symm); clear hb hbox hg; have hnb13 := NB1981_1982.out; have hnc13 := NB1982_1981.out; obtain ⟨z14_0, z14_1, y14_0, y14_1⟩ := bc2_ BK1981.out; obtain ⟨z15_0, z15_1, y15_0, y15_1⟩ := bc2_ BK1982.out))
 go_ret
 exact an_ (by exact hs_ HB.out)
def spec_PlainOk.l0 : Nat → ByteArray → Int → Option (Bool)
 | 0, _, _ => none
 | k + 1, x0, x3 => if x3 < (x0.size : Int) then (if 0 ≤ x3 then (if (bt x0 x3) < 32 then (some false) else (if (bt x0 x3) > 126 then (some false) else (if (bt x0 x3) = 34 then (some false) else (if (bt x0 x3) = 92 then (some false) else (spec_PlainOk.l0 k x0 (wrap64 (x3 + 1))))))) else (none)) else (some (decide ((x0.size : Int) ≤ 12)))
def spec_PlainOk.f (k : Nat) (a0 : ByteArray) : Option (Bool) := spec_PlainOk.l0 k a0 0
theorem spec_PlainOk.mono_l : ∀ k, (∀ y0 y1, LeO (spec_PlainOk.l0 k y0 y1) (spec_PlainOk.l0 (k + 1) y0 y1))
 | 0 => fun _ _ r h => by simp [spec_PlainOk.l0] at h
 | k + 1 => by
  have ih0 := spec_PlainOk.mono_l k
  intro y0 y1
  unfold spec_PlainOk.l0
  repeat' first
  | (with_reducible exact ih0 _ _)
  | (with_reducible exact LeO.refl _)
  | (with_reducible exact LeO.none _)
  | (with_reducible refine LeO.ite ?_ ?_)
  | (with_reducible refine LeO.bind ?_ (fun _ => ?_))
  | exact ih0 _ _
theorem spec_PlainOk.mono : ∀ a0 k, LeO (spec_PlainOk.f k a0) (spec_PlainOk.f (k + 1) a0) := by
 intro a0 k
 have ih0 := spec_PlainOk.mono_l k
 unfold spec_PlainOk.f
 repeat' first | (with_reducible first | exact ih0 _ _ | exact LeO.refl _ | exact LeO.none _ | refine LeO.ite ?_ ?_ | refine LeO.bind ?_ (fun _ => ?_)) | exact ih0 _ _
theorem spec_PlainOk.calls (k : Nat) (a0 : ByteArray) (r : Bool) (w : World) (h : spec_PlainOk.f k a0 = some r) :
  Calls Try.prog 148 #[.string a0] w fun e w' => e = .returned (.bool r) ∧ Drawn0 w w' := by
 have H : (spec_PlainOk.l0 k a0 0) = some r := h
 clear h
 have H' := Aside0.mk H
 clear H
 go_enter Try.func148, Try.ntmps148
 go_wp2
 go_loopg [3] k (fun kq v3 w' => ∃ (x3_1 : Int), v3 = .int .i64 x3_1 ∧ Aside0 (spec_PlainOk.l0 kq a0 x3_1 = some r) ∧ Aside0 (kq ≤ k) ∧ Drawn0 w w')
 case atStart => exact ⟨(0), (by first | rfl | (simp; done) | (simp [*]; done)), H', ⟨Nat.le_refl _⟩, by repeat (first | exact Drawn0.refl _ | apply Drawn0.step)⟩
 case round =>
  clear H'
  try clear c1
  obtain ⟨x3_1, rfl, HA, HK1, ⟨m1, rfl⟩⟩ := hrel
  cases gk with
  | zero => exact absurd HA.out (by simp [spec_PlainOk.l0])
  | succ k1 =>
   have H := HA.out
   clear HA
   simp only [spec_PlainOk.l0] at H
   by_cases c2 : x3_1 < (a0.size : Int)
   ·
    rw [if_pos c2] at H
    have c2b0 := decide_eq_true c2
    clear c2
    by_cases c3 : 0 ≤ x3_1
    ·
     rw [if_pos c3] at H
     have c3b0 := decide_eq_true c3
     clear c3
     by_cases c5 : (bt a0 x3_1) < 32
     ·
      rw [if_pos c5] at H
      have c5b0 := decide_eq_true c5
      clear c5
      obtain rfl := Option.some.inj H
      have p4 : 0 ≤ (x3_1 : Int) := of_decide_eq_true (by with_reducible assumption)
      have q4 : x3_1 < (a0.size : Int) := of_decide_eq_true (by with_reducible assumption)
      have hx4 := bt_at a0 x3_1
      replace p4 := eq_true p4
      replace q4 := eq_true q4
      go_wp2
      go_ret
      exact ⟨by first | rfl | (simp; done) | (simp [*]; done), by repeat (first | exact Drawn0.refl _ | apply Drawn0.step)⟩
     rw [if_neg c5] at H
     have c5b0 : decide ((bt a0 x3_1) < 32) = false := decide_eq_false c5
     clear c5
     by_cases c7 : (bt a0 x3_1) > 126
     ·
      rw [if_pos c7] at H
      have c7b0 : decide (126 < (bt a0 x3_1)) = true := decide_eq_true c7
      clear c7
      obtain rfl := Option.some.inj H
      have p4 : 0 ≤ (x3_1 : Int) := of_decide_eq_true (by with_reducible assumption)
      have q4 : x3_1 < (a0.size : Int) := of_decide_eq_true (by with_reducible assumption)
      have hx4 := bt_at a0 x3_1
      replace p4 := eq_true p4
      replace q4 := eq_true q4
      have p6 : 0 ≤ (x3_1 : Int) := of_decide_eq_true (by with_reducible assumption)
      have q6 : x3_1 < (a0.size : Int) := of_decide_eq_true (by with_reducible assumption)
      have hx6 := bt_at a0 x3_1
      replace p6 := eq_true p6
      replace q6 := eq_true q6
      go_wp2
      go_ret
      exact ⟨by first | rfl | (simp; done) | (simp [*]; done), by repeat (first | exact Drawn0.refl _ | apply Drawn0.step)⟩
     rw [if_neg c7] at H
     have c7b0 : decide (126 < (bt a0 x3_1)) = false := decide_eq_false c7
     clear c7
     by_cases c9 : (bt a0 x3_1) = 34
     ·
      rw [if_pos c9] at H
      have c9b0 : ((bt a0 x3_1) == 34) = true := beq_iff_eq.mpr c9
      have c9b1 : ((bt a0 x3_1) != 34) = false := bne_eq_false_iff_eq.mpr c9
      clear c9
      obtain rfl := Option.some.inj H
      have p4 : 0 ≤ (x3_1 : Int) := of_decide_eq_true (by with_reducible assumption)
      have q4 : x3_1 < (a0.size : Int) := of_decide_eq_true (by with_reducible assumption)
      have hx4 := bt_at a0 x3_1
      replace p4 := eq_true p4
      replace q4 := eq_true q4
      have p6 : 0 ≤ (x3_1 : Int) := of_decide_eq_true (by with_reducible assumption)
      have q6 : x3_1 < (a0.size : Int) := of_decide_eq_true (by with_reducible assumption)
      have hx6 := bt_at a0 x3_1
      replace p6 := eq_true p6
      replace q6 := eq_true q6
      have p8 : 0 ≤ (x3_1 : Int) := of_decide_eq_true (by with_reducible assumption)
      have q8 : x3_1 < (a0.size : Int) := of_decide_eq_true (by with_reducible assumption)
      have hx8 := bt_at a0 x3_1
      replace p8 := eq_true p8
      replace q8 := eq_true q8
      go_wp2
      go_ret
      exact ⟨by first | rfl | (simp; done) | (simp [*]; done), by repeat (first | exact Drawn0.refl _ | apply Drawn0.step)⟩
     rw [if_neg c9] at H
     have c9b0 : ((bt a0 x3_1) == 34) = false := beq_eq_false_iff_ne.mpr c9
     have c9b1 : ((bt a0 x3_1) != 34) = true := bne_iff_ne.mpr c9
     by_cases c11 : (bt a0 x3_1) = 92
     ·
      rw [if_pos c11] at H
      have c11b0 : ((bt a0 x3_1) == 92) = true := beq_iff_eq.mpr c11
      have c11b1 : ((bt a0 x3_1) != 92) = false := bne_eq_false_iff_eq.mpr c11
      clear c11
      obtain rfl := Option.some.inj H
      have p4 : 0 ≤ (x3_1 : Int) := of_decide_eq_true (by with_reducible assumption)
      have q4 : x3_1 < (a0.size : Int) := of_decide_eq_true (by with_reducible assumption)
      have hx4 := bt_at a0 x3_1
      replace p4 := eq_true p4
      replace q4 := eq_true q4
      have p6 : 0 ≤ (x3_1 : Int) := of_decide_eq_true (by with_reducible assumption)
      have q6 : x3_1 < (a0.size : Int) := of_decide_eq_true (by with_reducible assumption)
      have hx6 := bt_at a0 x3_1
      replace p6 := eq_true p6
      replace q6 := eq_true q6
      have p8 : 0 ≤ (x3_1 : Int) := of_decide_eq_true (by with_reducible assumption)
      have q8 : x3_1 < (a0.size : Int) := of_decide_eq_true (by with_reducible assumption)
      have hx8 := bt_at a0 x3_1
      replace p8 := eq_true p8
      replace q8 := eq_true q8
      have p10 : 0 ≤ (x3_1 : Int) := of_decide_eq_true (by with_reducible assumption)
      have q10 : x3_1 < (a0.size : Int) := of_decide_eq_true (by with_reducible assumption)
      have hx10 := bt_at a0 x3_1
      replace p10 := eq_true p10
      replace q10 := eq_true q10
      go_wp2
      go_ret
      exact ⟨by first | rfl | (simp; done) | (simp [*]; done), by repeat (first | exact Drawn0.refl _ | apply Drawn0.step)⟩
     rw [if_neg c11] at H
     have c11b0 : ((bt a0 x3_1) == 92) = false := beq_eq_false_iff_ne.mpr c11
     have c11b1 : ((bt a0 x3_1) != 92) = true := bne_iff_ne.mpr c11
     have H' := Aside0.mk H
     clear H
     have p4 : 0 ≤ (x3_1 : Int) := of_decide_eq_true (by with_reducible assumption)
     have q4 : x3_1 < (a0.size : Int) := of_decide_eq_true (by with_reducible assumption)
     have hx4 := bt_at a0 x3_1
     replace p4 := eq_true p4
     replace q4 := eq_true q4
     have p6 : 0 ≤ (x3_1 : Int) := of_decide_eq_true (by with_reducible assumption)
     have q6 : x3_1 < (a0.size : Int) := of_decide_eq_true (by with_reducible assumption)
     have hx6 := bt_at a0 x3_1
     replace p6 := eq_true p6
     replace q6 := eq_true q6
     have p8 : 0 ≤ (x3_1 : Int) := of_decide_eq_true (by with_reducible assumption)
     have q8 : x3_1 < (a0.size : Int) := of_decide_eq_true (by with_reducible assumption)
     have hx8 := bt_at a0 x3_1
     replace p8 := eq_true p8
     replace q8 := eq_true q8
     have p10 : 0 ≤ (x3_1 : Int) := of_decide_eq_true (by with_reducible assumption)
     have q10 : x3_1 < (a0.size : Int) := of_decide_eq_true (by with_reducible assumption)
     have hx10 := bt_at a0 x3_1
     replace p10 := eq_true p10
     replace q10 := eq_true q10
     go_wp2
     go_roundg k1
     case measure => have := HK1.out; omega
     case rel => exact ⟨(wrap64 (x3_1 + 1)), (by first | rfl | (simp; done) | (simp [*]; done)), H', ⟨by have := HK1.out; omega⟩, by repeat (first | exact Drawn0.refl _ | apply Drawn0.step)⟩
    rw [if_neg c3] at H
    exact absurd H (by simp)
   rw [if_neg c2] at H
   have c2b0 : decide (x3_1 < (a0.size : Int)) = false := decide_eq_false c2
   clear c2
   obtain rfl := Option.some.inj H
   go_wp2
   go_ret
   exact ⟨by first | rfl | (simp; done) | (simp [*]; done), by repeat (first | exact Drawn0.refl _ | apply Drawn0.step)⟩
def spec_l1In.f (a0 : Int) (a1 : Int) (a2 : Int) : Option (Bool) := if a0 ≥ a1 then (some (decide (a0 ≤ a2))) else (some false)
theorem spec_l1In.calls (a0 : Int) (a1 : Int) (a2 : Int) (r : Bool) (w : World) (h : spec_l1In.f a0 a1 a2 = some r) :
  Calls Try.prog 109 #[.int .i64 a0, .int .i64 a1, .int .i64 a2] w fun e w' => e = .returned (.bool r) ∧ Drawn0 w w' := by
 have H : (if a0 ≥ a1 then (some (decide (a0 ≤ a2))) else (some false)) = some r := h
 clear h
 by_cases c4 : a0 ≥ a1
 ·
  rw [if_pos c4] at H
  have c4b0 : decide (a1 ≤ a0) = true := decide_eq_true c4
  clear c4
  obtain rfl := Option.some.inj H
  go_enter Try.func109, Try.ntmps109
  go_wp2
  go_ret
  exact ⟨by first | rfl | (simp; done) | (simp [*]; done), by repeat (first | exact Drawn0.refl _ | apply Drawn0.step)⟩
 rw [if_neg c4] at H
 have c4b0 : decide (a1 ≤ a0) = false := decide_eq_false c4
 clear c4
 obtain rfl := Option.some.inj H
 go_enter Try.func109, Try.ntmps109
 go_wp2
 go_ret
 exact ⟨by first | rfl | (simp; done) | (simp [*]; done), by repeat (first | exact Drawn0.refl _ | apply Drawn0.step)⟩
def spec_Less.f (a0 : ByteArray) (a1 : ByteArray) : Option (Bool) := some (Op.bytesLess a0.toList a1.toList)
theorem spec_Less.calls (a0 : ByteArray) (a1 : ByteArray) (r : Bool) (w : World) (h : spec_Less.f a0 a1 = some r) :
  Calls Try.prog 149 #[.string a0, .string a1] w fun e w' => e = .returned (.bool r) ∧ Drawn0 w w' := by
 have H : (some (Op.bytesLess a0.toList a1.toList)) = some r := h
 clear h
 obtain rfl := Option.some.inj H
 go_enter Try.func149, Try.ntmps149
 go_wp2
 go_ret
 exact ⟨by first | rfl | (simp; done) | (simp [*]; done), by repeat (first | exact Drawn0.refl _ | apply Drawn0.step)⟩
def spec_NameOk.l0 : Nat → ByteArray → Int → Option (Bool)
 | 0, _, _ => none
 | k + 1, x0, x3 => if x3 < (x0.size : Int) then (if 0 ≤ x3 then (if (bt x0 x3) < 97 then (some false) else (if (bt x0 x3) > 122 then (some false) else (spec_NameOk.l0 k x0 (wrap64 (x3 + 1))))) else (none)) else ((spec_l1In.f (x0.size : Int) 1 8).bind fun t715 => (some t715))
def spec_NameOk.f (k : Nat) (a0 : ByteArray) : Option (Bool) := spec_NameOk.l0 k a0 0
theorem spec_NameOk.mono_l : ∀ k, (∀ y0 y1, LeO (spec_NameOk.l0 k y0 y1) (spec_NameOk.l0 (k + 1) y0 y1))
 | 0 => fun _ _ r h => by simp [spec_NameOk.l0] at h
 | k + 1 => by
  have ih0 := spec_NameOk.mono_l k
  intro y0 y1
  unfold spec_NameOk.l0
  repeat' first
  | (with_reducible exact ih0 _ _)
  | (with_reducible exact LeO.refl _)
  | (with_reducible exact LeO.none _)
  | (with_reducible refine LeO.ite ?_ ?_)
  | (with_reducible refine LeO.bind ?_ (fun _ => ?_))
  | exact ih0 _ _
theorem spec_NameOk.mono : ∀ a0 k, LeO (spec_NameOk.f k a0) (spec_NameOk.f (k + 1) a0) := by
 intro a0 k
 have ih0 := spec_NameOk.mono_l k
 unfold spec_NameOk.f
 repeat' first | (with_reducible first | exact ih0 _ _ | exact LeO.refl _ | exact LeO.none _ | refine LeO.ite ?_ ?_ | refine LeO.bind ?_ (fun _ => ?_)) | exact ih0 _ _
theorem spec_NameOk.calls (k : Nat) (a0 : ByteArray) (r : Bool) (w : World) (h : spec_NameOk.f k a0 = some r) :
  Calls Try.prog 168 #[.string a0] w fun e w' => e = .returned (.bool r) ∧ Drawn0 w w' := by
 have H : (spec_NameOk.l0 k a0 0) = some r := h
 clear h
 have H' := Aside0.mk H
 clear H
 go_enter Try.func168, Try.ntmps168
 go_wp2
 go_loopg [3] k (fun kq v3 w' => ∃ (x3_1 : Int), v3 = .int .i64 x3_1 ∧ Aside0 (spec_NameOk.l0 kq a0 x3_1 = some r) ∧ Aside0 (kq ≤ k) ∧ Drawn0 w w')
 case atStart => exact ⟨(0), (by first | rfl | (simp; done) | (simp [*]; done)), H', ⟨Nat.le_refl _⟩, by repeat (first | exact Drawn0.refl _ | apply Drawn0.step)⟩
 case round =>
  clear H'
  try clear c1
  obtain ⟨x3_1, rfl, HA, HK1, ⟨m1, rfl⟩⟩ := hrel
  cases gk with
  | zero => exact absurd HA.out (by simp [spec_NameOk.l0])
  | succ k1 =>
   have H := HA.out
   clear HA
   simp only [spec_NameOk.l0] at H
   by_cases c2 : x3_1 < (a0.size : Int)
   ·
    rw [if_pos c2] at H
    have c2b0 := decide_eq_true c2
    clear c2
    by_cases c3 : 0 ≤ x3_1
    ·
     rw [if_pos c3] at H
     have c3b0 := decide_eq_true c3
     clear c3
     by_cases c5 : (bt a0 x3_1) < 97
     ·
      rw [if_pos c5] at H
      have c5b0 := decide_eq_true c5
      clear c5
      obtain rfl := Option.some.inj H
      have p4 : 0 ≤ (x3_1 : Int) := of_decide_eq_true (by with_reducible assumption)
      have q4 : x3_1 < (a0.size : Int) := of_decide_eq_true (by with_reducible assumption)
      have hx4 := bt_at a0 x3_1
      replace p4 := eq_true p4
      replace q4 := eq_true q4
      go_wp2
      go_ret
      exact ⟨by first | rfl | (simp; done) | (simp [*]; done), by repeat (first | exact Drawn0.refl _ | apply Drawn0.step)⟩
     rw [if_neg c5] at H
     have c5b0 : decide ((bt a0 x3_1) < 97) = false := decide_eq_false c5
     clear c5
     by_cases c7 : (bt a0 x3_1) > 122
     ·
      rw [if_pos c7] at H
      have c7b0 : decide (122 < (bt a0 x3_1)) = true := decide_eq_true c7
      clear c7
      obtain rfl := Option.some.inj H
      have p4 : 0 ≤ (x3_1 : Int) := of_decide_eq_true (by with_reducible assumption)
      have q4 : x3_1 < (a0.size : Int) := of_decide_eq_true (by with_reducible assumption)
      have hx4 := bt_at a0 x3_1
      replace p4 := eq_true p4
      replace q4 := eq_true q4
      have p6 : 0 ≤ (x3_1 : Int) := of_decide_eq_true (by with_reducible assumption)
      have q6 : x3_1 < (a0.size : Int) := of_decide_eq_true (by with_reducible assumption)
      have hx6 := bt_at a0 x3_1
      replace p6 := eq_true p6
      replace q6 := eq_true q6
      go_wp2
      go_ret
      exact ⟨by first | rfl | (simp; done) | (simp [*]; done), by repeat (first | exact Drawn0.refl _ | apply Drawn0.step)⟩
     rw [if_neg c7] at H
     have c7b0 : decide (122 < (bt a0 x3_1)) = false := decide_eq_false c7
     clear c7
     have H' := Aside0.mk H
     clear H
     have p4 : 0 ≤ (x3_1 : Int) := of_decide_eq_true (by with_reducible assumption)
     have q4 : x3_1 < (a0.size : Int) := of_decide_eq_true (by with_reducible assumption)
     have hx4 := bt_at a0 x3_1
     replace p4 := eq_true p4
     replace q4 := eq_true q4
     have p6 : 0 ≤ (x3_1 : Int) := of_decide_eq_true (by with_reducible assumption)
     have q6 : x3_1 < (a0.size : Int) := of_decide_eq_true (by with_reducible assumption)
     have hx6 := bt_at a0 x3_1
     replace p6 := eq_true p6
     replace q6 := eq_true q6
     go_wp2
     go_roundg k1
     case measure => have := HK1.out; omega
     case rel => exact ⟨(wrap64 (x3_1 + 1)), (by first | rfl | (simp; done) | (simp [*]; done)), H', ⟨by have := HK1.out; omega⟩, by repeat (first | exact Drawn0.refl _ | apply Drawn0.step)⟩
    rw [if_neg c3] at H
    exact absurd H (by simp)
   rw [if_neg c2] at H
   have c2b0 : decide (x3_1 < (a0.size : Int)) = false := decide_eq_false c2
   clear c2
   replace H := Option.bind_eq_some_iff.mp H
   obtain ⟨t715, A80, H⟩ := H
   have A8 := Aside0.mk A80
   clear A80
   obtain rfl := Option.some.inj H
   go_wp2_with (first | ((with_reducible refine gate_callee (f := 109) rfl ?_); refine gl_ (some 22) Try.func109 #[.int .i64 (a0.size : Int), .int .i64 1, .int .i64 8] ?_; (with_reducible refine (spec_l1In.calls (a0.size : Int) 1 8 t715 _ A8.out).mono ?_); rintro e w' ⟨rfl, ⟨nd, rfl⟩⟩; refine ⟨_, rfl, ?_⟩))
   go_ret
   exact ⟨by first | rfl | (simp; done) | (simp [*]; done), by repeat (first | exact Drawn0.refl _ | apply Drawn0.step)⟩
def spec_LabelOk.f (k : Nat) (a0_0 : ByteArray) (a0_1 : ByteArray) : Option (Bool) := (spec_NameOk.f k a0_0).bind fun t717 => (if t717 = true then ((spec_PlainOk.f k a0_1).bind fun t718 => (some t718)) else (some false))
theorem spec_LabelOk.mono : ∀ a0 a1 k, LeO (spec_LabelOk.f k a0 a1) (spec_LabelOk.f (k + 1) a0 a1) := by
 intro a0 a1 k
 unfold spec_LabelOk.f
 repeat' first | (with_reducible first | exact spec_NameOk.mono _ _ | exact spec_PlainOk.mono _ _ | exact LeO.refl _ | exact LeO.none _ | refine LeO.ite ?_ ?_ | refine LeO.bind ?_ (fun _ => ?_)) | exact spec_NameOk.mono _ _ | exact spec_PlainOk.mono _ _
theorem spec_LabelOk.calls (k : Nat) (a0_0 : ByteArray) (a0_1 : ByteArray) (r : Bool) (w : World) (h : spec_LabelOk.f k a0_0 a0_1 = some r) :
  Calls Try.prog 151 #[.agg #[.string a0_0, .string a0_1]] w fun e w' => e = .returned (.bool r) ∧ Below w.heap.size w w' := by
 have hu164 := Try.underlying164
 have HB := Aside0.mk (Below.refl w.heap.size w)
 have H : ((spec_NameOk.f k a0_0).bind fun t717 => (if t717 = true then ((spec_PlainOk.f k a0_1).bind fun t718 => (some t718)) else (some false))) = some r := h
 clear h
 replace H := Option.bind_eq_some_iff.mp H
 obtain ⟨t717, A20, H⟩ := H
 have A2 := Aside0.mk A20
 clear A20
 by_cases c3 : t717 = true
 ·
  subst c3
  rw [if_pos rfl] at H
  replace H := Option.bind_eq_some_iff.mp H
  obtain ⟨t718, A40, H⟩ := H
  have A4 := Aside0.mk A40
  clear A40
  obtain rfl := Option.some.inj H
  go_enter Try.func151, Try.ntmps151
  go_wp2_with (first | ((with_reducible refine gd_ 1 rfl ?_); refine bv_ 1 #[.string a0_0, .string a0_1] 164 ?_; intro gb716 hg w5 hbox hb; have BK716 := Aside0.mk (hbox); have GW716 := Aside0.mk ((gw_ hg (hs_ HB.out))); replace HB := st_ HB hb; have GE716 := Ge_.mk GW716.out; clear hb hbox hg; obtain ⟨z6_0, z6_1, y6_0, y6_1⟩ := bc2_ BK716.out) | ((with_reducible refine gate_callee (f := 168) rfl ?_); refine gl_ (some 5) Try.func168 #[.string a0_0] ?_; (with_reducible refine (spec_NameOk.calls k a0_0 true _ A2.out).mono ?_); rintro e w' ⟨rfl, ⟨nd, rfl⟩⟩; refine ⟨_, rfl, ?_⟩) | (go_at_call 148; (with_reducible refine (spec_PlainOk.calls k a0_1 t718 _ A4.out).mono ?_); rintro e w' ⟨rfl, ⟨nd, rfl⟩⟩))
  go_ret
  exact an_ (by exact hs_ HB.out)
 replace c3 := Bool.eq_false_iff.mpr c3
 subst c3
 rw [if_neg (show ¬ (false = true) by decide)] at H
 obtain rfl := Option.some.inj H
 go_enter Try.func151, Try.ntmps151
 go_wp2_with (first | ((with_reducible refine gd_ 1 rfl ?_); refine bv_ 1 #[.string a0_0, .string a0_1] 164 ?_; intro gb716 hg w7 hbox hb; have BK716 := Aside0.mk (hbox); have GW716 := Aside0.mk ((gw_ hg (hs_ HB.out))); replace HB := st_ HB hb; have GE716 := Ge_.mk GW716.out; clear hb hbox hg; obtain ⟨z8_0, z8_1, y8_0, y8_1⟩ := bc2_ BK716.out) | ((with_reducible refine gate_callee (f := 168) rfl ?_); refine gl_ (some 5) Try.func168 #[.string a0_0] ?_; (with_reducible refine (spec_NameOk.calls k a0_0 false _ A2.out).mono ?_); rintro e w' ⟨rfl, ⟨nd, rfl⟩⟩; refine ⟨_, rfl, ?_⟩))
 go_ret
 exact an_ (by exact hs_ HB.out)
def spec_SetOk.l0 : Nat → List (S164) → Int → Option (Bool)
 | 0, _, _ => none
 | k + 1, x0, x3 => if x3 < (x0.length : Int) then (if 0 ≤ x3 then ((spec_LabelOk.f k ((rd_T164 x0 x3).f0) ((rd_T164 x0 x3).f1)).bind fun t720 => (if t720 = true then (if x3 > 0 then (if 0 ≤ (wrap64 (x3 - 1)) then (if (wrap64 (x3 - 1)) < (x0.length : Int) then ((spec_Less.f ((rd_T164 x0 (wrap64 (x3 - 1))).f0) ((rd_T164 x0 x3).f0)).bind fun t723 => (if t723 = true then (spec_SetOk.l0 k x0 (wrap64 (x3 + 1))) else (some false))) else (none)) else (none)) else (spec_SetOk.l0 k x0 (wrap64 (x3 + 1)))) else (some false))) else (none)) else (some (decide ((x0.length : Int) ≤ 4)))
def spec_SetOk.f (k : Nat) (l0 : List (S164)) : Option (Bool) := spec_SetOk.l0 k l0 0
theorem spec_SetOk.mono_l : ∀ k, (∀ y0 y1, LeO (spec_SetOk.l0 k y0 y1) (spec_SetOk.l0 (k + 1) y0 y1))
 | 0 => fun _ _ r h => by simp [spec_SetOk.l0] at h
 | k + 1 => by
  have ih0 := spec_SetOk.mono_l k
  intro y0 y1
  unfold spec_SetOk.l0
  repeat' first
  | (with_reducible exact ih0 _ _)
  | (with_reducible exact spec_LabelOk.mono _ _ _)
  | (with_reducible exact LeO.refl _)
  | (with_reducible exact LeO.none _)
  | (with_reducible refine LeO.ite ?_ ?_)
  | (with_reducible refine LeO.bind ?_ (fun _ => ?_))
  | exact ih0 _ _
  | exact spec_LabelOk.mono _ _ _
theorem spec_SetOk.mono : ∀ a0 k, LeO (spec_SetOk.f k a0) (spec_SetOk.f (k + 1) a0) := by
 intro a0 k
 have ih0 := spec_SetOk.mono_l k
 unfold spec_SetOk.f
 repeat' first | (with_reducible first | exact ih0 _ _ | exact spec_LabelOk.mono _ _ _ | exact LeO.refl _ | exact LeO.none _ | refine LeO.ite ?_ ?_ | refine LeO.bind ?_ (fun _ => ?_)) | exact ih0 _ _ | exact spec_LabelOk.mono _ _ _
def spec_SetOk.T4 : Bool × List (List Nat × List Nat) := (true, [([], []), ([], []), ([0, 1], [0, 1]), ([2], [2]), ([3], [3]), ([4], [4]), ([5, 4], [5]), ([6], [6]), ([7, 6], [6, 7]), ([8, 6, 6], [6, 8]), ([9], [9]), ([9], [9]), ([11, 9], [9, 11]), ([10, 12, 9], [9, 10, 12]), ([13, 9], [9, 13]), ([14, 9], [9, 14]), ([9], [9]), ([9], [9]), ([16, 17, 9], [9, 16, 17]), ([18, 9], [9, 18]), ([19, 9], [9, 19]), ([15, 20, 9, 9], [9, 15, 20]), ([21, 9], [9, 21]), ([9, 22, 6], [6, 9, 22]), ([6, 23], [6, 23])])
def spec_SetOk.B4 : List Nat := [0, 0, 3, 7, 15, 31, 63, 127, 255, 511, 1023, 1023, 3071, 8191, 16383, 32767, 1023, 1023, 197631, 459775, 984063, 2097151, 4194303, 8388607, 16777215]
theorem spec_SetOk.tab4 : rtab .any (opsOf Try.f108 4) = spec_SetOk.T4 := by kernel_rfl
theorem spec_SetOk.bits4 : waitsOk spec_SetOk.T4.2 spec_SetOk.B4 = true := by kernel_rfl
theorem spec_SetOk.calls (k : Nat) (A0 : Option Addr) (c0 : Nat) (l0 : List (S164)) (r : Bool) (w : World) (hr0 : Kd.C k164 w A0 l0.length l0) (hc0 : l0.length ≤ c0) (h : spec_SetOk.f k l0 = some r) :
  Calls Try.prog 108 #[.slice A0 l0.length c0] w fun e w' => e = .returned (.bool r) ∧ Below w.heap.size w w' := by
 have hu164 := Try.underlying164
 have HR0 := Aside0.mk hr0
 have HC0 := Aside0.mk hc0
 clear hr0 hc0
 have HB := Aside0.mk (Below.refl w.heap.size w)
 have H : (spec_SetOk.l0 k l0 0) = some r := h
 clear h
 have H' := Aside0.mk H
 clear H
 go_enter Try.func108, Try.ntmps108
 go_wp2
 go_loopg [3] k (fun kq v3 w' => ∃ (x3_1 : Int), v3 = .int .i64 x3_1 ∧ Aside0 (spec_SetOk.l0 kq l0 x3_1 = some r) ∧ Aside0 (kq ≤ k) ∧ Aside0 (Below w.heap.size w w'))
 case atStart => exact ⟨(0), (by first | rfl | (simp; done) | (simp [*]; done)), H', ⟨Nat.le_refl _⟩, ⟨by exact hs_ HB.out⟩⟩
 case round =>
  clear H'
  try clear c1
  obtain ⟨x3_1, rfl, HA, HK1, HB⟩ := hrel
  cases gk with
  | zero => exact absurd HA.out (by simp [spec_SetOk.l0])
  | succ k1 =>
   have H := HA.out
   clear HA
   simp only [spec_SetOk.l0] at H
   by_cases c2 : x3_1 < (l0.length : Int)
   ·
    rw [if_pos c2] at H
    have c2b0 := decide_eq_true c2
    clear c2
    by_cases c3 : 0 ≤ x3_1
    ·
     rw [if_pos c3] at H
     have c3b0 := decide_eq_true c3
     clear c3
     replace H := Option.bind_eq_some_iff.mp H
     obtain ⟨t720, A40, H⟩ := H
     have A4 := Aside0.mk A40
     clear A40
     by_cases c5 : t720 = true
     ·
      subst c5
      rw [if_pos rfl] at H
      by_cases c6 : x3_1 > 0
      ·
       rw [if_pos c6] at H
       have c6b0 : decide (0 < x3_1) = true := decide_eq_true c6
       clear c6
       obtain ⟨ji7, hji7⟩ : ∃ j_ : Int, (wrap64 (x3_1 - 1)) = j_ := ⟨_, rfl⟩
       replace H : (if 0 ≤ (ji7) then (if (ji7) < (l0.length : Int) then ((spec_Less.f ((rd_T164 l0 (ji7)).f0) ((rd_T164 l0 x3_1).f0)).bind fun t723 => (if t723 = true then (spec_SetOk.l0 k1 l0 (wrap64 (x3_1 + 1))) else (some false))) else (none)) else (none)) = some r := by first | (rw [hji7] at H; exact H) | (simp only [hji7] at H ⊢; exact H)
       (try rw [hji7] at A4)
       have hji7w : (IntKind.i64.wrap (x3_1 - 1)) = ji7 := (i64_w _).trans hji7
       by_cases c8 : 0 ≤ (ji7)
       ·
        rw [if_pos c8] at H
        have c8b0 := decide_eq_true c8
        clear c8
        by_cases c9 : (ji7) < (l0.length : Int)
        ·
         rw [if_pos c9] at H
         have c9b0 := decide_eq_true c9
         clear c9
         replace H := Option.bind_eq_some_iff.mp H
         obtain ⟨t723, A100, H⟩ := H
         have A10 := Aside0.mk A100
         clear A100
         by_cases c11 : t723 = true
         ·
          subst c11
          rw [if_pos rfl] at H
          have H' := Aside0.mk H
          clear H
          try go_wp2
          replace HB := Aside0.mk (bd_ HB.out)
          have p719 : 0 ≤ (x3_1 : Int) := of_decide_eq_true (by with_reducible assumption)
          have q719 : x3_1 < (l0.length : Int) := of_decide_eq_true (by with_reducible assumption)
          obtain ⟨ad719, e719, hx719_0, hx719_1⟩ := at_T164 HR0.out x3_1 p719 q719
          have hw719_1 := hx719_1
          have hw719_0 := hx719_0
          cases e719
          replace hx719_0 := cl_ HB.out hx719_0
          replace hx719_1 := cl_ HB.out hx719_1
          replace p719 := eq_true p719
          replace q719 := eq_true q719
          have p721 : 0 ≤ ((ji7) : Int) := of_decide_eq_true (by with_reducible assumption)
          have q721 : (ji7) < (l0.length : Int) := of_decide_eq_true (by with_reducible assumption)
          obtain ⟨ad721, e721, hx721_0, hx721_1⟩ := at_T164 HR0.out (ji7) p721 q721
          have hw721_1 := hx721_1
          have hw721_0 := hx721_0
          obtain rfl : ad719 = ad721 := (by injection e721)
          replace hx721_0 := cl_ HB.out hx721_0
          replace hx721_1 := cl_ HB.out hx721_1
          replace p721 := eq_true p721
          replace q721 := eq_true q721
          have p722 : 0 ≤ (x3_1 : Int) := of_decide_eq_true (by with_reducible assumption)
          have q722 : x3_1 < (l0.length : Int) := of_decide_eq_true (by with_reducible assumption)
          obtain ⟨ad722, e722, hx722_0, hx722_1⟩ := at_T164 HR0.out x3_1 p722 q722
          have hw722_1 := hx722_1
          have hw722_0 := hx722_0
          obtain rfl : ad719 = ad722 := (by injection e722)
          replace hx722_0 := cl_ HB.out hx722_0
          replace hx722_1 := cl_ HB.out hx722_1
          replace p722 := eq_true p722
          replace q722 := eq_true q722
          refine start_ (n := 25) (S := fun w' => w'.cell? (ad719.add ((x3_1).toNat * 2)) = some (.string ((rd_T164 l0 x3_1).f0)) ∧ w'.cell? ⟨(ad719.add ((x3_1).toNat * 2)).block, (ad719.add ((x3_1).toNat * 2)).off + 1, none⟩ = some (.string ((rd_T164 l0 x3_1).f1)) ∧ w'.cell? (ad719.add (((ji7)).toNat * 2)) = some (.string ((rd_T164 l0 (ji7)).f0)) ∧ w'.cell? ⟨(ad719.add (((ji7)).toNat * 2)).block, (ad719.add (((ji7)).toNat * 2)).off + 1, none⟩ = some (.string ((rd_T164 l0 (ji7)).f1)) ∧ w'.cell? (ad719.add ((x3_1).toNat * 2)) = some (.string ((rd_T164 l0 x3_1).f0)) ∧ w'.cell? ⟨(ad719.add ((x3_1).toNat * 2)).block, (ad719.add ((x3_1).toNat * 2)).off + 1, none⟩ = some (.string ((rd_T164 l0 x3_1).f1))) (ds := []) #[f_,f_,f_,f_,f_,f_,f_,f_,f_,f_,f_,f_,f_,f_,f_,f_,f_,f_,f_,f_,f_,f_,f_,f_,f_] (by kernel_rfl) rfl rfl ⟨((HB.out.cell (World.block_lt_of_cell? w _ hw719_0)).trans hw719_0), ((HB.out.cell (World.block_lt_of_cell? w _ hw719_1)).trans hw719_1), ((HB.out.cell (World.block_lt_of_cell? w _ hw721_0)).trans hw721_0), ((HB.out.cell (World.block_lt_of_cell? w _ hw721_1)).trans hw721_1), ((HB.out.cell (World.block_lt_of_cell? w _ hw722_0)).trans hw722_0), ((HB.out.cell (World.block_lt_of_cell? w _ hw722_1)).trans hw722_1)⟩ (fun hHeld => ?_); refine with_tabW spec_SetOk.tab4 spec_SetOk.bits4 (fun HT_ HW_ => ?_)
          generalize wr.drew = w12 at HB hx719_0 hx719_1 hx721_0 hx721_1 hx722_0 hx722_1 hHeld ⊢
          refine pw_ 0 10 (b_ 1 24) rfl rfl HT_.out ?_
          refine pw_ 1 11 (b_ 2 23) rfl rfl HT_.out ?_
          refine pw_ 2 12 (b_ 3 22) rfl rfl HT_.out ?_
          refine take_ (i := 3) (N := some 13) (v := ?_) (a' := ?_) #[t_,t_,t_,t_,f_,f_,f_,f_,f_,f_,f_,f_,f_,f_,f_,f_,f_,f_,f_,f_,f_,f_,f_,f_,f_] rfl rfl (take_ofW HT_.out HW_.out (by kernel_rfl)) (fun _ _ _ h => h) (Or.inl ⟨by rfl, ?_⟩) hHeld ?_ ?_
          rotate_left
          ·
           rintro w' ⟨s0, s1, s2, s3, s4, s5⟩
           go_simp
           with_reducible rfl
          rotate_left
          ·
           simp only [fr_]
           rfl
          refine one_ (i := 4) (N := some 14) #[t_,t_,t_,t_,t_,f_,f_,f_,f_,f_,f_,f_,f_,f_,f_,f_,f_,f_,f_,f_,f_,f_,f_,f_,f_] rfl rfl (one_of HT_.out (by kernel_rfl)) (by decide) (fun K hK => ?_)
          refine gs_ Try.func151 #[.agg #[.string ((rd_T164 l0 x3_1).f0), .string ((rd_T164 l0 x3_1).f1)]] ?_
          with_reducible refine (spec_LabelOk.calls k1 ((rd_T164 l0 x3_1).f0) ((rd_T164 l0 x3_1).f1) true _ A4.out).mono ?_
          rintro e w13 ⟨rfl, hb⟩
          refine ⟨_, rfl, ?_⟩
          replace HB := st_ HB hb
          (try clear hb)
          (try clear hk)
          refine hK.out _ _ ⟨((HB.out.cell (World.block_lt_of_cell? w _ hw719_0)).trans hw719_0), ((HB.out.cell (World.block_lt_of_cell? w _ hw719_1)).trans hw719_1), ((HB.out.cell (World.block_lt_of_cell? w _ hw721_0)).trans hw721_0), ((HB.out.cell (World.block_lt_of_cell? w _ hw721_1)).trans hw721_1), ((HB.out.cell (World.block_lt_of_cell? w _ hw722_0)).trans hw722_0), ((HB.out.cell (World.block_lt_of_cell? w _ hw722_1)).trans hw722_1)⟩ (fun hHeld => ?_)
          clear hK K
          refine norm_ (a' := ?_) ?_ ?_
          rotate_left
          ·
           show Act.put _ (some 14) _ = _
           simp only [fr_]
           rfl
          refine pw_ 5 15 (b_ 6 19) rfl rfl HT_.out ?_
          refine pw_ 6 16 (b_ 7 18) rfl rfl HT_.out ?_
          refine pw_ 7 17 (b_ 8 17) rfl rfl HT_.out ?_
          refine pw_ 8 18 (b_ 9 16) rfl rfl HT_.out ?_
          refine pw_ 9 19 (b_ 10 15) rfl rfl HT_.out ?_
          refine pw_ 10 20 (b_ 11 14) rfl rfl HT_.out ?_
          refine pw_ 11 21 (b_ 12 13) rfl rfl HT_.out ?_
          refine pw_ 12 22 (b_ 13 12) rfl rfl HT_.out ?_
          refine pw_ 13 23 (b_ 14 11) rfl rfl HT_.out ?_
          refine pw_ 14 24 (b_ 15 10) rfl rfl HT_.out ?_
          refine pw_ 16 26 #[t_,t_,t_,t_,t_,t_,t_,t_,t_,t_,t_,t_,t_,t_,t_,f_,t_,f_,f_,f_,f_,f_,f_,f_,f_] rfl rfl HT_.out ?_
          refine pw_ 17 27 #[t_,t_,t_,t_,t_,t_,t_,t_,t_,t_,t_,t_,t_,t_,t_,f_,t_,t_,f_,f_,f_,f_,f_,f_,f_] rfl rfl HT_.out ?_
          refine pw_ 18 28 #[t_,t_,t_,t_,t_,t_,t_,t_,t_,t_,t_,t_,t_,t_,t_,f_,t_,t_,t_,f_,f_,f_,f_,f_,f_] rfl rfl HT_.out ?_
          refine pw_ 19 29 #[t_,t_,t_,t_,t_,t_,t_,t_,t_,t_,t_,t_,t_,t_,t_,f_,t_,t_,t_,t_,f_,f_,f_,f_,f_] rfl rfl HT_.out ?_
          refine take_ (i := 15) (N := some 25) (v := ?_) (a' := ?_) #[t_,t_,t_,t_,t_,t_,t_,t_,t_,t_,t_,t_,t_,t_,t_,t_,t_,t_,t_,t_,f_,f_,f_,f_,f_] rfl rfl (take_ofW HT_.out HW_.out (by kernel_rfl)) (fun _ _ _ h => h) (Or.inl ⟨by rfl, ?_⟩) hHeld ?_ ?_
          rotate_left
          ·
           rintro w' ⟨s0, s1, s2, s3, s4, s5⟩
           go_simp
           with_reducible rfl
          rotate_left
          ·
           simp only [fr_]
           rfl
          refine take_ (i := 20) (N := some 30) (v := ?_) (a' := ?_) #[t_,t_,t_,t_,t_,t_,t_,t_,t_,t_,t_,t_,t_,t_,t_,t_,t_,t_,t_,t_,t_,f_,f_,f_,f_] rfl rfl (take_ofW HT_.out HW_.out (by kernel_rfl)) (fun _ _ _ h => h) (Or.inl ⟨by rfl, ?_⟩) hHeld ?_ ?_
          rotate_left
          ·
           rintro w' ⟨s0, s1, s2, s3, s4, s5⟩
           go_simp
           with_reducible rfl
          rotate_left
          ·
           simp only [fr_]
           rfl
          refine one_ (i := 21) (N := some 31) #[t_,t_,t_,t_,t_,t_,t_,t_,t_,t_,t_,t_,t_,t_,t_,t_,t_,t_,t_,t_,t_,t_,f_,f_,f_] rfl rfl (one_of HT_.out (by kernel_rfl)) (by decide) (fun K hK => ?_)
          refine goes_ Try.func149 (by kernel_rfl) rfl #[.string ((rd_T164 l0 (ji7)).f0), .string ((rd_T164 l0 x3_1).f0)] (by rfl) rfl rfl (by (try simp only [mp_]); first | done | (simp only [hji7]; rfl) | rfl | (simp only [List.length_drop, List.length_take]; rfl)) ?_
          with_reducible refine (spec_Less.calls ((rd_T164 l0 (ji7)).f0) ((rd_T164 l0 x3_1).f0) true _ A10.out).mono ?_
          rintro e w' ⟨rfl, ⟨nd, rfl⟩⟩
          refine ⟨_, rfl, ?_⟩
          refine hK.out _ _ ⟨((HB.out.cell (World.block_lt_of_cell? w _ hw719_0)).trans hw719_0), ((HB.out.cell (World.block_lt_of_cell? w _ hw719_1)).trans hw719_1), ((HB.out.cell (World.block_lt_of_cell? w _ hw721_0)).trans hw721_0), ((HB.out.cell (World.block_lt_of_cell? w _ hw721_1)).trans hw721_1), ((HB.out.cell (World.block_lt_of_cell? w _ hw722_0)).trans hw722_0), ((HB.out.cell (World.block_lt_of_cell? w _ hw722_1)).trans hw722_1)⟩ (fun hHeld => ?_)
          clear hK K
          refine norm_ (a' := ?_) ?_ ?_
          rotate_left
          ·
           show Act.put _ (some 31) _ = _
           simp only [fr_]
           rfl
          refine pw_ 22 32 (b_ 23 2) rfl rfl HT_.out ?_
          refine pw_ 23 33 (b_ 24 1) rfl rfl HT_.out ?_
          refine pw_ 24 34 (b_ 25 0) rfl rfl HT_.out ?_
          refine done_ (done_of HT_.out (by kernel_rfl)) ?_
          try go_wp2
          go_roundg k1
          case measure => have := HK1.out; omega
          case rel => exact ⟨(wrap64 (x3_1 + 1)), (by first | rfl | (simp; done) | (simp [*]; done)), H', ⟨by have := HK1.out; omega⟩, ⟨by exact hs_ HB.out⟩⟩
         replace c11 := Bool.eq_false_iff.mpr c11
         subst c11
         rw [if_neg (show ¬ (false = true) by decide)] at H
         obtain rfl := Option.some.inj H
         try go_wp2
         replace HB := Aside0.mk (bd_ HB.out)
         have p719 : 0 ≤ (x3_1 : Int) := of_decide_eq_true (by with_reducible assumption)
         have q719 : x3_1 < (l0.length : Int) := of_decide_eq_true (by with_reducible assumption)
         obtain ⟨ad719, e719, hx719_0, hx719_1⟩ := at_T164 HR0.out x3_1 p719 q719
         have hw719_1 := hx719_1
         have hw719_0 := hx719_0
         cases e719
         replace hx719_0 := cl_ HB.out hx719_0
         replace hx719_1 := cl_ HB.out hx719_1
         replace p719 := eq_true p719
         replace q719 := eq_true q719
         have p721 : 0 ≤ ((ji7) : Int) := of_decide_eq_true (by with_reducible assumption)
         have q721 : (ji7) < (l0.length : Int) := of_decide_eq_true (by with_reducible assumption)
         obtain ⟨ad721, e721, hx721_0, hx721_1⟩ := at_T164 HR0.out (ji7) p721 q721
         have hw721_1 := hx721_1
         have hw721_0 := hx721_0
         obtain rfl : ad719 = ad721 := (by injection e721)
         replace hx721_0 := cl_ HB.out hx721_0
         replace hx721_1 := cl_ HB.out hx721_1
         replace p721 := eq_true p721
         replace q721 := eq_true q721
         have p722 : 0 ≤ (x3_1 : Int) := of_decide_eq_true (by with_reducible assumption)
         have q722 : x3_1 < (l0.length : Int) := of_decide_eq_true (by with_reducible assumption)
         obtain ⟨ad722, e722, hx722_0, hx722_1⟩ := at_T164 HR0.out x3_1 p722 q722
         have hw722_1 := hx722_1
         have hw722_0 := hx722_0
         obtain rfl : ad719 = ad722 := (by injection e722)
         replace hx722_0 := cl_ HB.out hx722_0
         replace hx722_1 := cl_ HB.out hx722_1
         replace p722 := eq_true p722
         replace q722 := eq_true q722
         refine start_ (n := 25) (S := fun w' => w'.cell? (ad719.add ((x3_1).toNat * 2)) = some (.string ((rd_T164 l0 x3_1).f0)) ∧ w'.cell? ⟨(ad719.add ((x3_1).toNat * 2)).block, (ad719.add ((x3_1).toNat * 2)).off + 1, none⟩ = some (.string ((rd_T164 l0 x3_1).f1)) ∧ w'.cell? (ad719.add (((ji7)).toNat * 2)) = some (.string ((rd_T164 l0 (ji7)).f0)) ∧ w'.cell? ⟨(ad719.add (((ji7)).toNat * 2)).block, (ad719.add (((ji7)).toNat * 2)).off + 1, none⟩ = some (.string ((rd_T164 l0 (ji7)).f1)) ∧ w'.cell? (ad719.add ((x3_1).toNat * 2)) = some (.string ((rd_T164 l0 x3_1).f0)) ∧ w'.cell? ⟨(ad719.add ((x3_1).toNat * 2)).block, (ad719.add ((x3_1).toNat * 2)).off + 1, none⟩ = some (.string ((rd_T164 l0 x3_1).f1))) (ds := []) #[f_,f_,f_,f_,f_,f_,f_,f_,f_,f_,f_,f_,f_,f_,f_,f_,f_,f_,f_,f_,f_,f_,f_,f_,f_] (by kernel_rfl) rfl rfl ⟨((HB.out.cell (World.block_lt_of_cell? w _ hw719_0)).trans hw719_0), ((HB.out.cell (World.block_lt_of_cell? w _ hw719_1)).trans hw719_1), ((HB.out.cell (World.block_lt_of_cell? w _ hw721_0)).trans hw721_0), ((HB.out.cell (World.block_lt_of_cell? w _ hw721_1)).trans hw721_1), ((HB.out.cell (World.block_lt_of_cell? w _ hw722_0)).trans hw722_0), ((HB.out.cell (World.block_lt_of_cell? w _ hw722_1)).trans hw722_1)⟩ (fun hHeld => ?_); refine with_tabW spec_SetOk.tab4 spec_SetOk.bits4 (fun HT_ HW_ => ?_)
         generalize wr.drew = w14 at HB hx719_0 hx719_1 hx721_0 hx721_1 hx722_0 hx722_1 hHeld ⊢
         refine pw_ 0 10 (b_ 1 24) rfl rfl HT_.out ?_
         refine pw_ 1 11 (b_ 2 23) rfl rfl HT_.out ?_
         refine pw_ 2 12 (b_ 3 22) rfl rfl HT_.out ?_
         refine take_ (i := 3) (N := some 13) (v := ?_) (a' := ?_) #[t_,t_,t_,t_,f_,f_,f_,f_,f_,f_,f_,f_,f_,f_,f_,f_,f_,f_,f_,f_,f_,f_,f_,f_,f_] rfl rfl (take_ofW HT_.out HW_.out (by kernel_rfl)) (fun _ _ _ h => h) (Or.inl ⟨by rfl, ?_⟩) hHeld ?_ ?_
         rotate_left
         ·
          rintro w' ⟨s0, s1, s2, s3, s4, s5⟩
          go_simp
          with_reducible rfl
         rotate_left
         ·
          simp only [fr_]
          rfl
         refine one_ (i := 4) (N := some 14) #[t_,t_,t_,t_,t_,f_,f_,f_,f_,f_,f_,f_,f_,f_,f_,f_,f_,f_,f_,f_,f_,f_,f_,f_,f_] rfl rfl (one_of HT_.out (by kernel_rfl)) (by decide) (fun K hK => ?_)
         refine gs_ Try.func151 #[.agg #[.string ((rd_T164 l0 x3_1).f0), .string ((rd_T164 l0 x3_1).f1)]] ?_
         with_reducible refine (spec_LabelOk.calls k1 ((rd_T164 l0 x3_1).f0) ((rd_T164 l0 x3_1).f1) true _ A4.out).mono ?_
         rintro e w15 ⟨rfl, hb⟩
         refine ⟨_, rfl, ?_⟩
         replace HB := st_ HB hb
         (try clear hb)
         (try clear hk)
         refine hK.out _ _ ⟨((HB.out.cell (World.block_lt_of_cell? w _ hw719_0)).trans hw719_0), ((HB.out.cell (World.block_lt_of_cell? w _ hw719_1)).trans hw719_1), ((HB.out.cell (World.block_lt_of_cell? w _ hw721_0)).trans hw721_0), ((HB.out.cell (World.block_lt_of_cell? w _ hw721_1)).trans hw721_1), ((HB.out.cell (World.block_lt_of_cell? w _ hw722_0)).trans hw722_0), ((HB.out.cell (World.block_lt_of_cell? w _ hw722_1)).trans hw722_1)⟩ (fun hHeld => ?_)
         clear hK K
         refine norm_ (a' := ?_) ?_ ?_
         rotate_left
         ·
          show Act.put _ (some 14) _ = _
          simp only [fr_]
          rfl
         refine pw_ 5 15 (b_ 6 19) rfl rfl HT_.out ?_
         refine pw_ 6 16 (b_ 7 18) rfl rfl HT_.out ?_
         refine pw_ 7 17 (b_ 8 17) rfl rfl HT_.out ?_
         refine pw_ 8 18 (b_ 9 16) rfl rfl HT_.out ?_
         refine pw_ 9 19 (b_ 10 15) rfl rfl HT_.out ?_
         refine pw_ 10 20 (b_ 11 14) rfl rfl HT_.out ?_
         refine pw_ 11 21 (b_ 12 13) rfl rfl HT_.out ?_
         refine pw_ 12 22 (b_ 13 12) rfl rfl HT_.out ?_
         refine pw_ 13 23 (b_ 14 11) rfl rfl HT_.out ?_
         refine pw_ 14 24 (b_ 15 10) rfl rfl HT_.out ?_
         refine pw_ 16 26 #[t_,t_,t_,t_,t_,t_,t_,t_,t_,t_,t_,t_,t_,t_,t_,f_,t_,f_,f_,f_,f_,f_,f_,f_,f_] rfl rfl HT_.out ?_
         refine pw_ 17 27 #[t_,t_,t_,t_,t_,t_,t_,t_,t_,t_,t_,t_,t_,t_,t_,f_,t_,t_,f_,f_,f_,f_,f_,f_,f_] rfl rfl HT_.out ?_
         refine pw_ 18 28 #[t_,t_,t_,t_,t_,t_,t_,t_,t_,t_,t_,t_,t_,t_,t_,f_,t_,t_,t_,f_,f_,f_,f_,f_,f_] rfl rfl HT_.out ?_
         refine pw_ 19 29 #[t_,t_,t_,t_,t_,t_,t_,t_,t_,t_,t_,t_,t_,t_,t_,f_,t_,t_,t_,t_,f_,f_,f_,f_,f_] rfl rfl HT_.out ?_
         refine take_ (i := 15) (N := some 25) (v := ?_) (a' := ?_) #[t_,t_,t_,t_,t_,t_,t_,t_,t_,t_,t_,t_,t_,t_,t_,t_,t_,t_,t_,t_,f_,f_,f_,f_,f_] rfl rfl (take_ofW HT_.out HW_.out (by kernel_rfl)) (fun _ _ _ h => h) (Or.inl ⟨by rfl, ?_⟩) hHeld ?_ ?_
         rotate_left
         ·
          rintro w' ⟨s0, s1, s2, s3, s4, s5⟩
          go_simp
          with_reducible rfl
         rotate_left
         ·
          simp only [fr_]
          rfl
         refine take_ (i := 20) (N := some 30) (v := ?_) (a' := ?_) #[t_,t_,t_,t_,t_,t_,t_,t_,t_,t_,t_,t_,t_,t_,t_,t_,t_,t_,t_,t_,t_,f_,f_,f_,f_] rfl rfl (take_ofW HT_.out HW_.out (by kernel_rfl)) (fun _ _ _ h => h) (Or.inl ⟨by rfl, ?_⟩) hHeld ?_ ?_
         rotate_left
         ·
          rintro w' ⟨s0, s1, s2, s3, s4, s5⟩
          go_simp
          with_reducible rfl
         rotate_left
         ·
          simp only [fr_]
          rfl
         refine one_ (i := 21) (N := some 31) #[t_,t_,t_,t_,t_,t_,t_,t_,t_,t_,t_,t_,t_,t_,t_,t_,t_,t_,t_,t_,t_,t_,f_,f_,f_] rfl rfl (one_of HT_.out (by kernel_rfl)) (by decide) (fun K hK => ?_)
         refine goes_ Try.func149 (by kernel_rfl) rfl #[.string ((rd_T164 l0 (ji7)).f0), .string ((rd_T164 l0 x3_1).f0)] (by rfl) rfl rfl (by (try simp only [mp_]); first | done | (simp only [hji7]; rfl) | rfl | (simp only [List.length_drop, List.length_take]; rfl)) ?_
         with_reducible refine (spec_Less.calls ((rd_T164 l0 (ji7)).f0) ((rd_T164 l0 x3_1).f0) false _ A10.out).mono ?_
         rintro e w' ⟨rfl, ⟨nd, rfl⟩⟩
         refine ⟨_, rfl, ?_⟩
         refine hK.out _ _ ⟨((HB.out.cell (World.block_lt_of_cell? w _ hw719_0)).trans hw719_0), ((HB.out.cell (World.block_lt_of_cell? w _ hw719_1)).trans hw719_1), ((HB.out.cell (World.block_lt_of_cell? w _ hw721_0)).trans hw721_0), ((HB.out.cell (World.block_lt_of_cell? w _ hw721_1)).trans hw721_1), ((HB.out.cell (World.block_lt_of_cell? w _ hw722_0)).trans hw722_0), ((HB.out.cell (World.block_lt_of_cell? w _ hw722_1)).trans hw722_1)⟩ (fun hHeld => ?_)
         clear hK K
         refine norm_ (a' := ?_) ?_ ?_
         rotate_left
         ·
          show Act.put _ (some 31) _ = _
          simp only [fr_]
          rfl
         refine pw_ 22 32 (b_ 23 2) rfl rfl HT_.out ?_
         refine pw_ 23 33 (b_ 24 1) rfl rfl HT_.out ?_
         refine pw_ 24 34 (b_ 25 0) rfl rfl HT_.out ?_
         refine done_ (done_of HT_.out (by kernel_rfl)) ?_
         try go_wp2
         go_ret
         exact ⟨by first | rfl | (simp [errW_none, errW_some] <;> rfl) | (simp only [← hji7]; first | rfl | (simp [errW_none, errW_some] <;> rfl)) | (simp [*, errW_none, errW_some] <;> rfl), by exact hs_ HB.out⟩
        rw [if_neg c9] at H
        exact absurd H (by simp)
       rw [if_neg c8] at H
       exact absurd H (by simp)
      rw [if_neg c6] at H
      have c6b0 : decide (0 < x3_1) = false := decide_eq_false c6
      clear c6
      have H' := Aside0.mk H
      clear H
      try go_wp2
      replace HB := Aside0.mk (bd_ HB.out)
      have p719 : 0 ≤ (x3_1 : Int) := of_decide_eq_true (by with_reducible assumption)
      have q719 : x3_1 < (l0.length : Int) := of_decide_eq_true (by with_reducible assumption)
      obtain ⟨ad719, e719, hx719_0, hx719_1⟩ := at_T164 HR0.out x3_1 p719 q719
      have hw719_1 := hx719_1
      have hw719_0 := hx719_0
      cases e719
      replace hx719_0 := cl_ HB.out hx719_0
      replace hx719_1 := cl_ HB.out hx719_1
      replace p719 := eq_true p719
      replace q719 := eq_true q719
      refine start_ (n := 25) (S := fun w' => w'.cell? (ad719.add ((x3_1).toNat * 2)) = some (.string ((rd_T164 l0 x3_1).f0)) ∧ w'.cell? ⟨(ad719.add ((x3_1).toNat * 2)).block, (ad719.add ((x3_1).toNat * 2)).off + 1, none⟩ = some (.string ((rd_T164 l0 x3_1).f1))) (ds := []) #[f_,f_,f_,f_,f_,f_,f_,f_,f_,f_,f_,f_,f_,f_,f_,f_,f_,f_,f_,f_,f_,f_,f_,f_,f_] (by kernel_rfl) rfl rfl ⟨((HB.out.cell (World.block_lt_of_cell? w _ hw719_0)).trans hw719_0), ((HB.out.cell (World.block_lt_of_cell? w _ hw719_1)).trans hw719_1)⟩ (fun hHeld => ?_); refine with_tabW spec_SetOk.tab4 spec_SetOk.bits4 (fun HT_ HW_ => ?_)
      generalize wr.drew = w16 at HB hx719_0 hx719_1 hHeld ⊢
      refine pw_ 0 10 (b_ 1 24) rfl rfl HT_.out ?_
      refine pw_ 1 11 (b_ 2 23) rfl rfl HT_.out ?_
      refine pw_ 2 12 (b_ 3 22) rfl rfl HT_.out ?_
      refine take_ (i := 3) (N := some 13) (v := ?_) (a' := ?_) #[t_,t_,t_,t_,f_,f_,f_,f_,f_,f_,f_,f_,f_,f_,f_,f_,f_,f_,f_,f_,f_,f_,f_,f_,f_] rfl rfl (take_ofW HT_.out HW_.out (by kernel_rfl)) (fun _ _ _ h => h) (Or.inl ⟨by rfl, ?_⟩) hHeld ?_ ?_
      rotate_left
      ·
       rintro w' ⟨s0, s1⟩
       go_simp
       with_reducible rfl
      rotate_left
      ·
       simp only [fr_]
       rfl
      refine one_ (i := 4) (N := some 14) #[t_,t_,t_,t_,t_,f_,f_,f_,f_,f_,f_,f_,f_,f_,f_,f_,f_,f_,f_,f_,f_,f_,f_,f_,f_] rfl rfl (one_of HT_.out (by kernel_rfl)) (by decide) (fun K hK => ?_)
      refine gs_ Try.func151 #[.agg #[.string ((rd_T164 l0 x3_1).f0), .string ((rd_T164 l0 x3_1).f1)]] ?_
      with_reducible refine (spec_LabelOk.calls k1 ((rd_T164 l0 x3_1).f0) ((rd_T164 l0 x3_1).f1) true _ A4.out).mono ?_
      rintro e w17 ⟨rfl, hb⟩
      refine ⟨_, rfl, ?_⟩
      replace HB := st_ HB hb
      (try clear hb)
      (try clear hk)
      refine hK.out _ _ ⟨((HB.out.cell (World.block_lt_of_cell? w _ hw719_0)).trans hw719_0), ((HB.out.cell (World.block_lt_of_cell? w _ hw719_1)).trans hw719_1)⟩ (fun hHeld => ?_)
      clear hK K
      refine norm_ (a' := ?_) ?_ ?_
      rotate_left
      ·
       show Act.put _ (some 14) _ = _
       simp only [fr_]
       rfl
      refine pw_ 5 15 (b_ 6 19) rfl rfl HT_.out ?_
      refine pw_ 6 16 (b_ 7 18) rfl rfl HT_.out ?_
      refine pw_ 7 17 (b_ 8 17) rfl rfl HT_.out ?_
      refine pw_ 8 18 (b_ 9 16) rfl rfl HT_.out ?_
      refine pw_ 9 19 (b_ 10 15) rfl rfl HT_.out ?_
      refine pv_ 10 20 ?_ (b_ 11 14) rfl rfl HT_.out ?_ ?_; rotate_left; simp only [fr_]; rfl
      refine pv_ 11 21 ?_ (b_ 12 13) rfl rfl HT_.out ?_ ?_; rotate_left; simp only [fr_]; rfl
      refine pv_ 12 22 ?_ (b_ 13 12) rfl rfl HT_.out ?_ ?_; rotate_left; simp only [fr_]; rfl
      refine pv_ 13 23 ?_ (b_ 14 11) rfl rfl HT_.out ?_ ?_; rotate_left; simp only [fr_]; rfl
      refine pv_ 14 24 ?_ (b_ 15 10) rfl rfl HT_.out ?_ ?_; rotate_left; simp only [fr_]; rfl
      refine pv_ 15 25 ?_ (b_ 16 9) rfl rfl HT_.out ?_ ?_; rotate_left; simp only [fr_]; rfl
      refine pv_ 16 26 ?_ (b_ 17 8) rfl rfl HT_.out ?_ ?_; rotate_left; simp only [fr_]; rfl
      refine pv_ 17 27 ?_ (b_ 18 7) rfl rfl HT_.out ?_ ?_; rotate_left; simp only [fr_]; rfl
      refine pv_ 18 28 ?_ (b_ 19 6) rfl rfl HT_.out ?_ ?_; rotate_left; simp only [fr_]; rfl
      refine pv_ 19 29 ?_ (b_ 20 5) rfl rfl HT_.out ?_ ?_; rotate_left; simp only [fr_]; rfl
      refine pv_ 20 30 ?_ (b_ 21 4) rfl rfl HT_.out ?_ ?_; rotate_left; simp only [fr_]; rfl
      refine pv_ 21 31 ?_ (b_ 22 3) rfl rfl HT_.out ?_ ?_; rotate_left; simp only [fr_]; rfl
      refine pv_ 22 32 ?_ (b_ 23 2) rfl rfl HT_.out ?_ ?_; rotate_left; simp only [fr_]; rfl
      refine pw_ 23 33 (b_ 24 1) rfl rfl HT_.out ?_
      refine pw_ 24 34 (b_ 25 0) rfl rfl HT_.out ?_
      refine done_ (done_of HT_.out (by kernel_rfl)) ?_
      try go_wp2
      go_roundg k1
      case measure => have := HK1.out; omega
      case rel => exact ⟨(wrap64 (x3_1 + 1)), (by first | rfl | (simp; done) | (simp [*]; done)), H', ⟨by have := HK1.out; omega⟩, ⟨by exact hs_ HB.out⟩⟩
     replace c5 := Bool.eq_false_iff.mpr c5
     subst c5
     rw [if_neg (show ¬ (false = true) by decide)] at H
     obtain rfl := Option.some.inj H
     try go_wp2
     replace HB := Aside0.mk (bd_ HB.out)
     have p719 : 0 ≤ (x3_1 : Int) := of_decide_eq_true (by with_reducible assumption)
     have q719 : x3_1 < (l0.length : Int) := of_decide_eq_true (by with_reducible assumption)
     obtain ⟨ad719, e719, hx719_0, hx719_1⟩ := at_T164 HR0.out x3_1 p719 q719
     have hw719_1 := hx719_1
     have hw719_0 := hx719_0
     cases e719
     replace hx719_0 := cl_ HB.out hx719_0
     replace hx719_1 := cl_ HB.out hx719_1
     replace p719 := eq_true p719
     replace q719 := eq_true q719
     refine start_ (n := 25) (S := fun w' => w'.cell? (ad719.add ((x3_1).toNat * 2)) = some (.string ((rd_T164 l0 x3_1).f0)) ∧ w'.cell? ⟨(ad719.add ((x3_1).toNat * 2)).block, (ad719.add ((x3_1).toNat * 2)).off + 1, none⟩ = some (.string ((rd_T164 l0 x3_1).f1))) (ds := []) #[f_,f_,f_,f_,f_,f_,f_,f_,f_,f_,f_,f_,f_,f_,f_,f_,f_,f_,f_,f_,f_,f_,f_,f_,f_] (by kernel_rfl) rfl rfl ⟨((HB.out.cell (World.block_lt_of_cell? w _ hw719_0)).trans hw719_0), ((HB.out.cell (World.block_lt_of_cell? w _ hw719_1)).trans hw719_1)⟩ (fun hHeld => ?_); refine with_tabW spec_SetOk.tab4 spec_SetOk.bits4 (fun HT_ HW_ => ?_)
     generalize wr.drew = w18 at HB hx719_0 hx719_1 hHeld ⊢
     refine pw_ 0 10 (b_ 1 24) rfl rfl HT_.out ?_
     refine pw_ 1 11 (b_ 2 23) rfl rfl HT_.out ?_
     refine pw_ 2 12 (b_ 3 22) rfl rfl HT_.out ?_
     refine take_ (i := 3) (N := some 13) (v := ?_) (a' := ?_) #[t_,t_,t_,t_,f_,f_,f_,f_,f_,f_,f_,f_,f_,f_,f_,f_,f_,f_,f_,f_,f_,f_,f_,f_,f_] rfl rfl (take_ofW HT_.out HW_.out (by kernel_rfl)) (fun _ _ _ h => h) (Or.inl ⟨by rfl, ?_⟩) hHeld ?_ ?_
     rotate_left
     ·
      rintro w' ⟨s0, s1⟩
      go_simp
      with_reducible rfl
     rotate_left
     ·
      simp only [fr_]
      rfl
     refine one_ (i := 4) (N := some 14) #[t_,t_,t_,t_,t_,f_,f_,f_,f_,f_,f_,f_,f_,f_,f_,f_,f_,f_,f_,f_,f_,f_,f_,f_,f_] rfl rfl (one_of HT_.out (by kernel_rfl)) (by decide) (fun K hK => ?_)
     refine gs_ Try.func151 #[.agg #[.string ((rd_T164 l0 x3_1).f0), .string ((rd_T164 l0 x3_1).f1)]] ?_
     with_reducible refine (spec_LabelOk.calls k1 ((rd_T164 l0 x3_1).f0) ((rd_T164 l0 x3_1).f1) false _ A4.out).mono ?_
     rintro e w19 ⟨rfl, hb⟩
     refine ⟨_, rfl, ?_⟩
     replace HB := st_ HB hb
     (try clear hb)
     (try clear hk)
     refine hK.out _ _ ⟨((HB.out.cell (World.block_lt_of_cell? w _ hw719_0)).trans hw719_0), ((HB.out.cell (World.block_lt_of_cell? w _ hw719_1)).trans hw719_1)⟩ (fun hHeld => ?_)
     clear hK K
     refine norm_ (a' := ?_) ?_ ?_
     rotate_left
     ·
      show Act.put _ (some 14) _ = _
      simp only [fr_]
      rfl
     refine pw_ 5 15 (b_ 6 19) rfl rfl HT_.out ?_
     refine pw_ 6 16 (b_ 7 18) rfl rfl HT_.out ?_
     refine pv_ 7 17 ?_ (b_ 8 17) rfl rfl HT_.out ?_ ?_; rotate_left; simp only [fr_]; rfl
     refine pv_ 8 18 ?_ (b_ 9 16) rfl rfl HT_.out ?_ ?_; rotate_left; simp only [fr_]; rfl
     refine pv_ 9 19 ?_ (b_ 10 15) rfl rfl HT_.out ?_ ?_; rotate_left; simp only [fr_]; rfl
     refine pv_ 10 20 ?_ (b_ 11 14) rfl rfl HT_.out ?_ ?_; rotate_left; simp only [fr_]; rfl
     refine pv_ 11 21 ?_ (b_ 12 13) rfl rfl HT_.out ?_ ?_; rotate_left; simp only [fr_]; rfl
     refine pv_ 12 22 ?_ (b_ 13 12) rfl rfl HT_.out ?_ ?_; rotate_left; simp only [fr_]; rfl
     refine pv_ 13 23 ?_ (b_ 14 11) rfl rfl HT_.out ?_ ?_; rotate_left; simp only [fr_]; rfl
     refine pv_ 14 24 ?_ (b_ 15 10) rfl rfl HT_.out ?_ ?_; rotate_left; simp only [fr_]; rfl
     refine pv_ 15 25 ?_ (b_ 16 9) rfl rfl HT_.out ?_ ?_; rotate_left; simp only [fr_]; rfl
     refine pv_ 16 26 ?_ (b_ 17 8) rfl rfl HT_.out ?_ ?_; rotate_left; simp only [fr_]; rfl
     refine pv_ 17 27 ?_ (b_ 18 7) rfl rfl HT_.out ?_ ?_; rotate_left; simp only [fr_]; rfl
     refine pv_ 18 28 ?_ (b_ 19 6) rfl rfl HT_.out ?_ ?_; rotate_left; simp only [fr_]; rfl
     refine pv_ 19 29 ?_ (b_ 20 5) rfl rfl HT_.out ?_ ?_; rotate_left; simp only [fr_]; rfl
     refine pv_ 20 30 ?_ (b_ 21 4) rfl rfl HT_.out ?_ ?_; rotate_left; simp only [fr_]; rfl
     refine pv_ 21 31 ?_ (b_ 22 3) rfl rfl HT_.out ?_ ?_; rotate_left; simp only [fr_]; rfl
     refine pv_ 22 32 ?_ (b_ 23 2) rfl rfl HT_.out ?_ ?_; rotate_left; simp only [fr_]; rfl
     refine pv_ 23 33 ?_ (b_ 24 1) rfl rfl HT_.out ?_ ?_; rotate_left; simp only [fr_]; rfl
     refine pw_ 24 34 (b_ 25 0) rfl rfl HT_.out ?_
     refine done_ (done_of HT_.out (by kernel_rfl)) ?_
     try go_wp2
     go_ret
     exact an_ (by exact hs_ HB.out)
    rw [if_neg c3] at H
    exact absurd H (by simp)
   rw [if_neg c2] at H
   have c2b0 : decide (x3_1 < (l0.length : Int)) = false := decide_eq_false c2
   clear c2
   obtain rfl := Option.some.inj H
   go_wp2
   go_ret
   exact an_ (by exact hs_ HB.out)
def spec_AlarmOk.f (k : Nat) (l0_0 : List (S164)) (a0_1 : Int) (a0_2 : Int) (a0_3 : ByteArray) : Option (Bool) := (spec_SetOk.f k l0_0).bind fun t725 => (if t725 = true then (if (l0_0.length : Int) > 0 then ((spec_l1In.f a0_1 0 99999).bind fun t726 => (if t726 = true then ((spec_l1In.f a0_2 a0_1 99999).bind fun t727 => (if t727 = true then ((spec_PlainOk.f k a0_3).bind fun t728 => (some t728)) else (some false))) else (some false))) else (some false)) else (some false))
theorem spec_AlarmOk.mono : ∀ a0 a1 a2 a3 k, LeO (spec_AlarmOk.f k a0 a1 a2 a3) (spec_AlarmOk.f (k + 1) a0 a1 a2 a3) := by
 intro a0 a1 a2 a3 k
 unfold spec_AlarmOk.f
 repeat' first | (with_reducible first | exact spec_PlainOk.mono _ _ | exact spec_SetOk.mono _ _ | exact LeO.refl _ | exact LeO.none _ | refine LeO.ite ?_ ?_ | refine LeO.bind ?_ (fun _ => ?_)) | exact spec_PlainOk.mono _ _ | exact spec_SetOk.mono _ _
theorem spec_AlarmOk.calls (k : Nat) (A0_0 : Option Addr) (c0_0 : Nat) (l0_0 : List (S164)) (a0_1 : Int) (a0_2 : Int) (a0_3 : ByteArray) (r : Bool) (w : World) (hr0_0 : Kd.C k164 w A0_0 l0_0.length l0_0) (hc0_0 : l0_0.length ≤ c0_0) (h : spec_AlarmOk.f k l0_0 a0_1 a0_2 a0_3 = some r) :
  Calls Try.prog 104 #[.agg #[.slice A0_0 l0_0.length c0_0, .int .i64 a0_1, .int .i64 a0_2, .string a0_3]] w fun e w' => e = .returned (.bool r) ∧ Below w.heap.size w w' := by
 have hu44 := Try.underlying44
 have HR0_0 := Aside0.mk hr0_0
 have HC0_0 := Aside0.mk hc0_0
 clear hr0_0 hc0_0
 have HB := Aside0.mk (Below.refl w.heap.size w)
 have H : ((spec_SetOk.f k l0_0).bind fun t725 => (if t725 = true then (if (l0_0.length : Int) > 0 then ((spec_l1In.f a0_1 0 99999).bind fun t726 => (if t726 = true then ((spec_l1In.f a0_2 a0_1 99999).bind fun t727 => (if t727 = true then ((spec_PlainOk.f k a0_3).bind fun t728 => (some t728)) else (some false))) else (some false))) else (some false)) else (some false))) = some r := h
 clear h
 replace H := Option.bind_eq_some_iff.mp H
 obtain ⟨t725, A20, H⟩ := H
 have A2 := Aside0.mk A20
 clear A20
 by_cases c3 : t725 = true
 ·
  subst c3
  rw [if_pos rfl] at H
  by_cases c4 : (l0_0.length : Int) > 0
  ·
   rw [if_pos c4] at H
   have c4b0 : decide (0 < (l0_0.length : Int)) = true := decide_eq_true c4
   have c4b1 : decide (0 < l0_0.length) = true := decide_eq_true (by omega)
   clear c4
   replace H := Option.bind_eq_some_iff.mp H
   obtain ⟨t726, A50, H⟩ := H
   have A5 := Aside0.mk A50
   clear A50
   by_cases c6 : t726 = true
   ·
    subst c6
    rw [if_pos rfl] at H
    replace H := Option.bind_eq_some_iff.mp H
    obtain ⟨t727, A70, H⟩ := H
    have A7 := Aside0.mk A70
    clear A70
    by_cases c8 : t727 = true
    ·
     subst c8
     rw [if_pos rfl] at H
     replace H := Option.bind_eq_some_iff.mp H
     obtain ⟨t728, A90, H⟩ := H
     have A9 := Aside0.mk A90
     clear A90
     obtain rfl := Option.some.inj H
     go_enter Try.func104, Try.ntmps104
     go_wp2_with (first | ((with_reducible refine gd_ 1 rfl ?_); refine bv_ 1 #[.slice A0_0 l0_0.length c0_0, .int .i64 a0_1, .int .i64 a0_2, .string a0_3] 44 ?_; intro gb724 hg w10 hbox hb; have BK724 := Aside0.mk (hbox); have GW724 := Aside0.mk ((gw_ hg (hs_ HB.out))); replace HB := st_ HB hb; have GE724 := Ge_.mk GW724.out; clear hb hbox hg; obtain ⟨z11_0, z11_1, z11_2, z11_3, y11_0, y11_1, y11_2, y11_3⟩ := bc4_ BK724.out) | ((with_reducible refine gate_callee (f := 108) rfl ?_); refine gl_ (some 5) Try.func108 #[.slice A0_0 l0_0.length c0_0] ?_; (with_reducible refine (spec_SetOk.calls k _ _ l0_0 true _ ?side1 ?side2 A2.out).mono ?_); (case side1 => exact cp_ ((Kd.C_below HR0_0.out HB.out))); (case side2 => exact HC0_0.out); rintro e w12 ⟨rfl, hb⟩; refine ⟨_, rfl, ?_⟩; replace BK724 := bk2_ BK724 hb; replace HB := st_ HB hb; (try clear hb); (try clear hk); obtain ⟨z13_0, z13_1, z13_2, z13_3, y13_0, y13_1, y13_2, y13_3⟩ := bc4_ BK724.out) | (go_at_call 109; (with_reducible refine (spec_l1In.calls a0_1 0 99999 true _ A5.out).mono ?_); rintro e w' ⟨rfl, ⟨nd, rfl⟩⟩) | (go_at_call 109; (with_reducible refine (spec_l1In.calls a0_2 a0_1 99999 true _ A7.out).mono ?_); rintro e w' ⟨rfl, ⟨nd, rfl⟩⟩) | (go_at_call 148; (with_reducible refine (spec_PlainOk.calls k a0_3 t728 _ A9.out).mono ?_); rintro e w' ⟨rfl, ⟨nd, rfl⟩⟩))
     go_ret
     exact an_ (by exact hs_ HB.out)
    replace c8 := Bool.eq_false_iff.mpr c8
    subst c8
    rw [if_neg (show ¬ (false = true) by decide)] at H
    obtain rfl := Option.some.inj H
    go_enter Try.func104, Try.ntmps104
    go_wp2_with (first | ((with_reducible refine gd_ 1 rfl ?_); refine bv_ 1 #[.slice A0_0 l0_0.length c0_0, .int .i64 a0_1, .int .i64 a0_2, .string a0_3] 44 ?_; intro gb724 hg w14 hbox hb; have BK724 := Aside0.mk (hbox); have GW724 := Aside0.mk ((gw_ hg (hs_ HB.out))); replace HB := st_ HB hb; have GE724 := Ge_.mk GW724.out; clear hb hbox hg; obtain ⟨z15_0, z15_1, z15_2, z15_3, y15_0, y15_1, y15_2, y15_3⟩ := bc4_ BK724.out) | ((with_reducible refine gate_callee (f := 108) rfl ?_); refine gl_ (some 5) Try.func108 #[.slice A0_0 l0_0.length c0_0] ?_; (with_reducible refine (spec_SetOk.calls k _ _ l0_0 true _ ?side1 ?side2 A2.out).mono ?_); (case side1 => exact cp_ ((Kd.C_below HR0_0.out HB.out))); (case side2 => exact HC0_0.out); rintro e w16 ⟨rfl, hb⟩; refine ⟨_, rfl, ?_⟩; replace BK724 := bk2_ BK724 hb; replace HB := st_ HB hb; (try clear hb); (try clear hk); obtain ⟨z17_0, z17_1, z17_2, z17_3, y17_0, y17_1, y17_2, y17_3⟩ := bc4_ BK724.out) | (go_at_call 109; (with_reducible refine (spec_l1In.calls a0_1 0 99999 true _ A5.out).mono ?_); rintro e w' ⟨rfl, ⟨nd, rfl⟩⟩) | (go_at_call 109; (with_reducible refine (spec_l1In.calls a0_2 a0_1 99999 false _ A7.out).mono ?_); rintro e w' ⟨rfl, ⟨nd, rfl⟩⟩))
    go_ret
    exact an_ (by exact hs_ HB.out)
   replace c6 := Bool.eq_false_iff.mpr c6
   subst c6
   rw [if_neg (show ¬ (false = true) by decide)] at H
   obtain rfl := Option.some.inj H
   go_enter Try.func104, Try.ntmps104
   go_wp2_with (first | ((with_reducible refine gd_ 1 rfl ?_); refine bv_ 1 #[.slice A0_0 l0_0.length c0_0, .int .i64 a0_1, .int .i64 a0_2, .string a0_3] 44 ?_; intro gb724 hg w18 hbox hb; have BK724 := Aside0.mk (hbox); have GW724 := Aside0.mk ((gw_ hg (hs_ HB.out))); replace HB := st_ HB hb; have GE724 := Ge_.mk GW724.out; clear hb hbox hg; obtain ⟨z19_0, z19_1, z19_2, z19_3, y19_0, y19_1, y19_2, y19_3⟩ := bc4_ BK724.out) | ((with_reducible refine gate_callee (f := 108) rfl ?_); refine gl_ (some 5) Try.func108 #[.slice A0_0 l0_0.length c0_0] ?_; (with_reducible refine (spec_SetOk.calls k _ _ l0_0 true _ ?side1 ?side2 A2.out).mono ?_); (case side1 => exact cp_ ((Kd.C_below HR0_0.out HB.out))); (case side2 => exact HC0_0.out); rintro e w20 ⟨rfl, hb⟩; refine ⟨_, rfl, ?_⟩; replace BK724 := bk2_ BK724 hb; replace HB := st_ HB hb; (try clear hb); (try clear hk); obtain ⟨z21_0, z21_1, z21_2, z21_3, y21_0, y21_1, y21_2, y21_3⟩ := bc4_ BK724.out) | (go_at_call 109; (with_reducible refine (spec_l1In.calls a0_1 0 99999 false _ A5.out).mono ?_); rintro e w' ⟨rfl, ⟨nd, rfl⟩⟩))
   go_ret
   exact an_ (by exact hs_ HB.out)
  rw [if_neg c4] at H
  have c4b0 : decide (0 < (l0_0.length : Int)) = false := decide_eq_false c4
  have c4b1 : decide (0 < l0_0.length) = false := decide_eq_false (by omega)
  clear c4
  obtain rfl := Option.some.inj H
  go_enter Try.func104, Try.ntmps104
  go_wp2_with (first | ((with_reducible refine gd_ 1 rfl ?_); refine bv_ 1 #[.slice A0_0 l0_0.length c0_0, .int .i64 a0_1, .int .i64 a0_2, .string a0_3] 44 ?_; intro gb724 hg w22 hbox hb; have BK724 := Aside0.mk (hbox); have GW724 := Aside0.mk ((gw_ hg (hs_ HB.out))); replace HB := st_ HB hb; have GE724 := Ge_.mk GW724.out; clear hb hbox hg; obtain ⟨z23_0, z23_1, z23_2, z23_3, y23_0, y23_1, y23_2, y23_3⟩ := bc4_ BK724.out) | ((with_reducible refine gate_callee (f := 108) rfl ?_); refine gl_ (some 5) Try.func108 #[.slice A0_0 l0_0.length c0_0] ?_; (with_reducible refine (spec_SetOk.calls k _ _ l0_0 true _ ?side1 ?side2 A2.out).mono ?_); (case side1 => exact cp_ ((Kd.C_below HR0_0.out HB.out))); (case side2 => exact HC0_0.out); rintro e w24 ⟨rfl, hb⟩; refine ⟨_, rfl, ?_⟩; replace BK724 := bk2_ BK724 hb; replace HB := st_ HB hb; (try clear hb); (try clear hk); obtain ⟨z25_0, z25_1, z25_2, z25_3, y25_0, y25_1, y25_2, y25_3⟩ := bc4_ BK724.out))
  go_ret
  exact an_ (by exact hs_ HB.out)
 replace c3 := Bool.eq_false_iff.mpr c3
 subst c3
 rw [if_neg (show ¬ (false = true) by decide)] at H
 obtain rfl := Option.some.inj H
 go_enter Try.func104, Try.ntmps104
 go_wp2_with (first | ((with_reducible refine gd_ 1 rfl ?_); refine bv_ 1 #[.slice A0_0 l0_0.length c0_0, .int .i64 a0_1, .int .i64 a0_2, .string a0_3] 44 ?_; intro gb724 hg w26 hbox hb; have BK724 := Aside0.mk (hbox); have GW724 := Aside0.mk ((gw_ hg (hs_ HB.out))); replace HB := st_ HB hb; have GE724 := Ge_.mk GW724.out; clear hb hbox hg; obtain ⟨z27_0, z27_1, z27_2, z27_3, y27_0, y27_1, y27_2, y27_3⟩ := bc4_ BK724.out) | ((with_reducible refine gate_callee (f := 108) rfl ?_); refine gl_ (some 5) Try.func108 #[.slice A0_0 l0_0.length c0_0] ?_; (with_reducible refine (spec_SetOk.calls k _ _ l0_0 false _ ?side1 ?side2 A2.out).mono ?_); (case side1 => exact cp_ ((Kd.C_below HR0_0.out HB.out))); (case side2 => exact HC0_0.out); rintro e w28 ⟨rfl, hb⟩; refine ⟨_, rfl, ?_⟩; replace BK724 := bk2_ BK724 hb; replace HB := st_ HB hb; (try clear hb); (try clear hk)))
 go_ret
 exact an_ (by exact hs_ HB.out)
def spec_SubOk.l0 : Nat → Int → List (S44) → Bool → Option (Bool)
 | 0, _, _, _ => none
 | k + 1, x3, x1985000, x1985001 => if x3 < (x1985000.length : Int) then (if 0 ≤ x3 then ((spec_AlarmOk.f k ((rd_T44 x1985000 x3).f0) ((rd_T44 x1985000 x3).f1) ((rd_T44 x1985000 x3).f2) ((rd_T44 x1985000 x3).f3)).bind fun t1986 => (if t1986 = true then (spec_SubOk.l0 k (wrap64 (x3 + 1)) x1985000 x1985001) else (some false))) else (none)) else (if (x1985000.length : Int) ≤ 3 then (if x1985001 = true then (some ((x1985000.length : Int) == 0)) else (some true)) else (some false))
def spec_SubOk.f (k : Nat) (l0_0 : List (S44)) (a0_1 : Bool) : Option (Bool) := spec_SubOk.l0 k 0 l0_0 a0_1
theorem spec_SubOk.mono_l : ∀ k, (∀ y0 y1 y2, LeO (spec_SubOk.l0 k y0 y1 y2) (spec_SubOk.l0 (k + 1) y0 y1 y2))
 | 0 => fun _ _ _ r h => by simp [spec_SubOk.l0] at h
 | k + 1 => by
  have ih0 := spec_SubOk.mono_l k
  intro y0 y1 y2
  unfold spec_SubOk.l0
  repeat' first
  | (with_reducible exact ih0 _ _ _)
  | (with_reducible exact spec_AlarmOk.mono _ _ _ _ _)
  | (with_reducible exact LeO.refl _)
  | (with_reducible exact LeO.none _)
  | (with_reducible refine LeO.ite ?_ ?_)
  | (with_reducible refine LeO.bind ?_ (fun _ => ?_))
  | exact ih0 _ _ _
  | exact spec_AlarmOk.mono _ _ _ _ _
theorem spec_SubOk.mono : ∀ a0 a1 k, LeO (spec_SubOk.f k a0 a1) (spec_SubOk.f (k + 1) a0 a1) := by
 intro a0 a1 k
 have ih0 := spec_SubOk.mono_l k
 unfold spec_SubOk.f
 repeat' first | (with_reducible first | exact ih0 _ _ _ | exact spec_AlarmOk.mono _ _ _ _ _ | exact LeO.refl _ | exact LeO.none _ | refine LeO.ite ?_ ?_ | refine LeO.bind ?_ (fun _ => ?_)) | exact ih0 _ _ _ | exact spec_AlarmOk.mono _ _ _ _ _
theorem spec_SubOk.calls (k : Nat) (A0_0 : Option Addr) (c0_0 : Nat) (l0_0 : List (S44)) (a0_1 : Bool) (r : Bool) (w : World) (hr0_0 : Kd.C k44 w A0_0 l0_0.length l0_0) (hc0_0 : l0_0.length ≤ c0_0) (h : spec_SubOk.f k l0_0 a0_1 = some r) :
  Calls Try.prog 86 #[.agg #[.slice A0_0 l0_0.length c0_0, .bool a0_1]] w fun e w' => e = .returned (.bool r) ∧ Below w.heap.size w w' := by
 have hu39 := Try.underlying39
 have hu44 := Try.underlying44
 have HR0_0 := Aside0.mk hr0_0
 have HC0_0 := Aside0.mk hc0_0
 clear hr0_0 hc0_0
 have HB := Aside0.mk (Below.refl w.heap.size w)
 have H : (spec_SubOk.l0 k 0 l0_0 a0_1) = some r := h
 clear h
 have H' := Aside0.mk H
 clear H
 go_enter Try.func86, Try.ntmps86
 go_wp2_with (first | ((with_reducible refine gd_ 1 rfl ?_); refine bv_ 1 #[.slice A0_0 l0_0.length c0_0, .bool a0_1] 39 ?_; intro gb1984 hg w2 hbox hb; have BK1984 := Aside0.mk (hbox); have GW1984 := Aside0.mk ((gw_ hg (hs_ HB.out))); replace HB := st_ HB hb; have GE1984 := Ge_.mk GW1984.out; clear hb hbox hg))
 go_loopg [3] k (fun kq v3 w' => ∃ (x3_1 : Int), v3 = .int .i64 x3_1 ∧ Aside0 (spec_SubOk.l0 kq x3_1 l0_0 a0_1 = some r) ∧ Aside0 (kq ≤ k) ∧ Aside0 (w'.heap[gb1984]? = some (.cells #[(.slice A0_0 l0_0.length c0_0), .bool a0_1] 39 (0, 0))) ∧ Aside0 (Below w.heap.size w w'))
 case atStart => exact ⟨(0), (by first | rfl | (simp; done) | (simp [*]; done)), H', ⟨Nat.le_refl _⟩, ⟨bq_ BK1984.out⟩, ⟨by exact hs_ HB.out⟩⟩
 case round =>
  clear H'
  try clear p2
  obtain ⟨x3_1, rfl, HA, HK1, BK1984, HB⟩ := hrel
  cases gk with
  | zero => exact absurd HA.out (by simp [spec_SubOk.l0])
  | succ k1 =>
   have H := HA.out
   clear HA
   simp only [spec_SubOk.l0] at H
   by_cases c3 : x3_1 < (l0_0.length : Int)
   ·
    rw [if_pos c3] at H
    have c3b0 := decide_eq_true c3
    clear c3
    by_cases c4 : 0 ≤ x3_1
    ·
     rw [if_pos c4] at H
     have c4b0 := decide_eq_true c4
     clear c4
     replace H := Option.bind_eq_some_iff.mp H
     obtain ⟨t1986, A50, H⟩ := H
     have A5 := Aside0.mk A50
     clear A50
     by_cases c6 : t1986 = true
     ·
      subst c6
      rw [if_pos rfl] at H
      have H' := Aside0.mk H
      clear H
      obtain ⟨z7_0, z7_1, y7_0, y7_1⟩ := bc2_ BK1984.out
      have p1985 : 0 ≤ (x3_1 : Int) := of_decide_eq_true (by with_reducible assumption)
      have q1985 : x3_1 < (l0_0.length : Int) := of_decide_eq_true (by with_reducible assumption)
      obtain ⟨ad1985, A1985_0, c1985_0, e1985, hx1985_0, hx1985_1, hx1985_2, hx1985_3, hl1985_0, hi1985_0⟩ := at_T44 HR0_0.out x3_1 p1985 q1985
      cases e1985
      replace hx1985_0 := cl_ HB.out hx1985_0
      replace hx1985_1 := cl_ HB.out hx1985_1
      replace hx1985_2 := cl_ HB.out hx1985_2
      replace hx1985_3 := cl_ HB.out hx1985_3
      have HR1985_0 := Aside0.mk hi1985_0
      have HC1985_0 := Aside0.mk hl1985_0
      clear hi1985_0 hl1985_0
      replace p1985 := eq_true p1985
      replace q1985 := eq_true q1985
      go_wp2_with (first | ((with_reducible refine gate_callee (f := 104) rfl ?_); refine gl_ (some 16) Try.func104 #[.agg #[.slice A1985_0 ((rd_T44 l0_0 x3_1).f0).length c1985_0, .int .i64 ((rd_T44 l0_0 x3_1).f1), .int .i64 ((rd_T44 l0_0 x3_1).f2), .string ((rd_T44 l0_0 x3_1).f3)]] ?_; (with_reducible refine (spec_AlarmOk.calls k1 _ _ ((rd_T44 l0_0 x3_1).f0) ((rd_T44 l0_0 x3_1).f1) ((rd_T44 l0_0 x3_1).f2) ((rd_T44 l0_0 x3_1).f3) true _ ?side1 ?side2 A5.out).mono ?_); (case side1 => exact cp_ ((Kd.C_below HR1985_0.out HB.out))); (case side2 => exact HC1985_0.out); rintro e w8 ⟨rfl, hb⟩; refine ⟨_, rfl, ?_⟩; replace BK1984 := bk2_ BK1984 hb; replace HB := st_ HB hb; (try clear hb); (try clear hk)))
      go_roundg k1
      case measure => have := HK1.out; omega
      case rel => exact ⟨(wrap64 (x3_1 + 1)), (by first | rfl | (simp; done) | (simp [*]; done)), H', ⟨by have := HK1.out; omega⟩, ⟨bq_ BK1984.out⟩, ⟨by exact hs_ HB.out⟩⟩
     replace c6 := Bool.eq_false_iff.mpr c6
     subst c6
     rw [if_neg (show ¬ (false = true) by decide)] at H
     obtain rfl := Option.some.inj H
     obtain ⟨z9_0, z9_1, y9_0, y9_1⟩ := bc2_ BK1984.out
     have p1985 : 0 ≤ (x3_1 : Int) := of_decide_eq_true (by with_reducible assumption)
     have q1985 : x3_1 < (l0_0.length : Int) := of_decide_eq_true (by with_reducible assumption)
     obtain ⟨ad1985, A1985_0, c1985_0, e1985, hx1985_0, hx1985_1, hx1985_2, hx1985_3, hl1985_0, hi1985_0⟩ := at_T44 HR0_0.out x3_1 p1985 q1985
     cases e1985
     replace hx1985_0 := cl_ HB.out hx1985_0
     replace hx1985_1 := cl_ HB.out hx1985_1
     replace hx1985_2 := cl_ HB.out hx1985_2
     replace hx1985_3 := cl_ HB.out hx1985_3
     have HR1985_0 := Aside0.mk hi1985_0
     have HC1985_0 := Aside0.mk hl1985_0
     clear hi1985_0 hl1985_0
     replace p1985 := eq_true p1985
     replace q1985 := eq_true q1985
     go_wp2_with (first | ((with_reducible refine gate_callee (f := 104) rfl ?_); refine gl_ (some 16) Try.func104 #[.agg #[.slice A1985_0 ((rd_T44 l0_0 x3_1).f0).length c1985_0, .int .i64 ((rd_T44 l0_0 x3_1).f1), .int .i64 ((rd_T44 l0_0 x3_1).f2), .string ((rd_T44 l0_0 x3_1).f3)]] ?_; (with_reducible refine (spec_AlarmOk.calls k1 _ _ ((rd_T44 l0_0 x3_1).f0) ((rd_T44 l0_0 x3_1).f1) ((rd_T44 l0_0 x3_1).f2) ((rd_T44 l0_0 x3_1).f3) false _ ?side1 ?side2 A5.out).mono ?_); (case side1 => exact cp_ ((Kd.C_below HR1985_0.out HB.out))); (case side2 => exact HC1985_0.out); rintro e w10 ⟨rfl, hb⟩; refine ⟨_, rfl, ?_⟩; replace BK1984 := bk2_ BK1984 hb; replace HB := st_ HB hb; (try clear hb); (try clear hk)))
     go_ret
     exact an_ (by exact hs_ HB.out)
    rw [if_neg c4] at H
    exact absurd H (by simp)
   rw [if_neg c3] at H
   have c3b0 : decide (x3_1 < (l0_0.length : Int)) = false := decide_eq_false c3
   clear c3
   by_cases c11 : (l0_0.length : Int) ≤ 3
   ·
    rw [if_pos c11] at H
    have c11b0 := decide_eq_true c11
    have c11b1 : decide (l0_0.length ≤ 3) = true := decide_eq_true (by omega)
    clear c11
    by_cases c12 : a0_1 = true
    ·
     subst c12
     rw [if_pos rfl] at H
     obtain rfl := Option.some.inj H
     obtain ⟨z13_0, z13_1, y13_0, y13_1⟩ := bc2_ BK1984.out
     go_wp2
     go_ret
     exact an_ (by exact hs_ HB.out)
    replace c12 := Bool.eq_false_iff.mpr c12
    subst c12
    rw [if_neg (show ¬ (false = true) by decide)] at H
    obtain rfl := Option.some.inj H
    obtain ⟨z14_0, z14_1, y14_0, y14_1⟩ := bc2_ BK1984.out
    go_wp2
    go_ret
    exact an_ (by exact hs_ HB.out)
   rw [if_neg c11] at H
   have c11b0 : decide ((l0_0.length : Int) ≤ 3) = false := decide_eq_false c11
   have c11b1 : decide (l0_0.length ≤ 3) = false := decide_eq_false (by omega)
   clear c11
   obtain rfl := Option.some.inj H
   obtain ⟨z15_0, z15_1, y15_0, y15_1⟩ := bc2_ BK1984.out
   go_wp2
   go_ret
   exact an_ (by exact hs_ HB.out)
end Go.Proofs.Ytfholjcelnkleaa.Print
end
section
namespace Go.Proofs.Ytfholjcelnkleaa.Print
open Go.RowKit Go.Proofs.YtfholjcelnkleaaV.PrintWords Go.Proofs.YtfholjcelnkleaaV.PrintLast Go.Proofs.YtfholjcelnkleaaV.PrintMore
attribute [local go_sem] max2_int min2_int max_two min_two max_three min_three max_four min_four
set_option linter.unusedVariables false
set_option linter.unusedSimpArgs false

attribute [local go_sem high] eqA164
set_option maxHeartbeats 8000000
set_option maxRecDepth 100000
def spec_SameSet.l0 : Nat → List (S164) → List (S164) → Int → Option (Bool)
 | 0, _, _, _ => none
 | k + 1, x0, x1, x5 => if x5 < (x0.length : Int) then (if 0 ≤ x5 then (if x5 < (x1.length : Int) then (if (!((((rd_T164 x0 x5).f0).toList) == (((rd_T164 x1 x5).f0).toList)) || (!((((rd_T164 x0 x5).f1).toList) == (((rd_T164 x1 x5).f1).toList)))) = true then (some false) else (spec_SameSet.l0 k x0 x1 (wrap64 (x5 + 1)))) else (none)) else (none)) else (some true)
def spec_SameSet.f (k : Nat) (l0 : List (S164)) (l1 : List (S164)) : Option (Bool) := if (l0.length : Int) = (l1.length : Int) then (spec_SameSet.l0 k l0 l1 0) else (some false)
theorem spec_SameSet.mono_l : ∀ k, (∀ y0 y1 y2, LeO (spec_SameSet.l0 k y0 y1 y2) (spec_SameSet.l0 (k + 1) y0 y1 y2))
 | 0 => fun _ _ _ r h => by simp [spec_SameSet.l0] at h
 | k + 1 => by
  have ih0 := spec_SameSet.mono_l k
  intro y0 y1 y2
  unfold spec_SameSet.l0
  repeat' first
  | (with_reducible exact ih0 _ _ _)
  | (with_reducible exact LeO.refl _)
  | (with_reducible exact LeO.none _)
  | (with_reducible refine LeO.ite ?_ ?_)
  | (with_reducible refine LeO.bind ?_ (fun _ => ?_))
  | exact ih0 _ _ _
theorem spec_SameSet.mono : ∀ a0 a1 k, LeO (spec_SameSet.f k a0 a1) (spec_SameSet.f (k + 1) a0 a1) := by
 intro a0 a1 k
 have ih0 := spec_SameSet.mono_l k
 unfold spec_SameSet.f
 repeat' first | (with_reducible first | exact ih0 _ _ _ | exact LeO.refl _ | exact LeO.none _ | refine LeO.ite ?_ ?_ | refine LeO.bind ?_ (fun _ => ?_)) | exact ih0 _ _ _
theorem spec_SameSet.calls (k : Nat) (A0 : Option Addr) (c0 : Nat) (l0 : List (S164)) (A1 : Option Addr) (c1 : Nat) (l1 : List (S164)) (r : Bool) (w : World) (hr0 : Kd.C k164 w A0 l0.length l0) (hc0 : l0.length ≤ c0) (hr1 : Kd.C k164 w A1 l1.length l1) (hc1 : l1.length ≤ c1) (h : spec_SameSet.f k l0 l1 = some r) :
  Calls Try.prog 106 #[.slice A0 l0.length c0, .slice A1 l1.length c1] w fun e w' => e = .returned (.bool r) ∧ Drawn0 w w' := by
 have hu164 := Try.underlying164
 have HR0 := Aside0.mk hr0
 have HC0 := Aside0.mk hc0
 clear hr0 hc0
 have HR1 := Aside0.mk hr1
 have HC1 := Aside0.mk hc1
 clear hr1 hc1
 have H : (if (l0.length : Int) = (l1.length : Int) then (spec_SameSet.l0 k l0 l1 0) else (some false)) = some r := h
 clear h
 by_cases c3 : (l0.length : Int) = (l1.length : Int)
 ·
  rw [if_pos c3] at H
  have c3b0 : ((l0.length : Int) == (l1.length : Int)) = true := beq_iff_eq.mpr c3
  have c3b1 : ((l0.length : Int) != (l1.length : Int)) = false := bne_eq_false_iff_eq.mpr c3
  have c3b2 : (l0.length == l1.length) = true := by first | simpa using c3 | (simp at c3 ⊢; omega)
  clear c3
  have H' := Aside0.mk H
  clear H
  go_enter Try.func106, Try.ntmps106
  go_wp2
  repeat (go_quiet (fail); try go_wp2)
  go_loopg [5] k (fun kq v5 w' => ∃ (x5_1 : Int), v5 = .int .i64 x5_1 ∧ Aside0 (spec_SameSet.l0 kq l0 l1 x5_1 = some r) ∧ Aside0 (kq ≤ k) ∧ Drawn0 w w')
  case atStart => exact ⟨(0), (by first | rfl | (simp; done) | (simp [*]; done)), H', ⟨Nat.le_refl _⟩, by repeat (first | exact Drawn0.refl _ | apply Drawn0.step)⟩
  case round =>
   clear H'
   try clear c1
   try clear p2
   try clear c3
   try clear c3b0
   try clear c3b1
   try clear c3b2
   obtain ⟨x5_1, rfl, HA, HK1, ⟨m1, rfl⟩⟩ := hrel
   cases gk with
   | zero => exact absurd HA.out (by simp [spec_SameSet.l0])
   | succ k1 =>
    have H := HA.out
    clear HA
    simp only [spec_SameSet.l0] at H
    by_cases c4 : x5_1 < (l0.length : Int)
    ·
     rw [if_pos c4] at H
     have c4b0 := decide_eq_true c4
     clear c4
     by_cases c5 : 0 ≤ x5_1
     ·
      rw [if_pos c5] at H
      have c5b0 := decide_eq_true c5
      clear c5
      by_cases c6 : x5_1 < (l1.length : Int)
      ·
       rw [if_pos c6] at H
       have c6b0 := decide_eq_true c6
       clear c6
       by_cases c7 : (!((((rd_T164 l0 x5_1).f0).toList) == (((rd_T164 l1 x5_1).f0).toList)) || (!((((rd_T164 l0 x5_1).f1).toList) == (((rd_T164 l1 x5_1).f1).toList)))) = true
       ·
        rw [if_pos c7] at H
        have c7b0 : (!((((rd_T164 l0 x5_1).f0).toList) == (((rd_T164 l1 x5_1).f0).toList)) || (!((((rd_T164 l0 x5_1).f1).toList) == (((rd_T164 l1 x5_1).f1).toList)))) = true := c7
        clear c7
        obtain rfl := Option.some.inj H
        have p739 : 0 ≤ (x5_1 : Int) := of_decide_eq_true (by with_reducible assumption)
        have q739 : x5_1 < (l0.length : Int) := of_decide_eq_true (by with_reducible assumption)
        obtain ⟨ad739, e739, hx739_0, hx739_1⟩ := at_T164 HR0.out x5_1 p739 q739
        cases e739
        replace p739 := eq_true p739
        replace q739 := eq_true q739
        have p740 : 0 ≤ (x5_1 : Int) := of_decide_eq_true (by with_reducible assumption)
        have q740 : x5_1 < (l1.length : Int) := of_decide_eq_true (by with_reducible assumption)
        obtain ⟨ad740, e740, hx740_0, hx740_1⟩ := at_T164 HR1.out x5_1 p740 q740
        cases e740
        replace p740 := eq_true p740
        replace q740 := eq_true q740
        go_wp2
        repeat (go_quiet (fail); try go_wp2)
        go_ret
        exact ⟨by first | rfl | (simp; done) | (simp [*]; done), by repeat (first | exact Drawn0.refl _ | apply Drawn0.step)⟩
       rw [if_neg c7] at H
       have c7b0 : (!((((rd_T164 l0 x5_1).f0).toList) == (((rd_T164 l1 x5_1).f0).toList)) || (!((((rd_T164 l0 x5_1).f1).toList) == (((rd_T164 l1 x5_1).f1).toList)))) = false := by simpa using c7
       clear c7
       have H' := Aside0.mk H
       clear H
       have p739 : 0 ≤ (x5_1 : Int) := of_decide_eq_true (by with_reducible assumption)
       have q739 : x5_1 < (l0.length : Int) := of_decide_eq_true (by with_reducible assumption)
       obtain ⟨ad739, e739, hx739_0, hx739_1⟩ := at_T164 HR0.out x5_1 p739 q739
       cases e739
       replace p739 := eq_true p739
       replace q739 := eq_true q739
       have p740 : 0 ≤ (x5_1 : Int) := of_decide_eq_true (by with_reducible assumption)
       have q740 : x5_1 < (l1.length : Int) := of_decide_eq_true (by with_reducible assumption)
       obtain ⟨ad740, e740, hx740_0, hx740_1⟩ := at_T164 HR1.out x5_1 p740 q740
       cases e740
       replace p740 := eq_true p740
       replace q740 := eq_true q740
       go_wp2
       repeat (go_quiet (fail); try go_wp2)
       go_roundg k1
       case measure => have := HK1.out; omega
       case rel => exact ⟨(wrap64 (x5_1 + 1)), (by first | rfl | (simp; done) | (simp [*]; done)), H', ⟨by have := HK1.out; omega⟩, by repeat (first | exact Drawn0.refl _ | apply Drawn0.step)⟩
      rw [if_neg c6] at H
      exact absurd H (by simp)
     rw [if_neg c5] at H
     exact absurd H (by simp)
    rw [if_neg c4] at H
    have c4b0 : decide (x5_1 < (l0.length : Int)) = false := decide_eq_false c4
    clear c4
    obtain rfl := Option.some.inj H
    go_wp2
    repeat (go_quiet (fail); try go_wp2)
    go_ret
    exact ⟨by first | rfl | (simp; done) | (simp [*]; done), by repeat (first | exact Drawn0.refl _ | apply Drawn0.step)⟩
 rw [if_neg c3] at H
 have c3b0 : ((l0.length : Int) == (l1.length : Int)) = false := beq_eq_false_iff_ne.mpr c3
 have c3b1 : ((l0.length : Int) != (l1.length : Int)) = true := bne_iff_ne.mpr c3
 have c3b2 : (l0.length == l1.length) = false := by first | simpa using c3 | (simp at c3 ⊢; omega)
 obtain rfl := Option.some.inj H
 go_enter Try.func106, Try.ntmps106
 go_wp2
 repeat (go_quiet (fail); try go_wp2)
 go_ret
 exact ⟨by first | rfl | (simp; done) | (simp [*]; done), by repeat (first | exact Drawn0.refl _ | apply Drawn0.step)⟩
end Go.Proofs.Ytfholjcelnkleaa.Print
end
section
namespace Go.Proofs.Ytfholjcelnkleaa.Print
open Go.RowKit Go.Proofs.YtfholjcelnkleaaV.PrintWords Go.Proofs.YtfholjcelnkleaaV.PrintLast Go.Proofs.YtfholjcelnkleaaV.PrintMore
attribute [local go_sem] max2_int min2_int max_two min_two max_three min_three max_four min_four
set_option linter.unusedVariables false
set_option linter.unusedSimpArgs false
set_option maxHeartbeats 8000000
set_option maxRecDepth 100000
def spec_SameAlarm.f (k : Nat) (l0_0 : List (S164)) (a0_1 : Int) (a0_2 : Int) (a0_3 : ByteArray) (l1_0 : List (S164)) (a1_1 : Int) (a1_2 : Int) (a1_3 : ByteArray) : Option (Bool) := (spec_SameSet.f k l0_0 l1_0).bind fun t1241 => (if t1241 = true then (if a0_1 = a1_1 then (if a0_2 = a1_2 then (some (a0_3.toList == a1_3.toList)) else (some false)) else (some false)) else (some false))
theorem spec_SameAlarm.mono : ∀ a0 a1 a2 a3 a4 a5 a6 a7 k, LeO (spec_SameAlarm.f k a0 a1 a2 a3 a4 a5 a6 a7) (spec_SameAlarm.f (k + 1) a0 a1 a2 a3 a4 a5 a6 a7) := by
 intro a0 a1 a2 a3 a4 a5 a6 a7 k
 unfold spec_SameAlarm.f
 repeat' first | (with_reducible first | exact spec_SameSet.mono _ _ _ | exact LeO.refl _ | exact LeO.none _ | refine LeO.ite ?_ ?_ | refine LeO.bind ?_ (fun _ => ?_)) | exact spec_SameSet.mono _ _ _
theorem spec_SameAlarm.calls (k : Nat) (A0_0 : Option Addr) (c0_0 : Nat) (l0_0 : List (S164)) (a0_1 : Int) (a0_2 : Int) (a0_3 : ByteArray) (A1_0 : Option Addr) (c1_0 : Nat) (l1_0 : List (S164)) (a1_1 : Int) (a1_2 : Int) (a1_3 : ByteArray) (r : Bool) (w : World) (hr0_0 : Kd.C k164 w A0_0 l0_0.length l0_0) (hc0_0 : l0_0.length ≤ c0_0) (hr1_0 : Kd.C k164 w A1_0 l1_0.length l1_0) (hc1_0 : l1_0.length ≤ c1_0) (h : spec_SameAlarm.f k l0_0 a0_1 a0_2 a0_3 l1_0 a1_1 a1_2 a1_3 = some r) :
  Calls Try.prog 154 #[.agg #[.slice A0_0 l0_0.length c0_0, .int .i64 a0_1, .int .i64 a0_2, .string a0_3], .agg #[.slice A1_0 l1_0.length c1_0, .int .i64 a1_1, .int .i64 a1_2, .string a1_3]] w fun e w' => e = .returned (.bool r) ∧ Below w.heap.size w w' := by
 have hu44 := Try.underlying44
 have HR0_0 := Aside0.mk hr0_0
 have HC0_0 := Aside0.mk hc0_0
 clear hr0_0 hc0_0
 have HR1_0 := Aside0.mk hr1_0
 have HC1_0 := Aside0.mk hc1_0
 clear hr1_0 hc1_0
 have HB := Aside0.mk (Below.refl w.heap.size w)
 have H : ((spec_SameSet.f k l0_0 l1_0).bind fun t1241 => (if t1241 = true then (if a0_1 = a1_1 then (if a0_2 = a1_2 then (some (a0_3.toList == a1_3.toList)) else (some false)) else (some false)) else (some false))) = some r := h
 clear h
 replace H := Option.bind_eq_some_iff.mp H
 obtain ⟨t1241, A30, H⟩ := H
 have A3 := Aside0.mk A30
 clear A30
 by_cases c4 : t1241 = true
 ·
  subst c4
  rw [if_pos rfl] at H
  by_cases c5 : a0_1 = a1_1
  ·
   rw [if_pos c5] at H
   have c5b0 : (a0_1 == a1_1) = true := beq_iff_eq.mpr c5
   have c5b1 : (a0_1 != a1_1) = false := bne_eq_false_iff_eq.mpr c5
   clear c5
   by_cases c6 : a0_2 = a1_2
   ·
    rw [if_pos c6] at H
    have c6b0 : (a0_2 == a1_2) = true := beq_iff_eq.mpr c6
    have c6b1 : (a0_2 != a1_2) = false := bne_eq_false_iff_eq.mpr c6
    clear c6
    obtain rfl := Option.some.inj H
    go_enter Try.func154, Try.ntmps154
    go_wp2_with (first | ((with_reducible refine gd_ 2 rfl ?_); refine bv_ 2 #[.slice A0_0 l0_0.length c0_0, .int .i64 a0_1, .int .i64 a0_2, .string a0_3] 44 ?_; intro gb1239 hg w7 hbox hb; have BK1239 := Aside0.mk (hbox); have GW1239 := Aside0.mk ((gw_ hg (hs_ HB.out))); replace HB := st_ HB hb; have GE1239 := Ge_.mk GW1239.out; clear hb hbox hg) | ((with_reducible refine gd_ 3 rfl ?_); refine bv_ 3 #[.slice A1_0 l1_0.length c1_0, .int .i64 a1_1, .int .i64 a1_2, .string a1_3] 44 ?_; intro gb1240 hg w8 hbox hb; have BK1240 := Aside0.mk (hbox); have GW1240 := Aside0.mk ((gw_ hg (hs_ HB.out))); replace HB := st_ HB hb; have GE1240 := Ge_.mk GW1240.out; have NB1239_1240 := Ne_.mk (nl_ BK1239.out hg); replace BK1239 := bk2_ BK1239 hb; have NB1240_1239 := Ne_.mk (NB1239_1240.out.symm); clear hb hbox hg; have hnb9 := NB1239_1240.out; have hnc9 := NB1240_1239.out; obtain ⟨z10_0, z10_1, z10_2, z10_3, y10_0, y10_1, y10_2, y10_3⟩ := bc4_ BK1239.out; obtain ⟨z11_0, z11_1, z11_2, z11_3, y11_0, y11_1, y11_2, y11_3⟩ := bc4_ BK1240.out) | ((with_reducible refine gate_callee (f := 106) rfl ?_); refine gl_ (some 9) Try.func106 #[.slice A0_0 l0_0.length c0_0, .slice A1_0 l1_0.length c1_0] ?_; (with_reducible refine (spec_SameSet.calls k _ _ l0_0 _ _ l1_0 true _ ?side1 ?side2 ?side3 ?side4 A3.out).mono ?_); (case side1 => exact cp_ ((Kd.C_below HR0_0.out HB.out))); (case side2 => exact HC0_0.out); (case side3 => exact cp_ ((Kd.C_below HR1_0.out HB.out))); (case side4 => exact HC1_0.out); rintro e w' ⟨rfl, ⟨nd, rfl⟩⟩; refine ⟨_, rfl, ?_⟩))
    go_ret
    exact an_ (by exact hs_ HB.out)
   rw [if_neg c6] at H
   have c6b0 : (a0_2 == a1_2) = false := beq_eq_false_iff_ne.mpr c6
   have c6b1 : (a0_2 != a1_2) = true := bne_iff_ne.mpr c6
   obtain rfl := Option.some.inj H
   go_enter Try.func154, Try.ntmps154
   go_wp2_with (first | ((with_reducible refine gd_ 2 rfl ?_); refine bv_ 2 #[.slice A0_0 l0_0.length c0_0, .int .i64 a0_1, .int .i64 a0_2, .string a0_3] 44 ?_; intro gb1239 hg w12 hbox hb; have BK1239 := Aside0.mk (hbox); have GW1239 := Aside0.mk ((gw_ hg (hs_ HB.out))); replace HB := st_ HB hb; have GE1239 := Ge_.mk GW1239.out; clear hb hbox hg) | ((with_reducible refine gd_ 3 rfl ?_); refine bv_ 3 #[.slice A1_0 l1_0.length c1_0, .int .i64 a1_1, .int .i64 a1_2, .string a1_3] 44 ?_; intro gb1240 hg w13 hbox hb; have BK1240 := Aside0.mk (hbox); have GW1240 := Aside0.mk ((gw_ hg (hs_ HB.out))); replace HB := st_ HB hb; have GE1240 := Ge_.mk GW1240.out; have NB1239_1240 := Ne_.mk (nl_ BK1239.out hg); replace BK1239 := bk2_ BK1239 hb; have NB1240_1239 := Ne_.mk (NB1239_1240.out.symm); clear hb hbox hg; have hnb14 := NB1239_1240.out; have hnc14 := NB1240_1239.out; obtain ⟨z15_0, z15_1, z15_2, z15_3, y15_0, y15_1, y15_2, y15_3⟩ := bc4_ BK1239.out; obtain ⟨z16_0, z16_1, z16_2, z16_3, y16_0, y16_1, y16_2, y16_3⟩ := bc4_ BK1240.out) | ((with_reducible refine gate_callee (f := 106) rfl ?_); refine gl_ (some 9) Try.func106 #[.slice A0_0 l0_0.length c0_0, .slice A1_0 l1_0.length c1_0] ?_; (with_reducible refine (spec_SameSet.calls k _ _ l0_0 _ _ l1_0 true _ ?side1 ?side2 ?side3 ?side4 A3.out).mono ?_); (case side1 => exact cp_ ((Kd.C_below HR0_0.out HB.out))); (case side2 => exact HC0_0.out); (case side3 => exact cp_ ((Kd.C_below HR1_0.out HB.out))); (case side4 => exact HC1_0.out); rintro e w' ⟨rfl, ⟨nd, rfl⟩⟩; refine ⟨_, rfl, ?_⟩))
   go_ret
   exact an_ (by exact hs_ HB.out)
  rw [if_neg c5] at H
  have c5b0 : (a0_1 == a1_1) = false := beq_eq_false_iff_ne.mpr c5
  have c5b1 : (a0_1 != a1_1) = true := bne_iff_ne.mpr c5
  obtain rfl := Option.some.inj H
  go_enter Try.func154, Try.ntmps154
  go_wp2_with (first | ((with_reducible refine gd_ 2 rfl ?_); refine bv_ 2 #[.slice A0_0 l0_0.length c0_0, .int .i64 a0_1, .int .i64 a0_2, .string a0_3] 44 ?_; intro gb1239 hg w17 hbox hb; have BK1239 := Aside0.mk (hbox); have GW1239 := Aside0.mk ((gw_ hg (hs_ HB.out))); replace HB := st_ HB hb; have GE1239 := Ge_.mk GW1239.out; clear hb hbox hg) | ((with_reducible refine gd_ 3 rfl ?_); refine bv_ 3 #[.slice A1_0 l1_0.length c1_0, .int .i64 a1_1, .int .i64 a1_2, .string a1_3] 44 ?_; intro gb1240 hg w18 hbox hb; have BK1240 := Aside0.mk (hbox); have GW1240 := Aside0.mk ((gw_ hg (hs_ HB.out))); replace HB := st_ HB hb; have GE1240 := Ge_.mk GW1240.out; have NB1239_1240 := Ne_.mk (nl_ BK1239.out hg); replace BK1239 := bk2_ BK1239 hb; have NB1240_1239 := Ne_.mk (NB1239_1240.out.symm); clear hb hbox hg; have hnb19 := NB1239_1240.out; have hnc19 := NB1240_1239.out; obtain ⟨z20_0, z20_1, z20_2, z20_3, y20_0, y20_1, y20_2, y20_3⟩ := bc4_ BK1239.out; obtain ⟨z21_0, z21_1, z21_2, z21_3, y21_0, y21_1, y21_2, y21_3⟩ := bc4_ BK1240.out) | ((with_reducible refine gate_callee (f := 106) rfl ?_); refine gl_ (some 9) Try.func106 #[.slice A0_0 l0_0.length c0_0, .slice A1_0 l1_0.length c1_0] ?_; (with_reducible refine (spec_SameSet.calls k _ _ l0_0 _ _ l1_0 true _ ?side1 ?side2 ?side3 ?side4 A3.out).mono ?_); (case side1 => exact cp_ ((Kd.C_below HR0_0.out HB.out))); (case side2 => exact HC0_0.out); (case side3 => exact cp_ ((Kd.C_below HR1_0.out HB.out))); (case side4 => exact HC1_0.out); rintro e w' ⟨rfl, ⟨nd, rfl⟩⟩; refine ⟨_, rfl, ?_⟩))
  go_ret
  exact an_ (by exact hs_ HB.out)
 replace c4 := Bool.eq_false_iff.mpr c4
 subst c4
 rw [if_neg (show ¬ (false = true) by decide)] at H
 obtain rfl := Option.some.inj H
 go_enter Try.func154, Try.ntmps154
 go_wp2_with (first | ((with_reducible refine gd_ 2 rfl ?_); refine bv_ 2 #[.slice A0_0 l0_0.length c0_0, .int .i64 a0_1, .int .i64 a0_2, .string a0_3] 44 ?_; intro gb1239 hg w22 hbox hb; have BK1239 := Aside0.mk (hbox); have GW1239 := Aside0.mk ((gw_ hg (hs_ HB.out))); replace HB := st_ HB hb; have GE1239 := Ge_.mk GW1239.out; clear hb hbox hg) | ((with_reducible refine gd_ 3 rfl ?_); refine bv_ 3 #[.slice A1_0 l1_0.length c1_0, .int .i64 a1_1, .int .i64 a1_2, .string a1_3] 44 ?_; intro gb1240 hg w23 hbox hb; have BK1240 := Aside0.mk (hbox); have GW1240 := Aside0.mk ((gw_ hg (hs_ HB.out))); replace HB := st_ HB hb; have GE1240 := Ge_.mk GW1240.out; have NB1239_1240 := Ne_.mk (nl_ BK1239.out hg); replace BK1239 := bk2_ BK1239 hb; have NB1240_1239 := Ne_.mk (NB1239_1240.out.symm); clear hb hbox hg; have hnb24 := NB1239_1240.out; have hnc24 := NB1240_1239.out; obtain ⟨z25_0, z25_1, z25_2, z25_3, y25_0, y25_1, y25_2, y25_3⟩ := bc4_ BK1239.out; obtain ⟨z26_0, z26_1, z26_2, z26_3, y26_0, y26_1, y26_2, y26_3⟩ := bc4_ BK1240.out) | ((with_reducible refine gate_callee (f := 106) rfl ?_); refine gl_ (some 9) Try.func106 #[.slice A0_0 l0_0.length c0_0, .slice A1_0 l1_0.length c1_0] ?_; (with_reducible refine (spec_SameSet.calls k _ _ l0_0 _ _ l1_0 false _ ?side1 ?side2 ?side3 ?side4 A3.out).mono ?_); (case side1 => exact cp_ ((Kd.C_below HR0_0.out HB.out))); (case side2 => exact HC0_0.out); (case side3 => exact cp_ ((Kd.C_below HR1_0.out HB.out))); (case side4 => exact HC1_0.out); rintro e w' ⟨rfl, ⟨nd, rfl⟩⟩; refine ⟨_, rfl, ?_⟩))
 go_ret
 exact an_ (by exact hs_ HB.out)
def spec_l4Same.l0 : Nat → List (S44) → List (S44) → Int → Option (Bool)
 | 0, _, _, _ => none
 | k + 1, x0, x1, x5 => if x5 < (x0.length : Int) then (if 0 ≤ x5 then (if x5 < (x1.length : Int) then ((spec_SameAlarm.f k ((rd_T44 x0 x5).f0) ((rd_T44 x0 x5).f1) ((rd_T44 x0 x5).f2) ((rd_T44 x0 x5).f3) ((rd_T44 x1 x5).f0) ((rd_T44 x1 x5).f1) ((rd_T44 x1 x5).f2) ((rd_T44 x1 x5).f3)).bind fun t1989 => (if t1989 = true then (spec_l4Same.l0 k x0 x1 (wrap64 (x5 + 1))) else (some false))) else (none)) else (none)) else (some true)
def spec_l4Same.f (k : Nat) (l0 : List (S44)) (l1 : List (S44)) : Option (Bool) := if (l0.length : Int) = (l1.length : Int) then (spec_l4Same.l0 k l0 l1 0) else (some false)
theorem spec_l4Same.mono_l : ∀ k, (∀ y0 y1 y2, LeO (spec_l4Same.l0 k y0 y1 y2) (spec_l4Same.l0 (k + 1) y0 y1 y2))
 | 0 => fun _ _ _ r h => by simp [spec_l4Same.l0] at h
 | k + 1 => by
  have ih0 := spec_l4Same.mono_l k
  intro y0 y1 y2
  unfold spec_l4Same.l0
  repeat' first
  | (with_reducible exact ih0 _ _ _)
  | (with_reducible exact spec_SameAlarm.mono _ _ _ _ _ _ _ _ _)
  | (with_reducible exact LeO.refl _)
  | (with_reducible exact LeO.none _)
  | (with_reducible refine LeO.ite ?_ ?_)
  | (with_reducible refine LeO.bind ?_ (fun _ => ?_))
  | exact ih0 _ _ _
  | exact spec_SameAlarm.mono _ _ _ _ _ _ _ _ _
theorem spec_l4Same.mono : ∀ a0 a1 k, LeO (spec_l4Same.f k a0 a1) (spec_l4Same.f (k + 1) a0 a1) := by
 intro a0 a1 k
 have ih0 := spec_l4Same.mono_l k
 unfold spec_l4Same.f
 repeat' first | (with_reducible first | exact ih0 _ _ _ | exact spec_SameAlarm.mono _ _ _ _ _ _ _ _ _ | exact LeO.refl _ | exact LeO.none _ | refine LeO.ite ?_ ?_ | refine LeO.bind ?_ (fun _ => ?_)) | exact ih0 _ _ _ | exact spec_SameAlarm.mono _ _ _ _ _ _ _ _ _
def spec_l4Same.T6 : Bool × List (List Nat × List Nat) := (true, [([], []), ([], []), ([0, 1], [0, 1]), ([2], [2]), ([], []), ([], []), ([4, 5], [4, 5]), ([6], [6]), ([3, 7], [3, 7]), ([8], [8])])
def spec_l4Same.B6 : List Nat := [0, 0, 3, 7, 0, 0, 48, 112, 255, 511]
theorem spec_l4Same.tab6 : rtab .any (opsOf Try.f140 6) = spec_l4Same.T6 := by kernel_rfl
theorem spec_l4Same.bits6 : waitsOk spec_l4Same.T6.2 spec_l4Same.B6 = true := by kernel_rfl
theorem spec_l4Same.calls (k : Nat) (A0 : Option Addr) (c0 : Nat) (l0 : List (S44)) (A1 : Option Addr) (c1 : Nat) (l1 : List (S44)) (r : Bool) (w : World) (hr0 : Kd.C k44 w A0 l0.length l0) (hc0 : l0.length ≤ c0) (hr1 : Kd.C k44 w A1 l1.length l1) (hc1 : l1.length ≤ c1) (h : spec_l4Same.f k l0 l1 = some r) :
  Calls Try.prog 140 #[.slice A0 l0.length c0, .slice A1 l1.length c1] w fun e w' => e = .returned (.bool r) ∧ Below w.heap.size w w' := by
 have hu44 := Try.underlying44
 have HR0 := Aside0.mk hr0
 have HC0 := Aside0.mk hc0
 clear hr0 hc0
 have HR1 := Aside0.mk hr1
 have HC1 := Aside0.mk hc1
 clear hr1 hc1
 have HB := Aside0.mk (Below.refl w.heap.size w)
 have H : (if (l0.length : Int) = (l1.length : Int) then (spec_l4Same.l0 k l0 l1 0) else (some false)) = some r := h
 clear h
 by_cases c3 : (l0.length : Int) = (l1.length : Int)
 ·
  rw [if_pos c3] at H
  have c3b0 : ((l0.length : Int) == (l1.length : Int)) = true := beq_iff_eq.mpr c3
  have c3b1 : ((l0.length : Int) != (l1.length : Int)) = false := bne_eq_false_iff_eq.mpr c3
  have c3b2 : (l0.length == l1.length) = true := by first | simpa using c3 | (simp at c3 ⊢; omega)
  clear c3
  have H' := Aside0.mk H
  clear H
  go_enter Try.func140, Try.ntmps140
  go_wp2
  go_loopg [5] k (fun kq v5 w' => ∃ (x5_1 : Int), v5 = .int .i64 x5_1 ∧ Aside0 (spec_l4Same.l0 kq l0 l1 x5_1 = some r) ∧ Aside0 (kq ≤ k) ∧ Aside0 (Below w.heap.size w w'))
  case atStart => exact ⟨(0), (by first | rfl | (simp; done) | (simp [*]; done)), H', ⟨Nat.le_refl _⟩, ⟨by exact hs_ HB.out⟩⟩
  case round =>
   clear H'
   try clear c1
   try clear p2
   try clear c3
   try clear c3b0
   try clear c3b1
   try clear c3b2
   obtain ⟨x5_1, rfl, HA, HK1, HB⟩ := hrel
   cases gk with
   | zero => exact absurd HA.out (by simp [spec_l4Same.l0])
   | succ k1 =>
    have H := HA.out
    clear HA
    simp only [spec_l4Same.l0] at H
    by_cases c4 : x5_1 < (l0.length : Int)
    ·
     rw [if_pos c4] at H
     have c4b0 := decide_eq_true c4
     clear c4
     by_cases c5 : 0 ≤ x5_1
     ·
      rw [if_pos c5] at H
      have c5b0 := decide_eq_true c5
      clear c5
      by_cases c6 : x5_1 < (l1.length : Int)
      ·
       rw [if_pos c6] at H
       have c6b0 := decide_eq_true c6
       clear c6
       replace H := Option.bind_eq_some_iff.mp H
       obtain ⟨t1989, A70, H⟩ := H
       have A7 := Aside0.mk A70
       clear A70
       by_cases c8 : t1989 = true
       ·
        subst c8
        rw [if_pos rfl] at H
        have H' := Aside0.mk H
        clear H
        try go_wp2
        replace HB := Aside0.mk (bd_ HB.out)
        have p1987 : 0 ≤ (x5_1 : Int) := of_decide_eq_true (by with_reducible assumption)
        have q1987 : x5_1 < (l0.length : Int) := of_decide_eq_true (by with_reducible assumption)
        obtain ⟨ad1987, A1987_0, c1987_0, e1987, hx1987_0, hx1987_1, hx1987_2, hx1987_3, hl1987_0, hi1987_0⟩ := at_T44 HR0.out x5_1 p1987 q1987
        have hw1987_3 := hx1987_3
        have hw1987_2 := hx1987_2
        have hw1987_1 := hx1987_1
        have hw1987_0 := hx1987_0
        cases e1987
        replace hx1987_0 := cl_ HB.out hx1987_0
        replace hx1987_1 := cl_ HB.out hx1987_1
        replace hx1987_2 := cl_ HB.out hx1987_2
        replace hx1987_3 := cl_ HB.out hx1987_3
        have HR1987_0 := Aside0.mk hi1987_0
        have HC1987_0 := Aside0.mk hl1987_0
        clear hi1987_0 hl1987_0
        replace p1987 := eq_true p1987
        replace q1987 := eq_true q1987
        have p1988 : 0 ≤ (x5_1 : Int) := of_decide_eq_true (by with_reducible assumption)
        have q1988 : x5_1 < (l1.length : Int) := of_decide_eq_true (by with_reducible assumption)
        obtain ⟨ad1988, A1988_0, c1988_0, e1988, hx1988_0, hx1988_1, hx1988_2, hx1988_3, hl1988_0, hi1988_0⟩ := at_T44 HR1.out x5_1 p1988 q1988
        have hw1988_3 := hx1988_3
        have hw1988_2 := hx1988_2
        have hw1988_1 := hx1988_1
        have hw1988_0 := hx1988_0
        cases e1988
        replace hx1988_0 := cl_ HB.out hx1988_0
        replace hx1988_1 := cl_ HB.out hx1988_1
        replace hx1988_2 := cl_ HB.out hx1988_2
        replace hx1988_3 := cl_ HB.out hx1988_3
        have HR1988_0 := Aside0.mk hi1988_0
        have HC1988_0 := Aside0.mk hl1988_0
        clear hi1988_0 hl1988_0
        replace p1988 := eq_true p1988
        replace q1988 := eq_true q1988
        refine start_ (n := 10) (S := fun w' => w'.cell? (ad1987.add ((x5_1).toNat * 4)) = some (.slice A1987_0 ((rd_T44 l0 x5_1).f0).length c1987_0) ∧ w'.cell? ⟨(ad1987.add ((x5_1).toNat * 4)).block, (ad1987.add ((x5_1).toNat * 4)).off + 1, none⟩ = some (.int .i64 ((rd_T44 l0 x5_1).f1)) ∧ w'.cell? ⟨(ad1987.add ((x5_1).toNat * 4)).block, (ad1987.add ((x5_1).toNat * 4)).off + 2, none⟩ = some (.int .i64 ((rd_T44 l0 x5_1).f2)) ∧ w'.cell? ⟨(ad1987.add ((x5_1).toNat * 4)).block, (ad1987.add ((x5_1).toNat * 4)).off + 3, none⟩ = some (.string ((rd_T44 l0 x5_1).f3)) ∧ w'.cell? (ad1988.add ((x5_1).toNat * 4)) = some (.slice A1988_0 ((rd_T44 l1 x5_1).f0).length c1988_0) ∧ w'.cell? ⟨(ad1988.add ((x5_1).toNat * 4)).block, (ad1988.add ((x5_1).toNat * 4)).off + 1, none⟩ = some (.int .i64 ((rd_T44 l1 x5_1).f1)) ∧ w'.cell? ⟨(ad1988.add ((x5_1).toNat * 4)).block, (ad1988.add ((x5_1).toNat * 4)).off + 2, none⟩ = some (.int .i64 ((rd_T44 l1 x5_1).f2)) ∧ w'.cell? ⟨(ad1988.add ((x5_1).toNat * 4)).block, (ad1988.add ((x5_1).toNat * 4)).off + 3, none⟩ = some (.string ((rd_T44 l1 x5_1).f3))) (ds := []) #[f_,f_,f_,f_,f_,f_,f_,f_,f_,f_] (by kernel_rfl) rfl rfl ⟨((HB.out.cell (World.block_lt_of_cell? w _ hw1987_0)).trans hw1987_0), ((HB.out.cell (World.block_lt_of_cell? w _ hw1987_1)).trans hw1987_1), ((HB.out.cell (World.block_lt_of_cell? w _ hw1987_2)).trans hw1987_2), ((HB.out.cell (World.block_lt_of_cell? w _ hw1987_3)).trans hw1987_3), ((HB.out.cell (World.block_lt_of_cell? w _ hw1988_0)).trans hw1988_0), ((HB.out.cell (World.block_lt_of_cell? w _ hw1988_1)).trans hw1988_1), ((HB.out.cell (World.block_lt_of_cell? w _ hw1988_2)).trans hw1988_2), ((HB.out.cell (World.block_lt_of_cell? w _ hw1988_3)).trans hw1988_3)⟩ (fun hHeld => ?_); refine with_tabW spec_l4Same.tab6 spec_l4Same.bits6 (fun HT_ HW_ => ?_)
        generalize wr.drew = w9 at HB HR1987_0 HR1988_0 hx1987_0 hx1987_1 hx1987_2 hx1987_3 hx1988_0 hx1988_1 hx1988_2 hx1988_3 hHeld ⊢
        refine pw_ 0 17 (b_ 1 9) rfl rfl HT_.out ?_
        refine pw_ 1 18 (b_ 2 8) rfl rfl HT_.out ?_
        refine pw_ 2 19 (b_ 3 7) rfl rfl HT_.out ?_
        refine pw_ 4 21 #[t_,t_,t_,f_,t_,f_,f_,f_,f_,f_] rfl rfl HT_.out ?_
        refine pw_ 5 22 #[t_,t_,t_,f_,t_,t_,f_,f_,f_,f_] rfl rfl HT_.out ?_
        refine pw_ 6 23 #[t_,t_,t_,f_,t_,t_,t_,f_,f_,f_] rfl rfl HT_.out ?_
        refine take_ (i := 3) (N := some 20) (v := ?_) (a' := ?_) #[t_,t_,t_,t_,t_,t_,t_,f_,f_,f_] rfl rfl (take_ofW HT_.out HW_.out (by kernel_rfl)) (fun _ _ _ h => h) (Or.inl ⟨by rfl, ?_⟩) hHeld ?_ ?_
        rotate_left
        ·
         rintro w' ⟨s0, s1, s2, s3, s4, s5, s6, s7⟩
         go_simp
         with_reducible rfl
        rotate_left
        ·
         simp only [fr_]
         rfl
        refine take_ (i := 7) (N := some 24) (v := ?_) (a' := ?_) #[t_,t_,t_,t_,t_,t_,t_,t_,f_,f_] rfl rfl (take_ofW HT_.out HW_.out (by kernel_rfl)) (fun _ _ _ h => h) (Or.inl ⟨by rfl, ?_⟩) hHeld ?_ ?_
        rotate_left
        ·
         rintro w' ⟨s0, s1, s2, s3, s4, s5, s6, s7⟩
         go_simp
         with_reducible rfl
        rotate_left
        ·
         simp only [fr_]
         rfl
        refine one_ (i := 8) (N := some 25) #[t_,t_,t_,t_,t_,t_,t_,t_,t_,f_] rfl rfl (one_of HT_.out (by kernel_rfl)) (by decide) (fun K hK => ?_)
        refine gs_ Try.func154 #[.agg #[.slice A1987_0 ((rd_T44 l0 x5_1).f0).length c1987_0, .int .i64 ((rd_T44 l0 x5_1).f1), .int .i64 ((rd_T44 l0 x5_1).f2), .string ((rd_T44 l0 x5_1).f3)], .agg #[.slice A1988_0 ((rd_T44 l1 x5_1).f0).length c1988_0, .int .i64 ((rd_T44 l1 x5_1).f1), .int .i64 ((rd_T44 l1 x5_1).f2), .string ((rd_T44 l1 x5_1).f3)]] ?_
        with_reducible refine (spec_SameAlarm.calls k1 _ _ ((rd_T44 l0 x5_1).f0) ((rd_T44 l0 x5_1).f1) ((rd_T44 l0 x5_1).f2) ((rd_T44 l0 x5_1).f3) _ _ ((rd_T44 l1 x5_1).f0) ((rd_T44 l1 x5_1).f1) ((rd_T44 l1 x5_1).f2) ((rd_T44 l1 x5_1).f3) true _ ?side1 ?side2 ?side3 ?side4 A7.out).mono ?_
        (case side1 => exact cp_ ((Kd.C_below HR1987_0.out HB.out)))
        (case side2 => exact HC1987_0.out)
        (case side3 => exact cp_ ((Kd.C_below HR1988_0.out HB.out)))
        (case side4 => exact HC1988_0.out)
        rintro e w10 ⟨rfl, hb⟩
        refine ⟨_, rfl, ?_⟩
        replace HB := st_ HB hb
        (try clear hb)
        (try clear hk)
        refine hK.out _ _ ⟨((HB.out.cell (World.block_lt_of_cell? w _ hw1987_0)).trans hw1987_0), ((HB.out.cell (World.block_lt_of_cell? w _ hw1987_1)).trans hw1987_1), ((HB.out.cell (World.block_lt_of_cell? w _ hw1987_2)).trans hw1987_2), ((HB.out.cell (World.block_lt_of_cell? w _ hw1987_3)).trans hw1987_3), ((HB.out.cell (World.block_lt_of_cell? w _ hw1988_0)).trans hw1988_0), ((HB.out.cell (World.block_lt_of_cell? w _ hw1988_1)).trans hw1988_1), ((HB.out.cell (World.block_lt_of_cell? w _ hw1988_2)).trans hw1988_2), ((HB.out.cell (World.block_lt_of_cell? w _ hw1988_3)).trans hw1988_3)⟩ (fun hHeld => ?_)
        clear hK K
        refine norm_ (a' := ?_) ?_ ?_
        rotate_left
        ·
         show Act.put _ (some 25) _ = _
         simp only [fr_]
         rfl
        refine pw_ 9 26 (b_ 10 0) rfl rfl HT_.out ?_
        refine done_ (done_of HT_.out (by kernel_rfl)) ?_
        try go_wp2
        go_roundg k1
        case measure => have := HK1.out; omega
        case rel => exact ⟨(wrap64 (x5_1 + 1)), (by first | rfl | (simp; done) | (simp [*]; done)), H', ⟨by have := HK1.out; omega⟩, ⟨by exact hs_ HB.out⟩⟩
       replace c8 := Bool.eq_false_iff.mpr c8
       subst c8
       rw [if_neg (show ¬ (false = true) by decide)] at H
       obtain rfl := Option.some.inj H
       try go_wp2
       replace HB := Aside0.mk (bd_ HB.out)
       have p1987 : 0 ≤ (x5_1 : Int) := of_decide_eq_true (by with_reducible assumption)
       have q1987 : x5_1 < (l0.length : Int) := of_decide_eq_true (by with_reducible assumption)
       obtain ⟨ad1987, A1987_0, c1987_0, e1987, hx1987_0, hx1987_1, hx1987_2, hx1987_3, hl1987_0, hi1987_0⟩ := at_T44 HR0.out x5_1 p1987 q1987
       have hw1987_3 := hx1987_3
       have hw1987_2 := hx1987_2
       have hw1987_1 := hx1987_1
       have hw1987_0 := hx1987_0
       cases e1987
       replace hx1987_0 := cl_ HB.out hx1987_0
       replace hx1987_1 := cl_ HB.out hx1987_1
       replace hx1987_2 := cl_ HB.out hx1987_2
       replace hx1987_3 := cl_ HB.out hx1987_3
       have HR1987_0 := Aside0.mk hi1987_0
       have HC1987_0 := Aside0.mk hl1987_0
       clear hi1987_0 hl1987_0
       replace p1987 := eq_true p1987
       replace q1987 := eq_true q1987
       have p1988 : 0 ≤ (x5_1 : Int) := of_decide_eq_true (by with_reducible assumption)
       have q1988 : x5_1 < (l1.length : Int) := of_decide_eq_true (by with_reducible assumption)
       obtain ⟨ad1988, A1988_0, c1988_0, e1988, hx1988_0, hx1988_1, hx1988_2, hx1988_3, hl1988_0, hi1988_0⟩ := at_T44 HR1.out x5_1 p1988 q1988
       have hw1988_3 := hx1988_3
       have hw1988_2 := hx1988_2
       have hw1988_1 := hx1988_1
       have hw1988_0 := hx1988_0
       cases e1988
       replace hx1988_0 := cl_ HB.out hx1988_0
       replace hx1988_1 := cl_ HB.out hx1988_1
       replace hx1988_2 := cl_ HB.out hx1988_2
       replace hx1988_3 := cl_ HB.out hx1988_3
       have HR1988_0 := Aside0.mk hi1988_0
       have HC1988_0 := Aside0.mk hl1988_0
       clear hi1988_0 hl1988_0
       replace p1988 := eq_true p1988
       replace q1988 := eq_true q1988
       refine start_ (n := 10) (S := fun w' => w'.cell? (ad1987.add ((x5_1).toNat * 4)) = some (.slice A1987_0 ((rd_T44 l0 x5_1).f0).length c1987_0) ∧ w'.cell? ⟨(ad1987.add ((x5_1).toNat * 4)).block, (ad1987.add ((x5_1).toNat * 4)).off + 1, none⟩ = some (.int .i64 ((rd_T44 l0 x5_1).f1)) ∧ w'.cell? ⟨(ad1987.add ((x5_1).toNat * 4)).block, (ad1987.add ((x5_1).toNat * 4)).off + 2, none⟩ = some (.int .i64 ((rd_T44 l0 x5_1).f2)) ∧ w'.cell? ⟨(ad1987.add ((x5_1).toNat * 4)).block, (ad1987.add ((x5_1).toNat * 4)).off + 3, none⟩ = some (.string ((rd_T44 l0 x5_1).f3)) ∧ w'.cell? (ad1988.add ((x5_1).toNat * 4)) = some (.slice A1988_0 ((rd_T44 l1 x5_1).f0).length c1988_0) ∧ w'.cell? ⟨(ad1988.add ((x5_1).toNat * 4)).block, (ad1988.add ((x5_1).toNat * 4)).off + 1, none⟩ = some (.int .i64 ((rd_T44 l1 x5_1).f1)) ∧ w'.cell? ⟨(ad1988.add ((x5_1).toNat * 4)).block, (ad1988.add ((x5_1).toNat * 4)).off + 2, none⟩ = some (.int .i64 ((rd_T44 l1 x5_1).f2)) ∧ w'.cell? ⟨(ad1988.add ((x5_1).toNat * 4)).block, (ad1988.add ((x5_1).toNat * 4)).off + 3, none⟩ = some (.string ((rd_T44 l1 x5_1).f3))) (ds := []) #[f_,f_,f_,f_,f_,f_,f_,f_,f_,f_] (by kernel_rfl) rfl rfl ⟨((HB.out.cell (World.block_lt_of_cell? w _ hw1987_0)).trans hw1987_0), ((HB.out.cell (World.block_lt_of_cell? w _ hw1987_1)).trans hw1987_1), ((HB.out.cell (World.block_lt_of_cell? w _ hw1987_2)).trans hw1987_2), ((HB.out.cell (World.block_lt_of_cell? w _ hw1987_3)).trans hw1987_3), ((HB.out.cell (World.block_lt_of_cell? w _ hw1988_0)).trans hw1988_0), ((HB.out.cell (World.block_lt_of_cell? w _ hw1988_1)).trans hw1988_1), ((HB.out.cell (World.block_lt_of_cell? w _ hw1988_2)).trans hw1988_2), ((HB.out.cell (World.block_lt_of_cell? w _ hw1988_3)).trans hw1988_3)⟩ (fun hHeld => ?_); refine with_tabW spec_l4Same.tab6 spec_l4Same.bits6 (fun HT_ HW_ => ?_)
       generalize wr.drew = w11 at HB HR1987_0 HR1988_0 hx1987_0 hx1987_1 hx1987_2 hx1987_3 hx1988_0 hx1988_1 hx1988_2 hx1988_3 hHeld ⊢
       refine pw_ 0 17 (b_ 1 9) rfl rfl HT_.out ?_
       refine pw_ 1 18 (b_ 2 8) rfl rfl HT_.out ?_
       refine pw_ 2 19 (b_ 3 7) rfl rfl HT_.out ?_
       refine pw_ 4 21 #[t_,t_,t_,f_,t_,f_,f_,f_,f_,f_] rfl rfl HT_.out ?_
       refine pw_ 5 22 #[t_,t_,t_,f_,t_,t_,f_,f_,f_,f_] rfl rfl HT_.out ?_
       refine pw_ 6 23 #[t_,t_,t_,f_,t_,t_,t_,f_,f_,f_] rfl rfl HT_.out ?_
       refine take_ (i := 3) (N := some 20) (v := ?_) (a' := ?_) #[t_,t_,t_,t_,t_,t_,t_,f_,f_,f_] rfl rfl (take_ofW HT_.out HW_.out (by kernel_rfl)) (fun _ _ _ h => h) (Or.inl ⟨by rfl, ?_⟩) hHeld ?_ ?_
       rotate_left
       ·
        rintro w' ⟨s0, s1, s2, s3, s4, s5, s6, s7⟩
        go_simp
        with_reducible rfl
       rotate_left
       ·
        simp only [fr_]
        rfl
       refine take_ (i := 7) (N := some 24) (v := ?_) (a' := ?_) #[t_,t_,t_,t_,t_,t_,t_,t_,f_,f_] rfl rfl (take_ofW HT_.out HW_.out (by kernel_rfl)) (fun _ _ _ h => h) (Or.inl ⟨by rfl, ?_⟩) hHeld ?_ ?_
       rotate_left
       ·
        rintro w' ⟨s0, s1, s2, s3, s4, s5, s6, s7⟩
        go_simp
        with_reducible rfl
       rotate_left
       ·
        simp only [fr_]
        rfl
       refine one_ (i := 8) (N := some 25) #[t_,t_,t_,t_,t_,t_,t_,t_,t_,f_] rfl rfl (one_of HT_.out (by kernel_rfl)) (by decide) (fun K hK => ?_)
       refine gs_ Try.func154 #[.agg #[.slice A1987_0 ((rd_T44 l0 x5_1).f0).length c1987_0, .int .i64 ((rd_T44 l0 x5_1).f1), .int .i64 ((rd_T44 l0 x5_1).f2), .string ((rd_T44 l0 x5_1).f3)], .agg #[.slice A1988_0 ((rd_T44 l1 x5_1).f0).length c1988_0, .int .i64 ((rd_T44 l1 x5_1).f1), .int .i64 ((rd_T44 l1 x5_1).f2), .string ((rd_T44 l1 x5_1).f3)]] ?_
       with_reducible refine (spec_SameAlarm.calls k1 _ _ ((rd_T44 l0 x5_1).f0) ((rd_T44 l0 x5_1).f1) ((rd_T44 l0 x5_1).f2) ((rd_T44 l0 x5_1).f3) _ _ ((rd_T44 l1 x5_1).f0) ((rd_T44 l1 x5_1).f1) ((rd_T44 l1 x5_1).f2) ((rd_T44 l1 x5_1).f3) false _ ?side1 ?side2 ?side3 ?side4 A7.out).mono ?_
       (case side1 => exact cp_ ((Kd.C_below HR1987_0.out HB.out)))
       (case side2 => exact HC1987_0.out)
       (case side3 => exact cp_ ((Kd.C_below HR1988_0.out HB.out)))
       (case side4 => exact HC1988_0.out)
       rintro e w12 ⟨rfl, hb⟩
       refine ⟨_, rfl, ?_⟩
       replace HB := st_ HB hb
       (try clear hb)
       (try clear hk)
       refine hK.out _ _ ⟨((HB.out.cell (World.block_lt_of_cell? w _ hw1987_0)).trans hw1987_0), ((HB.out.cell (World.block_lt_of_cell? w _ hw1987_1)).trans hw1987_1), ((HB.out.cell (World.block_lt_of_cell? w _ hw1987_2)).trans hw1987_2), ((HB.out.cell (World.block_lt_of_cell? w _ hw1987_3)).trans hw1987_3), ((HB.out.cell (World.block_lt_of_cell? w _ hw1988_0)).trans hw1988_0), ((HB.out.cell (World.block_lt_of_cell? w _ hw1988_1)).trans hw1988_1), ((HB.out.cell (World.block_lt_of_cell? w _ hw1988_2)).trans hw1988_2), ((HB.out.cell (World.block_lt_of_cell? w _ hw1988_3)).trans hw1988_3)⟩ (fun hHeld => ?_)
       clear hK K
       refine norm_ (a' := ?_) ?_ ?_
       rotate_left
       ·
        show Act.put _ (some 25) _ = _
        simp only [fr_]
        rfl
       refine pw_ 9 26 (b_ 10 0) rfl rfl HT_.out ?_
       refine done_ (done_of HT_.out (by kernel_rfl)) ?_
       try go_wp2
       go_ret
       exact an_ (by exact hs_ HB.out)
      rw [if_neg c6] at H
      exact absurd H (by simp)
     rw [if_neg c5] at H
     exact absurd H (by simp)
    rw [if_neg c4] at H
    have c4b0 : decide (x5_1 < (l0.length : Int)) = false := decide_eq_false c4
    clear c4
    obtain rfl := Option.some.inj H
    go_wp2
    go_ret
    exact an_ (by exact hs_ HB.out)
 rw [if_neg c3] at H
 have c3b0 : ((l0.length : Int) == (l1.length : Int)) = false := beq_eq_false_iff_ne.mpr c3
 have c3b1 : ((l0.length : Int) != (l1.length : Int)) = true := bne_iff_ne.mpr c3
 have c3b2 : (l0.length == l1.length) = false := by first | simpa using c3 | (simp at c3 ⊢; omega)
 obtain rfl := Option.some.inj H
 go_enter Try.func140, Try.ntmps140
 go_wp2
 go_ret
 exact an_ (by exact hs_ HB.out)
def spec_SameSub.f (k : Nat) (l0_0 : List (S44)) (a0_1 : Bool) (l1_0 : List (S44)) (a1_1 : Bool) : Option (Bool) := if (a0_1 == a1_1) = true then ((spec_l4Same.f k l0_0 l1_0).bind fun t1992 => (some t1992)) else (some false)
theorem spec_SameSub.mono : ∀ a0 a1 a2 a3 k, LeO (spec_SameSub.f k a0 a1 a2 a3) (spec_SameSub.f (k + 1) a0 a1 a2 a3) := by
 intro a0 a1 a2 a3 k
 unfold spec_SameSub.f
 repeat' first | (with_reducible first | exact spec_l4Same.mono _ _ _ | exact LeO.refl _ | exact LeO.none _ | refine LeO.ite ?_ ?_ | refine LeO.bind ?_ (fun _ => ?_)) | exact spec_l4Same.mono _ _ _
theorem spec_SameSub.calls (k : Nat) (A0_0 : Option Addr) (c0_0 : Nat) (l0_0 : List (S44)) (a0_1 : Bool) (A1_0 : Option Addr) (c1_0 : Nat) (l1_0 : List (S44)) (a1_1 : Bool) (r : Bool) (w : World) (hr0_0 : Kd.C k44 w A0_0 l0_0.length l0_0) (hc0_0 : l0_0.length ≤ c0_0) (hr1_0 : Kd.C k44 w A1_0 l1_0.length l1_0) (hc1_0 : l1_0.length ≤ c1_0) (h : spec_SameSub.f k l0_0 a0_1 l1_0 a1_1 = some r) :
  Calls Try.prog 87 #[.agg #[.slice A0_0 l0_0.length c0_0, .bool a0_1], .agg #[.slice A1_0 l1_0.length c1_0, .bool a1_1]] w fun e w' => e = .returned (.bool r) ∧ Below w.heap.size w w' := by
 have hu39 := Try.underlying39
 have HR0_0 := Aside0.mk hr0_0
 have HC0_0 := Aside0.mk hc0_0
 clear hr0_0 hc0_0
 have HR1_0 := Aside0.mk hr1_0
 have HC1_0 := Aside0.mk hc1_0
 clear hr1_0 hc1_0
 have HB := Aside0.mk (Below.refl w.heap.size w)
 have H : (if (a0_1 == a1_1) = true then ((spec_l4Same.f k l0_0 l1_0).bind fun t1992 => (some t1992)) else (some false)) = some r := h
 clear h
 by_cases c3 : (a0_1 == a1_1) = true
 ·
  rw [if_pos c3] at H
  have c3b0 : (a0_1 == a1_1) = true := c3
  (try (have c3b1 : decide (a0_1 = a1_1) = true := by simpa using c3))
  (try (have c3b2 : (a0_1 == a1_1) = true := by simpa using c3))
  clear c3
  replace H := Option.bind_eq_some_iff.mp H
  obtain ⟨t1992, A40, H⟩ := H
  have A4 := Aside0.mk A40
  clear A40
  obtain rfl := Option.some.inj H
  go_enter Try.func87, Try.ntmps87
  go_wp2_with (first | ((with_reducible refine gd_ 2 rfl ?_); refine bv_ 2 #[.slice A0_0 l0_0.length c0_0, .bool a0_1] 39 ?_; intro gb1990 hg w5 hbox hb; have BK1990 := Aside0.mk (hbox); have GW1990 := Aside0.mk ((gw_ hg (hs_ HB.out))); replace HB := st_ HB hb; have GE1990 := Ge_.mk GW1990.out; clear hb hbox hg) | ((with_reducible refine gd_ 3 rfl ?_); refine bv_ 3 #[.slice A1_0 l1_0.length c1_0, .bool a1_1] 39 ?_; intro gb1991 hg w6 hbox hb; have BK1991 := Aside0.mk (hbox); have GW1991 := Aside0.mk ((gw_ hg (hs_ HB.out))); replace HB := st_ HB hb; have GE1991 := Ge_.mk GW1991.out; have NB1990_1991 := Ne_.mk (nl_ BK1990.out hg); replace BK1990 := bk2_ BK1990 hb; have NB1991_1990 := Ne_.mk (NB1990_1991.out.symm); clear hb hbox hg; have hnb7 := NB1990_1991.out; have hnc7 := NB1991_1990.out; obtain ⟨z8_0, z8_1, y8_0, y8_1⟩ := bc2_ BK1990.out; obtain ⟨z9_0, z9_1, y9_0, y9_1⟩ := bc2_ BK1991.out) | (go_at_call 140; (with_reducible refine (spec_l4Same.calls k _ _ l0_0 _ _ l1_0 t1992 _ ?side1 ?side2 ?side3 ?side4 A4.out).mono ?_); (case side1 => exact cp_ ((Kd.C_below HR0_0.out HB.out))); (case side2 => exact HC0_0.out); (case side3 => exact cp_ ((Kd.C_below HR1_0.out HB.out))); (case side4 => exact HC1_0.out); rintro e w10 ⟨rfl, hb⟩; replace BK1990 := bk2_ BK1990 hb; replace BK1991 := bk2_ BK1991 hb; replace HB := st_ HB hb; (try clear hb); (try clear hk)))
  go_ret
  exact an_ (by exact hs_ HB.out)
 rw [if_neg c3] at H
 have c3b0 : (a0_1 == a1_1) = false := by simpa using c3
 (try (have c3b1 : decide (a0_1 = a1_1) = false := by simpa using c3))
 (try (have c3b2 : (a0_1 == a1_1) = false := by simpa using c3))
 (try (have c3b3 : ¬ (a0_1 = a1_1) := by simpa using c3))
 clear c3
 obtain rfl := Option.some.inj H
 go_enter Try.func87, Try.ntmps87
 go_wp2_with (first | ((with_reducible refine gd_ 2 rfl ?_); refine bv_ 2 #[.slice A0_0 l0_0.length c0_0, .bool a0_1] 39 ?_; intro gb1990 hg w11 hbox hb; have BK1990 := Aside0.mk (hbox); have GW1990 := Aside0.mk ((gw_ hg (hs_ HB.out))); replace HB := st_ HB hb; have GE1990 := Ge_.mk GW1990.out; clear hb hbox hg) | ((with_reducible refine gd_ 3 rfl ?_); refine bv_ 3 #[.slice A1_0 l1_0.length c1_0, .bool a1_1] 39 ?_; intro gb1991 hg w12 hbox hb; have BK1991 := Aside0.mk (hbox); have GW1991 := Aside0.mk ((gw_ hg (hs_ HB.out))); replace HB := st_ HB hb; have GE1991 := Ge_.mk GW1991.out; have NB1990_1991 := Ne_.mk (nl_ BK1990.out hg); replace BK1990 := bk2_ BK1990 hb; have NB1991_1990 := Ne_.mk (NB1990_1991.out.symm); clear hb hbox hg; have hnb13 := NB1990_1991.out; have hnc13 := NB1991_1990.out; obtain ⟨z14_0, z14_1, y14_0, y14_1⟩ := bc2_ BK1990.out; obtain ⟨z15_0, z15_1, y15_0, y15_1⟩ := bc2_ BK1991.out))
 go_ret
 exact an_ (by exact hs_ HB.out)
def laws_sameSubs.l0 : Nat → List (S39) → List (S39) → Int → Option (Bool)
 | 0, _, _, _ => none
 | k + 1, x0, x1, x5 => if x5 < (x0.length : Int) then (if 0 ≤ x5 then (if x5 < (x1.length : Int) then ((impl_SameSub.f k ((rd_T39 x0 x5).f0) ((rd_T39 x0 x5).f1) ((rd_T39 x1 x5).f0) ((rd_T39 x1 x5).f1)).bind fun t1995 => (if t1995 = true then (laws_sameSubs.l0 k x0 x1 (wrap64 (x5 + 1))) else (some false))) else (none)) else (none)) else (some true)
def laws_sameSubs.f (k : Nat) (l0 : List (S39)) (l1 : List (S39)) : Option (Bool) := if (l0.length : Int) = (l1.length : Int) then (laws_sameSubs.l0 k l0 l1 0) else (some false)
theorem laws_sameSubs.mono_l : ∀ k, (∀ y0 y1 y2, LeO (laws_sameSubs.l0 k y0 y1 y2) (laws_sameSubs.l0 (k + 1) y0 y1 y2))
 | 0 => fun _ _ _ r h => by simp [laws_sameSubs.l0] at h
 | k + 1 => by
  have ih0 := laws_sameSubs.mono_l k
  intro y0 y1 y2
  unfold laws_sameSubs.l0
  repeat' first
  | (with_reducible exact ih0 _ _ _)
  | (with_reducible exact impl_SameSub.mono _ _ _ _ _)
  | (with_reducible exact LeO.refl _)
  | (with_reducible exact LeO.none _)
  | (with_reducible refine LeO.ite ?_ ?_)
  | (with_reducible refine LeO.bind ?_ (fun _ => ?_))
  | exact ih0 _ _ _
  | exact impl_SameSub.mono _ _ _ _ _
theorem laws_sameSubs.mono : ∀ a0 a1 k, LeO (laws_sameSubs.f k a0 a1) (laws_sameSubs.f (k + 1) a0 a1) := by
 intro a0 a1 k
 have ih0 := laws_sameSubs.mono_l k
 unfold laws_sameSubs.f
 repeat' first | (with_reducible first | exact ih0 _ _ _ | exact impl_SameSub.mono _ _ _ _ _ | exact LeO.refl _ | exact LeO.none _ | refine LeO.ite ?_ ?_ | refine LeO.bind ?_ (fun _ => ?_)) | exact ih0 _ _ _ | exact impl_SameSub.mono _ _ _ _ _
def laws_sameSubs.T6 : Bool × List (List Nat × List Nat) := (true, [([], []), ([], []), ([0, 1], [0, 1]), ([2], [2]), ([], []), ([], []), ([4, 5], [4, 5]), ([6], [6]), ([3, 7], [3, 7]), ([8], [8])])
def laws_sameSubs.B6 : List Nat := [0, 0, 3, 7, 0, 0, 48, 112, 255, 511]
theorem laws_sameSubs.tab6 : rtab .any (opsOf Try.f88 6) = laws_sameSubs.T6 := by kernel_rfl
theorem laws_sameSubs.bits6 : waitsOk laws_sameSubs.T6.2 laws_sameSubs.B6 = true := by kernel_rfl
theorem laws_sameSubs.calls (k : Nat) (A0 : Option Addr) (c0 : Nat) (l0 : List (S39)) (A1 : Option Addr) (c1 : Nat) (l1 : List (S39)) (r : Bool) (w : World) (hr0 : Kd.C k39 w A0 l0.length l0) (hc0 : l0.length ≤ c0) (hr1 : Kd.C k39 w A1 l1.length l1) (hc1 : l1.length ≤ c1) (h : laws_sameSubs.f k l0 l1 = some r) :
  Calls Try.prog 88 #[.slice A0 l0.length c0, .slice A1 l1.length c1] w fun e w' => e = .returned (.bool r) ∧ Below w.heap.size w w' := by
 have hu39 := Try.underlying39
 have HR0 := Aside0.mk hr0
 have HC0 := Aside0.mk hc0
 clear hr0 hc0
 have HR1 := Aside0.mk hr1
 have HC1 := Aside0.mk hc1
 clear hr1 hc1
 have HB := Aside0.mk (Below.refl w.heap.size w)
 have H : (if (l0.length : Int) = (l1.length : Int) then (laws_sameSubs.l0 k l0 l1 0) else (some false)) = some r := h
 clear h
 by_cases c3 : (l0.length : Int) = (l1.length : Int)
 ·
  rw [if_pos c3] at H
  have c3b0 : ((l0.length : Int) == (l1.length : Int)) = true := beq_iff_eq.mpr c3
  have c3b1 : ((l0.length : Int) != (l1.length : Int)) = false := bne_eq_false_iff_eq.mpr c3
  have c3b2 : (l0.length == l1.length) = true := by first | simpa using c3 | (simp at c3 ⊢; omega)
  clear c3
  have H' := Aside0.mk H
  clear H
  go_enter Try.func88, Try.ntmps88
  go_wp2
  go_loopg [5] k (fun kq v5 w' => ∃ (x5_1 : Int), v5 = .int .i64 x5_1 ∧ Aside0 (laws_sameSubs.l0 kq l0 l1 x5_1 = some r) ∧ Aside0 (kq ≤ k) ∧ Aside0 (Below w.heap.size w w'))
  case atStart => exact ⟨(0), (by first | rfl | (simp; done) | (simp [*]; done)), H', ⟨Nat.le_refl _⟩, ⟨by exact hs_ HB.out⟩⟩
  case round =>
   clear H'
   try clear c1
   try clear p2
   try clear c3
   try clear c3b0
   try clear c3b1
   try clear c3b2
   obtain ⟨x5_1, rfl, HA, HK1, HB⟩ := hrel
   cases gk with
   | zero => exact absurd HA.out (by simp [laws_sameSubs.l0])
   | succ k1 =>
    have H := HA.out
    clear HA
    simp only [laws_sameSubs.l0] at H
    by_cases c4 : x5_1 < (l0.length : Int)
    ·
     rw [if_pos c4] at H
     have c4b0 := decide_eq_true c4
     clear c4
     by_cases c5 : 0 ≤ x5_1
     ·
      rw [if_pos c5] at H
      have c5b0 := decide_eq_true c5
      clear c5
      by_cases c6 : x5_1 < (l1.length : Int)
      ·
       rw [if_pos c6] at H
       have c6b0 := decide_eq_true c6
       clear c6
       replace H := Option.bind_eq_some_iff.mp H
       obtain ⟨t1995, A70, H⟩ := H
       have A7 := Aside0.mk A70
       clear A70
       by_cases c8 : t1995 = true
       ·
        subst c8
        rw [if_pos rfl] at H
        have H' := Aside0.mk H
        clear H
        try go_wp2
        replace HB := Aside0.mk (bd_ HB.out)
        have p1993 : 0 ≤ (x5_1 : Int) := of_decide_eq_true (by with_reducible assumption)
        have q1993 : x5_1 < (l0.length : Int) := of_decide_eq_true (by with_reducible assumption)
        obtain ⟨ad1993, A1993_0, c1993_0, e1993, hx1993_0, hx1993_1, hl1993_0, hi1993_0⟩ := at_T39 HR0.out x5_1 p1993 q1993
        have hw1993_1 := hx1993_1
        have hw1993_0 := hx1993_0
        cases e1993
        replace hx1993_0 := cl_ HB.out hx1993_0
        replace hx1993_1 := cl_ HB.out hx1993_1
        have HR1993_0 := Aside0.mk hi1993_0
        have HC1993_0 := Aside0.mk hl1993_0
        clear hi1993_0 hl1993_0
        replace p1993 := eq_true p1993
        replace q1993 := eq_true q1993
        have p1994 : 0 ≤ (x5_1 : Int) := of_decide_eq_true (by with_reducible assumption)
        have q1994 : x5_1 < (l1.length : Int) := of_decide_eq_true (by with_reducible assumption)
        obtain ⟨ad1994, A1994_0, c1994_0, e1994, hx1994_0, hx1994_1, hl1994_0, hi1994_0⟩ := at_T39 HR1.out x5_1 p1994 q1994
        have hw1994_1 := hx1994_1
        have hw1994_0 := hx1994_0
        cases e1994
        replace hx1994_0 := cl_ HB.out hx1994_0
        replace hx1994_1 := cl_ HB.out hx1994_1
        have HR1994_0 := Aside0.mk hi1994_0
        have HC1994_0 := Aside0.mk hl1994_0
        clear hi1994_0 hl1994_0
        replace p1994 := eq_true p1994
        replace q1994 := eq_true q1994
        refine start_ (n := 10) (S := fun w' => w'.cell? (ad1993.add ((x5_1).toNat * 2)) = some (.slice A1993_0 ((rd_T39 l0 x5_1).f0).length c1993_0) ∧ w'.cell? ⟨(ad1993.add ((x5_1).toNat * 2)).block, (ad1993.add ((x5_1).toNat * 2)).off + 1, none⟩ = some (.bool ((rd_T39 l0 x5_1).f1)) ∧ w'.cell? (ad1994.add ((x5_1).toNat * 2)) = some (.slice A1994_0 ((rd_T39 l1 x5_1).f0).length c1994_0) ∧ w'.cell? ⟨(ad1994.add ((x5_1).toNat * 2)).block, (ad1994.add ((x5_1).toNat * 2)).off + 1, none⟩ = some (.bool ((rd_T39 l1 x5_1).f1))) (ds := []) #[f_,f_,f_,f_,f_,f_,f_,f_,f_,f_] (by kernel_rfl) rfl rfl ⟨((HB.out.cell (World.block_lt_of_cell? w _ hw1993_0)).trans hw1993_0), ((HB.out.cell (World.block_lt_of_cell? w _ hw1993_1)).trans hw1993_1), ((HB.out.cell (World.block_lt_of_cell? w _ hw1994_0)).trans hw1994_0), ((HB.out.cell (World.block_lt_of_cell? w _ hw1994_1)).trans hw1994_1)⟩ (fun hHeld => ?_); refine with_tabW laws_sameSubs.tab6 laws_sameSubs.bits6 (fun HT_ HW_ => ?_)
        generalize wr.drew = w9 at HB HR1993_0 HR1994_0 hx1993_0 hx1993_1 hx1994_0 hx1994_1 hHeld ⊢
        refine pw_ 0 17 (b_ 1 9) rfl rfl HT_.out ?_
        refine pw_ 1 18 (b_ 2 8) rfl rfl HT_.out ?_
        refine pw_ 2 19 (b_ 3 7) rfl rfl HT_.out ?_
        refine pw_ 4 21 #[t_,t_,t_,f_,t_,f_,f_,f_,f_,f_] rfl rfl HT_.out ?_
        refine pw_ 5 22 #[t_,t_,t_,f_,t_,t_,f_,f_,f_,f_] rfl rfl HT_.out ?_
        refine pw_ 6 23 #[t_,t_,t_,f_,t_,t_,t_,f_,f_,f_] rfl rfl HT_.out ?_
        refine take_ (i := 3) (N := some 20) (v := ?_) (a' := ?_) #[t_,t_,t_,t_,t_,t_,t_,f_,f_,f_] rfl rfl (take_ofW HT_.out HW_.out (by kernel_rfl)) (fun _ _ _ h => h) (Or.inl ⟨by rfl, ?_⟩) hHeld ?_ ?_
        rotate_left
        ·
         rintro w' ⟨s0, s1, s2, s3⟩
         go_simp
         with_reducible rfl
        rotate_left
        ·
         simp only [fr_]
         rfl
        refine take_ (i := 7) (N := some 24) (v := ?_) (a' := ?_) #[t_,t_,t_,t_,t_,t_,t_,t_,f_,f_] rfl rfl (take_ofW HT_.out HW_.out (by kernel_rfl)) (fun _ _ _ h => h) (Or.inl ⟨by rfl, ?_⟩) hHeld ?_ ?_
        rotate_left
        ·
         rintro w' ⟨s0, s1, s2, s3⟩
         go_simp
         with_reducible rfl
        rotate_left
        ·
         simp only [fr_]
         rfl
        refine one_ (i := 8) (N := some 25) #[t_,t_,t_,t_,t_,t_,t_,t_,t_,f_] rfl rfl (one_of HT_.out (by kernel_rfl)) (by decide) (fun K hK => ?_)
        refine gs_ Try.func84 #[.agg #[.slice A1993_0 ((rd_T39 l0 x5_1).f0).length c1993_0, .bool ((rd_T39 l0 x5_1).f1)], .agg #[.slice A1994_0 ((rd_T39 l1 x5_1).f0).length c1994_0, .bool ((rd_T39 l1 x5_1).f1)]] ?_
        with_reducible refine (impl_SameSub.calls k1 _ _ ((rd_T39 l0 x5_1).f0) ((rd_T39 l0 x5_1).f1) _ _ ((rd_T39 l1 x5_1).f0) ((rd_T39 l1 x5_1).f1) true _ ?side1 ?side2 ?side3 ?side4 A7.out).mono ?_
        (case side1 => exact cp_ ((Kd.C_below HR1993_0.out HB.out)))
        (case side2 => exact HC1993_0.out)
        (case side3 => exact cp_ ((Kd.C_below HR1994_0.out HB.out)))
        (case side4 => exact HC1994_0.out)
        rintro e w10 ⟨rfl, hb⟩
        refine ⟨_, rfl, ?_⟩
        replace HB := st_ HB hb
        (try clear hb)
        (try clear hk)
        refine hK.out _ _ ⟨((HB.out.cell (World.block_lt_of_cell? w _ hw1993_0)).trans hw1993_0), ((HB.out.cell (World.block_lt_of_cell? w _ hw1993_1)).trans hw1993_1), ((HB.out.cell (World.block_lt_of_cell? w _ hw1994_0)).trans hw1994_0), ((HB.out.cell (World.block_lt_of_cell? w _ hw1994_1)).trans hw1994_1)⟩ (fun hHeld => ?_)
        clear hK K
        refine norm_ (a' := ?_) ?_ ?_
        rotate_left
        ·
         show Act.put _ (some 25) _ = _
         simp only [fr_]
         rfl
        refine pw_ 9 26 (b_ 10 0) rfl rfl HT_.out ?_
        refine done_ (done_of HT_.out (by kernel_rfl)) ?_
        try go_wp2
        go_roundg k1
        case measure => have := HK1.out; omega
        case rel => exact ⟨(wrap64 (x5_1 + 1)), (by first | rfl | (simp; done) | (simp [*]; done)), H', ⟨by have := HK1.out; omega⟩, ⟨by exact hs_ HB.out⟩⟩
       replace c8 := Bool.eq_false_iff.mpr c8
       subst c8
       rw [if_neg (show ¬ (false = true) by decide)] at H
       obtain rfl := Option.some.inj H
       try go_wp2
       replace HB := Aside0.mk (bd_ HB.out)
       have p1993 : 0 ≤ (x5_1 : Int) := of_decide_eq_true (by with_reducible assumption)
       have q1993 : x5_1 < (l0.length : Int) := of_decide_eq_true (by with_reducible assumption)
       obtain ⟨ad1993, A1993_0, c1993_0, e1993, hx1993_0, hx1993_1, hl1993_0, hi1993_0⟩ := at_T39 HR0.out x5_1 p1993 q1993
       have hw1993_1 := hx1993_1
       have hw1993_0 := hx1993_0
       cases e1993
       replace hx1993_0 := cl_ HB.out hx1993_0
       replace hx1993_1 := cl_ HB.out hx1993_1
       have HR1993_0 := Aside0.mk hi1993_0
       have HC1993_0 := Aside0.mk hl1993_0
       clear hi1993_0 hl1993_0
       replace p1993 := eq_true p1993
       replace q1993 := eq_true q1993
       have p1994 : 0 ≤ (x5_1 : Int) := of_decide_eq_true (by with_reducible assumption)
       have q1994 : x5_1 < (l1.length : Int) := of_decide_eq_true (by with_reducible assumption)
       obtain ⟨ad1994, A1994_0, c1994_0, e1994, hx1994_0, hx1994_1, hl1994_0, hi1994_0⟩ := at_T39 HR1.out x5_1 p1994 q1994
       have hw1994_1 := hx1994_1
       have hw1994_0 := hx1994_0
       cases e1994
       replace hx1994_0 := cl_ HB.out hx1994_0
       replace hx1994_1 := cl_ HB.out hx1994_1
       have HR1994_0 := Aside0.mk hi1994_0
       have HC1994_0 := Aside0.mk hl1994_0
       clear hi1994_0 hl1994_0
       replace p1994 := eq_true p1994
       replace q1994 := eq_true q1994
       refine start_ (n := 10) (S := fun w' => w'.cell? (ad1993.add ((x5_1).toNat * 2)) = some (.slice A1993_0 ((rd_T39 l0 x5_1).f0).length c1993_0) ∧ w'.cell? ⟨(ad1993.add ((x5_1).toNat * 2)).block, (ad1993.add ((x5_1).toNat * 2)).off + 1, none⟩ = some (.bool ((rd_T39 l0 x5_1).f1)) ∧ w'.cell? (ad1994.add ((x5_1).toNat * 2)) = some (.slice A1994_0 ((rd_T39 l1 x5_1).f0).length c1994_0) ∧ w'.cell? ⟨(ad1994.add ((x5_1).toNat * 2)).block, (ad1994.add ((x5_1).toNat * 2)).off + 1, none⟩ = some (.bool ((rd_T39 l1 x5_1).f1))) (ds := []) #[f_,f_,f_,f_,f_,f_,f_,f_,f_,f_] (by kernel_rfl) rfl rfl ⟨((HB.out.cell (World.block_lt_of_cell? w _ hw1993_0)).trans hw1993_0), ((HB.out.cell (World.block_lt_of_cell? w _ hw1993_1)).trans hw1993_1), ((HB.out.cell (World.block_lt_of_cell? w _ hw1994_0)).trans hw1994_0), ((HB.out.cell (World.block_lt_of_cell? w _ hw1994_1)).trans hw1994_1)⟩ (fun hHeld => ?_); refine with_tabW laws_sameSubs.tab6 laws_sameSubs.bits6 (fun HT_ HW_ => ?_)
       generalize wr.drew = w11 at HB HR1993_0 HR1994_0 hx1993_0 hx1993_1 hx1994_0 hx1994_1 hHeld ⊢
       refine pw_ 0 17 (b_ 1 9) rfl rfl HT_.out ?_
       refine pw_ 1 18 (b_ 2 8) rfl rfl HT_.out ?_
       refine pw_ 2 19 (b_ 3 7) rfl rfl HT_.out ?_
       refine pw_ 4 21 #[t_,t_,t_,f_,t_,f_,f_,f_,f_,f_] rfl rfl HT_.out ?_
       refine pw_ 5 22 #[t_,t_,t_,f_,t_,t_,f_,f_,f_,f_] rfl rfl HT_.out ?_
       refine pw_ 6 23 #[t_,t_,t_,f_,t_,t_,t_,f_,f_,f_] rfl rfl HT_.out ?_
       refine take_ (i := 3) (N := some 20) (v := ?_) (a' := ?_) #[t_,t_,t_,t_,t_,t_,t_,f_,f_,f_] rfl rfl (take_ofW HT_.out HW_.out (by kernel_rfl)) (fun _ _ _ h => h) (Or.inl ⟨by rfl, ?_⟩) hHeld ?_ ?_
       rotate_left
       ·
        rintro w' ⟨s0, s1, s2, s3⟩
        go_simp
        with_reducible rfl
       rotate_left
       ·
        simp only [fr_]
        rfl
       refine take_ (i := 7) (N := some 24) (v := ?_) (a' := ?_) #[t_,t_,t_,t_,t_,t_,t_,t_,f_,f_] rfl rfl (take_ofW HT_.out HW_.out (by kernel_rfl)) (fun _ _ _ h => h) (Or.inl ⟨by rfl, ?_⟩) hHeld ?_ ?_
       rotate_left
       ·
        rintro w' ⟨s0, s1, s2, s3⟩
        go_simp
        with_reducible rfl
       rotate_left
       ·
        simp only [fr_]
        rfl
       refine one_ (i := 8) (N := some 25) #[t_,t_,t_,t_,t_,t_,t_,t_,t_,f_] rfl rfl (one_of HT_.out (by kernel_rfl)) (by decide) (fun K hK => ?_)
       refine gs_ Try.func84 #[.agg #[.slice A1993_0 ((rd_T39 l0 x5_1).f0).length c1993_0, .bool ((rd_T39 l0 x5_1).f1)], .agg #[.slice A1994_0 ((rd_T39 l1 x5_1).f0).length c1994_0, .bool ((rd_T39 l1 x5_1).f1)]] ?_
       with_reducible refine (impl_SameSub.calls k1 _ _ ((rd_T39 l0 x5_1).f0) ((rd_T39 l0 x5_1).f1) _ _ ((rd_T39 l1 x5_1).f0) ((rd_T39 l1 x5_1).f1) false _ ?side1 ?side2 ?side3 ?side4 A7.out).mono ?_
       (case side1 => exact cp_ ((Kd.C_below HR1993_0.out HB.out)))
       (case side2 => exact HC1993_0.out)
       (case side3 => exact cp_ ((Kd.C_below HR1994_0.out HB.out)))
       (case side4 => exact HC1994_0.out)
       rintro e w12 ⟨rfl, hb⟩
       refine ⟨_, rfl, ?_⟩
       replace HB := st_ HB hb
       (try clear hb)
       (try clear hk)
       refine hK.out _ _ ⟨((HB.out.cell (World.block_lt_of_cell? w _ hw1993_0)).trans hw1993_0), ((HB.out.cell (World.block_lt_of_cell? w _ hw1993_1)).trans hw1993_1), ((HB.out.cell (World.block_lt_of_cell? w _ hw1994_0)).trans hw1994_0), ((HB.out.cell (World.block_lt_of_cell? w _ hw1994_1)).trans hw1994_1)⟩ (fun hHeld => ?_)
       clear hK K
       refine norm_ (a' := ?_) ?_ ?_
       rotate_left
       ·
        show Act.put _ (some 25) _ = _
        simp only [fr_]
        rfl
       refine pw_ 9 26 (b_ 10 0) rfl rfl HT_.out ?_
       refine done_ (done_of HT_.out (by kernel_rfl)) ?_
       try go_wp2
       go_ret
       exact an_ (by exact hs_ HB.out)
      rw [if_neg c6] at H
      exact absurd H (by simp)
     rw [if_neg c5] at H
     exact absurd H (by simp)
    rw [if_neg c4] at H
    have c4b0 : decide (x5_1 < (l0.length : Int)) = false := decide_eq_false c4
    clear c4
    obtain rfl := Option.some.inj H
    go_wp2
    go_ret
    exact an_ (by exact hs_ HB.out)
 rw [if_neg c3] at H
 have c3b0 : ((l0.length : Int) == (l1.length : Int)) = false := beq_eq_false_iff_ne.mpr c3
 have c3b1 : ((l0.length : Int) != (l1.length : Int)) = true := bne_iff_ne.mpr c3
 have c3b2 : (l0.length == l1.length) = false := by first | simpa using c3 | (simp at c3 ⊢; omega)
 obtain rfl := Option.some.inj H
 go_enter Try.func88, Try.ntmps88
 go_wp2
 go_ret
 exact an_ (by exact hs_ HB.out)
end Go.Proofs.Ytfholjcelnkleaa.Print
end
