import Derived.Test.YtfholjcelnkleaaMFnExactJoinAll1
import Derived.Test.YtfholjcelnkleaaMFnExactJoinAll2
import Derived.Test.YtfholjcelnkleaaMFnExactJoinAll3
import Derived.Laws.Cover1
section
namespace Go.Proofs.Ytfholjcelnkleaa.Print
open Go.RowKit Go.Proofs.YtfholjcelnkleaaV.PrintWords Go.Proofs.YtfholjcelnkleaaV.PrintLast Go.Proofs.YtfholjcelnkleaaV.PrintMore
attribute [local go_sem] max2_int min2_int max_two min_two max_three min_three max_four min_four
set_option linter.unusedVariables false
set_option linter.unusedSimpArgs false
set_option maxHeartbeats 8000000
set_option maxRecDepth 100000
def spec_JoinAll.f (k : Nat) (l0 : List (S75)) (l1_0 : List (S164)) (a1_1 : Int) (a1_2 : Int) (a1_3 : ByteArray) (l2 : List ByteArray) (a3 : Int) (a4 : Int) : Option ((List (S75)) × Bool) := (spec_l12Copy.f k l0).bind fun t1418 => ((spec_KeyOf.f k l1_0 a1_1 a1_2 a1_3 l2).bind fun t1421 => ((spec_GroupOf.f k l0 t1421).bind fun t1424 => (if t1424 ≥ 0 then (if 0 ≤ t1424 then (if t1424 < (l0.length : Int) then ((spec_JoinIn.f k ((rd_T75 l0 t1424).f0) ((rd_T75 l0 t1424).f1) ((rd_T75 l0 t1424).f2) ((rd_T75 l0 t1424).f3) ((rd_T75 l0 t1424).f4) l1_0 a1_1 a1_2 a1_3).bind fun bt1426 => (if t1424 < (t1418.length : Int) then (some ((t1418.set (t1424 : Int).toNat (⟨bt1426.1, bt1426.2.1, bt1426.2.2.1, bt1426.2.2.2.1, bt1426.2.2.2.2⟩ : S75)), false)) else (none))) else (none)) else (none)) else ((spec_l4Copy.f l1_0 a1_1 a1_2 a1_3).bind fun bt1437 => (if t1418.length < 1954687338268 then (some ((t1418 ++ [(⟨a3, t1421, a4, (-1), (([(⟨bt1437.1, bt1437.2.1, bt1437.2.2.1, bt1437.2.2.2⟩ : S44)] : List (S44)))⟩ : S75)]), true)) else (none))))))
theorem spec_JoinAll.mono : ∀ a0 a1 a2 a3 a4 a5 a6 a7 k, LeO (spec_JoinAll.f k a0 a1 a2 a3 a4 a5 a6 a7) (spec_JoinAll.f (k + 1) a0 a1 a2 a3 a4 a5 a6 a7) := by
 intro a0 a1 a2 a3 a4 a5 a6 a7 k
 unfold spec_JoinAll.f
 repeat' first
   | (with_reducible exact spec_GroupOf.mono _ _ _)
   | (with_reducible exact spec_JoinIn.mono _ _ _ _ _ _ _ _ _ _)
   | (with_reducible exact spec_KeyOf.mono _ _ _ _ _ _)
   | (with_reducible exact spec_l12Copy.mono _ _)
   | (with_reducible exact LeO.refl _)
   | (with_reducible exact LeO.none _)
   | (with_reducible refine LeO.ite ?_ ?_)
   | (with_reducible refine LeO.bind ?_ (fun _ => ?_))
   | exact spec_GroupOf.mono _ _ _
   | exact spec_JoinIn.mono _ _ _ _ _ _ _ _ _ _
   | exact spec_KeyOf.mono _ _ _ _ _ _
   | exact spec_l12Copy.mono _ _
def spec_JoinAll.T5 : Bool × List (List Nat × List Nat) := (true, [([], []), ([], []), ([0, 1], [0, 1]), ([2], [2]), ([], []), ([3, 4], [3, 4]), ([], []), ([6, 5, 5, 0, 1, 2, 3, 4, 5, 6], [5, 6])])
def spec_JoinAll.B5 : List Nat := [0, 0, 3, 7, 0, 31, 0, 127]
theorem spec_JoinAll.tab5 : rtab .any (opsOf Try.f70 5) = spec_JoinAll.T5 := by kernel_rfl
theorem spec_JoinAll.bits5 : waitsOk spec_JoinAll.T5.2 spec_JoinAll.B5 = true := by kernel_rfl
theorem spec_JoinAll.calls (k : Nat) (A0 : Option Addr) (c0 : Nat) (l0 : List (S75)) (A1_0 : Option Addr) (c1_0 : Nat) (l1_0 : List (S164)) (a1_1 : Int) (a1_2 : Int) (a1_3 : ByteArray) (A2 : Option Addr) (c2 : Nat) (l2 : List ByteArray) (a3 : Int) (a4 : Int) (r1 : List (S75)) (r2 : Bool) (w : World) (hr0 : Kd.C k75 w A0 l0.length l0) (hc0 : l0.length ≤ c0) (hr1_0 : Kd.C k164 w A1_0 l1_0.length l1_0) (hc1_0 : l1_0.length ≤ c1_0) (hr2 : Kd.C Kd.string w A2 l2.length l2) (hc2 : l2.length ≤ c2) (h : spec_JoinAll.f k l0 l1_0 a1_1 a1_2 a1_3 l2 a3 a4 = some (r1, r2)) :
  Calls Try.prog 70 #[.slice A0 l0.length c0, .agg #[.slice A1_0 l1_0.length c1_0, .int .i64 a1_1, .int .i64 a1_2, .string a1_3], .slice A2 l2.length c2, .int .i64 a3, .int .i64 a4] w fun e w' => ∃ v0_ : Value, e = .returned (.tuple #[v0_, .bool r2]) ∧ Kd.S k75 75 w' w.heap.size (fun _ => True) v0_ r1 ∧ Below w.heap.size w w' := by
 have hu44 := Try.underlying44
 have hu75 := Try.underlying75
 have HR0 := Aside0.mk hr0
 have HC0 := Aside0.mk hc0
 clear hr0 hc0
 have HR1_0 := Aside0.mk hr1_0
 have HC1_0 := Aside0.mk hc1_0
 clear hr1_0 hc1_0
 have HR2 := Aside0.mk hr2
 have HC2 := Aside0.mk hc2
 clear hr2 hc2
 have HB := Aside0.mk (Below.refl w.heap.size w)
 have H : ((spec_l12Copy.f k l0).bind fun t1418 => ((spec_KeyOf.f k l1_0 a1_1 a1_2 a1_3 l2).bind fun t1421 => ((spec_GroupOf.f k l0 t1421).bind fun t1424 => (if t1424 ≥ 0 then (if 0 ≤ t1424 then (if t1424 < (l0.length : Int) then ((spec_JoinIn.f k ((rd_T75 l0 t1424).f0) ((rd_T75 l0 t1424).f1) ((rd_T75 l0 t1424).f2) ((rd_T75 l0 t1424).f3) ((rd_T75 l0 t1424).f4) l1_0 a1_1 a1_2 a1_3).bind fun bt1426 => (if t1424 < (t1418.length : Int) then (some ((t1418.set (t1424 : Int).toNat (⟨bt1426.1, bt1426.2.1, bt1426.2.2.1, bt1426.2.2.2.1, bt1426.2.2.2.2⟩ : S75)), false)) else (none))) else (none)) else (none)) else ((spec_l4Copy.f l1_0 a1_1 a1_2 a1_3).bind fun bt1437 => (if t1418.length < 1954687338268 then (some ((t1418 ++ [(⟨a3, t1421, a4, (-1), (([(⟨bt1437.1, bt1437.2.1, bt1437.2.2.1, bt1437.2.2.2⟩ : S44)] : List (S44)))⟩ : S75)]), true)) else (none))))))) = some (r1, r2) := h
 clear h
 replace H := Option.bind_eq_some_iff.mp H
 obtain ⟨t1418, A60, H⟩ := H
 have A6 := Aside0.mk A60
 clear A60
 replace H := Option.bind_eq_some_iff.mp H
 obtain ⟨t1421, A70, H⟩ := H
 have A7 := Aside0.mk A70
 clear A70
 replace H := Option.bind_eq_some_iff.mp H
 obtain ⟨t1424, A80, H⟩ := H
 have A8 := Aside0.mk A80
 clear A80
 by_cases c9 : t1424 ≥ 0
 ·
  rw [if_pos c9] at H
  have c9b0 : decide (0 ≤ t1424) = true := decide_eq_true c9
  clear c9
  by_cases c10 : 0 ≤ t1424
  ·
   rw [if_pos c10] at H
   have c10b0 := decide_eq_true c10
   clear c10
   by_cases c11 : t1424 < (l0.length : Int)
   ·
    rw [if_pos c11] at H
    have c11b0 := decide_eq_true c11
    clear c11
    replace H := Option.bind_eq_some_iff.mp H
    obtain ⟨⟨t1426, t1427, t1430, t1431, t1432⟩, A120, H⟩ := H
    have A12 := Aside0.mk A120
    clear A120
    by_cases c13 : t1424 < (t1418.length : Int)
    ·
     rw [if_pos c13] at H
     have c13b0 := decide_eq_true c13
     clear c13
     obtain ⟨y1436, hy1436⟩ : ∃ y_ : List (S75), y_ = (t1418.set (t1424 : Int).toNat (⟨t1426, t1427, t1430, t1431, t1432⟩ : S75)) := ⟨_, rfl⟩
     replace H : (some (y1436, false)) = some (r1, r2) := by first | (rw [hy1436]; with_reducible exact H) | (have H2_ := (Option.bind_some _ _).symm.trans H; rw [hy1436]; with_reducible exact H2_) | (have H2_ := (Option.bind_some _ _).symm.trans H; with_reducible exact H2_) | with_reducible exact H | (rw [hy1436]; exact H) | exact H
     have Ny1436 := Aside0.mk hy1436
     clear hy1436
     simp only [Option.some.injEq, Prod.mk.injEq] at H
     obtain ⟨rfl, rfl⟩ := H
     go_enter Try.func70, Try.ntmps70
     try go_wp2_with (first | ((with_reducible refine gate_dst (N := 6) rfl ?_); refine box_event ?hg (N := 6) ?hd (cs := #[.slice A1_0 l1_0.length c1_0, .int .i64 a1_1, .int .i64 a1_2, .string a1_3]) (t := 44) ?hr ?_; (case hd => rfl); (case hg => rfl); (case hr => first | (go_simp; done) | (go_simp; rfl)); intro gb1417 hg w15 hbox hb; have BK1417 := Aside0.mk (hbox); have GW1417 := Aside0.mk ((by rw [hg]; exact (below_size (hb_ HB.out)) : w.heap.size ≤ gb1417)); replace HB := Aside0.mk (below_step (hb_ HB.out) hb); have GE1417 := GW1417; clear hb hbox hg) | ((with_reducible refine gate_callee (f := 127) rfl ?_); refine goesL_ (some 17) rfl rfl Try.func127 (by kernel_rfl) rfl #[.slice A0 l0.length c0] rfl (by (try simp only [mp_]); first | done | rfl | (simp only [List.length_drop, List.length_take]; rfl)) ?_; (with_reducible refine (spec_l12Copy.calls k _ _ l0 t1418 _ ?side1 ?side2 A6.out).mono ?_); (case side1 => exact cp_ ((Kd.C_below HR0.out HB.out))); (case side2 => exact HC0.out); rintro e w16 ⟨v1419, rfl, ho0, hb⟩; refine ⟨_, rfl, ?_⟩; obtain ⟨gbz1419, hz1419⟩ := Kd.S_name ho0; have HO1420 := Aside0.mk (Kd.S_lower (Kd.S_newB (Kd.S_gez hz1419 ho0) (g := gb1417) (o := .cells #[.slice A1_0 l1_0.length c1_0, .int .i64 a1_1, .int .i64 a1_2, .string a1_3] 44 (0, 0)) (pb_ BK1417.out)) (below_size (by repeat (first | (with_reducible first | exact HB.out | apply ba_ | apply bn_ | apply bd_ | apply bs_ GE1417) | exact HB.out)))); replace BK1417 := Aside0.mk (bb_ BK1417.out hb); replace HB := Aside0.mk (below_step (by repeat (first | (with_reducible first | exact HB.out | apply ba_ | apply bn_ | apply bd_ | apply bs_ GE1417) | exact HB.out)) hb); (try clear hb); (try clear hb2); (try clear hk); (try clear hi); (try clear ho0); obtain ⟨hcz17_0, hcz17_1, hcz17_2, hcz17_3, hfz17_0, hfz17_1, hfz17_2, hfz17_3⟩ := bc4_ BK1417.out) | ((with_reducible refine gate_callee (f := 107) rfl ?_); refine goesL_ (some 20) rfl rfl Try.func107 (by kernel_rfl) rfl #[.agg #[.slice A1_0 l1_0.length c1_0, .int .i64 a1_1, .int .i64 a1_2, .string a1_3], .slice A2 l2.length c2] rfl (by (try simp only [mp_]); first | done | rfl | (simp only [List.length_drop, List.length_take]; rfl)) ?_; (with_reducible refine (spec_KeyOf.calls k _ _ l1_0 a1_1 a1_2 a1_3 _ _ l2 t1421 _ ?side1 ?side2 ?side3 ?side4 A7.out).mono ?_); (case side1 => exact cp_ ((Kd.C_below HR1_0.out HB.out))); (case side2 => exact HC1_0.out); (case side3 => exact cp_ ((Kd.C_below HR2.out HB.out))); (case side4 => exact HC2.out); rintro e w18 ⟨v1422, rfl, ho0, hb⟩; refine ⟨_, rfl, ?_⟩; obtain ⟨gbz1422, hz1422⟩ := Kd.R_name ho0; replace HO1420 := Aside0.mk (Kd.S_below (Kd.S_ltz hz1422 (sp_ HO1420.out)) hb); have HO1423 := Aside0.mk (Kd.R_lower (Kd.R_gez hz1422 ho0) (below_size (by repeat (first | (with_reducible first | exact HB.out | apply ba_ | apply bn_ | apply bd_ | apply bs_ GE1417) | exact HB.out)))); replace BK1417 := Aside0.mk (bb_ BK1417.out hb); replace HB := Aside0.mk (below_step (by repeat (first | (with_reducible first | exact HB.out | apply ba_ | apply bn_ | apply bd_ | apply bs_ GE1417) | exact HB.out)) hb); (try clear hb); (try clear hb2); (try clear hk); (try clear hi); (try clear ho0); obtain ⟨Ao19, co19, eo19⟩ := Kd.R_slice HO1423.out; subst eo19) | ((with_reducible refine gate_callee (f := 128) rfl ?_); refine goesL_ (some 23) rfl rfl Try.func128 (by kernel_rfl) rfl #[.slice A0 l0.length c0, .slice Ao19 t1421.length co19] rfl (by (try simp only [mp_]); first | done | rfl | (simp only [List.length_drop, List.length_take]; rfl)) ?_; (with_reducible refine (spec_GroupOf.calls k _ _ l0 _ _ t1421 t1424 _ ?side1 ?side2 ?side3 ?side4 A8.out).mono ?_); (case side1 => exact cp_ ((Kd.C_below HR0.out HB.out))); (case side2 => exact HC0.out); (case side3 => exact cp_ ((Kd.R_reads' HO1423.out).2.2)); (case side4 => exact (Kd.R_reads' HO1423.out).2.1); rintro e w' ⟨rfl, ⟨nd, rfl⟩⟩; refine ⟨_, rfl, ?_⟩; (try (rw [drewN_self w18]; generalize hq_ : World.drewN w18 _ = w18; replace HO1420 : Aside0 (Kd.S k75 75 w18 w.heap.size (fun k_ => k_ ≠ gb1417 ∧ gbz1419 ≤ k_ ∧ k_ < gbz1422) v1419 t1418) := ⟨by rw [← hq_]; exact (by (with_reducible repeat (first | apply Kd.S_alloc | apply Kd.S_drewN | apply Kd.S_drew)); exact Kd.S_mono HO1420.out (fun _ hk => ⟨hk.1.2, ⟨hk.1.1.2, hk.2⟩⟩))⟩; replace HO1423 : Aside0 (Kd.R k164 164 w18 w.heap.size (fun k_ => gbz1422 ≤ k_) (.slice Ao19 t1421.length co19) t1421) := ⟨by rw [← hq_]; exact (by (with_reducible repeat (first | apply Kd.R_alloc | apply Kd.R_drewN | apply Kd.R_drew)); exact Kd.R_mono HO1423.out (fun _ hk => hk.2))⟩; replace BK1417 : Aside0 (w18.heap[gb1417]? = some (.cells #[.slice A1_0 l1_0.length c1_0, .int .i64 a1_1, .int .i64 a1_2, .string a1_3] 44 (0, 0))) := ⟨by rw [← hq_]; exact (pb_ BK1417.out)⟩; replace HB : Aside0 (Below w.heap.size w w18) := ⟨by rw [← hq_]; exact (by repeat (first | (with_reducible first | exact HB.out | apply ba_ | apply bn_ | apply bd_ | apply bs_ GE1417) | exact HB.out))⟩; clear hq_))))
     replace HO1420 := Aside0.mk (Kd.S_drew HO1420.out)
     replace HO1423 := Aside0.mk (Kd.R_drew HO1423.out)
     replace BK1417 := Aside0.mk (blk_drew BK1417.out)
     replace HB := Aside0.mk (bd_ HB.out)
     have p1425 : 0 ≤ (t1424 : Int) := of_decide_eq_true (by with_reducible assumption)
     have q1425 : t1424 < (l0.length : Int) := of_decide_eq_true (by with_reducible assumption)
     obtain ⟨ad1425, A1425_1, c1425_1, A1425_4, c1425_4, e1425, hx1425_0, hx1425_1, hx1425_2, hx1425_3, hx1425_4, hl1425_1, hi1425_1, hl1425_4, hi1425_4⟩ := at_T75 HR0.out t1424 p1425 q1425
     have hw1425_4 := hx1425_4
     have hw1425_3 := hx1425_3
     have hw1425_2 := hx1425_2
     have hw1425_1 := hx1425_1
     have hw1425_0 := hx1425_0
     cases e1425
     replace hx1425_0 := cl_ HB.out hx1425_0
     replace hx1425_1 := cl_ HB.out hx1425_1
     replace hx1425_2 := cl_ HB.out hx1425_2
     replace hx1425_3 := cl_ HB.out hx1425_3
     replace hx1425_4 := cl_ HB.out hx1425_4
     have HR1425_1 := Aside0.mk hi1425_1
     have HC1425_1 := Aside0.mk hl1425_1
     clear hi1425_1 hl1425_1
     have HR1425_4 := Aside0.mk hi1425_4
     have HC1425_4 := Aside0.mk hl1425_4
     clear hi1425_4 hl1425_4
     replace p1425 := eq_true p1425
     replace q1425 := eq_true q1425
     refine start_ (n := 8) (S := fun w' => w'.cell? ⟨gb1417, 0, none⟩ = some (.slice A1_0 l1_0.length c1_0) ∧ w'.cell? ⟨gb1417, 1, none⟩ = some (.int .i64 a1_1) ∧ w'.cell? ⟨gb1417, 2, none⟩ = some (.int .i64 a1_2) ∧ w'.cell? ⟨gb1417, 3, none⟩ = some (.string a1_3) ∧ w'.cell? (ad1425.add ((t1424).toNat * 5)) = some (.int .i64 ((rd_T75 l0 t1424).f0)) ∧ w'.cell? ⟨(ad1425.add ((t1424).toNat * 5)).block, (ad1425.add ((t1424).toNat * 5)).off + 1, none⟩ = some (.slice A1425_1 ((rd_T75 l0 t1424).f1).length c1425_1) ∧ w'.cell? ⟨(ad1425.add ((t1424).toNat * 5)).block, (ad1425.add ((t1424).toNat * 5)).off + 2, none⟩ = some (.int .i64 ((rd_T75 l0 t1424).f2)) ∧ w'.cell? ⟨(ad1425.add ((t1424).toNat * 5)).block, (ad1425.add ((t1424).toNat * 5)).off + 3, none⟩ = some (.int .i64 ((rd_T75 l0 t1424).f3)) ∧ w'.cell? ⟨(ad1425.add ((t1424).toNat * 5)).block, (ad1425.add ((t1424).toNat * 5)).off + 4, none⟩ = some (.slice A1425_4 ((rd_T75 l0 t1424).f4).length c1425_4)) (ds := []) #[f_,f_,f_,f_,f_,f_,f_,f_] (by kernel_rfl) rfl rfl ⟨bx_ BK1417.out 0, bx_ BK1417.out 1, bx_ BK1417.out 2, bx_ BK1417.out 3, ((HB.out.cell (World.block_lt_of_cell? w _ hw1425_0)).trans hw1425_0), ((HB.out.cell (World.block_lt_of_cell? w _ hw1425_1)).trans hw1425_1), ((HB.out.cell (World.block_lt_of_cell? w _ hw1425_2)).trans hw1425_2), ((HB.out.cell (World.block_lt_of_cell? w _ hw1425_3)).trans hw1425_3), ((HB.out.cell (World.block_lt_of_cell? w _ hw1425_4)).trans hw1425_4)⟩ (fun hHeld => ?_); refine with_tabW spec_JoinAll.tab5 spec_JoinAll.bits5 (fun HT_ HW_ => ?_)
     generalize w18.drew = w20 at HO1420 HO1423 BK1417 HB HR1425_1 HR1425_4 hx1425_0 hx1425_1 hx1425_2 hx1425_3 hx1425_4 hHeld ⊢
     refine pu_ 0 26 ?_ (b_ 1 7) rfl rfl HT_.out ?_ ?_ ?_ ?_; rotate_left; intro w'; go_simp; with_reducible rfl; rotate_left; simp only [fr_]; rfl
     refine pu_ 1 27 ?_ (b_ 2 6) rfl rfl HT_.out ?_ ?_ ?_ ?_; rotate_left; intro w'; go_simp; with_reducible rfl; rotate_left; simp only [fr_]; rfl
     refine pu_ 2 28 ?_ (b_ 3 5) rfl rfl HT_.out ?_ ?_ ?_ ?_; rotate_left; intro w'; go_simp; with_reducible rfl; rotate_left; simp only [fr_]; rfl
     refine take_ (i := 3) (N := some 29) (v := ?_) (a' := ?_) #[t_,t_,t_,t_,f_,f_,f_,f_] rfl rfl (take_ofW HT_.out HW_.out (by kernel_rfl)) (fun _ _ _ h => h) (Or.inl ⟨by rfl, ?_⟩) hHeld ?_ ?_
     rotate_left
     ·
      rintro w' ⟨s0, s1, s2, s3, s4, s5, s6, s7, s8⟩
      go_simp
      with_reducible rfl
     rotate_left
     ·
      simp only [fr_]
      rfl
     refine take_ (i := 4) (N := some 30) (v := ?_) (a' := ?_) #[t_,t_,t_,t_,t_,f_,f_,f_] rfl rfl (take_ofW HT_.out HW_.out (by kernel_rfl)) (fun _ _ _ h => h) (Or.inl ⟨by rfl, ?_⟩) hHeld ?_ ?_
     rotate_left
     ·
      rintro w' ⟨s0, s1, s2, s3, s4, s5, s6, s7, s8⟩
      go_simp
      with_reducible rfl
     rotate_left
     ·
      simp only [fr_]
      rfl
     refine join_ (σ := Value × Value × Nat × Nat) 1 #[t_,t_,t_,t_,t_,t_,t_,f_] (fun s_ => [(31, .agg #[.int .i64 t1426, s_.1, .int .i64 t1430, .int .i64 t1431, s_.2.1]), (15, .pointer (some ⟨s_.2.2.2, 0, none⟩))]) (fun s_ w' => (w'.cell? ⟨gb1417, 0, none⟩ = some (.slice A1_0 l1_0.length c1_0) ∧ w'.cell? ⟨gb1417, 1, none⟩ = some (.int .i64 a1_1) ∧ w'.cell? ⟨gb1417, 2, none⟩ = some (.int .i64 a1_2) ∧ w'.cell? ⟨gb1417, 3, none⟩ = some (.string a1_3) ∧ w'.cell? (ad1425.add ((t1424).toNat * 5)) = some (.int .i64 ((rd_T75 l0 t1424).f0)) ∧ w'.cell? ⟨(ad1425.add ((t1424).toNat * 5)).block, (ad1425.add ((t1424).toNat * 5)).off + 1, none⟩ = some (.slice A1425_1 ((rd_T75 l0 t1424).f1).length c1425_1) ∧ w'.cell? ⟨(ad1425.add ((t1424).toNat * 5)).block, (ad1425.add ((t1424).toNat * 5)).off + 2, none⟩ = some (.int .i64 ((rd_T75 l0 t1424).f2)) ∧ w'.cell? ⟨(ad1425.add ((t1424).toNat * 5)).block, (ad1425.add ((t1424).toNat * 5)).off + 3, none⟩ = some (.int .i64 ((rd_T75 l0 t1424).f3)) ∧ w'.cell? ⟨(ad1425.add ((t1424).toNat * 5)).block, (ad1425.add ((t1424).toNat * 5)).off + 4, none⟩ = some (.slice A1425_4 ((rd_T75 l0 t1424).f4).length c1425_4)) ∧ (Kd.S k75 75 w' w.heap.size (fun k_ => k_ ≠ gb1417 ∧ k_ ≠ s_.2.2.2 ∧ gbz1419 ≤ k_ ∧ k_ < gbz1422 ∧ k_ < s_.2.2.1) v1419 t1418) ∧ (Kd.R k164 164 w' w.heap.size (fun k_ => gbz1422 ≤ k_ ∧ k_ < s_.2.2.1) (.slice Ao19 t1421.length co19) t1421) ∧ (Kd.R k164 164 w' w.heap.size (fun k_ => s_.2.2.1 ≤ k_) s_.1 t1427) ∧ (Kd.S k44 44 w' w.heap.size (fun k_ => some k_ ≠ (s_.1 : Value).ownBlock ∧ k_ ≠ gb1417 ∧ s_.2.2.1 ≤ k_) s_.2.1 t1432) ∧ (w'.heap[gb1417]? = some (.cells #[.slice A1_0 l1_0.length c1_0, .int .i64 a1_1, .int .i64 a1_2, .string a1_3] 44 (0, 0))) ∧ (w'.heap[s_.2.2.2]? = some (.cells #[.int .i64 0, .slice none 0 0, .int .i64 0, .int .i64 0, .slice none 0 0] 75 (0, 0))) ∧ (w.heap.size ≤ s_.2.2.2) ∧ (w.heap.size ≤ s_.2.2.2) ∧ (gb1417 ≠ s_.2.2.2) ∧ (s_.2.2.2 ≠ gb1417) ∧ (Below w.heap.size w w')) ?_ ?_
     rotate_left
     ·
      intro hCont
      refine two_ (i := 5) (j := 6) (Ni := some 31) (Nj := some 15) #[t_,t_,t_,t_,t_,t_,f_,f_] #[t_,t_,t_,t_,t_,f_,t_,f_] rfl rfl rfl rfl (two_of HT_.out (by kernel_rfl)) (by decide) (by decide) (fun K hK => ?_) (fun K hK => ?_)
      ·
       skip
       refine goes_ Try.func56 (by kernel_rfl) rfl #[.agg #[.int .i64 ((rd_T75 l0 t1424).f0), .slice A1425_1 ((rd_T75 l0 t1424).f1).length c1425_1, .int .i64 ((rd_T75 l0 t1424).f2), .int .i64 ((rd_T75 l0 t1424).f3), .slice A1425_4 ((rd_T75 l0 t1424).f4).length c1425_4], .agg #[.slice A1_0 l1_0.length c1_0, .int .i64 a1_1, .int .i64 a1_2, .string a1_3]] (by rfl) rfl rfl (by (try simp only [mp_]); first | done | rfl | (simp only [List.length_drop, List.length_take]; rfl)) ?_
       with_reducible refine (spec_JoinIn.calls k ((rd_T75 l0 t1424).f0) _ _ ((rd_T75 l0 t1424).f1) ((rd_T75 l0 t1424).f2) ((rd_T75 l0 t1424).f3) _ _ ((rd_T75 l0 t1424).f4) _ _ l1_0 a1_1 a1_2 a1_3 t1426 t1427 t1430 t1431 t1432 _ ?side1 ?side2 ?side3 ?side4 ?side5 ?side6 A12.out).mono ?_
       (case side1 => exact cp_ ((Kd.C_below HR1425_1.out HB.out)))
       (case side2 => exact HC1425_1.out)
       (case side3 => exact cp_ ((Kd.C_below HR1425_4.out HB.out)))
       (case side4 => exact HC1425_4.out)
       (case side5 => exact cp_ ((Kd.C_below HR1_0.out HB.out)))
       (case side6 => exact HC1_0.out)
       rintro e w21 ⟨v1428, v1433, rfl, ho0, ho1, hb⟩
       refine ⟨_, rfl, ?_⟩
       obtain ⟨gbz1428, hz1428⟩ := Kd.R_name ho0
       replace HO1420 := Aside0.mk (Kd.S_below (Kd.S_ltz hz1428 (sp_ HO1420.out)) hb)
       replace HO1423 := Aside0.mk (Kd.R_below (Kd.R_ltz hz1428 (rp_ HO1423.out)) hb)
       have HO1429 := Aside0.mk (Kd.R_lower (Kd.R_gez hz1428 ho0) (below_size (by repeat (first | (with_reducible first | exact HB.out | apply ba_ | apply bn_ | apply bd_ | apply bs_ GE1417) | exact HB.out))))
       have HO1434 := Aside0.mk (Kd.S_lower (Kd.S_newB (Kd.S_gez hz1428 ho1) (g := gb1417) (o := .cells #[.slice A1_0 l1_0.length c1_0, .int .i64 a1_1, .int .i64 a1_2, .string a1_3] 44 (0, 0)) (pb_ BK1417.out)) (below_size (by repeat (first | (with_reducible first | exact HB.out | apply ba_ | apply bn_ | apply bd_ | apply bs_ GE1417) | exact HB.out))))
       replace BK1417 := Aside0.mk (bb_ BK1417.out hb)
       replace HB := Aside0.mk (below_step (by repeat (first | (with_reducible first | exact HB.out | apply ba_ | apply bn_ | apply bd_ | apply bs_ GE1417) | exact HB.out)) hb)
       (try clear hb)
       (try clear hb2)
       (try clear hk)
       (try clear hi)
       (try clear ho0)
       (try clear ho1)
       refine hK.out _ _ ⟨bx_ BK1417.out 0, bx_ BK1417.out 1, bx_ BK1417.out 2, bx_ BK1417.out 3, ((HB.out.cell (World.block_lt_of_cell? w _ hw1425_0)).trans hw1425_0), ((HB.out.cell (World.block_lt_of_cell? w _ hw1425_1)).trans hw1425_1), ((HB.out.cell (World.block_lt_of_cell? w _ hw1425_2)).trans hw1425_2), ((HB.out.cell (World.block_lt_of_cell? w _ hw1425_3)).trans hw1425_3), ((HB.out.cell (World.block_lt_of_cell? w _ hw1425_4)).trans hw1425_4)⟩ (fun hHeld => ?_)
       clear hK K
       refine norm_ (a' := ?_) ?_ ?_
       rotate_left
       ·
        show Act.put _ (some 31) _ = _
        simp only [fr_]
        rfl
       refine one_ (i := 6) (N := some 15) #[t_,t_,t_,t_,t_,t_,t_,f_] rfl rfl (one_of HT_.out (by kernel_rfl)) (by decide) (fun K hK => ?_)
       refine box_step ?hg (N := 15) ?hd (cs := #[.int .i64 0, .slice none 0 0, .int .i64 0, .int .i64 0, .slice none 0 0]) (t := 75) ?hr ?_; (case hd => rfl); (case hg => rfl); (case hr => first | (go_simp; done) | (go_simp; rfl))
       intro gb1435 hg w22 hbox hb
       have n0_ := Aside0.mk (Kd.S_below (Kd.S_elderB (sp_ HO1420.out) gb1435 (Nat.le_of_eq hg.symm)) hb)
       have n1_ := Aside0.mk (Kd.R_below (rp_ HO1423.out) hb)
       have n2_ := Aside0.mk (Kd.R_below (rp_ HO1429.out) hb)
       have n3_ := Aside0.mk (Kd.S_below (sp_ HO1434.out) hb)
       have n4_ := Aside0.mk (bb_ BK1417.out hb)
       have n5_ := Aside0.mk (below_step (by repeat (first | (with_reducible first | exact HB.out | apply ba_ | apply bn_ | apply bd_ | apply bs_ GE1417) | exact HB.out)) hb)
       have n6_ := Aside0.mk (hbox)
       have n7_ := Aside0.mk ((by rw [hg]; exact (below_size (by repeat (first | (with_reducible first | exact HB.out | apply ba_ | apply bn_ | apply bd_ | apply bs_ GE1417) | exact HB.out))) : w.heap.size ≤ gb1435))
       have n8_ := Aside0.mk ((by rw [hg]; exact (below_size (by repeat (first | (with_reducible first | exact HB.out | apply ba_ | apply bn_ | apply bd_ | apply bs_ GE1417) | exact HB.out))) : w.heap.size ≤ gb1435))
       have n9_ := Aside0.mk (nl_ BK1417.out hg)
       have n10_ := Aside0.mk (ng_ BK1417.out hg)
       clear HO1420 HO1423 HO1429 HO1434 BK1417 HB
       have HO1420 := n0_
       have HO1423 := n1_
       have HO1429 := n2_
       have HO1434 := n3_
       have BK1417 := n4_
       have HB := n5_
       have BK1435 := n6_
       have GW1435 := n7_
       have GE1435 := n8_
       have NB1417_1435 := n9_
       have NB1435_1417 := n10_
       clear n0_ n1_ n2_ n3_ n4_ n5_ n6_ n7_ n8_ n9_ n10_ hb hbox hg
       refine hK.out _ _ ⟨bx_ BK1417.out 0, bx_ BK1417.out 1, bx_ BK1417.out 2, bx_ BK1417.out 3, ((HB.out.cell (World.block_lt_of_cell? w _ hw1425_0)).trans hw1425_0), ((HB.out.cell (World.block_lt_of_cell? w _ hw1425_1)).trans hw1425_1), ((HB.out.cell (World.block_lt_of_cell? w _ hw1425_2)).trans hw1425_2), ((HB.out.cell (World.block_lt_of_cell? w _ hw1425_3)).trans hw1425_3), ((HB.out.cell (World.block_lt_of_cell? w _ hw1425_4)).trans hw1425_4)⟩ (fun hHeld => ?_)
       clear hK K
       refine norm_ (a' := ?_) ?_ ?_
       rotate_left
       ·
        show Act.put _ (some 15) _ = _
        simp only [fr_]
        rfl
       exact norm_ (by simp only [putAll, Act.put, List.setIfInBounds_toArray, List.set_cons_zero, List.set_cons_succ]) (hCont (v1428, v1433, gbz1428, gb1435) _ ⟨hHeld, (by (with_reducible repeat (first | apply Kd.S_alloc | apply Kd.S_drewN | apply Kd.S_drew)); exact Kd.S_mono HO1420.out (fun _ hk => ⟨hk.1.1.1, ⟨hk.2, ⟨hk.1.1.2.1, ⟨hk.1.1.2.2, hk.1.2⟩⟩⟩⟩)), (rp_ HO1423.out), (by (with_reducible repeat (first | apply Kd.R_alloc | apply Kd.R_drewN | apply Kd.R_drew)); exact Kd.R_mono HO1429.out (fun _ hk => hk.2)), (by (with_reducible repeat (first | apply Kd.S_alloc | apply Kd.S_drewN | apply Kd.S_drew)); exact Kd.S_mono HO1434.out (fun _ hk => ⟨hk.1.1, ⟨hk.2, hk.1.2⟩⟩)), (pb_ BK1417.out), (pb_ BK1435.out), GW1435.out, GE1435.out, NB1417_1435.out, NB1435_1417.out, (by repeat (first | (with_reducible first | exact HB.out | apply ba_ | apply bn_ | apply bd_ | apply bs_ GE1417 | apply bs_ GE1435) | exact HB.out))⟩)
      skip
      refine box_step ?hg (N := 15) ?hd (cs := #[.int .i64 0, .slice none 0 0, .int .i64 0, .int .i64 0, .slice none 0 0]) (t := 75) ?hr ?_; (case hd => rfl); (case hg => rfl); (case hr => first | (go_simp; done) | (go_simp; rfl))
      intro gb1435 hg w21 hbox hb
      have n0_ := Aside0.mk (Kd.S_below (Kd.S_elderB (sp_ HO1420.out) gb1435 (Nat.le_of_eq hg.symm)) hb)
      have n1_ := Aside0.mk (Kd.R_below (rp_ HO1423.out) hb)
      have n2_ := Aside0.mk (bb_ BK1417.out hb)
      have n3_ := Aside0.mk (below_step (by repeat (first | (with_reducible first | exact HB.out | apply ba_ | apply bn_ | apply bd_ | apply bs_ GE1417) | exact HB.out)) hb)
      have n4_ := Aside0.mk (hbox)
      have n5_ := Aside0.mk ((by rw [hg]; exact (below_size (by repeat (first | (with_reducible first | exact HB.out | apply ba_ | apply bn_ | apply bd_ | apply bs_ GE1417) | exact HB.out))) : w.heap.size ≤ gb1435))
      have n6_ := Aside0.mk ((by rw [hg]; exact (below_size (by repeat (first | (with_reducible first | exact HB.out | apply ba_ | apply bn_ | apply bd_ | apply bs_ GE1417) | exact HB.out))) : w.heap.size ≤ gb1435))
      have n7_ := Aside0.mk (nl_ BK1417.out hg)
      have n8_ := Aside0.mk (ng_ BK1417.out hg)
      clear HO1420 HO1423 BK1417 HB
      have HO1420 := n0_
      have HO1423 := n1_
      have BK1417 := n2_
      have HB := n3_
      have BK1435 := n4_
      have GW1435 := n5_
      have GE1435 := n6_
      have NB1417_1435 := n7_
      have NB1435_1417 := n8_
      clear n0_ n1_ n2_ n3_ n4_ n5_ n6_ n7_ n8_ hb hbox hg
      refine hK.out _ _ ⟨bx_ BK1417.out 0, bx_ BK1417.out 1, bx_ BK1417.out 2, bx_ BK1417.out 3, ((HB.out.cell (World.block_lt_of_cell? w _ hw1425_0)).trans hw1425_0), ((HB.out.cell (World.block_lt_of_cell? w _ hw1425_1)).trans hw1425_1), ((HB.out.cell (World.block_lt_of_cell? w _ hw1425_2)).trans hw1425_2), ((HB.out.cell (World.block_lt_of_cell? w _ hw1425_3)).trans hw1425_3), ((HB.out.cell (World.block_lt_of_cell? w _ hw1425_4)).trans hw1425_4)⟩ (fun hHeld => ?_)
      clear hK K
      refine norm_ (a' := ?_) ?_ ?_
      rotate_left
      ·
       show Act.put _ (some 15) _ = _
       simp only [fr_]
       rfl
      refine one_ (i := 5) (N := some 31) #[t_,t_,t_,t_,t_,t_,t_,f_] rfl rfl (one_of HT_.out (by kernel_rfl)) (by decide) (fun K hK => ?_)
      refine goes_ Try.func56 (by kernel_rfl) rfl #[.agg #[.int .i64 ((rd_T75 l0 t1424).f0), .slice A1425_1 ((rd_T75 l0 t1424).f1).length c1425_1, .int .i64 ((rd_T75 l0 t1424).f2), .int .i64 ((rd_T75 l0 t1424).f3), .slice A1425_4 ((rd_T75 l0 t1424).f4).length c1425_4], .agg #[.slice A1_0 l1_0.length c1_0, .int .i64 a1_1, .int .i64 a1_2, .string a1_3]] (by rfl) rfl rfl (by (try simp only [mp_]); first | done | rfl | (simp only [List.length_drop, List.length_take]; rfl)) ?_
      with_reducible refine (spec_JoinIn.calls k ((rd_T75 l0 t1424).f0) _ _ ((rd_T75 l0 t1424).f1) ((rd_T75 l0 t1424).f2) ((rd_T75 l0 t1424).f3) _ _ ((rd_T75 l0 t1424).f4) _ _ l1_0 a1_1 a1_2 a1_3 t1426 t1427 t1430 t1431 t1432 _ ?side1 ?side2 ?side3 ?side4 ?side5 ?side6 A12.out).mono ?_
      (case side1 => exact cp_ ((Kd.C_below HR1425_1.out HB.out)))
      (case side2 => exact HC1425_1.out)
      (case side3 => exact cp_ ((Kd.C_below HR1425_4.out HB.out)))
      (case side4 => exact HC1425_4.out)
      (case side5 => exact cp_ ((Kd.C_below HR1_0.out HB.out)))
      (case side6 => exact HC1_0.out)
      rintro e w22 ⟨v1428, v1433, rfl, ho0, ho1, hb⟩
      refine ⟨_, rfl, ?_⟩
      obtain ⟨gbz1428, hz1428⟩ := Kd.R_name ho0
      replace HO1420 := Aside0.mk (Kd.S_below (Kd.S_ltz hz1428 (sp_ HO1420.out)) hb)
      replace HO1423 := Aside0.mk (Kd.R_below (Kd.R_ltz hz1428 (rp_ HO1423.out)) hb)
      have HO1429 := Aside0.mk (Kd.R_lower (Kd.R_gez hz1428 ho0) (below_size (by repeat (first | (with_reducible first | exact HB.out | apply ba_ | apply bn_ | apply bd_ | apply bs_ GE1417 | apply bs_ GE1435) | exact HB.out))))
      have HO1434 := Aside0.mk (Kd.S_lower (Kd.S_newB (Kd.S_gez hz1428 ho1) (g := gb1417) (o := .cells #[.slice A1_0 l1_0.length c1_0, .int .i64 a1_1, .int .i64 a1_2, .string a1_3] 44 (0, 0)) (pb_ BK1417.out)) (below_size (by repeat (first | (with_reducible first | exact HB.out | apply ba_ | apply bn_ | apply bd_ | apply bs_ GE1417 | apply bs_ GE1435) | exact HB.out))))
      replace BK1417 := Aside0.mk (bb_ BK1417.out hb)
      replace BK1435 := Aside0.mk (bb_ BK1435.out hb)
      replace HB := Aside0.mk (below_step (by repeat (first | (with_reducible first | exact HB.out | apply ba_ | apply bn_ | apply bd_ | apply bs_ GE1417 | apply bs_ GE1435) | exact HB.out)) hb)
      (try clear hb)
      (try clear hb2)
      (try clear hk)
      (try clear hi)
      (try clear ho0)
      (try clear ho1)
      refine hK.out _ _ ⟨bx_ BK1417.out 0, bx_ BK1417.out 1, bx_ BK1417.out 2, bx_ BK1417.out 3, ((HB.out.cell (World.block_lt_of_cell? w _ hw1425_0)).trans hw1425_0), ((HB.out.cell (World.block_lt_of_cell? w _ hw1425_1)).trans hw1425_1), ((HB.out.cell (World.block_lt_of_cell? w _ hw1425_2)).trans hw1425_2), ((HB.out.cell (World.block_lt_of_cell? w _ hw1425_3)).trans hw1425_3), ((HB.out.cell (World.block_lt_of_cell? w _ hw1425_4)).trans hw1425_4)⟩ (fun hHeld => ?_)
      clear hK K
      refine norm_ (a' := ?_) ?_ ?_
      rotate_left
      ·
       show Act.put _ (some 31) _ = _
       simp only [fr_]
       rfl
      exact norm_ (by simp only [putAll, Act.put, List.setIfInBounds_toArray, List.set_cons_zero, List.set_cons_succ]) (hCont (v1428, v1433, gbz1428, gb1435) _ ⟨hHeld, (by (with_reducible repeat (first | apply Kd.S_alloc | apply Kd.S_drewN | apply Kd.S_drew)); exact Kd.S_mono HO1420.out (fun _ hk => ⟨hk.1.1.1, ⟨hk.1.2, ⟨hk.1.1.2.1, ⟨hk.1.1.2.2, hk.2⟩⟩⟩⟩)), (rp_ HO1423.out), (by (with_reducible repeat (first | apply Kd.R_alloc | apply Kd.R_drewN | apply Kd.R_drew)); exact Kd.R_mono HO1429.out (fun _ hk => hk.2)), (by (with_reducible repeat (first | apply Kd.S_alloc | apply Kd.S_drewN | apply Kd.S_drew)); exact Kd.S_mono HO1434.out (fun _ hk => ⟨hk.1.1, ⟨hk.2, hk.1.2⟩⟩)), (pb_ BK1417.out), (pb_ BK1435.out), GW1435.out, GE1435.out, NB1417_1435.out, NB1435_1417.out, (by repeat (first | (with_reducible first | exact HB.out | apply ba_ | apply bn_ | apply bd_ | apply bs_ GE1417 | apply bs_ GE1435) | exact HB.out))⟩)
     rintro ⟨v1428, v1433, gbz1428, gb1435⟩ w23 ⟨hS_, h0_, h1_, h2_, h3_, h4_, h5_, h6_, h7_, h8_, h9_, h10_⟩
     replace HO1420 : Aside0 (Kd.S k75 75 w23 w.heap.size (fun k_ => k_ ≠ gb1417 ∧ k_ ≠ gb1435 ∧ gbz1419 ≤ k_ ∧ k_ < gbz1422 ∧ k_ < gbz1428) v1419 t1418) := ⟨h0_⟩
     replace HO1423 : Aside0 (Kd.R k164 164 w23 w.heap.size (fun k_ => gbz1422 ≤ k_ ∧ k_ < gbz1428) (.slice Ao19 t1421.length co19) t1421) := ⟨h1_⟩
     have HO1429 : Aside0 (Kd.R k164 164 w23 w.heap.size (fun k_ => gbz1428 ≤ k_) v1428 t1427) := ⟨h2_⟩
     have HO1434 : Aside0 (Kd.S k44 44 w23 w.heap.size (fun k_ => some k_ ≠ (v1428 : Value).ownBlock ∧ k_ ≠ gb1417 ∧ gbz1428 ≤ k_) v1433 t1432) := ⟨h3_⟩
     replace BK1417 : Aside0 (w23.heap[gb1417]? = some (.cells #[.slice A1_0 l1_0.length c1_0, .int .i64 a1_1, .int .i64 a1_2, .string a1_3] 44 (0, 0))) := ⟨h4_⟩
     have BK1435 : Aside0 (w23.heap[gb1435]? = some (.cells #[.int .i64 0, .slice none 0 0, .int .i64 0, .int .i64 0, .slice none 0 0] 75 (0, 0))) := ⟨h5_⟩
     have GW1435 : Aside0 (w.heap.size ≤ gb1435) := ⟨h6_⟩
     have GE1435 : Aside0 (w.heap.size ≤ gb1435) := ⟨h7_⟩
     have NB1417_1435 : Aside0 (gb1417 ≠ gb1435) := ⟨h8_⟩
     have NB1435_1417 : Aside0 (gb1435 ≠ gb1417) := ⟨h9_⟩
     replace HB : Aside0 (Below w.heap.size w w23) := ⟨h10_⟩
     clear h0_ h1_ h2_ h3_ h4_ h5_ h6_ h7_ h8_ h9_ h10_
     have hHeld : w23.cell? ⟨gb1417, 0, none⟩ = some (.slice A1_0 l1_0.length c1_0) ∧ w23.cell? ⟨gb1417, 1, none⟩ = some (.int .i64 a1_1) ∧ w23.cell? ⟨gb1417, 2, none⟩ = some (.int .i64 a1_2) ∧ w23.cell? ⟨gb1417, 3, none⟩ = some (.string a1_3) ∧ w23.cell? (ad1425.add ((t1424).toNat * 5)) = some (.int .i64 ((rd_T75 l0 t1424).f0)) ∧ w23.cell? ⟨(ad1425.add ((t1424).toNat * 5)).block, (ad1425.add ((t1424).toNat * 5)).off + 1, none⟩ = some (.slice A1425_1 ((rd_T75 l0 t1424).f1).length c1425_1) ∧ w23.cell? ⟨(ad1425.add ((t1424).toNat * 5)).block, (ad1425.add ((t1424).toNat * 5)).off + 2, none⟩ = some (.int .i64 ((rd_T75 l0 t1424).f2)) ∧ w23.cell? ⟨(ad1425.add ((t1424).toNat * 5)).block, (ad1425.add ((t1424).toNat * 5)).off + 3, none⟩ = some (.int .i64 ((rd_T75 l0 t1424).f3)) ∧ w23.cell? ⟨(ad1425.add ((t1424).toNat * 5)).block, (ad1425.add ((t1424).toNat * 5)).off + 4, none⟩ = some (.slice A1425_4 ((rd_T75 l0 t1424).f4).length c1425_4) := hS_
     obtain ⟨Ao25, co25, eo25⟩ := Kd.R_slice HO1429.out
     (first | subst eo25 | (injection eo25 with f1_ f2_ f3_; have f4_ := f1_.symm; have f5_ := f3_.symm; clear f1_ f2_ f3_; subst f4_; subst f5_))
     obtain ⟨Ao29, co29, eo29⟩ := Kd.S_slice HO1434.out
     (first | subst eo29 | (injection eo29 with f1_ f2_ f3_; have f4_ := f1_.symm; have f5_ := f3_.symm; clear f1_ f2_ f3_; subst f4_; subst f5_))
     refine norm_ (a' := ?_) ?_ ?_
     rotate_left
     ·
      simp only [putAll, Act.put, List.setIfInBounds_toArray, List.set_cons_zero, List.set_cons_succ]
      rfl
     refine one_ (i := 7) (N := none) #[t_,t_,t_,t_,t_,t_,t_,t_] rfl rfl (one_of HT_.out (by kernel_rfl)) (by decide) (fun K hK => ?_)
     have hs24 : w23.cell? ⟨gb1435, 0, none⟩ = some (.int .i64 0) := bx_ BK1435.out 0
     have hfs24 := blk_frozen BK1435.out 0
     have hns24_0 := NB1417_1435.out
     have hms24_0 := NB1435_1417.out
     have hs26 : w23.cell? ⟨gb1435, 1, none⟩ = some (.slice none 0 0) := bx_ BK1435.out 1
     have hfs26 := blk_frozen BK1435.out 1
     have hns26_0 := NB1417_1435.out
     have hms26_0 := NB1435_1417.out
     have hs27 : w23.cell? ⟨gb1435, 2, none⟩ = some (.int .i64 0) := bx_ BK1435.out 2
     have hfs27 := blk_frozen BK1435.out 2
     have hns27_0 := NB1417_1435.out
     have hms27_0 := NB1435_1417.out
     have hs28 : w23.cell? ⟨gb1435, 3, none⟩ = some (.int .i64 0) := bx_ BK1435.out 3
     have hfs28 := blk_frozen BK1435.out 3
     have hns28_0 := NB1417_1435.out
     have hms28_0 := NB1435_1417.out
     have hs30 : w23.cell? ⟨gb1435, 4, none⟩ = some (.slice none 0 0) := bx_ BK1435.out 4
     have hfs30 := blk_frozen BK1435.out 4
     have hns30_0 := NB1417_1435.out
     have hms30_0 := NB1435_1417.out
     refine skip_ (w1 := ?_) (by rfl) rfl ?_ ?_
     rotate_left
     ·
      go_simp
      rfl
     refine hK.out _ _ ⟨((cell_far (p := ⟨gb1435, _, none⟩) NB1417_1435.out _).trans (((cell_far (p := ⟨gb1435, _, none⟩) NB1417_1435.out _).trans (((cell_far (p := ⟨gb1435, _, none⟩) NB1417_1435.out _).trans (((cell_far (p := ⟨gb1435, _, none⟩) NB1417_1435.out _).trans (((cell_far (p := ⟨gb1435, _, none⟩) NB1417_1435.out _).trans (hHeld.1)))))))))), ((cell_far (p := ⟨gb1435, _, none⟩) NB1417_1435.out _).trans (((cell_far (p := ⟨gb1435, _, none⟩) NB1417_1435.out _).trans (((cell_far (p := ⟨gb1435, _, none⟩) NB1417_1435.out _).trans (((cell_far (p := ⟨gb1435, _, none⟩) NB1417_1435.out _).trans (((cell_far (p := ⟨gb1435, _, none⟩) NB1417_1435.out _).trans (hHeld.2.1)))))))))), ((cell_far (p := ⟨gb1435, _, none⟩) NB1417_1435.out _).trans (((cell_far (p := ⟨gb1435, _, none⟩) NB1417_1435.out _).trans (((cell_far (p := ⟨gb1435, _, none⟩) NB1417_1435.out _).trans (((cell_far (p := ⟨gb1435, _, none⟩) NB1417_1435.out _).trans (((cell_far (p := ⟨gb1435, _, none⟩) NB1417_1435.out _).trans (hHeld.2.2.1)))))))))), ((cell_far (p := ⟨gb1435, _, none⟩) NB1417_1435.out _).trans (((cell_far (p := ⟨gb1435, _, none⟩) NB1417_1435.out _).trans (((cell_far (p := ⟨gb1435, _, none⟩) NB1417_1435.out _).trans (((cell_far (p := ⟨gb1435, _, none⟩) NB1417_1435.out _).trans (((cell_far (p := ⟨gb1435, _, none⟩) NB1417_1435.out _).trans (hHeld.2.2.2.1)))))))))), ((cell_far (p := ⟨gb1435, _, none⟩) (by first | exact Nat.ne_of_lt (Nat.lt_of_lt_of_le (by have := World.block_lt_of_cell? _ _ hw1425_0; first | rwa [add_block] at this | exact this) GW1435.out) | (rw [add_block]; exact Nat.ne_of_lt (Nat.lt_of_lt_of_le (by have := World.block_lt_of_cell? _ _ hw1425_0; first | rwa [add_block] at this | exact this) GW1435.out)) | (show (Addr.add _ _).block ≠ _; rw [add_block]; exact Nat.ne_of_lt (Nat.lt_of_lt_of_le (by have := World.block_lt_of_cell? _ _ hw1425_0; first | rwa [add_block] at this | exact this) GW1435.out)) | (dsimp only; exact Nat.ne_of_lt (Nat.lt_of_lt_of_le (by have := World.block_lt_of_cell? _ _ hw1425_0; first | rwa [add_block] at this | exact this) GW1435.out))) _).trans (((cell_far (p := ⟨gb1435, _, none⟩) (by first | exact Nat.ne_of_lt (Nat.lt_of_lt_of_le (by have := World.block_lt_of_cell? _ _ hw1425_0; first | rwa [add_block] at this | exact this) GW1435.out) | (rw [add_block]; exact Nat.ne_of_lt (Nat.lt_of_lt_of_le (by have := World.block_lt_of_cell? _ _ hw1425_0; first | rwa [add_block] at this | exact this) GW1435.out)) | (show (Addr.add _ _).block ≠ _; rw [add_block]; exact Nat.ne_of_lt (Nat.lt_of_lt_of_le (by have := World.block_lt_of_cell? _ _ hw1425_0; first | rwa [add_block] at this | exact this) GW1435.out)) | (dsimp only; exact Nat.ne_of_lt (Nat.lt_of_lt_of_le (by have := World.block_lt_of_cell? _ _ hw1425_0; first | rwa [add_block] at this | exact this) GW1435.out))) _).trans (((cell_far (p := ⟨gb1435, _, none⟩) (by first | exact Nat.ne_of_lt (Nat.lt_of_lt_of_le (by have := World.block_lt_of_cell? _ _ hw1425_0; first | rwa [add_block] at this | exact this) GW1435.out) | (rw [add_block]; exact Nat.ne_of_lt (Nat.lt_of_lt_of_le (by have := World.block_lt_of_cell? _ _ hw1425_0; first | rwa [add_block] at this | exact this) GW1435.out)) | (show (Addr.add _ _).block ≠ _; rw [add_block]; exact Nat.ne_of_lt (Nat.lt_of_lt_of_le (by have := World.block_lt_of_cell? _ _ hw1425_0; first | rwa [add_block] at this | exact this) GW1435.out)) | (dsimp only; exact Nat.ne_of_lt (Nat.lt_of_lt_of_le (by have := World.block_lt_of_cell? _ _ hw1425_0; first | rwa [add_block] at this | exact this) GW1435.out))) _).trans (((cell_far (p := ⟨gb1435, _, none⟩) (by first | exact Nat.ne_of_lt (Nat.lt_of_lt_of_le (by have := World.block_lt_of_cell? _ _ hw1425_0; first | rwa [add_block] at this | exact this) GW1435.out) | (rw [add_block]; exact Nat.ne_of_lt (Nat.lt_of_lt_of_le (by have := World.block_lt_of_cell? _ _ hw1425_0; first | rwa [add_block] at this | exact this) GW1435.out)) | (show (Addr.add _ _).block ≠ _; rw [add_block]; exact Nat.ne_of_lt (Nat.lt_of_lt_of_le (by have := World.block_lt_of_cell? _ _ hw1425_0; first | rwa [add_block] at this | exact this) GW1435.out)) | (dsimp only; exact Nat.ne_of_lt (Nat.lt_of_lt_of_le (by have := World.block_lt_of_cell? _ _ hw1425_0; first | rwa [add_block] at this | exact this) GW1435.out))) _).trans (((cell_far (p := ⟨gb1435, _, none⟩) (by first | exact Nat.ne_of_lt (Nat.lt_of_lt_of_le (by have := World.block_lt_of_cell? _ _ hw1425_0; first | rwa [add_block] at this | exact this) GW1435.out) | (rw [add_block]; exact Nat.ne_of_lt (Nat.lt_of_lt_of_le (by have := World.block_lt_of_cell? _ _ hw1425_0; first | rwa [add_block] at this | exact this) GW1435.out)) | (show (Addr.add _ _).block ≠ _; rw [add_block]; exact Nat.ne_of_lt (Nat.lt_of_lt_of_le (by have := World.block_lt_of_cell? _ _ hw1425_0; first | rwa [add_block] at this | exact this) GW1435.out)) | (dsimp only; exact Nat.ne_of_lt (Nat.lt_of_lt_of_le (by have := World.block_lt_of_cell? _ _ hw1425_0; first | rwa [add_block] at this | exact this) GW1435.out))) _).trans (hHeld.2.2.2.2.1)))))))))), ((cell_far (p := ⟨gb1435, _, none⟩) (by first | exact Nat.ne_of_lt (Nat.lt_of_lt_of_le (by have := World.block_lt_of_cell? _ _ hw1425_1; first | rwa [add_block] at this | exact this) GW1435.out) | (rw [add_block]; exact Nat.ne_of_lt (Nat.lt_of_lt_of_le (by have := World.block_lt_of_cell? _ _ hw1425_1; first | rwa [add_block] at this | exact this) GW1435.out)) | (show (Addr.add _ _).block ≠ _; rw [add_block]; exact Nat.ne_of_lt (Nat.lt_of_lt_of_le (by have := World.block_lt_of_cell? _ _ hw1425_1; first | rwa [add_block] at this | exact this) GW1435.out)) | (dsimp only; exact Nat.ne_of_lt (Nat.lt_of_lt_of_le (by have := World.block_lt_of_cell? _ _ hw1425_1; first | rwa [add_block] at this | exact this) GW1435.out))) _).trans (((cell_far (p := ⟨gb1435, _, none⟩) (by first | exact Nat.ne_of_lt (Nat.lt_of_lt_of_le (by have := World.block_lt_of_cell? _ _ hw1425_1; first | rwa [add_block] at this | exact this) GW1435.out) | (rw [add_block]; exact Nat.ne_of_lt (Nat.lt_of_lt_of_le (by have := World.block_lt_of_cell? _ _ hw1425_1; first | rwa [add_block] at this | exact this) GW1435.out)) | (show (Addr.add _ _).block ≠ _; rw [add_block]; exact Nat.ne_of_lt (Nat.lt_of_lt_of_le (by have := World.block_lt_of_cell? _ _ hw1425_1; first | rwa [add_block] at this | exact this) GW1435.out)) | (dsimp only; exact Nat.ne_of_lt (Nat.lt_of_lt_of_le (by have := World.block_lt_of_cell? _ _ hw1425_1; first | rwa [add_block] at this | exact this) GW1435.out))) _).trans (((cell_far (p := ⟨gb1435, _, none⟩) (by first | exact Nat.ne_of_lt (Nat.lt_of_lt_of_le (by have := World.block_lt_of_cell? _ _ hw1425_1; first | rwa [add_block] at this | exact this) GW1435.out) | (rw [add_block]; exact Nat.ne_of_lt (Nat.lt_of_lt_of_le (by have := World.block_lt_of_cell? _ _ hw1425_1; first | rwa [add_block] at this | exact this) GW1435.out)) | (show (Addr.add _ _).block ≠ _; rw [add_block]; exact Nat.ne_of_lt (Nat.lt_of_lt_of_le (by have := World.block_lt_of_cell? _ _ hw1425_1; first | rwa [add_block] at this | exact this) GW1435.out)) | (dsimp only; exact Nat.ne_of_lt (Nat.lt_of_lt_of_le (by have := World.block_lt_of_cell? _ _ hw1425_1; first | rwa [add_block] at this | exact this) GW1435.out))) _).trans (((cell_far (p := ⟨gb1435, _, none⟩) (by first | exact Nat.ne_of_lt (Nat.lt_of_lt_of_le (by have := World.block_lt_of_cell? _ _ hw1425_1; first | rwa [add_block] at this | exact this) GW1435.out) | (rw [add_block]; exact Nat.ne_of_lt (Nat.lt_of_lt_of_le (by have := World.block_lt_of_cell? _ _ hw1425_1; first | rwa [add_block] at this | exact this) GW1435.out)) | (show (Addr.add _ _).block ≠ _; rw [add_block]; exact Nat.ne_of_lt (Nat.lt_of_lt_of_le (by have := World.block_lt_of_cell? _ _ hw1425_1; first | rwa [add_block] at this | exact this) GW1435.out)) | (dsimp only; exact Nat.ne_of_lt (Nat.lt_of_lt_of_le (by have := World.block_lt_of_cell? _ _ hw1425_1; first | rwa [add_block] at this | exact this) GW1435.out))) _).trans (((cell_far (p := ⟨gb1435, _, none⟩) (by first | exact Nat.ne_of_lt (Nat.lt_of_lt_of_le (by have := World.block_lt_of_cell? _ _ hw1425_1; first | rwa [add_block] at this | exact this) GW1435.out) | (rw [add_block]; exact Nat.ne_of_lt (Nat.lt_of_lt_of_le (by have := World.block_lt_of_cell? _ _ hw1425_1; first | rwa [add_block] at this | exact this) GW1435.out)) | (show (Addr.add _ _).block ≠ _; rw [add_block]; exact Nat.ne_of_lt (Nat.lt_of_lt_of_le (by have := World.block_lt_of_cell? _ _ hw1425_1; first | rwa [add_block] at this | exact this) GW1435.out)) | (dsimp only; exact Nat.ne_of_lt (Nat.lt_of_lt_of_le (by have := World.block_lt_of_cell? _ _ hw1425_1; first | rwa [add_block] at this | exact this) GW1435.out))) _).trans (hHeld.2.2.2.2.2.1)))))))))), ((cell_far (p := ⟨gb1435, _, none⟩) (by first | exact Nat.ne_of_lt (Nat.lt_of_lt_of_le (by have := World.block_lt_of_cell? _ _ hw1425_2; first | rwa [add_block] at this | exact this) GW1435.out) | (rw [add_block]; exact Nat.ne_of_lt (Nat.lt_of_lt_of_le (by have := World.block_lt_of_cell? _ _ hw1425_2; first | rwa [add_block] at this | exact this) GW1435.out)) | (show (Addr.add _ _).block ≠ _; rw [add_block]; exact Nat.ne_of_lt (Nat.lt_of_lt_of_le (by have := World.block_lt_of_cell? _ _ hw1425_2; first | rwa [add_block] at this | exact this) GW1435.out)) | (dsimp only; exact Nat.ne_of_lt (Nat.lt_of_lt_of_le (by have := World.block_lt_of_cell? _ _ hw1425_2; first | rwa [add_block] at this | exact this) GW1435.out))) _).trans (((cell_far (p := ⟨gb1435, _, none⟩) (by first | exact Nat.ne_of_lt (Nat.lt_of_lt_of_le (by have := World.block_lt_of_cell? _ _ hw1425_2; first | rwa [add_block] at this | exact this) GW1435.out) | (rw [add_block]; exact Nat.ne_of_lt (Nat.lt_of_lt_of_le (by have := World.block_lt_of_cell? _ _ hw1425_2; first | rwa [add_block] at this | exact this) GW1435.out)) | (show (Addr.add _ _).block ≠ _; rw [add_block]; exact Nat.ne_of_lt (Nat.lt_of_lt_of_le (by have := World.block_lt_of_cell? _ _ hw1425_2; first | rwa [add_block] at this | exact this) GW1435.out)) | (dsimp only; exact Nat.ne_of_lt (Nat.lt_of_lt_of_le (by have := World.block_lt_of_cell? _ _ hw1425_2; first | rwa [add_block] at this | exact this) GW1435.out))) _).trans (((cell_far (p := ⟨gb1435, _, none⟩) (by first | exact Nat.ne_of_lt (Nat.lt_of_lt_of_le (by have := World.block_lt_of_cell? _ _ hw1425_2; first | rwa [add_block] at this | exact this) GW1435.out) | (rw [add_block]; exact Nat.ne_of_lt (Nat.lt_of_lt_of_le (by have := World.block_lt_of_cell? _ _ hw1425_2; first | rwa [add_block] at this | exact this) GW1435.out)) | (show (Addr.add _ _).block ≠ _; rw [add_block]; exact Nat.ne_of_lt (Nat.lt_of_lt_of_le (by have := World.block_lt_of_cell? _ _ hw1425_2; first | rwa [add_block] at this | exact this) GW1435.out)) | (dsimp only; exact Nat.ne_of_lt (Nat.lt_of_lt_of_le (by have := World.block_lt_of_cell? _ _ hw1425_2; first | rwa [add_block] at this | exact this) GW1435.out))) _).trans (((cell_far (p := ⟨gb1435, _, none⟩) (by first | exact Nat.ne_of_lt (Nat.lt_of_lt_of_le (by have := World.block_lt_of_cell? _ _ hw1425_2; first | rwa [add_block] at this | exact this) GW1435.out) | (rw [add_block]; exact Nat.ne_of_lt (Nat.lt_of_lt_of_le (by have := World.block_lt_of_cell? _ _ hw1425_2; first | rwa [add_block] at this | exact this) GW1435.out)) | (show (Addr.add _ _).block ≠ _; rw [add_block]; exact Nat.ne_of_lt (Nat.lt_of_lt_of_le (by have := World.block_lt_of_cell? _ _ hw1425_2; first | rwa [add_block] at this | exact this) GW1435.out)) | (dsimp only; exact Nat.ne_of_lt (Nat.lt_of_lt_of_le (by have := World.block_lt_of_cell? _ _ hw1425_2; first | rwa [add_block] at this | exact this) GW1435.out))) _).trans (((cell_far (p := ⟨gb1435, _, none⟩) (by first | exact Nat.ne_of_lt (Nat.lt_of_lt_of_le (by have := World.block_lt_of_cell? _ _ hw1425_2; first | rwa [add_block] at this | exact this) GW1435.out) | (rw [add_block]; exact Nat.ne_of_lt (Nat.lt_of_lt_of_le (by have := World.block_lt_of_cell? _ _ hw1425_2; first | rwa [add_block] at this | exact this) GW1435.out)) | (show (Addr.add _ _).block ≠ _; rw [add_block]; exact Nat.ne_of_lt (Nat.lt_of_lt_of_le (by have := World.block_lt_of_cell? _ _ hw1425_2; first | rwa [add_block] at this | exact this) GW1435.out)) | (dsimp only; exact Nat.ne_of_lt (Nat.lt_of_lt_of_le (by have := World.block_lt_of_cell? _ _ hw1425_2; first | rwa [add_block] at this | exact this) GW1435.out))) _).trans (hHeld.2.2.2.2.2.2.1)))))))))), ((cell_far (p := ⟨gb1435, _, none⟩) (by first | exact Nat.ne_of_lt (Nat.lt_of_lt_of_le (by have := World.block_lt_of_cell? _ _ hw1425_3; first | rwa [add_block] at this | exact this) GW1435.out) | (rw [add_block]; exact Nat.ne_of_lt (Nat.lt_of_lt_of_le (by have := World.block_lt_of_cell? _ _ hw1425_3; first | rwa [add_block] at this | exact this) GW1435.out)) | (show (Addr.add _ _).block ≠ _; rw [add_block]; exact Nat.ne_of_lt (Nat.lt_of_lt_of_le (by have := World.block_lt_of_cell? _ _ hw1425_3; first | rwa [add_block] at this | exact this) GW1435.out)) | (dsimp only; exact Nat.ne_of_lt (Nat.lt_of_lt_of_le (by have := World.block_lt_of_cell? _ _ hw1425_3; first | rwa [add_block] at this | exact this) GW1435.out))) _).trans (((cell_far (p := ⟨gb1435, _, none⟩) (by first | exact Nat.ne_of_lt (Nat.lt_of_lt_of_le (by have := World.block_lt_of_cell? _ _ hw1425_3; first | rwa [add_block] at this | exact this) GW1435.out) | (rw [add_block]; exact Nat.ne_of_lt (Nat.lt_of_lt_of_le (by have := World.block_lt_of_cell? _ _ hw1425_3; first | rwa [add_block] at this | exact this) GW1435.out)) | (show (Addr.add _ _).block ≠ _; rw [add_block]; exact Nat.ne_of_lt (Nat.lt_of_lt_of_le (by have := World.block_lt_of_cell? _ _ hw1425_3; first | rwa [add_block] at this | exact this) GW1435.out)) | (dsimp only; exact Nat.ne_of_lt (Nat.lt_of_lt_of_le (by have := World.block_lt_of_cell? _ _ hw1425_3; first | rwa [add_block] at this | exact this) GW1435.out))) _).trans (((cell_far (p := ⟨gb1435, _, none⟩) (by first | exact Nat.ne_of_lt (Nat.lt_of_lt_of_le (by have := World.block_lt_of_cell? _ _ hw1425_3; first | rwa [add_block] at this | exact this) GW1435.out) | (rw [add_block]; exact Nat.ne_of_lt (Nat.lt_of_lt_of_le (by have := World.block_lt_of_cell? _ _ hw1425_3; first | rwa [add_block] at this | exact this) GW1435.out)) | (show (Addr.add _ _).block ≠ _; rw [add_block]; exact Nat.ne_of_lt (Nat.lt_of_lt_of_le (by have := World.block_lt_of_cell? _ _ hw1425_3; first | rwa [add_block] at this | exact this) GW1435.out)) | (dsimp only; exact Nat.ne_of_lt (Nat.lt_of_lt_of_le (by have := World.block_lt_of_cell? _ _ hw1425_3; first | rwa [add_block] at this | exact this) GW1435.out))) _).trans (((cell_far (p := ⟨gb1435, _, none⟩) (by first | exact Nat.ne_of_lt (Nat.lt_of_lt_of_le (by have := World.block_lt_of_cell? _ _ hw1425_3; first | rwa [add_block] at this | exact this) GW1435.out) | (rw [add_block]; exact Nat.ne_of_lt (Nat.lt_of_lt_of_le (by have := World.block_lt_of_cell? _ _ hw1425_3; first | rwa [add_block] at this | exact this) GW1435.out)) | (show (Addr.add _ _).block ≠ _; rw [add_block]; exact Nat.ne_of_lt (Nat.lt_of_lt_of_le (by have := World.block_lt_of_cell? _ _ hw1425_3; first | rwa [add_block] at this | exact this) GW1435.out)) | (dsimp only; exact Nat.ne_of_lt (Nat.lt_of_lt_of_le (by have := World.block_lt_of_cell? _ _ hw1425_3; first | rwa [add_block] at this | exact this) GW1435.out))) _).trans (((cell_far (p := ⟨gb1435, _, none⟩) (by first | exact Nat.ne_of_lt (Nat.lt_of_lt_of_le (by have := World.block_lt_of_cell? _ _ hw1425_3; first | rwa [add_block] at this | exact this) GW1435.out) | (rw [add_block]; exact Nat.ne_of_lt (Nat.lt_of_lt_of_le (by have := World.block_lt_of_cell? _ _ hw1425_3; first | rwa [add_block] at this | exact this) GW1435.out)) | (show (Addr.add _ _).block ≠ _; rw [add_block]; exact Nat.ne_of_lt (Nat.lt_of_lt_of_le (by have := World.block_lt_of_cell? _ _ hw1425_3; first | rwa [add_block] at this | exact this) GW1435.out)) | (dsimp only; exact Nat.ne_of_lt (Nat.lt_of_lt_of_le (by have := World.block_lt_of_cell? _ _ hw1425_3; first | rwa [add_block] at this | exact this) GW1435.out))) _).trans (hHeld.2.2.2.2.2.2.2.1)))))))))), ((cell_far (p := ⟨gb1435, _, none⟩) (by first | exact Nat.ne_of_lt (Nat.lt_of_lt_of_le (by have := World.block_lt_of_cell? _ _ hw1425_4; first | rwa [add_block] at this | exact this) GW1435.out) | (rw [add_block]; exact Nat.ne_of_lt (Nat.lt_of_lt_of_le (by have := World.block_lt_of_cell? _ _ hw1425_4; first | rwa [add_block] at this | exact this) GW1435.out)) | (show (Addr.add _ _).block ≠ _; rw [add_block]; exact Nat.ne_of_lt (Nat.lt_of_lt_of_le (by have := World.block_lt_of_cell? _ _ hw1425_4; first | rwa [add_block] at this | exact this) GW1435.out)) | (dsimp only; exact Nat.ne_of_lt (Nat.lt_of_lt_of_le (by have := World.block_lt_of_cell? _ _ hw1425_4; first | rwa [add_block] at this | exact this) GW1435.out))) _).trans (((cell_far (p := ⟨gb1435, _, none⟩) (by first | exact Nat.ne_of_lt (Nat.lt_of_lt_of_le (by have := World.block_lt_of_cell? _ _ hw1425_4; first | rwa [add_block] at this | exact this) GW1435.out) | (rw [add_block]; exact Nat.ne_of_lt (Nat.lt_of_lt_of_le (by have := World.block_lt_of_cell? _ _ hw1425_4; first | rwa [add_block] at this | exact this) GW1435.out)) | (show (Addr.add _ _).block ≠ _; rw [add_block]; exact Nat.ne_of_lt (Nat.lt_of_lt_of_le (by have := World.block_lt_of_cell? _ _ hw1425_4; first | rwa [add_block] at this | exact this) GW1435.out)) | (dsimp only; exact Nat.ne_of_lt (Nat.lt_of_lt_of_le (by have := World.block_lt_of_cell? _ _ hw1425_4; first | rwa [add_block] at this | exact this) GW1435.out))) _).trans (((cell_far (p := ⟨gb1435, _, none⟩) (by first | exact Nat.ne_of_lt (Nat.lt_of_lt_of_le (by have := World.block_lt_of_cell? _ _ hw1425_4; first | rwa [add_block] at this | exact this) GW1435.out) | (rw [add_block]; exact Nat.ne_of_lt (Nat.lt_of_lt_of_le (by have := World.block_lt_of_cell? _ _ hw1425_4; first | rwa [add_block] at this | exact this) GW1435.out)) | (show (Addr.add _ _).block ≠ _; rw [add_block]; exact Nat.ne_of_lt (Nat.lt_of_lt_of_le (by have := World.block_lt_of_cell? _ _ hw1425_4; first | rwa [add_block] at this | exact this) GW1435.out)) | (dsimp only; exact Nat.ne_of_lt (Nat.lt_of_lt_of_le (by have := World.block_lt_of_cell? _ _ hw1425_4; first | rwa [add_block] at this | exact this) GW1435.out))) _).trans (((cell_far (p := ⟨gb1435, _, none⟩) (by first | exact Nat.ne_of_lt (Nat.lt_of_lt_of_le (by have := World.block_lt_of_cell? _ _ hw1425_4; first | rwa [add_block] at this | exact this) GW1435.out) | (rw [add_block]; exact Nat.ne_of_lt (Nat.lt_of_lt_of_le (by have := World.block_lt_of_cell? _ _ hw1425_4; first | rwa [add_block] at this | exact this) GW1435.out)) | (show (Addr.add _ _).block ≠ _; rw [add_block]; exact Nat.ne_of_lt (Nat.lt_of_lt_of_le (by have := World.block_lt_of_cell? _ _ hw1425_4; first | rwa [add_block] at this | exact this) GW1435.out)) | (dsimp only; exact Nat.ne_of_lt (Nat.lt_of_lt_of_le (by have := World.block_lt_of_cell? _ _ hw1425_4; first | rwa [add_block] at this | exact this) GW1435.out))) _).trans (((cell_far (p := ⟨gb1435, _, none⟩) (by first | exact Nat.ne_of_lt (Nat.lt_of_lt_of_le (by have := World.block_lt_of_cell? _ _ hw1425_4; first | rwa [add_block] at this | exact this) GW1435.out) | (rw [add_block]; exact Nat.ne_of_lt (Nat.lt_of_lt_of_le (by have := World.block_lt_of_cell? _ _ hw1425_4; first | rwa [add_block] at this | exact this) GW1435.out)) | (show (Addr.add _ _).block ≠ _; rw [add_block]; exact Nat.ne_of_lt (Nat.lt_of_lt_of_le (by have := World.block_lt_of_cell? _ _ hw1425_4; first | rwa [add_block] at this | exact this) GW1435.out)) | (dsimp only; exact Nat.ne_of_lt (Nat.lt_of_lt_of_le (by have := World.block_lt_of_cell? _ _ hw1425_4; first | rwa [add_block] at this | exact this) GW1435.out))) _).trans (hHeld.2.2.2.2.2.2.2.2))))))))))⟩ (fun hHeld => ?_)
     clear hK K
     refine done_ (done_of HT_.out (by kernel_rfl)) ?_
     have n0_ : Aside0 (Kd.S k75 75 (((((w23.setCell ⟨gb1435, 0, none⟩ (.int .i64 t1426)).setCell ⟨gb1435, 1, none⟩ (.slice Ao25 t1427.length co25)).setCell ⟨gb1435, 2, none⟩ (.int .i64 t1430)).setCell ⟨gb1435, 3, none⟩ (.int .i64 t1431)).setCell ⟨gb1435, 4, none⟩ (.slice Ao29 t1432.length co29)) w.heap.size (fun k_ => k_ ≠ gb1417 ∧ k_ ≠ gb1435 ∧ gbz1419 ≤ k_ ∧ k_ < gbz1422 ∧ k_ < gbz1428) v1419 t1418) := ⟨by (with_reducible repeat (first | apply Kd.S_alloc | apply Kd.S_drewN | apply Kd.S_drew)); exact Kd.S_mono (Kd.S_far (p := ⟨gb1435, 4, none⟩) (Kd.S_far (p := ⟨gb1435, 3, none⟩) (Kd.S_far (p := ⟨gb1435, 2, none⟩) (Kd.S_far (p := ⟨gb1435, 1, none⟩) (Kd.S_far (p := ⟨gb1435, 0, none⟩) (Kd.S_mono HO1420.out (fun k_ hk => (⟨hk, hk.2.1⟩ : _ ∧ k_ ≠ gb1435))) (fun _ hk => hk.2) (.int .i64 t1426)) (fun _ hk => hk.2) (.slice Ao25 t1427.length co25)) (fun _ hk => hk.2) (.int .i64 t1430)) (fun _ hk => hk.2) (.int .i64 t1431)) (fun _ hk => hk.2) (.slice Ao29 t1432.length co29)) (fun _ hk => ⟨hk.1.1, ⟨hk.1.2.1, ⟨hk.1.2.2.1, ⟨hk.1.2.2.2.1, hk.1.2.2.2.2⟩⟩⟩⟩)⟩
     have n1_ : Aside0 (Kd.R k164 164 (((((w23.setCell ⟨gb1435, 0, none⟩ (.int .i64 t1426)).setCell ⟨gb1435, 1, none⟩ (.slice Ao25 t1427.length co25)).setCell ⟨gb1435, 2, none⟩ (.int .i64 t1430)).setCell ⟨gb1435, 3, none⟩ (.int .i64 t1431)).setCell ⟨gb1435, 4, none⟩ (.slice Ao29 t1432.length co29)) w.heap.size (fun k_ => gbz1422 ≤ k_ ∧ k_ < gbz1428) (.slice Ao19 t1421.length co19) t1421) := ⟨by (with_reducible repeat (first | apply Kd.R_alloc | apply Kd.R_drewN | apply Kd.R_drew)); exact Kd.R_mono (Kd.R_far (p := ⟨gb1435, 4, none⟩) (Kd.R_far (p := ⟨gb1435, 3, none⟩) (Kd.R_far (p := ⟨gb1435, 2, none⟩) (Kd.R_far (p := ⟨gb1435, 1, none⟩) (Kd.R_far (p := ⟨gb1435, 0, none⟩) (Kd.R_types HO1423.out BK1435.out (by decide)) (fun _ hk => hk.2) (.int .i64 t1426)) (fun _ hk => hk.2) (.slice Ao25 t1427.length co25)) (fun _ hk => hk.2) (.int .i64 t1430)) (fun _ hk => hk.2) (.int .i64 t1431)) (fun _ hk => hk.2) (.slice Ao29 t1432.length co29)) (fun _ hk => ⟨hk.1.1, hk.1.2⟩)⟩
     have n2_ : Aside0 (Kd.R k164 164 (((((w23.setCell ⟨gb1435, 0, none⟩ (.int .i64 t1426)).setCell ⟨gb1435, 1, none⟩ (.slice Ao25 t1427.length co25)).setCell ⟨gb1435, 2, none⟩ (.int .i64 t1430)).setCell ⟨gb1435, 3, none⟩ (.int .i64 t1431)).setCell ⟨gb1435, 4, none⟩ (.slice Ao29 t1432.length co29)) w.heap.size (fun k_ => gbz1428 ≤ k_) (.slice Ao25 t1427.length co25) t1427) := ⟨by (with_reducible repeat (first | apply Kd.R_alloc | apply Kd.R_drewN | apply Kd.R_drew)); exact Kd.R_mono (Kd.R_far (p := ⟨gb1435, 4, none⟩) (Kd.R_far (p := ⟨gb1435, 3, none⟩) (Kd.R_far (p := ⟨gb1435, 2, none⟩) (Kd.R_far (p := ⟨gb1435, 1, none⟩) (Kd.R_far (p := ⟨gb1435, 0, none⟩) (Kd.R_types HO1429.out BK1435.out (by decide)) (fun _ hk => hk.2) (.int .i64 t1426)) (fun _ hk => hk.2) (.slice Ao25 t1427.length co25)) (fun _ hk => hk.2) (.int .i64 t1430)) (fun _ hk => hk.2) (.int .i64 t1431)) (fun _ hk => hk.2) (.slice Ao29 t1432.length co29)) (fun _ hk => hk.1)⟩
     have n3_ : Aside0 (Kd.S k44 44 (((((w23.setCell ⟨gb1435, 0, none⟩ (.int .i64 t1426)).setCell ⟨gb1435, 1, none⟩ (.slice Ao25 t1427.length co25)).setCell ⟨gb1435, 2, none⟩ (.int .i64 t1430)).setCell ⟨gb1435, 3, none⟩ (.int .i64 t1431)).setCell ⟨gb1435, 4, none⟩ (.slice Ao29 t1432.length co29)) w.heap.size (fun k_ => some k_ ≠ (.slice Ao25 t1427.length co25 : Value).ownBlock ∧ k_ ≠ gb1417 ∧ gbz1428 ≤ k_) (.slice Ao29 t1432.length co29) t1432) := ⟨by (with_reducible repeat (first | apply Kd.S_alloc | apply Kd.S_drewN | apply Kd.S_drew)); exact Kd.S_mono (Kd.S_far (p := ⟨gb1435, 4, none⟩) (Kd.S_far (p := ⟨gb1435, 3, none⟩) (Kd.S_far (p := ⟨gb1435, 2, none⟩) (Kd.S_far (p := ⟨gb1435, 1, none⟩) (Kd.S_far (p := ⟨gb1435, 0, none⟩) (Kd.S_types HO1434.out BK1435.out (by decide)) (fun _ hk => hk.2) (.int .i64 t1426)) (fun _ hk => hk.2) (.slice Ao25 t1427.length co25)) (fun _ hk => hk.2) (.int .i64 t1430)) (fun _ hk => hk.2) (.int .i64 t1431)) (fun _ hk => hk.2) (.slice Ao29 t1432.length co29)) (fun _ hk => ⟨hk.1.1, ⟨hk.1.2.1, hk.1.2.2⟩⟩)⟩
     have n4_ : Aside0 ((((((w23.setCell ⟨gb1435, 0, none⟩ (.int .i64 t1426)).setCell ⟨gb1435, 1, none⟩ (.slice Ao25 t1427.length co25)).setCell ⟨gb1435, 2, none⟩ (.int .i64 t1430)).setCell ⟨gb1435, 3, none⟩ (.int .i64 t1431)).setCell ⟨gb1435, 4, none⟩ (.slice Ao29 t1432.length co29)).heap[gb1417]? = some (.cells #[.slice A1_0 l1_0.length c1_0, .int .i64 a1_1, .int .i64 a1_2, .string a1_3] 44 (0, 0))) := ⟨by (with_reducible repeat (first | refine kn_ ?_ _ | refine kd_ ?_ | refine ka_ ?_ _)); refine blk_far ?_ NB1417_1435.out _; (with_reducible repeat (first | refine kn_ ?_ _ | refine kd_ ?_ | refine ka_ ?_ _)); refine blk_far ?_ NB1417_1435.out _; (with_reducible repeat (first | refine kn_ ?_ _ | refine kd_ ?_ | refine ka_ ?_ _)); refine blk_far ?_ NB1417_1435.out _; (with_reducible repeat (first | refine kn_ ?_ _ | refine kd_ ?_ | refine ka_ ?_ _)); refine blk_far ?_ NB1417_1435.out _; (with_reducible repeat (first | refine kn_ ?_ _ | refine kd_ ?_ | refine ka_ ?_ _)); refine blk_far ?_ NB1417_1435.out _; (with_reducible repeat (first | refine kn_ ?_ _ | refine kd_ ?_ | refine ka_ ?_ _)); exact BK1417.out⟩
     have n5_ : Aside0 ((((((w23.setCell ⟨gb1435, 0, none⟩ (.int .i64 t1426)).setCell ⟨gb1435, 1, none⟩ (.slice Ao25 t1427.length co25)).setCell ⟨gb1435, 2, none⟩ (.int .i64 t1430)).setCell ⟨gb1435, 3, none⟩ (.int .i64 t1431)).setCell ⟨gb1435, 4, none⟩ (.slice Ao29 t1432.length co29)).heap[gb1435]? = some (.cells #[.int .i64 t1426, .slice Ao25 t1427.length co25, .int .i64 t1430, .int .i64 t1431, .slice Ao29 t1432.length co29] 75 (0, 0))) := ⟨by (with_reducible repeat (first | refine kn_ ?_ _ | refine kd_ ?_ | refine ka_ ?_ _)); refine blk_put (cs := #[.int .i64 t1426, .slice Ao25 t1427.length co25, .int .i64 t1430, .int .i64 t1431, .slice none 0 0]) ?_ 4 _ rfl; (with_reducible repeat (first | refine kn_ ?_ _ | refine kd_ ?_ | refine ka_ ?_ _)); refine blk_put (cs := #[.int .i64 t1426, .slice Ao25 t1427.length co25, .int .i64 t1430, .int .i64 0, .slice none 0 0]) ?_ 3 _ rfl; (with_reducible repeat (first | refine kn_ ?_ _ | refine kd_ ?_ | refine ka_ ?_ _)); refine blk_put (cs := #[.int .i64 t1426, .slice Ao25 t1427.length co25, .int .i64 0, .int .i64 0, .slice none 0 0]) ?_ 2 _ rfl; (with_reducible repeat (first | refine kn_ ?_ _ | refine kd_ ?_ | refine ka_ ?_ _)); refine blk_put (cs := #[.int .i64 t1426, .slice none 0 0, .int .i64 0, .int .i64 0, .slice none 0 0]) ?_ 1 _ rfl; (with_reducible repeat (first | refine kn_ ?_ _ | refine kd_ ?_ | refine ka_ ?_ _)); refine blk_put (cs := #[.int .i64 0, .slice none 0 0, .int .i64 0, .int .i64 0, .slice none 0 0]) ?_ 0 _ rfl; (with_reducible repeat (first | refine kn_ ?_ _ | refine kd_ ?_ | refine ka_ ?_ _)); exact BK1435.out⟩
     have n6_ : Aside0 (Below w.heap.size w (((((w23.setCell ⟨gb1435, 0, none⟩ (.int .i64 t1426)).setCell ⟨gb1435, 1, none⟩ (.slice Ao25 t1427.length co25)).setCell ⟨gb1435, 2, none⟩ (.int .i64 t1430)).setCell ⟨gb1435, 3, none⟩ (.int .i64 t1431)).setCell ⟨gb1435, 4, none⟩ (.slice Ao29 t1432.length co29))) := ⟨by repeat (first | (with_reducible first | exact HB.out | apply ba_ | apply bn_ | apply bd_ | apply bs_ GE1417 | apply bs_ GE1435) | exact HB.out)⟩
     (try clear HO1420)
     (try clear HO1423)
     (try clear HO1429)
     (try clear HO1434)
     (try clear BK1417)
     (try clear BK1435)
     (try clear HB)
     generalize (((((w23.setCell ⟨gb1435, 0, none⟩ (.int .i64 t1426)).setCell ⟨gb1435, 1, none⟩ (.slice Ao25 t1427.length co25)).setCell ⟨gb1435, 2, none⟩ (.int .i64 t1430)).setCell ⟨gb1435, 3, none⟩ (.int .i64 t1431)).setCell ⟨gb1435, 4, none⟩ (.slice Ao29 t1432.length co29)) = w31 at n0_ n1_ n2_ n3_ n4_ n5_ n6_ ⊢
     have HO1420 := n0_
     have HO1423 := n1_
     have HO1429 := n2_
     have HO1434 := n3_
     have BK1417 := n4_
     have BK1435 := n5_
     have HB := n6_
     clear n0_ n1_ n2_ n3_ n4_ n5_ n6_
     have hnb32 := NB1435_1417.out
     have hnc32 := NB1417_1435.out
     obtain ⟨hcz33_0, hcz33_1, hcz33_2, hcz33_3, hcz33_4, hfz33_0, hfz33_1, hfz33_2, hfz33_3, hfz33_4⟩ := bc5_ BK1435.out
     have p14 : 0 ≤ (t1424 : Int) := of_decide_eq_true (by with_reducible assumption)
     have q14 : (t1424 : Int) < ((t1418.length : Int) : Int) := of_decide_eq_true (by with_reducible assumption)
     obtain ⟨go14, co14, eo14, gb14, gl14, cl14, HG14⟩ := Kd.S_form HO1420.out (by omega)
     (first | cases eo14 | (injection eo14 with ea_ en_ ec_; (first | subst ea_ | (injection ea_ with ea_; subst ea_)); subst ec_; clear en_))
     have GB14 := Aside0.mk gb14
     have GG14 := Aside0.mk HG14
     clear gb14 gl14 HG14
     obtain ⟨_, ce14, hcl14, hM14, hcc14, hfr14, _, _⟩ := Kd.S_elem HO1420.out z75 (t1424 : Int) p14 q14
     obtain ⟨ve14_1, ve14_4, rfl, ge14_1, ge14_4⟩ := k75_openM hM14
     have hx14_0 : w31.cell? ⟨go14, (t1424 : Int).toNat * 5, none⟩ = some (.int .i64 ((rd_T75 t1418 t1424).f0)) := hcc14 0 _ rfl
     have hx14_1 : w31.cell? ⟨go14, (t1424 : Int).toNat * 5 + 1, none⟩ = some (ve14_1) := hcc14 1 _ rfl
     have hx14_2 : w31.cell? ⟨go14, (t1424 : Int).toNat * 5 + 2, none⟩ = some (.int .i64 ((rd_T75 t1418 t1424).f2)) := hcc14 2 _ rfl
     have hx14_3 : w31.cell? ⟨go14, (t1424 : Int).toNat * 5 + 3, none⟩ = some (.int .i64 ((rd_T75 t1418 t1424).f3)) := hcc14 3 _ rfl
     have hx14_4 : w31.cell? ⟨go14, (t1424 : Int).toNat * 5 + 4, none⟩ = some (ve14_4) := hcc14 4 _ rfl
     have hf14_0 : w31.frozen? ⟨go14, (t1424 : Int).toNat * 5, none⟩ = false := hfr14 0
     have hf14_1 : w31.frozen? ⟨go14, (t1424 : Int).toNat * 5 + 1, none⟩ = false := hfr14 1
     have hf14_2 : w31.frozen? ⟨go14, (t1424 : Int).toNat * 5 + 2, none⟩ = false := hfr14 2
     have hf14_3 : w31.frozen? ⟨go14, (t1424 : Int).toNat * 5 + 3, none⟩ = false := hfr14 3
     have hf14_4 : w31.frozen? ⟨go14, (t1424 : Int).toNat * 5 + 4, none⟩ = false := hfr14 4
     clear hcl14 hcc14 hfr14 hM14
     replace p14 := eq_true p14
     replace q14 := eq_true q14
     obtain ⟨PXP36, hPXP36, hPlP36⟩ := Kd.S_fp (Kd.S_types (Kd.S_apart' (HO1434.out) (Kd.S_typed HO1420.out) (by decide)) BK1435.out (by decide))
     have HX34 := Aside0.mk (show Kd.S k75 75 w31 w.heap.size (fun k_ => ((fun k_ => k_ ≠ gb1417 ∧ k_ ≠ gb1435)) k_ ∧ ¬ ((fun k_ => some k_ = (.slice Ao25 t1427.length co25 : Value).ownBlock ∨ PXP36 k_)) k_) (.slice (some ⟨go14, 0, none⟩) t1418.length co14) t1418 from (by (with_reducible repeat (first | apply Kd.S_alloc | apply Kd.S_drewN | apply Kd.S_drew)); exact Kd.S_mono HO1420.out (fun k_ hk => ⟨⟨hk.1, hk.2.1⟩, fun e_ => e_.elim (fun h_ => (fun ez_ => Nat.lt_irrefl _ (Nat.lt_of_lt_of_le hk.2.2.2.2 (HO1429.out.1 _ ez_.symm))) h_) (fun h_ => (fun ez_ => Nat.lt_irrefl _ (Nat.lt_of_lt_of_le hk.2.2.2.2 (hPlP36 _ ez_).1.1.1.2.2)) h_)⟩)))
     obtain ⟨oki34, ce34, hcl34, hM34, hcc34, hfr34, hoki34, hH34⟩ := Kd.S_elem HX34.out z75 (t1424 : Int) (of_decide_eq_true (by with_reducible assumption)) (by have h_ : (t1424 : Int) < ((t1418.length : Int) : Int) := of_decide_eq_true (by with_reducible assumption); first | exact h_ | (have e_ := (Kd.S_reads' HO1420.out).1; omega) | simpa using h_)
     obtain ⟨ve34_1, ve34_4, rfl, ge34_1, ge34_4⟩ := k75_openM hM34
     have HP34 := Kd.S_seg hH34 (of_decide_eq_true (by with_reducible assumption)) (by have h_ : (t1424 : Int) < ((t1418.length : Int) : Int) := of_decide_eq_true (by with_reducible assumption); first | exact h_ | (have e_ := (Kd.S_reads' HO1420.out).1; omega) | simpa using h_) (seg := [.int .i64 t1426, .slice Ao25 t1427.length co25, .int .i64 t1430, .int .i64 t1431, .slice Ao29 t1432.length co29]) (j := 0) (show 5 ≤ 5 from by decide) (x' := (⟨t1426, t1427, t1430, t1431, t1432⟩ : S75)) (k75_mkM _ _ _ (⟨t1426, t1427, t1430, t1431, t1432⟩ : S75) (Kd.R_mono (Kd.R_tight rfl (Kd.R_mono (ok' := fun k_ => ((fun k_ => k_ ≠ gb1417 ∧ k_ ≠ gb1435)) k_ ∧ k_ ≠ go14) (Kd.R_types (Kd.R_types (Kd.R_apart' (HO1429.out) (Kd.S_typed HO1420.out) (by decide)) BK1417.out (by decide)) BK1435.out (by decide)) (fun k_ hk => ⟨⟨hk.1.2, hk.2⟩, fun e_ => (hk.1.1.2) (by rw [e_]; rfl)⟩))) (fun _ h_ => ⟨Or.inr (Or.inl h_), h_⟩)) (Kd.S_mono hPXP36 (fun k_ h_ => ⟨Or.inr (Or.inr (h_)), fun e_ => (hPlP36 k_ h_).1.1.1.1 e_⟩))) (fun _ hk => hk) (fun k_ hk_ => hk_.elim (fun h_ => ((Kd.R_mono (ok' := fun k_ => ((fun k_ => k_ ≠ gb1417 ∧ k_ ≠ gb1435)) k_ ∧ k_ ≠ go14) (Kd.R_types (Kd.R_types (Kd.R_apart' (HO1429.out) (Kd.S_typed HO1420.out) (by decide)) BK1417.out (by decide)) BK1435.out (by decide)) (fun k_ hk => ⟨⟨hk.1.2, hk.2⟩, fun e_ => (hk.1.1.2) (by rw [e_]; rfl)⟩))).1 k_ h_.symm) (fun h_ => ⟨⟨(hPlP36 k_ h_).1.1.1.2.1, (hPlP36 k_ h_).1.2⟩, fun e_ => ((hPlP36 k_ h_).1.1.2) (by rw [e_]; rfl)⟩))
     have hx34_0 := hcc34 0 _ rfl
     (try simp only [show (k75).sz = 5 from rfl, Nat.mul_one, Nat.add_zero] at hx34_0)
     have hf34_0 := hfr34 0
     (try simp only [show (k75).sz = 5 from rfl, Nat.mul_one, Nat.add_zero] at hf34_0)
     have hx34_1 := hcc34 1 _ rfl
     (try simp only [show (k75).sz = 5 from rfl, Nat.mul_one, Nat.add_zero] at hx34_1)
     have hf34_1 := hfr34 1
     (try simp only [show (k75).sz = 5 from rfl, Nat.mul_one, Nat.add_zero] at hf34_1)
     have hx34_2 := hcc34 2 _ rfl
     (try simp only [show (k75).sz = 5 from rfl, Nat.mul_one, Nat.add_zero] at hx34_2)
     have hf34_2 := hfr34 2
     (try simp only [show (k75).sz = 5 from rfl, Nat.mul_one, Nat.add_zero] at hf34_2)
     have hx34_3 := hcc34 3 _ rfl
     (try simp only [show (k75).sz = 5 from rfl, Nat.mul_one, Nat.add_zero] at hx34_3)
     have hf34_3 := hfr34 3
     (try simp only [show (k75).sz = 5 from rfl, Nat.mul_one, Nat.add_zero] at hf34_3)
     have hx34_4 := hcc34 4 _ rfl
     (try simp only [show (k75).sz = 5 from rfl, Nat.mul_one, Nat.add_zero] at hx34_4)
     have hf34_4 := hfr34 4
     (try simp only [show (k75).sz = 5 from rfl, Nat.mul_one, Nat.add_zero] at hf34_4)
     clear hcl34 hcc34 hfr34 hM34 hoki34 hH34
     try go_wp2_with (first | ((with_reducible refine gate_store (t := 75) (p := 35) rfl ?_); refine store_event (t := 75) (p := 35) (v := ?vo_w35) (w1 := (((((w31.setCell ⟨go14, (t1424 : Int).toNat * 5, none⟩ (.int .i64 t1426)).setCell ⟨go14, (t1424 : Int).toNat * 5 + 1, none⟩ (.slice Ao25 t1427.length co25)).setCell ⟨go14, (t1424 : Int).toNat * 5 + 2, none⟩ (.int .i64 t1430)).setCell ⟨go14, (t1424 : Int).toNat * 5 + 3, none⟩ (.int .i64 t1431)).setCell ⟨go14, (t1424 : Int).toNat * 5 + 4, none⟩ (.slice Ao29 t1432.length co29))) ?hg ?ho ?hn ?hr ?_; (case ho => rfl); (case hg => rfl); (case hn => rfl); (case hr => first | (go_simp; done) | (go_simp; rfl)); intro w35 hw; have hg : w31.grownBy w35 (some go14) := (by rw [hw]; exact HP34.2); have hp_ : Kd.S k75 75 w35 w.heap.size (fun k_ => k_ ≠ gb1417 ∧ k_ ≠ gb1435) (.slice (some ⟨go14, 0, none⟩) t1418.length co14) y1436 := (by rw [hw, Ny1436.out]; exact HP34.1); clear HP34; replace BK1417 := Aside0.mk (blk_grown (g := gb1417) (o := .cells #[.slice A1_0 l1_0.length c1_0, .int .i64 a1_1, .int .i64 a1_2, .string a1_3] 44 (0, 0)) (pb_ BK1417.out) hg (Kd.S_ne HO1420.out BK1417.out (by decide))); replace HO1423 := Aside0.mk (Kd.R_over' (v := (.slice (some ⟨go14, 0, none⟩) t1418.length co14)) (rp_ HO1423.out) (Kd.S_typed HO1420.out) (by decide) hg); replace BK1435 := Aside0.mk (blk_grown (g := gb1435) (o := .cells #[.int .i64 t1426, .slice Ao25 t1427.length co25, .int .i64 t1430, .int .i64 t1431, .slice Ao29 t1432.length co29] 75 (0, 0)) (pb_ BK1435.out) hg (Kd.S_away HO1420.out (fun _ hk => hk.2.1))); replace HO1420 := Aside0.mk (hp_); replace HB := Aside0.mk ((by rw [hw]; exact below_set (below_set (below_set (below_set (below_set (HB.out) GB14.out) GB14.out) GB14.out) GB14.out) GB14.out : Below w.heap.size w w35)); clear HO1429 HO1434; clear hg hw hp_))
     go_ret2
     exact ⟨_, by first | rfl | (simp [errW_none, errW_some] <;> rfl) | (simp [*, errW_none, errW_some] <;> rfl), by (with_reducible repeat (first | apply Kd.S_alloc | apply Kd.S_drewN | apply Kd.S_drew)); exact Kd.S_mono HO1420.out (fun _ hk => trivial), by repeat (first | (with_reducible first | exact HB.out | apply ba_ | apply bn_ | apply bd_ | apply bs_ GE1417 | apply bs_ GE1435) | exact HB.out)⟩
    rw [if_neg c13] at H
    exact absurd H (by simp)
   rw [if_neg c11] at H
   exact absurd H (by simp)
  rw [if_neg c10] at H
  exact absurd H (by simp)
 rw [if_neg c9] at H
 have c9b0 : decide (0 ≤ t1424) = false := decide_eq_false c9
 clear c9
 replace H := Option.bind_eq_some_iff.mp H
 obtain ⟨⟨t1437, t1440, t1441, t1442⟩, A370, H⟩ := H
 have A37 := Aside0.mk A370
 clear A370
 obtain ⟨y1443, hy1443⟩ : ∃ y_ : List (S44), y_ = (([(⟨t1437, t1440, t1441, t1442⟩ : S44)] : List (S44))) := ⟨_, rfl⟩
 replace H : (if t1418.length < 1954687338268 then (some ((t1418 ++ [(⟨a3, t1421, a4, (-1), y1443⟩ : S75)]), true)) else (none)) = some (r1, r2) := by first | (rw [hy1443]; with_reducible exact H) | (have H2_ := (Option.bind_some _ _).symm.trans H; rw [hy1443]; with_reducible exact H2_) | (have H2_ := (Option.bind_some _ _).symm.trans H; with_reducible exact H2_) | with_reducible exact H | (rw [hy1443]; exact H) | exact H
 have Ny1443 := Aside0.mk hy1443
 clear hy1443
 by_cases c38 : t1418.length < 1954687338268
 ·
  rw [if_pos c38] at H
  have LMc38 := Aside0.mk c38
  clear c38
  obtain ⟨y1446, hy1446⟩ : ∃ y_ : List (S75), y_ = (t1418 ++ [(⟨a3, t1421, a4, (-1), y1443⟩ : S75)]) := ⟨_, rfl⟩
  replace H : (some (y1446, true)) = some (r1, r2) := by first | (rw [hy1446]; with_reducible exact H) | (have H2_ := (Option.bind_some _ _).symm.trans H; rw [hy1446]; with_reducible exact H2_) | (have H2_ := (Option.bind_some _ _).symm.trans H; with_reducible exact H2_) | with_reducible exact H | (rw [hy1446]; exact H) | exact H
  have Ny1446 := Aside0.mk hy1446
  clear hy1446
  simp only [Option.some.injEq, Prod.mk.injEq] at H
  obtain ⟨rfl, rfl⟩ := H
  go_enter Try.func70, Try.ntmps70
  go_wp2_with (first | ((with_reducible refine gate_dst (N := 6) rfl ?_); refine box_event ?hg (N := 6) ?hd (cs := #[.slice A1_0 l1_0.length c1_0, .int .i64 a1_1, .int .i64 a1_2, .string a1_3]) (t := 44) ?hr ?_; (case hd => rfl); (case hg => rfl); (case hr => first | (go_simp; done) | (go_simp; rfl)); intro gb1417 hg w39 hbox hb; have BK1417 := Aside0.mk (hbox); have GW1417 := Aside0.mk ((by rw [hg]; exact (below_size (hb_ HB.out)) : w.heap.size ≤ gb1417)); replace HB := Aside0.mk (below_step (hb_ HB.out) hb); have GE1417 := GW1417; clear hb hbox hg) | ((with_reducible refine gate_callee (f := 127) rfl ?_); refine goesL_ (some 17) rfl rfl Try.func127 (by kernel_rfl) rfl #[.slice A0 l0.length c0] rfl (by (try simp only [mp_]); first | done | rfl | (simp only [List.length_drop, List.length_take]; rfl)) ?_; (with_reducible refine (spec_l12Copy.calls k _ _ l0 t1418 _ ?side1 ?side2 A6.out).mono ?_); (case side1 => exact cp_ ((Kd.C_below HR0.out HB.out))); (case side2 => exact HC0.out); rintro e w40 ⟨v1419, rfl, ho0, hb⟩; refine ⟨_, rfl, ?_⟩; obtain ⟨gbz1419, hz1419⟩ := Kd.S_name ho0; have HO1420 := Aside0.mk (Kd.S_lower (Kd.S_newB (Kd.S_gez hz1419 ho0) (g := gb1417) (o := .cells #[.slice A1_0 l1_0.length c1_0, .int .i64 a1_1, .int .i64 a1_2, .string a1_3] 44 (0, 0)) (pb_ BK1417.out)) (below_size (by repeat (first | (with_reducible first | exact HB.out | apply ba_ | apply bn_ | apply bd_ | apply bs_ GE1417) | exact HB.out)))); replace BK1417 := Aside0.mk (bb_ BK1417.out hb); replace HB := Aside0.mk (below_step (by repeat (first | (with_reducible first | exact HB.out | apply ba_ | apply bn_ | apply bd_ | apply bs_ GE1417) | exact HB.out)) hb); (try clear hb); (try clear hb2); (try clear hk); (try clear hi); (try clear ho0); obtain ⟨hcz41_0, hcz41_1, hcz41_2, hcz41_3, hfz41_0, hfz41_1, hfz41_2, hfz41_3⟩ := bc4_ BK1417.out) | ((with_reducible refine gate_callee (f := 107) rfl ?_); refine goesL_ (some 20) rfl rfl Try.func107 (by kernel_rfl) rfl #[.agg #[.slice A1_0 l1_0.length c1_0, .int .i64 a1_1, .int .i64 a1_2, .string a1_3], .slice A2 l2.length c2] rfl (by (try simp only [mp_]); first | done | rfl | (simp only [List.length_drop, List.length_take]; rfl)) ?_; (with_reducible refine (spec_KeyOf.calls k _ _ l1_0 a1_1 a1_2 a1_3 _ _ l2 t1421 _ ?side1 ?side2 ?side3 ?side4 A7.out).mono ?_); (case side1 => exact cp_ ((Kd.C_below HR1_0.out HB.out))); (case side2 => exact HC1_0.out); (case side3 => exact cp_ ((Kd.C_below HR2.out HB.out))); (case side4 => exact HC2.out); rintro e w42 ⟨v1422, rfl, ho0, hb⟩; refine ⟨_, rfl, ?_⟩; obtain ⟨gbz1422, hz1422⟩ := Kd.R_name ho0; replace HO1420 := Aside0.mk (Kd.S_below (Kd.S_ltz hz1422 (sp_ HO1420.out)) hb); have HO1423 := Aside0.mk (Kd.R_lower (Kd.R_gez hz1422 ho0) (below_size (by repeat (first | (with_reducible first | exact HB.out | apply ba_ | apply bn_ | apply bd_ | apply bs_ GE1417) | exact HB.out)))); replace BK1417 := Aside0.mk (bb_ BK1417.out hb); replace HB := Aside0.mk (below_step (by repeat (first | (with_reducible first | exact HB.out | apply ba_ | apply bn_ | apply bd_ | apply bs_ GE1417) | exact HB.out)) hb); (try clear hb); (try clear hb2); (try clear hk); (try clear hi); (try clear ho0); obtain ⟨Ao43, co43, eo43⟩ := Kd.R_slice HO1423.out; subst eo43) | ((with_reducible refine gate_callee (f := 128) rfl ?_); refine goesL_ (some 23) rfl rfl Try.func128 (by kernel_rfl) rfl #[.slice A0 l0.length c0, .slice Ao43 t1421.length co43] rfl (by (try simp only [mp_]); first | done | rfl | (simp only [List.length_drop, List.length_take]; rfl)) ?_; (with_reducible refine (spec_GroupOf.calls k _ _ l0 _ _ t1421 t1424 _ ?side1 ?side2 ?side3 ?side4 A8.out).mono ?_); (case side1 => exact cp_ ((Kd.C_below HR0.out HB.out))); (case side2 => exact HC0.out); (case side3 => exact cp_ ((Kd.R_reads' HO1423.out).2.2)); (case side4 => exact (Kd.R_reads' HO1423.out).2.1); rintro e w' ⟨rfl, ⟨nd, rfl⟩⟩; refine ⟨_, rfl, ?_⟩; obtain ⟨hcz44_0, hcz44_1, hcz44_2, hcz44_3, hfz44_0, hfz44_1, hfz44_2, hfz44_3⟩ := bc4_ BK1417.out) | ((with_reducible refine gate_callee (f := 94) rfl ?_); refine goesL_ (some 42) rfl rfl Try.func94 (by kernel_rfl) rfl #[.agg #[.slice A1_0 l1_0.length c1_0, .int .i64 a1_1, .int .i64 a1_2, .string a1_3]] rfl (by (try simp only [mp_]); first | done | rfl | (simp only [List.length_drop, List.length_take]; rfl)) ?_; (with_reducible refine (spec_l4Copy.calls _ _ l1_0 a1_1 a1_2 a1_3 t1437 t1440 t1441 t1442 _ ?side1 ?side2 A37.out).mono ?_); (case side1 => repeat (first | exact (Kd.C_below HR1_0.out (by repeat (first | (with_reducible first | exact HB.out | apply ba_ | apply bn_ | apply bd_ | apply bs_ GE1417) | exact HB.out))) | (with_reducible first | refine ca_ ?_ _ | refine cn_ ?_ _ | refine cd_ ?_))); (case side2 => exact HC1_0.out); rintro e w45 ⟨v1438, rfl, ho0, hb⟩; refine ⟨_, rfl, ?_⟩; obtain ⟨gbz1438, hz1438⟩ := Kd.R_name ho0; replace HO1420 := Aside0.mk (Kd.S_below (Kd.S_ltz hz1438 (sp_ HO1420.out)) hb); replace HO1423 := Aside0.mk (Kd.R_below (Kd.R_ltz hz1438 (rp_ HO1423.out)) hb); have HO1439 := Aside0.mk (Kd.R_lower (Kd.R_gez hz1438 ho0) (below_size (by repeat (first | (with_reducible first | exact HB.out | apply ba_ | apply bn_ | apply bd_ | apply bs_ GE1417) | exact HB.out)))); replace BK1417 := Aside0.mk (bb_ BK1417.out hb); replace HB := Aside0.mk (below_step (by repeat (first | (with_reducible first | exact HB.out | apply ba_ | apply bn_ | apply bd_ | apply bs_ GE1417) | exact HB.out)) hb); (try clear hb); (try clear hb2); (try clear hk); (try clear hi); (try clear ho0); obtain ⟨Ao46, co46, eo46⟩ := Kd.R_slice HO1439.out; subst eo46) | ((with_reducible refine gate_dst (N := 43) rfl ?_); refine Kd.S_lit2 k44 w.heap.size 44 ?hg (N := 43) ?hd (x := (⟨t1437, t1440, t1441, t1442⟩ : S44)) (cs := [.slice Ao46 t1437.length co46, .int .i64 t1440, .int .i64 t1441, .string t1442]) (ok := (fun k_ => some k_ ≠ (.slice Ao43 t1421.length co43 : Value).ownBlock ∧ k_ ≠ gb1417)) (okp := (fun k_ => some k_ = (.slice Ao46 t1437.length co46 : Value).ownBlock)) (fun k_ => gbz1438 ≤ k_) ?hr ?hp (fun k_ hk_ => (fun e_ => e_.1.1.2) ((Kd.R_types ((Kd.R_mono HO1439.out (fun k_ hk => (⟨hk, fun ez_ => Nat.lt_irrefl _ (Nat.lt_of_lt_of_le (HO1423.out.1 _ ez_.symm).2 hk.2)⟩ : _ ∧ some k_ ≠ (.slice Ao43 t1421.length co43 : Value).ownBlock)))) BK1417.out (by decide)).1 k_ hk_.symm)) (fun k_ hk_ => ((Kd.R_mono (ok' := (fun k_ => some k_ ≠ (.slice Ao43 t1421.length co43 : Value).ownBlock ∧ k_ ≠ gb1417)) (Kd.R_types ((Kd.R_mono HO1439.out (fun k_ hk => (⟨hk, fun ez_ => Nat.lt_irrefl _ (Nat.lt_of_lt_of_le (HO1423.out.1 _ ez_.symm).2 hk.2)⟩ : _ ∧ some k_ ≠ (.slice Ao43 t1421.length co43 : Value).ownBlock)))) BK1417.out (by decide)) (fun k_ hk => ⟨hk.1.2, hk.2⟩))).1 k_ hk_.symm) ?hf ?aS ?_; (case hd => rfl); (case hg => rfl); (case hr => first | (go_simp; done) | (go_simp; rfl)); (case hp => exact (k44_mkM _ _ _ (⟨t1437, t1440, t1441, t1442⟩ : S44) (Kd.R_mono (Kd.R_tight rfl (Kd.R_mono (ok' := (fun k_ => some k_ ≠ (.slice Ao43 t1421.length co43 : Value).ownBlock ∧ k_ ≠ gb1417)) (Kd.R_types ((Kd.R_mono HO1439.out (fun k_ hk => (⟨hk, fun ez_ => Nat.lt_irrefl _ (Nat.lt_of_lt_of_le (HO1423.out.1 _ ez_.symm).2 hk.2)⟩ : _ ∧ some k_ ≠ (.slice Ao43 t1421.length co43 : Value).ownBlock)))) BK1417.out (by decide)) (fun k_ hk => ⟨hk.1.2, hk.2⟩))) (fun _ h_ => h_)))); (case hf => exact (show ∀ k_, w45.heap.size ≤ k_ → ((fun k_ => some k_ ≠ (.slice Ao43 t1421.length co43 : Value).ownBlock ∧ k_ ≠ gb1417)) k_ from fun k_ hk => ⟨Kd.fresh' (Kd.R_lt (rp_ HO1423.out)) k_ hk, Kd.freshB (g := gb1417) (o := .cells #[.slice A1_0 l1_0.length c1_0, .int .i64 a1_1, .int .i64 a1_2, .string a1_3] 44 (0, 0)) (pb_ BK1417.out) k_ hk⟩) _ (Nat.le_refl _)); (case aS => exact (below_size (by repeat (first | (with_reducible first | exact HB.out | apply ba_ | apply bn_ | apply bd_ | apply bs_ GE1417) | exact HB.out)))); intro v1444 w47 ho48 hb hnew_; rw [← Ny1443.out] at ho48; replace HO1420 := Aside0.mk (Kd.S_elder' (sp_ HO1420.out) hnew_ hb); replace HO1423 := Aside0.mk (Kd.R_below (rp_ HO1423.out) hb); have HO1445 := Aside0.mk (ho48); replace BK1417 := Aside0.mk (bb_ BK1417.out hb); replace HB := Aside0.mk (below_step (by repeat (first | (with_reducible first | exact HB.out | apply ba_ | apply bn_ | apply bd_ | apply bs_ GE1417) | exact HB.out)) hb); clear HO1439; clear hb hnew_ ho48; obtain ⟨Ao49, co49, eo49⟩ := Kd.S_slice HO1445.out; subst eo49; obtain ⟨PXP51, hPXP51, hPlP51⟩ := Kd.S_fp (Kd.S_apart' (HO1445.out) (Kd.S_typed HO1420.out) (by decide))) | ((with_reducible refine gate_builtin (b := .append) (xs := #[.tmp 37, .tmp 45]) rfl ?_); at_builtin; refine Kd.S_append k75 (w0 := w) w.heap.size rfl (.tmp 37) (.tmp 45) 87 75 (.agg #[(.int .i64 0), (.slice none 0 0), (.int .i64 0), (.int .i64 0), (.slice none 0 0)]) 72 rfl Try.underlying87 info75 rfl (by decide) (by omega) v1419 t1418 (⟨a3, t1421, a4, (-1), y1443⟩ : S75) [.int .i64 a3, .slice Ao43 t1421.length co43, .int .i64 a4, .int .i64 (-1), .slice Ao49 y1443.length co49] (fun k_ => k_ ≠ gb1417) (fun k_ => some k_ = (.slice Ao43 t1421.length co43 : Value).ownBlock ∨ PXP51 k_) rfl rfl ?aP (fun k_ hk_ => hk_.elim (fun h_ => ((Kd.R_mono (ok' := fun k_ => ((fun k_ => k_ ≠ gb1417)) k_ ∧ some k_ ≠ (v1419 : Value).ownBlock) (Kd.R_types (Kd.R_apart' (HO1423.out) (Kd.S_typed HO1420.out) (by decide)) BK1417.out (by decide)) (fun k_ hk => ⟨hk.2, hk.1.2⟩))).1 k_ h_.symm) (fun h_ => ⟨(hPlP51 k_ h_).1.1.1.2, (hPlP51 k_ h_).1.2⟩)) ?aF ?aO ?aB ?aS ?aL ?_; (case aP => exact k75_mkM _ _ _ (⟨a3, t1421, a4, (-1), y1443⟩ : S75) (P := fun k_ => some k_ = (.slice Ao43 t1421.length co43 : Value).ownBlock) (Kd.R_mono (Kd.R_tight rfl (Kd.R_mono (ok' := fun k_ => ((fun k_ => k_ ≠ gb1417)) k_ ∧ some k_ ≠ (v1419 : Value).ownBlock) (Kd.R_types (Kd.R_apart' (HO1423.out) (Kd.S_typed HO1420.out) (by decide)) BK1417.out (by decide)) (fun k_ hk => ⟨hk.2, hk.1.2⟩))) (fun _ h_ => ⟨Or.inl h_, h_⟩)) (Kd.S_mono hPXP51 (fun k_ h_ => ⟨Or.inr (h_), fun e_ => (hPlP51 k_ h_).1.1.1.1 e_⟩))); (case aB => exact (by repeat (first | (with_reducible first | exact HB.out | apply ba_ | apply bn_ | apply bd_ | apply bs_ GE1417) | exact HB.out))); (case aF => exact (fun k_ hk => Kd.freshB (g := gb1417) (o := .cells #[.slice A1_0 l1_0.length c1_0, .int .i64 a1_1, .int .i64 a1_2, .string a1_3] 44 (0, 0)) (pb_ BK1417.out) k_ hk)); (case aO => exact (by (with_reducible repeat (first | apply Kd.S_alloc | apply Kd.S_drewN | apply Kd.S_drew)); exact Kd.S_mono HO1420.out (fun k_ hk => ⟨hk.1.1.1.2, fun e_ => e_.elim (fun h_ => (fun ez_ => Nat.lt_irrefl _ (Nat.lt_of_lt_of_le hk.1.1.2 (HO1423.out.1 _ ez_.symm).1.2)) h_) (fun h_ => (fun ez_ => Or.elim (hPlP51 _ ez_).1.1.2 (fun e3_ => hk.2 e3_) (fun e3_ => Nat.lt_irrefl _ (Nat.lt_of_lt_of_le hk.1.2 e3_))) h_)⟩))); (case aS => exact (below_size (by repeat (first | (with_reducible first | exact HB.out | apply ba_ | apply bn_ | apply bd_ | apply bs_ GE1417) | exact HB.out)))); (case aL => have := LMc38.out; omega); intro v1447 w50 ho hb hg hat; rw [← Ny1446.out] at ho; replace BK1417 := Aside0.mk (blk_grown (g := gb1417) (o := .cells #[.slice A1_0 l1_0.length c1_0, .int .i64 a1_1, .int .i64 a1_2, .string a1_3] 44 (0, 0)) (pb_ BK1417.out) hg (Kd.S_ne HO1420.out BK1417.out (by decide))); replace HB := Aside0.mk (hb); have HO1448 := Aside0.mk (ho); clear HO1420 HO1423 HO1445; clear ho hb hg hat))
  go_ret2
  exact ⟨_, by first | rfl | (simp [errW_none, errW_some] <;> rfl) | (simp [*, errW_none, errW_some] <;> rfl), by (with_reducible repeat (first | apply Kd.S_alloc | apply Kd.S_drewN | apply Kd.S_drew)); exact Kd.S_mono HO1448.out (fun _ hk => trivial), by repeat (first | (with_reducible first | exact HB.out | apply ba_ | apply bn_ | apply bd_ | apply bs_ GE1417) | exact HB.out)⟩
 rw [if_neg c38] at H
 exact absurd H (by simp)
def impl_copySet.f (l0 : List (S164)) : Option ((List (S164))) := if ([] : List (S164)).length + l0.length < 4398046511104 then (some (([] : List (S164)) ++ l0)) else (none)
theorem impl_copySet.calls (A0 : Option Addr) (c0 : Nat) (l0 : List (S164)) (r : List (S164)) (w : World) (hr0 : Kd.C k164 w A0 l0.length l0) (hc0 : l0.length ≤ c0) (h : impl_copySet.f l0 = some r) :
  Calls Try.prog 146 #[.slice A0 l0.length c0] w fun e w' => ∃ v0_ : Value, e = .returned (v0_) ∧ Kd.R k164 164 w' w.heap.size (fun _ => True) v0_ r ∧ Below w.heap.size w w' := by
 have HR0 := Aside0.mk hr0
 have HC0 := Aside0.mk hc0
 clear hr0 hc0
 have HB := Aside0.mk (Below.refl w.heap.size w)
 have H : (if ([] : List (S164)).length + l0.length < 4398046511104 then (some (([] : List (S164)) ++ l0)) else (none)) = some r := h
 clear h
 by_cases c2 : ([] : List (S164)).length + l0.length < 4398046511104
 ·
  rw [if_pos c2] at H
  have LMc2 := Aside0.mk c2
  clear c2
  obtain ⟨y270, hy270⟩ : ∃ y_ : List (S164), y_ = (([] : List (S164)) ++ l0) := ⟨_, rfl⟩
  replace H : (some y270) = some r := by first | (rw [hy270]; with_reducible exact H) | (have H2_ := (Option.bind_some _ _).symm.trans H; rw [hy270]; with_reducible exact H2_) | (have H2_ := (Option.bind_some _ _).symm.trans H; with_reducible exact H2_) | with_reducible exact H | (rw [hy270]; exact H) | exact H
  have Ny270 := Aside0.mk hy270
  clear hy270
  obtain rfl := Option.some.inj H
  go_enter Try.func146, Try.ntmps146
  go_wp2_with (first | ((with_reducible refine gate_builtin (b := .append) (xs := #[.const (.slice none 0 0), .tmp 3]) rfl ?_); at_builtin; refine Kd.R_append_rows k164 (w0 := w) w.heap.size rfl (.const (.slice none 0 0)) (.tmp 3) 42 164 (.agg #[(.string ⟨#[]⟩), (.string ⟨#[]⟩)]) 32 rfl Try.underlying42 info164 rfl (by decide) (by omega) (.slice none 0 0) ([] : List (S164)) l0 _ _ _ (fun _ => True) (fun _ => False) rfl rfl ?aO ?aR (fun _ _ h => h) (fun _ h => h.elim) ?aF ?aB ?aS ?aL ?_; (case aR => repeat (first | exact HR0.out | (with_reducible first | refine ca_ ?_ _ | refine cn_ ?_ _ | refine cd_ ?_))); (case aB => exact (hb_ HB.out)); (case aF => exact (fun _ _ => trivial)); (case aO => exact ((Kd.R_nil _ _ _ _ (fun _ => True)))); (case aS => exact (below_size (hb_ HB.out))); (case aL => have := LMc2.out; omega); intro v271 w3 ho hb hg hat; rw [← Ny270.out] at ho; replace HB := Aside0.mk (hb); have HO272 := Aside0.mk (ho); clear ho hb hg hat))
  go_ret
  exact ⟨_, by first | rfl | (simp [errW_none, errW_some] <;> rfl) | (simp [*, errW_none, errW_some] <;> rfl), by (with_reducible repeat (first | apply Kd.R_alloc | apply Kd.R_drewN | apply Kd.R_drew)); exact HO272.out, by exact hb_ HB.out⟩
 rw [if_neg c2] at H
 exact absurd H (by simp)
def impl_copyAlarm.f (l0_0 : List (S164)) (a0_1 : Int) (a0_2 : Int) (a0_3 : ByteArray) : Option ((List (S164)) × Int × Int × ByteArray) := (impl_copySet.f l0_0).bind fun t275 => (some (t275, a0_1, a0_2, a0_3))
theorem impl_copyAlarm.calls (A0_0 : Option Addr) (c0_0 : Nat) (l0_0 : List (S164)) (a0_1 : Int) (a0_2 : Int) (a0_3 : ByteArray) (r1 : List (S164)) (r2 : Int) (r3 : Int) (r4 : ByteArray) (w : World) (hr0_0 : Kd.C k164 w A0_0 l0_0.length l0_0) (hc0_0 : l0_0.length ≤ c0_0) (h : impl_copyAlarm.f l0_0 a0_1 a0_2 a0_3 = some (r1, r2, r3, r4)) :
  Calls Try.prog 97 #[.agg #[.slice A0_0 l0_0.length c0_0, .int .i64 a0_1, .int .i64 a0_2, .string a0_3]] w fun e w' => ∃ v0_ : Value, e = .returned (.agg #[v0_, .int .i64 r2, .int .i64 r3, .string r4]) ∧ Kd.R k164 164 w' w.heap.size (fun _ => True) v0_ r1 ∧ Below w.heap.size w w' := by
 have hu44 := Try.underlying44
 have HR0_0 := Aside0.mk hr0_0
 have HC0_0 := Aside0.mk hc0_0
 clear hr0_0 hc0_0
 have HB := Aside0.mk (Below.refl w.heap.size w)
 have H : ((impl_copySet.f l0_0).bind fun t275 => (some (t275, a0_1, a0_2, a0_3))) = some (r1, r2, r3, r4) := h
 clear h
 replace H := Option.bind_eq_some_iff.mp H
 obtain ⟨t275, A20, H⟩ := H
 have A2 := Aside0.mk A20
 clear A20
 simp only [Option.some.injEq, Prod.mk.injEq] at H
 obtain ⟨rfl, rfl, rfl, rfl⟩ := H
 go_enter Try.func97, Try.ntmps97
 go_wp2_with (first | ((with_reducible refine gate_dst (N := 1) rfl ?_); refine box_event ?hg (N := 1) ?hd (cs := #[.slice A0_0 l0_0.length c0_0, .int .i64 a0_1, .int .i64 a0_2, .string a0_3]) (t := 44) ?hr ?_; (case hd => rfl); (case hg => rfl); (case hr => first | (go_simp; done) | (go_simp; rfl)); intro gb273 hg w3 hbox hb; have BK273 := Aside0.mk (hbox); have GW273 := Aside0.mk ((by rw [hg]; exact (below_size (hb_ HB.out)) : w.heap.size ≤ gb273)); replace HB := Aside0.mk (below_step (hb_ HB.out) hb); have GE273 := GW273; clear hb hbox hg) | ((with_reducible refine gate_dst (N := 2) rfl ?_); refine box_event ?hg (N := 2) ?hd (cs := #[.slice none 0 0, .int .i64 0, .int .i64 0, .string (⟨#[]⟩ : ByteArray)]) (t := 44) ?hr ?_; (case hd => rfl); (case hg => rfl); (case hr => first | (go_simp; done) | (go_simp; rfl)); intro gb274 hg w4 hbox hb; have BK274 := Aside0.mk (hbox); have GW274 := Aside0.mk ((by rw [hg]; exact (below_size (by repeat (first | (with_reducible first | exact HB.out | apply ba_ | apply bn_ | apply bd_ | apply bs_ GE273) | exact HB.out))) : w.heap.size ≤ gb274)); replace HB := Aside0.mk (below_step (by repeat (first | (with_reducible first | exact HB.out | apply ba_ | apply bn_ | apply bd_ | apply bs_ GE273) | exact HB.out)) hb); have GE274 := GW274; have NB273_274 := Aside0.mk (nl_ BK273.out hg); replace BK273 := Aside0.mk (bb_ BK273.out hb); have NB274_273 := Aside0.mk (NB273_274.out.symm); clear hb hbox hg; have hnb5 := NB273_274.out; have hnc5 := NB274_273.out; obtain ⟨hcz6_0, hcz6_1, hcz6_2, hcz6_3, hfz6_0, hfz6_1, hfz6_2, hfz6_3⟩ := bc4_ BK273.out) | ((with_reducible refine gate_callee (f := 146) rfl ?_); refine goesL_ (some 5) rfl rfl Try.func146 (by kernel_rfl) rfl #[.slice A0_0 l0_0.length c0_0] rfl (by (try simp only [mp_]); first | done | rfl | (simp only [List.length_drop, List.length_take]; rfl)) ?_; (with_reducible refine (impl_copySet.calls _ _ l0_0 t275 _ ?side1 ?side2 A2.out).mono ?_); (case side1 => exact cp_ ((Kd.C_below HR0_0.out HB.out))); (case side2 => exact HC0_0.out); rintro e w7 ⟨v276, rfl, ho0, hb⟩; refine ⟨_, rfl, ?_⟩; have HO277 := Aside0.mk (Kd.R_lower ho0 (below_size (by repeat (first | (with_reducible first | exact HB.out | apply ba_ | apply bn_ | apply bd_ | apply bs_ GE273 | apply bs_ GE274) | exact HB.out)))); replace BK273 := Aside0.mk (bb_ BK273.out hb); replace BK274 := Aside0.mk (bb_ BK274.out hb); replace HB := Aside0.mk (below_step (by repeat (first | (with_reducible first | exact HB.out | apply ba_ | apply bn_ | apply bd_ | apply bs_ GE273 | apply bs_ GE274) | exact HB.out)) hb); (try clear hb); (try clear hb2); (try clear hk); (try clear hi); (try clear ho0); obtain ⟨Ao8, co8, eo8⟩ := Kd.R_slice HO277.out; subst eo8; obtain ⟨hcz9_0, hcz9_1, hcz9_2, hcz9_3, hfz9_0, hfz9_1, hfz9_2, hfz9_3⟩ := bc4_ BK273.out; obtain ⟨hcz10_0, hcz10_1, hcz10_2, hcz10_3, hfz10_0, hfz10_1, hfz10_2, hfz10_3⟩ := bc4_ BK274.out))
 refine bodyPost_ret (results_cell_row rfl _ _ gb274 44 #[.slice Ao8 t275.length co8, .int .i64 a0_1, .int .i64 a0_2, .string a0_3] (0, 0) _ rfl (by (with_reducible repeat (first | refine kn_ ?_ _ | refine kd_ ?_ | refine ka_ ?_ _)); refine blk_put (cs := #[.slice Ao8 t275.length co8, .int .i64 a0_1, .int .i64 a0_2, .string (⟨#[]⟩ : ByteArray)]) ?_ 3 _ rfl; (with_reducible repeat (first | refine kn_ ?_ _ | refine kd_ ?_ | refine ka_ ?_ _)); refine blk_put (cs := #[.slice Ao8 t275.length co8, .int .i64 a0_1, .int .i64 0, .string (⟨#[]⟩ : ByteArray)]) ?_ 2 _ rfl; (with_reducible repeat (first | refine kn_ ?_ _ | refine kd_ ?_ | refine ka_ ?_ _)); refine blk_put (cs := #[.slice Ao8 t275.length co8, .int .i64 0, .int .i64 0, .string (⟨#[]⟩ : ByteArray)]) ?_ 1 _ rfl; (with_reducible repeat (first | refine kn_ ?_ _ | refine kd_ ?_ | refine ka_ ?_ _)); refine blk_put (cs := #[.slice none 0 0, .int .i64 0, .int .i64 0, .string (⟨#[]⟩ : ByteArray)]) ?_ 0 _ rfl; (with_reducible repeat (first | refine kn_ ?_ _ | refine kd_ ?_ | refine ka_ ?_ _)); refine blk_far ?_ NB274_273.out _; (with_reducible repeat (first | refine kn_ ?_ _ | refine kd_ ?_ | refine ka_ ?_ _)); exact BK274.out) Try.underlying44 rfl (by kernel_rfl)) rfl ?_
 exact ⟨_, by first | rfl | (simp [errW_none, errW_some] <;> rfl) | (simp [*, errW_none, errW_some] <;> rfl), by (with_reducible repeat (first | apply Kd.R_alloc | apply Kd.R_drewN | apply Kd.R_drew)); exact Kd.R_mono (Kd.R_far (p := ⟨gb274, 3, none⟩) (Kd.R_far (p := ⟨gb274, 2, none⟩) (Kd.R_far (p := ⟨gb274, 1, none⟩) (Kd.R_far (p := ⟨gb274, 0, none⟩) (Kd.R_far (p := ⟨gb273, 0, none⟩) (Kd.R_types (Kd.R_types HO277.out BK273.out (by decide)) BK274.out (by decide)) (fun _ hk => hk.1.2) (.slice Ao8 t275.length co8)) (fun _ hk => hk.2) (.slice Ao8 t275.length co8)) (fun _ hk => hk.2) (.int .i64 a0_1)) (fun _ hk => hk.2) (.int .i64 a0_2)) (fun _ hk => hk.2) (.string a0_3)) (fun _ hk => trivial), by repeat (first | (with_reducible first | exact HB.out | apply ba_ | apply bn_ | apply bd_ | apply bs_ GE273 | apply bs_ GE274) | exact HB.out)⟩
def impl_hasText.l0 : Nat → ByteArray → List ByteArray → Int → Int → Option (Bool)
 | 0, _, _, _, _ => none
 | k + 1, x1, x7, x8, x9 => if x9 < x8 then (if 0 ≤ x9 then (if x9 < (x7.length : Int) then (if (rdOf ByteArray.empty x7 x9).toList = x1.toList then (some true) else (impl_hasText.l0 k x1 x7 x8 (wrap64 (x9 + 1)))) else (none)) else (none)) else (some false)
def impl_hasText.f (k : Nat) (l0 : List ByteArray) (a1 : ByteArray) : Option (Bool) := impl_hasText.l0 k a1 l0 (l0.length : Int) 0
theorem impl_hasText.mono_l : ∀ k, (∀ y0 y1 y2 y3, LeO (impl_hasText.l0 k y0 y1 y2 y3) (impl_hasText.l0 (k + 1) y0 y1 y2 y3))
 | 0 => fun _ _ _ _ r h => by simp [impl_hasText.l0] at h
 | k + 1 => by
  have ih0 := impl_hasText.mono_l k
  intro y0 y1 y2 y3
  unfold impl_hasText.l0
  repeat' first
  | (with_reducible exact ih0 _ _ _ _)
  | (with_reducible exact LeO.refl _)
  | (with_reducible exact LeO.none _)
  | (with_reducible refine LeO.ite ?_ ?_)
  | (with_reducible refine LeO.bind ?_ (fun _ => ?_))
  | exact ih0 _ _ _ _
theorem impl_hasText.mono : ∀ a0 a1 k, LeO (impl_hasText.f k a0 a1) (impl_hasText.f (k + 1) a0 a1) := by
 intro a0 a1 k
 have ih0 := impl_hasText.mono_l k
 unfold impl_hasText.f
 repeat' first
   | (with_reducible exact ih0 _ _ _ _)
   | (with_reducible exact LeO.refl _)
   | (with_reducible exact LeO.none _)
   | (with_reducible refine LeO.ite ?_ ?_)
   | (with_reducible refine LeO.bind ?_ (fun _ => ?_))
   | exact ih0 _ _ _ _
theorem impl_hasText.calls (k : Nat) (A0 : Option Addr) (c0 : Nat) (l0 : List ByteArray) (a1 : ByteArray) (r : Bool) (w : World) (hr0 : Kd.C Kd.string w A0 l0.length l0) (hc0 : l0.length ≤ c0) (h : impl_hasText.f k l0 a1 = some r) :
  Calls Try.prog 170 #[.slice A0 l0.length c0, .string a1] w fun e w' => e = .returned (.bool r) ∧ Drawn0 w w' := by
 have HR0 := Aside0.mk hr0
 have HC0 := Aside0.mk hc0
 clear hr0 hc0
 have H : (impl_hasText.l0 k a1 l0 (l0.length : Int) 0) = some r := h
 clear h
 have H' := Aside0.mk H
 clear H
 go_enter Try.func170, Try.ntmps170
 go_wp2
 go_loopg [9] k (fun kq v9 w' => ∃ (x9_1 : Int), v9 = .int .i64 x9_1 ∧ Aside0 (impl_hasText.l0 kq a1 l0 (l0.length : Int) x9_1 = some r) ∧ Aside0 (kq ≤ k) ∧ Drawn0 w w')
 case atStart => exact ⟨(0), (by first | rfl | (simp; done) | (simp [*]; done)), H', ⟨Nat.le_refl _⟩, by repeat (first | exact Drawn0.refl _ | apply Drawn0.step)⟩
 case round =>
  clear H'
  try clear c1
  try clear p2
  obtain ⟨x9_1, rfl, HA, HK1, ⟨m1, rfl⟩⟩ := hrel
  cases gk with
  | zero => exact absurd HA.out (by simp [impl_hasText.l0])
  | succ k1 =>
   have H := HA.out
   clear HA
   simp only [impl_hasText.l0] at H
   by_cases c3 : x9_1 < (l0.length : Int)
   ·
    rw [if_pos c3] at H
    have c3b0 := decide_eq_true c3
    clear c3
    by_cases c4 : 0 ≤ x9_1
    ·
     rw [if_pos c4] at H
     have c4b0 := decide_eq_true c4
     clear c4
     by_cases c5 : x9_1 < (l0.length : Int)
     ·
      rw [if_pos c5] at H
      have c5b0 := decide_eq_true c5
      clear c5
      by_cases c6 : (rdOf ByteArray.empty l0 x9_1).toList = a1.toList
      ·
       rw [if_pos c6] at H
       have c6b0 : ((rdOf ByteArray.empty l0 x9_1).toList == a1.toList) = true := beq_iff_eq.mpr c6
       have c6b1 : ((rdOf ByteArray.empty l0 x9_1).toList != a1.toList) = false := bne_eq_false_iff_eq.mpr c6
       clear c6
       obtain rfl := Option.some.inj H
       have p801 : 0 ≤ (x9_1 : Int) := of_decide_eq_true (by with_reducible assumption)
       have q801 : x9_1 < (l0.length : Int) := of_decide_eq_true (by with_reducible assumption)
       obtain ⟨ad801, e801, hx801_0⟩ := Kd.at_string HR0.out x9_1 p801 q801
       cases e801
       replace p801 := eq_true p801
       replace q801 := eq_true q801
       go_wp2
       go_ret
       exact ⟨by first | rfl | (simp; done) | (simp [*]; done), by repeat (first | exact Drawn0.refl _ | apply Drawn0.step)⟩
      rw [if_neg c6] at H
      have c6b0 : ((rdOf ByteArray.empty l0 x9_1).toList == a1.toList) = false := beq_eq_false_iff_ne.mpr c6
      have c6b1 : ((rdOf ByteArray.empty l0 x9_1).toList != a1.toList) = true := bne_iff_ne.mpr c6
      have H' := Aside0.mk H
      clear H
      have p801 : 0 ≤ (x9_1 : Int) := of_decide_eq_true (by with_reducible assumption)
      have q801 : x9_1 < (l0.length : Int) := of_decide_eq_true (by with_reducible assumption)
      obtain ⟨ad801, e801, hx801_0⟩ := Kd.at_string HR0.out x9_1 p801 q801
      cases e801
      replace p801 := eq_true p801
      replace q801 := eq_true q801
      go_wp2
      go_roundg k1
      case measure => have := HK1.out; omega
      case rel => exact ⟨(wrap64 (x9_1 + 1)), (by first | rfl | (simp; done) | (simp [*]; done)), H', ⟨by have := HK1.out; omega⟩, by repeat (first | exact Drawn0.refl _ | apply Drawn0.step)⟩
     rw [if_neg c5] at H
     exact absurd H (by simp)
    rw [if_neg c4] at H
    exact absurd H (by simp)
   rw [if_neg c3] at H
   have c3b0 : decide (x9_1 < (l0.length : Int)) = false := decide_eq_false c3
   clear c3
   obtain rfl := Option.some.inj H
   go_wp2
   go_ret
   exact ⟨by first | rfl | (simp; done) | (simp [*]; done), by repeat (first | exact Drawn0.refl _ | apply Drawn0.step)⟩
def impl_Project.l0 : Nat → List ByteArray → List (S164) → List (S164) → Int → Int → Option ((List (S164)))
 | 0, _, _, _, _, _ => none
 | k + 1, x1, x5, x8, x9, x10 => if x10 < x9 then (if 0 ≤ x10 then (if x10 < (x8.length : Int) then ((impl_hasText.f k x1 ((rd_T164 x8 x10).f0)).bind fun t804 => (if t804 = true then (if x5.length < 4398046511104 then (impl_Project.l0 k x1 (x5 ++ [(⟨(rd_T164 x8 x10).f0, (rd_T164 x8 x10).f1⟩ : S164)]) x8 x9 (wrap64 (x10 + 1))) else (none)) else (impl_Project.l0 k x1 x5 x8 x9 (wrap64 (x10 + 1))))) else (none)) else (none)) else (some x5)
def impl_Project.f (k : Nat) (l0 : List (S164)) (l1 : List ByteArray) : Option ((List (S164))) := impl_Project.l0 k l1 ([] : List (S164)) l0 (l0.length : Int) 0
theorem impl_Project.mono_l : ∀ k, (∀ y0 y1 y2 y3 y4, LeO (impl_Project.l0 k y0 y1 y2 y3 y4) (impl_Project.l0 (k + 1) y0 y1 y2 y3 y4))
 | 0 => fun _ _ _ _ _ r h => by simp [impl_Project.l0] at h
 | k + 1 => by
  have ih0 := impl_Project.mono_l k
  intro y0 y1 y2 y3 y4
  unfold impl_Project.l0
  repeat' first
  | (with_reducible exact ih0 _ _ _ _ _)
  | (with_reducible exact impl_hasText.mono _ _ _)
  | (with_reducible exact LeO.refl _)
  | (with_reducible exact LeO.none _)
  | (with_reducible refine LeO.ite ?_ ?_)
  | (with_reducible refine LeO.bind ?_ (fun _ => ?_))
  | exact ih0 _ _ _ _ _
  | exact impl_hasText.mono _ _ _
theorem impl_Project.mono : ∀ a0 a1 k, LeO (impl_Project.f k a0 a1) (impl_Project.f (k + 1) a0 a1) := by
 intro a0 a1 k
 have ih0 := impl_Project.mono_l k
 unfold impl_Project.f
 repeat' first
   | (with_reducible exact ih0 _ _ _ _ _)
   | (with_reducible exact impl_hasText.mono _ _ _)
   | (with_reducible exact LeO.refl _)
   | (with_reducible exact LeO.none _)
   | (with_reducible refine LeO.ite ?_ ?_)
   | (with_reducible refine LeO.bind ?_ (fun _ => ?_))
   | exact ih0 _ _ _ _ _
   | exact impl_hasText.mono _ _ _
theorem impl_Project.calls (k : Nat) (A0 : Option Addr) (c0 : Nat) (l0 : List (S164)) (A1 : Option Addr) (c1 : Nat) (l1 : List ByteArray) (r : List (S164)) (w : World) (hr0 : Kd.C k164 w A0 l0.length l0) (hc0 : l0.length ≤ c0) (hr1 : Kd.C Kd.string w A1 l1.length l1) (hc1 : l1.length ≤ c1) (h : impl_Project.f k l0 l1 = some r) :
  Calls Try.prog 157 #[.slice A0 l0.length c0, .slice A1 l1.length c1] w fun e w' => ∃ v0_ : Value, e = .returned (v0_) ∧ Kd.R k164 164 w' w.heap.size (fun _ => True) v0_ r ∧ Below w.heap.size w w' := by
 have hu164 := Try.underlying164
 have HR0 := Aside0.mk hr0
 have HC0 := Aside0.mk hc0
 clear hr0 hc0
 have HR1 := Aside0.mk hr1
 have HC1 := Aside0.mk hc1
 clear hr1 hc1
 have HB := Aside0.mk (Below.refl w.heap.size w)
 have H : (impl_Project.l0 k l1 ([] : List (S164)) l0 (l0.length : Int) 0) = some r := h
 clear h
 have H' := Aside0.mk H
 clear H
 go_enter Try.func157, Try.ntmps157
 go_wp2
 go_loopg [5, 10] k (fun kq v5 v10 w' => ∃ (x5_1 : List (S164)) (x10_1 : Int), v10 = .int .i64 x10_1 ∧ Aside0 (impl_Project.l0 kq l1 x5_1 l0 (l0.length : Int) x10_1 = some r) ∧ Aside0 (kq ≤ k) ∧ Aside0 (Kd.R k164 164 w' w.heap.size (fun _ => True) v5 x5_1) ∧ Aside0 (Below w.heap.size w w'))
 case atStart => exact ⟨(([] : List (S164))), (0), (by first | rfl | (simp; done) | (simp [*]; done)), H', ⟨Nat.le_refl _⟩, ⟨by first | exact Kd.R_nil _ _ _ _ _ | exact Kd.N_nil _ _ _ _ _ | exact Kd.V_nil _ _ _ _ _ | exact Kd.Q_nil _ _ _ _ _ | exact Kd.S_nil _ _ _ _ _⟩, ⟨by exact hb_ HB.out⟩⟩
 case round =>
  clear H'
  try clear c1
  try clear p2
  obtain ⟨x5_1, x10_1, rfl, HA, HK1, HO_5, HB⟩ := hrel
  cases gk with
  | zero => exact absurd HA.out (by simp [impl_Project.l0])
  | succ k1 =>
   have H := HA.out
   clear HA
   simp only [impl_Project.l0] at H
   by_cases c3 : x10_1 < (l0.length : Int)
   ·
    rw [if_pos c3] at H
    have c3b0 := decide_eq_true c3
    clear c3
    by_cases c4 : 0 ≤ x10_1
    ·
     rw [if_pos c4] at H
     have c4b0 := decide_eq_true c4
     clear c4
     by_cases c5 : x10_1 < (l0.length : Int)
     ·
      rw [if_pos c5] at H
      have c5b0 := decide_eq_true c5
      clear c5
      replace H := Option.bind_eq_some_iff.mp H
      obtain ⟨t804, A60, H⟩ := H
      have A6 := Aside0.mk A60
      clear A60
      by_cases c7 : t804 = true
      ·
       subst c7
       rw [if_pos rfl] at H
       by_cases c8 : x5_1.length < 4398046511104
       ·
        rw [if_pos c8] at H
        have LMc8 := Aside0.mk c8
        clear c8
        obtain ⟨y805, hy805⟩ : ∃ y_ : List (S164), y_ = (x5_1 ++ [(⟨(rd_T164 l0 x10_1).f0, (rd_T164 l0 x10_1).f1⟩ : S164)]) := ⟨_, rfl⟩
        replace H : (impl_Project.l0 k1 l1 y805 l0 (l0.length : Int) (wrap64 (x10_1 + 1))) = some r := by first | (rw [hy805]; with_reducible exact H) | (have H2_ := (Option.bind_some _ _).symm.trans H; rw [hy805]; with_reducible exact H2_) | (have H2_ := (Option.bind_some _ _).symm.trans H; with_reducible exact H2_) | with_reducible exact H | (rw [hy805]; exact H) | exact H
        have Ny805 := Aside0.mk hy805
        clear hy805
        have H' := Aside0.mk H
        clear H
        have p802 : 0 ≤ (x10_1 : Int) := of_decide_eq_true (by with_reducible assumption)
        have q802 : x10_1 < (l0.length : Int) := of_decide_eq_true (by with_reducible assumption)
        obtain ⟨ad802, e802, hx802_0, hx802_1⟩ := at_T164 HR0.out x10_1 p802 q802
        cases e802
        replace hx802_0 := cl_ HB.out hx802_0
        replace hx802_1 := cl_ HB.out hx802_1
        replace p802 := eq_true p802
        replace q802 := eq_true q802
        go_wp2_with (first | ((with_reducible refine gate_dst (N := 7) rfl ?_); refine box_event ?hg (N := 7) ?hd (cs := #[.string (⟨#[]⟩ : ByteArray), .string (⟨#[]⟩ : ByteArray)]) (t := 164) ?hr ?_; (case hd => rfl); (case hg => rfl); (case hr => first | (go_simp; done) | (go_simp; rfl)); intro gb803 hg w9 hbox hb; replace HO_5 := Aside0.mk (Kd.R_below (Kd.R_elderB (rp_ HO_5.out) gb803 (Nat.le_of_eq hg.symm)) hb); have BK803 := Aside0.mk (hbox); have GW803 := Aside0.mk ((by rw [hg]; exact (below_size (hb_ HB.out)) : w.heap.size ≤ gb803)); replace HB := Aside0.mk (below_step (hb_ HB.out) hb); have GE803 := GW803; clear hb hbox hg; obtain ⟨hcz10_0, hcz10_1, hfz10_0, hfz10_1⟩ := bc2_ BK803.out) | ((with_reducible refine gate_callee (f := 170) rfl ?_); refine goesL_ (some 17) rfl rfl Try.func170 (by kernel_rfl) rfl #[.slice A1 l1.length c1, .string ((rd_T164 l0 x10_1).f0)] rfl (by (try simp only [mp_]); first | done | rfl | (simp only [List.length_drop, List.length_take]; rfl)) ?_; (with_reducible refine (impl_hasText.calls k1 _ _ l1 ((rd_T164 l0 x10_1).f0) true _ ?side1 ?side2 A6.out).mono ?_); (case side1 => exact Kd.C_below HR1.out (by repeat (first | (with_reducible first | exact HB.out | apply ba_ | apply bn_ | apply bd_ | apply bs_ GE803) | exact HB.out))); (case side2 => exact HC1.out); rintro e w' ⟨rfl, ⟨nd, rfl⟩⟩; refine ⟨_, rfl, ?_⟩) | ((with_reducible refine gate_builtin (b := .append) (xs := #[.tmp 18, .tmp 20]) rfl ?_); at_builtin; refine Kd.R_append k164 (w0 := w) w.heap.size rfl (.tmp 18) (.tmp 20) 42 164 (.agg #[(.string ⟨#[]⟩), (.string ⟨#[]⟩)]) 32 rfl Try.underlying42 info164 rfl (by decide) (by omega) u5 x5_1 (⟨(rd_T164 l0 x10_1).f0, (rd_T164 l0 x10_1).f1⟩ : S164) [.string ((rd_T164 l0 x10_1).f0), .string ((rd_T164 l0 x10_1).f1)] (fun k_ => k_ ≠ gb803) (fun _ => False) rfl (by first | (go_simp; done) | (go_simp; rfl)) ?aP (fun _ hk => hk.elim) ?aF ?aO ?aB ?aS ?aL ?_; (case aP => exact k164_mkM _ _ _ (⟨(rd_T164 l0 x10_1).f0, (rd_T164 l0 x10_1).f1⟩ : S164)); (case aB => exact (by repeat (first | (with_reducible first | exact HB.out | apply ba_ | apply bn_ | apply bd_ | apply bs_ GE803) | exact HB.out))); (case aF => exact (fun k_ hk => Kd.freshB (g := gb803) (o := .cells #[.string ((rd_T164 l0 x10_1).f0), .string ((rd_T164 l0 x10_1).f1)] 164 (0, 0)) (by (with_reducible repeat (first | refine kn_ ?_ _ | refine kd_ ?_ | refine ka_ ?_ _)); refine blk_put (cs := #[.string ((rd_T164 l0 x10_1).f0), .string (⟨#[]⟩ : ByteArray)]) ?_ 1 _ rfl; (with_reducible repeat (first | refine kn_ ?_ _ | refine kd_ ?_ | refine ka_ ?_ _)); refine blk_put (cs := #[.string (⟨#[]⟩ : ByteArray), .string (⟨#[]⟩ : ByteArray)]) ?_ 0 _ rfl; (with_reducible repeat (first | refine kn_ ?_ _ | refine kd_ ?_ | refine ka_ ?_ _)); exact BK803.out) k_ hk)); (case aO => exact (by (with_reducible repeat (first | apply Kd.R_alloc | apply Kd.R_drewN | apply Kd.R_drew)); exact Kd.R_mono (Kd.R_far (p := ⟨gb803, 1, none⟩) (Kd.R_far (p := ⟨gb803, 0, none⟩) (Kd.R_mono HO_5.out (fun k_ hk => (⟨hk, hk.2⟩ : _ ∧ k_ ≠ gb803))) (fun _ hk => hk.2) (.string ((rd_T164 l0 x10_1).f0))) (fun _ hk => hk.2) (.string ((rd_T164 l0 x10_1).f1))) (fun _ hk => hk.1.2))); (case aS => exact (below_size (by repeat (first | (with_reducible first | exact HB.out | apply ba_ | apply bn_ | apply bd_ | apply bs_ GE803) | exact HB.out)))); (case aL => have := LMc8.out; omega); intro v806 w11 ho hb hg hat; rw [← Ny805.out] at ho; replace BK803 := Aside0.mk (blk_grown (g := gb803) (o := .cells #[.string ((rd_T164 l0 x10_1).f0), .string ((rd_T164 l0 x10_1).f1)] 164 (0, 0)) (by (with_reducible repeat (first | refine kn_ ?_ _ | refine kd_ ?_ | refine ka_ ?_ _)); refine blk_put (cs := #[.string ((rd_T164 l0 x10_1).f0), .string (⟨#[]⟩ : ByteArray)]) ?_ 1 _ rfl; (with_reducible repeat (first | refine kn_ ?_ _ | refine kd_ ?_ | refine ka_ ?_ _)); refine blk_put (cs := #[.string (⟨#[]⟩ : ByteArray), .string (⟨#[]⟩ : ByteArray)]) ?_ 0 _ rfl; (with_reducible repeat (first | refine kn_ ?_ _ | refine kd_ ?_ | refine ka_ ?_ _)); exact BK803.out) hg (Kd.R_away HO_5.out (fun _ hk => hk.2))); replace HB := Aside0.mk (hb); have HO807 := Aside0.mk (ho); clear HO_5; clear ho hb hg hat))
        go_roundg k1
        case measure => have := HK1.out; omega
        case rel => exact ⟨(y805), (wrap64 (x10_1 + 1)), (by first | rfl | (simp; done) | (simp [*]; done)), H', ⟨by have := HK1.out; omega⟩, ⟨by (with_reducible repeat (first | apply Kd.R_alloc | apply Kd.R_drewN | apply Kd.R_drew)); exact Kd.R_mono HO807.out (fun _ hk => trivial)⟩, ⟨by repeat (first | (with_reducible first | exact HB.out | apply ba_ | apply bn_ | apply bd_ | apply bs_ GE803) | exact HB.out)⟩⟩
       rw [if_neg c8] at H
       exact absurd H (by simp)
      replace c7 := Bool.eq_false_iff.mpr c7
      subst c7
      rw [if_neg (show ¬ (false = true) by decide)] at H
      have H' := Aside0.mk H
      clear H
      have p802 : 0 ≤ (x10_1 : Int) := of_decide_eq_true (by with_reducible assumption)
      have q802 : x10_1 < (l0.length : Int) := of_decide_eq_true (by with_reducible assumption)
      obtain ⟨ad802, e802, hx802_0, hx802_1⟩ := at_T164 HR0.out x10_1 p802 q802
      cases e802
      replace hx802_0 := cl_ HB.out hx802_0
      replace hx802_1 := cl_ HB.out hx802_1
      replace p802 := eq_true p802
      replace q802 := eq_true q802
      go_wp2_with (first | ((with_reducible refine gate_dst (N := 7) rfl ?_); refine box_event ?hg (N := 7) ?hd (cs := #[.string (⟨#[]⟩ : ByteArray), .string (⟨#[]⟩ : ByteArray)]) (t := 164) ?hr ?_; (case hd => rfl); (case hg => rfl); (case hr => first | (go_simp; done) | (go_simp; rfl)); intro gb803 hg w12 hbox hb; replace HO_5 := Aside0.mk (Kd.R_below (Kd.R_elderB (rp_ HO_5.out) gb803 (Nat.le_of_eq hg.symm)) hb); have BK803 := Aside0.mk (hbox); have GW803 := Aside0.mk ((by rw [hg]; exact (below_size (hb_ HB.out)) : w.heap.size ≤ gb803)); replace HB := Aside0.mk (below_step (hb_ HB.out) hb); have GE803 := GW803; clear hb hbox hg; obtain ⟨hcz13_0, hcz13_1, hfz13_0, hfz13_1⟩ := bc2_ BK803.out) | ((with_reducible refine gate_callee (f := 170) rfl ?_); refine goesL_ (some 17) rfl rfl Try.func170 (by kernel_rfl) rfl #[.slice A1 l1.length c1, .string ((rd_T164 l0 x10_1).f0)] rfl (by (try simp only [mp_]); first | done | rfl | (simp only [List.length_drop, List.length_take]; rfl)) ?_; (with_reducible refine (impl_hasText.calls k1 _ _ l1 ((rd_T164 l0 x10_1).f0) false _ ?side1 ?side2 A6.out).mono ?_); (case side1 => exact Kd.C_below HR1.out (by repeat (first | (with_reducible first | exact HB.out | apply ba_ | apply bn_ | apply bd_ | apply bs_ GE803) | exact HB.out))); (case side2 => exact HC1.out); rintro e w' ⟨rfl, ⟨nd, rfl⟩⟩; refine ⟨_, rfl, ?_⟩))
      go_roundg k1
      case measure => have := HK1.out; omega
      case rel => exact ⟨(x5_1), (wrap64 (x10_1 + 1)), (by first | rfl | (simp; done) | (simp [*]; done)), H', ⟨by have := HK1.out; omega⟩, ⟨by (with_reducible repeat (first | apply Kd.R_alloc | apply Kd.R_drewN | apply Kd.R_drew)); exact Kd.R_mono (Kd.R_far (p := ⟨gb803, 1, none⟩) (Kd.R_far (p := ⟨gb803, 0, none⟩) (Kd.R_mono HO_5.out (fun k_ hk => (⟨hk, hk.2⟩ : _ ∧ k_ ≠ gb803))) (fun _ hk => hk.2) (.string ((rd_T164 l0 x10_1).f0))) (fun _ hk => hk.2) (.string ((rd_T164 l0 x10_1).f1))) (fun _ hk => trivial)⟩, ⟨by repeat (first | (with_reducible first | exact HB.out | apply ba_ | apply bn_ | apply bd_ | apply bs_ GE803) | exact HB.out)⟩⟩
     rw [if_neg c5] at H
     exact absurd H (by simp)
    rw [if_neg c4] at H
    exact absurd H (by simp)
   rw [if_neg c3] at H
   have c3b0 : decide (x10_1 < (l0.length : Int)) = false := decide_eq_false c3
   clear c3
   obtain rfl := Option.some.inj H
   go_wp2
   go_ret
   exact ⟨_, by first | rfl | (simp [errW_none, errW_some] <;> rfl) | (simp [*, errW_none, errW_some] <;> rfl), by (with_reducible repeat (first | apply Kd.R_alloc | apply Kd.R_drewN | apply Kd.R_drew)); exact HO_5.out, by exact hb_ HB.out⟩
def impl_KeyOf.f (k : Nat) (l0_0 : List (S164)) (a0_1 : Int) (a0_2 : Int) (a0_3 : ByteArray) (l1 : List ByteArray) : Option ((List (S164))) := (impl_Project.f k l0_0 l1).bind fun t809 => (some t809)
theorem impl_KeyOf.mono : ∀ a0 a1 a2 a3 a4 k, LeO (impl_KeyOf.f k a0 a1 a2 a3 a4) (impl_KeyOf.f (k + 1) a0 a1 a2 a3 a4) := by
 intro a0 a1 a2 a3 a4 k
 unfold impl_KeyOf.f
 repeat' first
   | (with_reducible exact impl_Project.mono _ _ _)
   | (with_reducible exact LeO.refl _)
   | (with_reducible exact LeO.none _)
   | (with_reducible refine LeO.ite ?_ ?_)
   | (with_reducible refine LeO.bind ?_ (fun _ => ?_))
   | exact impl_Project.mono _ _ _
theorem impl_KeyOf.calls (k : Nat) (A0_0 : Option Addr) (c0_0 : Nat) (l0_0 : List (S164)) (a0_1 : Int) (a0_2 : Int) (a0_3 : ByteArray) (A1 : Option Addr) (c1 : Nat) (l1 : List ByteArray) (r : List (S164)) (w : World) (hr0_0 : Kd.C k164 w A0_0 l0_0.length l0_0) (hc0_0 : l0_0.length ≤ c0_0) (hr1 : Kd.C Kd.string w A1 l1.length l1) (hc1 : l1.length ≤ c1) (h : impl_KeyOf.f k l0_0 a0_1 a0_2 a0_3 l1 = some r) :
  Calls Try.prog 130 #[.agg #[.slice A0_0 l0_0.length c0_0, .int .i64 a0_1, .int .i64 a0_2, .string a0_3], .slice A1 l1.length c1] w fun e w' => ∃ v0_ : Value, e = .returned (v0_) ∧ Kd.R k164 164 w' w.heap.size (fun _ => True) v0_ r ∧ Below w.heap.size w w' := by
 have hu44 := Try.underlying44
 have HR0_0 := Aside0.mk hr0_0
 have HC0_0 := Aside0.mk hc0_0
 clear hr0_0 hc0_0
 have HR1 := Aside0.mk hr1
 have HC1 := Aside0.mk hc1
 clear hr1 hc1
 have HB := Aside0.mk (Below.refl w.heap.size w)
 have H : ((impl_Project.f k l0_0 l1).bind fun t809 => (some t809)) = some r := h
 clear h
 replace H := Option.bind_eq_some_iff.mp H
 obtain ⟨t809, A30, H⟩ := H
 have A3 := Aside0.mk A30
 clear A30
 obtain rfl := Option.some.inj H
 go_enter Try.func130, Try.ntmps130
 go_wp2_with (first | ((with_reducible refine gate_dst (N := 2) rfl ?_); refine box_event ?hg (N := 2) ?hd (cs := #[.slice A0_0 l0_0.length c0_0, .int .i64 a0_1, .int .i64 a0_2, .string a0_3]) (t := 44) ?hr ?_; (case hd => rfl); (case hg => rfl); (case hr => first | (go_simp; done) | (go_simp; rfl)); intro gb808 hg w4 hbox hb; have BK808 := Aside0.mk (hbox); have GW808 := Aside0.mk ((by rw [hg]; exact (below_size (hb_ HB.out)) : w.heap.size ≤ gb808)); replace HB := Aside0.mk (below_step (hb_ HB.out) hb); have GE808 := GW808; clear hb hbox hg; obtain ⟨hcz5_0, hcz5_1, hcz5_2, hcz5_3, hfz5_0, hfz5_1, hfz5_2, hfz5_3⟩ := bc4_ BK808.out) | ((with_reducible refine gate_callee (f := 157) rfl ?_); refine goesL_ (some 8) rfl rfl Try.func157 (by kernel_rfl) rfl #[.slice A0_0 l0_0.length c0_0, .slice A1 l1.length c1] rfl (by (try simp only [mp_]); first | done | rfl | (simp only [List.length_drop, List.length_take]; rfl)) ?_; (with_reducible refine (impl_Project.calls k _ _ l0_0 _ _ l1 t809 _ ?side1 ?side2 ?side3 ?side4 A3.out).mono ?_); (case side1 => exact cp_ ((Kd.C_below HR0_0.out HB.out))); (case side2 => exact HC0_0.out); (case side3 => exact cp_ ((Kd.C_below HR1.out HB.out))); (case side4 => exact HC1.out); rintro e w6 ⟨v810, rfl, ho0, hb⟩; refine ⟨_, rfl, ?_⟩; have HO811 := Aside0.mk (Kd.R_lower ho0 (below_size (by repeat (first | (with_reducible first | exact HB.out | apply ba_ | apply bn_ | apply bd_ | apply bs_ GE808) | exact HB.out)))); replace BK808 := Aside0.mk (bb_ BK808.out hb); replace HB := Aside0.mk (below_step (by repeat (first | (with_reducible first | exact HB.out | apply ba_ | apply bn_ | apply bd_ | apply bs_ GE808) | exact HB.out)) hb); (try clear hb); (try clear hb2); (try clear hk); (try clear hi); (try clear ho0)))
 go_ret
 exact ⟨_, by first | rfl | (simp [errW_none, errW_some] <;> rfl) | (simp [*, errW_none, errW_some] <;> rfl), by (with_reducible repeat (first | apply Kd.R_alloc | apply Kd.R_drewN | apply Kd.R_drew)); exact HO811.out, by repeat (first | (with_reducible first | exact HB.out | apply ba_ | apply bn_ | apply bd_ | apply bs_ GE808) | exact HB.out)⟩
def impl_copyAlarms.l0 : Nat → List (S44) → List (S44) → Int → Int → Option ((List (S44)))
 | 0, _, _, _, _ => none
 | k + 1, x3, x6, x7, x8 => if x8 < x7 then (if 0 ≤ x8 then (if x8 < (x6.length : Int) then ((impl_copyAlarm.f ((rd_T44 x6 x8).f0) ((rd_T44 x6 x8).f1) ((rd_T44 x6 x8).f2) ((rd_T44 x6 x8).f3)).bind fun bt280 => (if x3.length < 2513169434916 then (impl_copyAlarms.l0 k (x3 ++ [(⟨bt280.1, bt280.2.1, bt280.2.2.1, bt280.2.2.2⟩ : S44)]) x6 x7 (wrap64 (x8 + 1))) else (none))) else (none)) else (none)) else (some x3)
def impl_copyAlarms.f (k : Nat) (l0 : List (S44)) : Option ((List (S44))) := impl_copyAlarms.l0 k ([] : List (S44)) l0 (l0.length : Int) 0
theorem impl_copyAlarms.mono_l : ∀ k, (∀ y0 y1 y2 y3, LeO (impl_copyAlarms.l0 k y0 y1 y2 y3) (impl_copyAlarms.l0 (k + 1) y0 y1 y2 y3))
 | 0 => fun _ _ _ _ r h => by simp [impl_copyAlarms.l0] at h
 | k + 1 => by
  have ih0 := impl_copyAlarms.mono_l k
  intro y0 y1 y2 y3
  unfold impl_copyAlarms.l0
  repeat' first
  | (with_reducible exact ih0 _ _ _ _)
  | (with_reducible exact LeO.refl _)
  | (with_reducible exact LeO.none _)
  | (with_reducible refine LeO.ite ?_ ?_)
  | (with_reducible refine LeO.bind ?_ (fun _ => ?_))
  | exact ih0 _ _ _ _
theorem impl_copyAlarms.mono : ∀ a0 k, LeO (impl_copyAlarms.f k a0) (impl_copyAlarms.f (k + 1) a0) := by
 intro a0 k
 have ih0 := impl_copyAlarms.mono_l k
 unfold impl_copyAlarms.f
 repeat' first
   | (with_reducible exact ih0 _ _ _ _)
   | (with_reducible exact LeO.refl _)
   | (with_reducible exact LeO.none _)
   | (with_reducible refine LeO.ite ?_ ?_)
   | (with_reducible refine LeO.bind ?_ (fun _ => ?_))
   | exact ih0 _ _ _ _
theorem impl_copyAlarms.calls (k : Nat) (A0 : Option Addr) (c0 : Nat) (l0 : List (S44)) (r : List (S44)) (w : World) (hr0 : Kd.C k44 w A0 l0.length l0) (hc0 : l0.length ≤ c0) (h : impl_copyAlarms.f k l0 = some r) :
  Calls Try.prog 101 #[.slice A0 l0.length c0] w fun e w' => ∃ v0_ : Value, e = .returned (v0_) ∧ Kd.S k44 44 w' w.heap.size (fun _ => True) v0_ r ∧ Below w.heap.size w w' := by
 have hu44 := Try.underlying44
 have HR0 := Aside0.mk hr0
 have HC0 := Aside0.mk hc0
 clear hr0 hc0
 have HB := Aside0.mk (Below.refl w.heap.size w)
 have H : (impl_copyAlarms.l0 k ([] : List (S44)) l0 (l0.length : Int) 0) = some r := h
 clear h
 have H' := Aside0.mk H
 clear H
 go_enter Try.func101, Try.ntmps101
 go_wp2
 go_loopg [3, 8] k (fun kq v3 v8 w' => ∃ (x3_1 : List (S44)) (x8_1 : Int), v8 = .int .i64 x8_1 ∧ Aside0 (impl_copyAlarms.l0 kq x3_1 l0 (l0.length : Int) x8_1 = some r) ∧ Aside0 (kq ≤ k) ∧ Aside0 (Kd.S k44 44 w' w.heap.size (fun _ => True) v3 x3_1) ∧ Aside0 (Below w.heap.size w w'))
 case atStart => exact ⟨(([] : List (S44))), (0), (by first | rfl | (simp; done) | (simp [*]; done)), H', ⟨Nat.le_refl _⟩, ⟨by first | exact Kd.S_nil _ _ _ _ _ | exact Kd.N_nil _ _ _ _ _ | exact Kd.V_nil _ _ _ _ _ | exact Kd.Q_nil _ _ _ _ _ | exact Kd.R_nil _ _ _ _ _⟩, ⟨by exact hb_ HB.out⟩⟩
 case round =>
  clear H'
  try clear c1
  obtain ⟨x3_1, x8_1, rfl, HA, HK1, HO_3, HB⟩ := hrel
  cases gk with
  | zero => exact absurd HA.out (by simp [impl_copyAlarms.l0])
  | succ k1 =>
   have H := HA.out
   clear HA
   simp only [impl_copyAlarms.l0] at H
   by_cases c2 : x8_1 < (l0.length : Int)
   ·
    rw [if_pos c2] at H
    have c2b0 := decide_eq_true c2
    clear c2
    by_cases c3 : 0 ≤ x8_1
    ·
     rw [if_pos c3] at H
     have c3b0 := decide_eq_true c3
     clear c3
     by_cases c4 : x8_1 < (l0.length : Int)
     ·
      rw [if_pos c4] at H
      have c4b0 := decide_eq_true c4
      clear c4
      replace H := Option.bind_eq_some_iff.mp H
      obtain ⟨⟨t280, t283, t284, t285⟩, A50, H⟩ := H
      have A5 := Aside0.mk A50
      clear A50
      by_cases c6 : x3_1.length < 2513169434916
      ·
       rw [if_pos c6] at H
       have LMc6 := Aside0.mk c6
       clear c6
       obtain ⟨y286, hy286⟩ : ∃ y_ : List (S44), y_ = (x3_1 ++ [(⟨t280, t283, t284, t285⟩ : S44)]) := ⟨_, rfl⟩
       replace H : (impl_copyAlarms.l0 k1 y286 l0 (l0.length : Int) (wrap64 (x8_1 + 1))) = some r := by first | (rw [hy286]; with_reducible exact H) | (have H2_ := (Option.bind_some _ _).symm.trans H; rw [hy286]; with_reducible exact H2_) | (have H2_ := (Option.bind_some _ _).symm.trans H; with_reducible exact H2_) | with_reducible exact H | (rw [hy286]; exact H) | exact H
       have Ny286 := Aside0.mk hy286
       clear hy286
       have H' := Aside0.mk H
       clear H
       have p278 : 0 ≤ (x8_1 : Int) := of_decide_eq_true (by with_reducible assumption)
       have q278 : x8_1 < (l0.length : Int) := of_decide_eq_true (by with_reducible assumption)
       obtain ⟨ad278, A278_0, c278_0, e278, hx278_0, hx278_1, hx278_2, hx278_3, hl278_0, hi278_0⟩ := at_T44 HR0.out x8_1 p278 q278
       cases e278
       replace hx278_0 := cl_ HB.out hx278_0
       replace hx278_1 := cl_ HB.out hx278_1
       replace hx278_2 := cl_ HB.out hx278_2
       replace hx278_3 := cl_ HB.out hx278_3
       have HR278_0 := Aside0.mk hi278_0
       have HC278_0 := Aside0.mk hl278_0
       clear hi278_0 hl278_0
       replace p278 := eq_true p278
       replace q278 := eq_true q278
       go_wp2_with (first | ((with_reducible refine gate_dst (N := 5) rfl ?_); refine box_event ?hg (N := 5) ?hd (cs := #[.slice none 0 0, .int .i64 0, .int .i64 0, .string (⟨#[]⟩ : ByteArray)]) (t := 44) ?hr ?_; (case hd => rfl); (case hg => rfl); (case hr => first | (go_simp; done) | (go_simp; rfl)); intro gb279 hg w7 hbox hb; replace HO_3 := Aside0.mk (Kd.S_below (Kd.S_elderB (sp_ HO_3.out) gb279 (Nat.le_of_eq hg.symm)) hb); have BK279 := Aside0.mk (hbox); have GW279 := Aside0.mk ((by rw [hg]; exact (below_size (hb_ HB.out)) : w.heap.size ≤ gb279)); replace HB := Aside0.mk (below_step (hb_ HB.out) hb); have GE279 := GW279; clear hb hbox hg; obtain ⟨hcz8_0, hcz8_1, hcz8_2, hcz8_3, hfz8_0, hfz8_1, hfz8_2, hfz8_3⟩ := bc4_ BK279.out) | ((with_reducible refine gate_callee (f := 97) rfl ?_); refine goesL_ (some 14) rfl rfl Try.func97 (by kernel_rfl) rfl #[.agg #[.slice A278_0 ((rd_T44 l0 x8_1).f0).length c278_0, .int .i64 ((rd_T44 l0 x8_1).f1), .int .i64 ((rd_T44 l0 x8_1).f2), .string ((rd_T44 l0 x8_1).f3)]] rfl (by (try simp only [mp_]); first | done | rfl | (simp only [List.length_drop, List.length_take]; rfl)) ?_; (with_reducible refine (impl_copyAlarm.calls _ _ ((rd_T44 l0 x8_1).f0) ((rd_T44 l0 x8_1).f1) ((rd_T44 l0 x8_1).f2) ((rd_T44 l0 x8_1).f3) t280 t283 t284 t285 _ ?side1 ?side2 A5.out).mono ?_); (case side1 => exact Kd.C_below HR278_0.out (by repeat (first | (with_reducible first | exact HB.out | apply ba_ | apply bn_ | apply bd_ | apply bs_ GE279) | exact HB.out))); (case side2 => exact HC278_0.out); rintro e w9 ⟨v281, rfl, ho0, hb⟩; refine ⟨_, rfl, ?_⟩; replace HO_3 := Aside0.mk (Kd.S_elder' (by (with_reducible repeat (first | apply Kd.S_alloc | apply Kd.S_drewN | apply Kd.S_drew)); exact (Kd.S_mono (Kd.S_far (p := ⟨gb279, 3, none⟩) (Kd.S_far (p := ⟨gb279, 2, none⟩) (Kd.S_far (p := ⟨gb279, 1, none⟩) (Kd.S_far (p := ⟨gb279, 0, none⟩) (Kd.S_mono HO_3.out (fun k_ hk => (⟨hk, hk.2⟩ : _ ∧ k_ ≠ gb279))) (fun _ hk => hk.2) (.slice A278_0 ((rd_T44 l0 x8_1).f0).length c278_0)) (fun _ hk => hk.2) (.int .i64 ((rd_T44 l0 x8_1).f1))) (fun _ hk => hk.2) (.int .i64 ((rd_T44 l0 x8_1).f2))) (fun _ hk => hk.2) (.string ((rd_T44 l0 x8_1).f3))) (fun _ h_ => h_.1))) (Kd.R_base ho0) hb); have HO282 := Aside0.mk (Kd.R_lower ho0 (below_size (by repeat (first | (with_reducible first | exact HB.out | apply ba_ | apply bn_ | apply bd_ | apply bs_ GE279) | exact HB.out)))); replace BK279 := Aside0.mk (blk_below (g := gb279) (o := .cells #[.slice A278_0 ((rd_T44 l0 x8_1).f0).length c278_0, .int .i64 ((rd_T44 l0 x8_1).f1), .int .i64 ((rd_T44 l0 x8_1).f2), .string ((rd_T44 l0 x8_1).f3)] 44 (0, 0)) (by (with_reducible repeat (first | refine kn_ ?_ _ | refine kd_ ?_ | refine ka_ ?_ _)); refine blk_put (cs := #[.slice A278_0 ((rd_T44 l0 x8_1).f0).length c278_0, .int .i64 ((rd_T44 l0 x8_1).f1), .int .i64 ((rd_T44 l0 x8_1).f2), .string (⟨#[]⟩ : ByteArray)]) ?_ 3 _ rfl; (with_reducible repeat (first | refine kn_ ?_ _ | refine kd_ ?_ | refine ka_ ?_ _)); refine blk_put (cs := #[.slice A278_0 ((rd_T44 l0 x8_1).f0).length c278_0, .int .i64 ((rd_T44 l0 x8_1).f1), .int .i64 0, .string (⟨#[]⟩ : ByteArray)]) ?_ 2 _ rfl; (with_reducible repeat (first | refine kn_ ?_ _ | refine kd_ ?_ | refine ka_ ?_ _)); refine blk_put (cs := #[.slice A278_0 ((rd_T44 l0 x8_1).f0).length c278_0, .int .i64 0, .int .i64 0, .string (⟨#[]⟩ : ByteArray)]) ?_ 1 _ rfl; (with_reducible repeat (first | refine kn_ ?_ _ | refine kd_ ?_ | refine ka_ ?_ _)); refine blk_put (cs := #[.slice none 0 0, .int .i64 0, .int .i64 0, .string (⟨#[]⟩ : ByteArray)]) ?_ 0 _ rfl; (with_reducible repeat (first | refine kn_ ?_ _ | refine kd_ ?_ | refine ka_ ?_ _)); exact BK279.out) hb); replace HB := Aside0.mk (below_step (by repeat (first | (with_reducible first | exact HB.out | apply ba_ | apply bn_ | apply bd_ | apply bs_ GE279) | exact HB.out)) hb); (try clear hb); (try clear hb2); (try clear hk); (try clear hi); (try clear ho0); obtain ⟨Ao11, co11, eo11⟩ := Kd.R_slice HO282.out; subst eo11) | ((with_reducible refine gate_builtin (b := .append) (xs := #[.tmp 12, .tmp 15]) rfl ?_); at_builtin; refine Kd.S_append k44 (w0 := w) w.heap.size rfl (.tmp 12) (.tmp 15) 37 44 (.agg #[(.slice none 0 0), (.int .i64 0), (.int .i64 0), (.string ⟨#[]⟩)]) 56 rfl Try.underlying37 info44 rfl (by decide) (by omega) u3 x3_1 (⟨t280, t283, t284, t285⟩ : S44) [.slice Ao11 t280.length co11, .int .i64 t283, .int .i64 t284, .string t285] (fun k_ => k_ ≠ gb279) (fun k_ => some k_ = (.slice Ao11 t280.length co11 : Value).ownBlock) rfl rfl ?aP (fun k_ hk_ => ((Kd.R_mono (ok' := fun k_ => ((fun k_ => k_ ≠ gb279)) k_ ∧ some k_ ≠ (u3 : Value).ownBlock) (Kd.R_types (Kd.R_apart' (HO282.out) (Kd.S_typed HO_3.out) (by decide)) BK279.out (by decide)) (fun k_ hk => ⟨hk.2, hk.1.2⟩))).1 k_ hk_.symm) ?aF ?aO ?aB ?aS ?aL ?_; (case aP => exact k44_mkM _ _ _ (⟨t280, t283, t284, t285⟩ : S44) (Kd.R_mono (Kd.R_tight rfl (Kd.R_mono (ok' := fun k_ => ((fun k_ => k_ ≠ gb279)) k_ ∧ some k_ ≠ (u3 : Value).ownBlock) (Kd.R_types (Kd.R_apart' (HO282.out) (Kd.S_typed HO_3.out) (by decide)) BK279.out (by decide)) (fun k_ hk => ⟨hk.2, hk.1.2⟩))) (fun _ h_ => h_))); (case aB => exact (by repeat (first | (with_reducible first | exact HB.out | apply ba_ | apply bn_ | apply bd_ | apply bs_ GE279) | exact HB.out))); (case aF => exact (fun k_ hk => Kd.freshB (g := gb279) (o := .cells #[.slice A278_0 ((rd_T44 l0 x8_1).f0).length c278_0, .int .i64 ((rd_T44 l0 x8_1).f1), .int .i64 ((rd_T44 l0 x8_1).f2), .string ((rd_T44 l0 x8_1).f3)] 44 (0, 0)) (pb_ BK279.out) k_ hk)); (case aO => exact (by (with_reducible repeat (first | apply Kd.S_alloc | apply Kd.S_drewN | apply Kd.S_drew)); exact Kd.S_mono HO_3.out (fun k_ hk => ⟨hk.1.2, fun e_ => hk.2 e_⟩))); (case aS => exact (below_size (by repeat (first | (with_reducible first | exact HB.out | apply ba_ | apply bn_ | apply bd_ | apply bs_ GE279) | exact HB.out)))); (case aL => have := LMc6.out; omega); intro v287 w10 ho hb hg hat; rw [← Ny286.out] at ho; replace BK279 := Aside0.mk (blk_grown (g := gb279) (o := .cells #[.slice A278_0 ((rd_T44 l0 x8_1).f0).length c278_0, .int .i64 ((rd_T44 l0 x8_1).f1), .int .i64 ((rd_T44 l0 x8_1).f2), .string ((rd_T44 l0 x8_1).f3)] 44 (0, 0)) (pb_ BK279.out) hg (Kd.S_away HO_3.out (fun _ hk => hk.1.2))); replace HB := Aside0.mk (hb); have HO288 := Aside0.mk (ho); clear HO_3 HO282; clear ho hb hg hat))
       go_roundg k1
       case measure => have := HK1.out; omega
       case rel => exact ⟨(y286), (wrap64 (x8_1 + 1)), (by first | rfl | (simp; done) | (simp [*]; done)), H', ⟨by have := HK1.out; omega⟩, ⟨by (with_reducible repeat (first | apply Kd.S_alloc | apply Kd.S_drewN | apply Kd.S_drew)); exact Kd.S_mono HO288.out (fun _ hk => trivial)⟩, ⟨by repeat (first | (with_reducible first | exact HB.out | apply ba_ | apply bn_ | apply bd_ | apply bs_ GE279) | exact HB.out)⟩⟩
      rw [if_neg c6] at H
      exact absurd H (by simp)
     rw [if_neg c4] at H
     exact absurd H (by simp)
    rw [if_neg c3] at H
    exact absurd H (by simp)
   rw [if_neg c2] at H
   have c2b0 : decide (x8_1 < (l0.length : Int)) = false := decide_eq_false c2
   clear c2
   obtain rfl := Option.some.inj H
   go_wp2
   go_ret
   exact ⟨_, by first | rfl | (simp [errW_none, errW_some] <;> rfl) | (simp [*, errW_none, errW_some] <;> rfl), by (with_reducible repeat (first | apply Kd.S_alloc | apply Kd.S_drewN | apply Kd.S_drew)); exact HO_3.out, by exact hb_ HB.out⟩
def impl_copyGroup.f (k : Nat) (a0_0 : Int) (l0_1 : List (S164)) (a0_2 : Int) (a0_3 : Int) (l0_4 : List (S44)) : Option (Int × (List (S164)) × Int × Int × (List (S44))) := (impl_copySet.f l0_1).bind fun t967 => ((impl_copyAlarms.f k l0_4).bind fun t970 => (some (a0_0, t967, a0_2, a0_3, t970)))
theorem impl_copyGroup.mono : ∀ a0 a1 a2 a3 a4 k, LeO (impl_copyGroup.f k a0 a1 a2 a3 a4) (impl_copyGroup.f (k + 1) a0 a1 a2 a3 a4) := by
 intro a0 a1 a2 a3 a4 k
 unfold impl_copyGroup.f
 repeat' first
   | (with_reducible exact impl_copyAlarms.mono _ _)
   | (with_reducible exact LeO.refl _)
   | (with_reducible exact LeO.none _)
   | (with_reducible refine LeO.ite ?_ ?_)
   | (with_reducible refine LeO.bind ?_ (fun _ => ?_))
   | exact impl_copyAlarms.mono _ _
def impl_copyGroup.T1 : Bool × List (List Nat × List Nat) := (true, [([], []), ([0], [0]), ([1], [1]), ([], []), ([3], [3]), ([4, 2], [4]), ([0, 1, 2, 3, 4], []), ([6, 2, 5, 0, 1, 2, 3, 4], [2, 6]), ([0, 1, 2, 3, 4, 5, 6, 7], []), ([8, 5, 7, 0, 1, 2, 3, 4, 5, 6, 7], [5, 8])])
def impl_copyGroup.B1 : List Nat := [0, 1, 3, 0, 8, 31, 31, 127, 255, 511]
theorem impl_copyGroup.tab1 : rtab .any (opsOf Try.f114 1) = impl_copyGroup.T1 := by kernel_rfl
theorem impl_copyGroup.bits1 : waitsOk impl_copyGroup.T1.2 impl_copyGroup.B1 = true := by kernel_rfl
theorem impl_copyGroup.calls (k : Nat) (a0_0 : Int) (A0_1 : Option Addr) (c0_1 : Nat) (l0_1 : List (S164)) (a0_2 : Int) (a0_3 : Int) (A0_4 : Option Addr) (c0_4 : Nat) (l0_4 : List (S44)) (r1 : Int) (r2 : List (S164)) (r3 : Int) (r4 : Int) (r5 : List (S44)) (w : World) (hr0_1 : Kd.C k164 w A0_1 l0_1.length l0_1) (hc0_1 : l0_1.length ≤ c0_1) (hr0_4 : Kd.C k44 w A0_4 l0_4.length l0_4) (hc0_4 : l0_4.length ≤ c0_4) (h : impl_copyGroup.f k a0_0 l0_1 a0_2 a0_3 l0_4 = some (r1, r2, r3, r4, r5)) :
  Calls Try.prog 114 #[.agg #[.int .i64 a0_0, .slice A0_1 l0_1.length c0_1, .int .i64 a0_2, .int .i64 a0_3, .slice A0_4 l0_4.length c0_4]] w fun e w' => ∃ v1_ v4_ : Value, e = .returned (.agg #[.int .i64 r1, v1_, .int .i64 r3, .int .i64 r4, v4_]) ∧ Kd.R k164 164 w' w.heap.size (fun _ => True) v1_ r2 ∧ Kd.S k44 44 w' w.heap.size (fun k_ => some k_ ≠ (v1_ : Value).ownBlock) v4_ r5 ∧ Below w.heap.size w w' := by
 have hu75 := Try.underlying75
 have HR0_1 := Aside0.mk hr0_1
 have HC0_1 := Aside0.mk hc0_1
 clear hr0_1 hc0_1
 have HR0_4 := Aside0.mk hr0_4
 have HC0_4 := Aside0.mk hc0_4
 clear hr0_4 hc0_4
 have HB := Aside0.mk (Below.refl w.heap.size w)
 have H : ((impl_copySet.f l0_1).bind fun t967 => ((impl_copyAlarms.f k l0_4).bind fun t970 => (some (a0_0, t967, a0_2, a0_3, t970)))) = some (r1, r2, r3, r4, r5) := h
 clear h
 replace H := Option.bind_eq_some_iff.mp H
 obtain ⟨t967, A20, H⟩ := H
 have A2 := Aside0.mk A20
 clear A20
 replace H := Option.bind_eq_some_iff.mp H
 obtain ⟨t970, A30, H⟩ := H
 have A3 := Aside0.mk A30
 clear A30
 simp only [Option.some.injEq, Prod.mk.injEq] at H
 obtain ⟨rfl, rfl, rfl, rfl, rfl⟩ := H
 go_enter Try.func114, Try.ntmps114
 try go_wp2_with (first | ((with_reducible refine gate_dst (N := 1) rfl ?_); refine box_event ?hg (N := 1) ?hd (cs := #[.int .i64 a0_0, .slice A0_1 l0_1.length c0_1, .int .i64 a0_2, .int .i64 a0_3, .slice A0_4 l0_4.length c0_4]) (t := 75) ?hr ?_; (case hd => rfl); (case hg => rfl); (case hr => first | (go_simp; done) | (go_simp; rfl)); intro gb965 hg w4 hbox hb; have BK965 := Aside0.mk (hbox); have GW965 := Aside0.mk ((by rw [hg]; exact (below_size (hb_ HB.out)) : w.heap.size ≤ gb965)); replace HB := Aside0.mk (below_step (hb_ HB.out) hb); have GE965 := GW965; clear hb hbox hg) | ((with_reducible refine gate_dst (N := 2) rfl ?_); refine box_event ?hg (N := 2) ?hd (cs := #[.int .i64 0, .slice none 0 0, .int .i64 0, .int .i64 0, .slice none 0 0]) (t := 75) ?hr ?_; (case hd => rfl); (case hg => rfl); (case hr => first | (go_simp; done) | (go_simp; rfl)); intro gb966 hg w5 hbox hb; have BK966 := Aside0.mk (hbox); have GW966 := Aside0.mk ((by rw [hg]; exact (below_size (by repeat (first | (with_reducible first | exact HB.out | apply ba_ | apply bn_ | apply bd_ | apply bs_ GE965) | exact HB.out))) : w.heap.size ≤ gb966)); replace HB := Aside0.mk (below_step (by repeat (first | (with_reducible first | exact HB.out | apply ba_ | apply bn_ | apply bd_ | apply bs_ GE965) | exact HB.out)) hb); have GE966 := GW966; have NB965_966 := Aside0.mk (nl_ BK965.out hg); replace BK965 := Aside0.mk (bb_ BK965.out hb); have NB966_965 := Aside0.mk (NB965_966.out.symm); clear hb hbox hg))
 replace BK965 := Aside0.mk (blk_drew BK965.out)
 replace BK966 := Aside0.mk (blk_drew BK966.out)
 replace HB := Aside0.mk (bd_ HB.out)
 refine start_ (n := 10) (S := fun w' => w'.cell? ⟨gb965, 0, none⟩ = some (.int .i64 a0_0) ∧ w'.cell? ⟨gb965, 1, none⟩ = some (.slice A0_1 l0_1.length c0_1) ∧ w'.cell? ⟨gb965, 2, none⟩ = some (.int .i64 a0_2) ∧ w'.cell? ⟨gb965, 3, none⟩ = some (.int .i64 a0_3) ∧ w'.cell? ⟨gb965, 4, none⟩ = some (.slice A0_4 l0_4.length c0_4)) (ds := [7, 9]) #[f_,f_,f_,f_,f_,f_,f_,f_,f_,f_] (by kernel_rfl) rfl rfl ⟨bx_ BK965.out 0, bx_ BK965.out 1, bx_ BK965.out 2, bx_ BK965.out 3, bx_ BK965.out 4⟩ (fun hHeld => ?_); refine with_tabW impl_copyGroup.tab1 impl_copyGroup.bits1 (fun HT_ HW_ => ?_)
 generalize w5.drew = w6 at BK965 BK966 HB hHeld ⊢
 refine pu_ 0 3 ?_ (b_ 1 9) rfl rfl HT_.out ?_ ?_ ?_ ?_; rotate_left; intro w'; go_simp; with_reducible rfl; rotate_left; simp only [fr_]; rfl
 refine pu_ 3 6 ?_ #[t_,f_,f_,t_,f_,f_,f_,f_,f_,f_] rfl rfl HT_.out ?_ ?_ ?_ ?_; rotate_left; intro w'; go_simp; with_reducible rfl; rotate_left; simp only [fr_]; rfl
 refine take_ (i := 1) (N := some 4) (v := ?_) (a' := ?_) #[t_,t_,f_,t_,f_,f_,f_,f_,f_,f_] rfl rfl (take_ofW HT_.out HW_.out (by kernel_rfl)) (fun _ _ _ h => h) (Or.inl ⟨by rfl, ?_⟩) hHeld ?_ ?_
 rotate_left
 ·
  rintro w' ⟨s0, s1, s2, s3, s4⟩
  go_simp
  with_reducible rfl
 rotate_left
 ·
  simp only [fr_]
  rfl
 refine take_ (i := 4) (N := some 7) (v := ?_) (a' := ?_) #[t_,t_,f_,t_,t_,f_,f_,f_,f_,f_] rfl rfl (take_ofW HT_.out HW_.out (by kernel_rfl)) (fun _ _ _ h => h) (Or.inl ⟨by rfl, ?_⟩) hHeld ?_ ?_
 rotate_left
 ·
  rintro w' ⟨s0, s1, s2, s3, s4⟩
  go_simp
  with_reducible rfl
 rotate_left
 ·
  simp only [fr_]
  rfl
 refine one_ (i := 2) (N := some 5) #[t_,t_,t_,t_,t_,f_,f_,f_,f_,f_] rfl rfl (one_of HT_.out (by kernel_rfl)) (by decide) (fun K hK => ?_)
 refine goes_ Try.func146 (by kernel_rfl) rfl #[.slice A0_1 l0_1.length c0_1] (by rfl) rfl rfl (by (try simp only [mp_]); first | done | rfl | (simp only [List.length_drop, List.length_take]; rfl)) ?_
 with_reducible refine (impl_copySet.calls _ _ l0_1 t967 _ ?side1 ?side2 A2.out).mono ?_
 (case side1 => exact cp_ ((Kd.C_below HR0_1.out HB.out)))
 (case side2 => exact HC0_1.out)
 rintro e w7 ⟨v968, rfl, ho0, hb⟩
 refine ⟨_, rfl, ?_⟩
 have HO969 := Aside0.mk (Kd.R_lower ho0 (below_size (by repeat (first | (with_reducible first | exact HB.out | apply ba_ | apply bn_ | apply bd_ | apply bs_ GE965 | apply bs_ GE966) | exact HB.out))))
 replace BK965 := Aside0.mk (bb_ BK965.out hb)
 replace BK966 := Aside0.mk (bb_ BK966.out hb)
 replace HB := Aside0.mk (below_step (by repeat (first | (with_reducible first | exact HB.out | apply ba_ | apply bn_ | apply bd_ | apply bs_ GE965 | apply bs_ GE966) | exact HB.out)) hb)
 (try clear hb)
 (try clear hb2)
 (try clear hk)
 (try clear hi)
 (try clear ho0)
 refine hK.out _ _ ⟨bx_ BK965.out 0, bx_ BK965.out 1, bx_ BK965.out 2, bx_ BK965.out 3, bx_ BK965.out 4⟩ (fun hHeld => ?_)
 clear hK K
 refine norm_ (a' := ?_) ?_ ?_
 rotate_left
 ·
  show Act.put _ (some 5) _ = _
  simp only [fr_]
  rfl
 refine pu_ 6 9 ?_ #[t_,t_,t_,t_,t_,f_,t_,f_,f_,f_] rfl rfl HT_.out ?_ ?_ ?_ ?_; rotate_left; intro w'; go_simp; with_reducible rfl; rotate_left; simp only [fr_]; rfl
 refine one_ (i := 5) (N := some 8) #[t_,t_,t_,t_,t_,t_,t_,f_,f_,f_] rfl rfl (one_of HT_.out (by kernel_rfl)) (by decide) (fun K hK => ?_)
 refine goes_ Try.func101 (by kernel_rfl) rfl #[.slice A0_4 l0_4.length c0_4] (by rfl) rfl rfl (by (try simp only [mp_]); first | done | rfl | (simp only [List.length_drop, List.length_take]; rfl)) ?_
 with_reducible refine (impl_copyAlarms.calls k _ _ l0_4 t970 _ ?side1 ?side2 A3.out).mono ?_
 (case side1 => exact cp_ ((Kd.C_below HR0_4.out HB.out)))
 (case side2 => exact HC0_4.out)
 rintro e w8 ⟨v971, rfl, ho0, hb⟩
 refine ⟨_, rfl, ?_⟩
 have HO972 := Aside0.mk (Kd.S_lower (Kd.S_new' ho0 (Kd.R_lt (rp_ HO969.out))) (below_size (by repeat (first | (with_reducible first | exact HB.out | apply ba_ | apply bn_ | apply bd_ | apply bs_ GE965 | apply bs_ GE966) | exact HB.out))))
 replace HO969 := Aside0.mk (Kd.R_below (rp_ HO969.out) hb)
 replace BK965 := Aside0.mk (bb_ BK965.out hb)
 replace BK966 := Aside0.mk (bb_ BK966.out hb)
 replace HB := Aside0.mk (below_step (by repeat (first | (with_reducible first | exact HB.out | apply ba_ | apply bn_ | apply bd_ | apply bs_ GE965 | apply bs_ GE966) | exact HB.out)) hb)
 (try clear hb)
 (try clear hb2)
 (try clear hk)
 (try clear hi)
 (try clear ho0)
 obtain ⟨Ao9, co9, eo9⟩ := Kd.R_slice HO969.out
 (first | subst eo9 | (injection eo9 with f1_ f2_ f3_; have f4_ := f1_.symm; have f5_ := f3_.symm; clear f1_ f2_ f3_; subst f4_; subst f5_))
 obtain ⟨Ao11, co11, eo11⟩ := Kd.S_slice HO972.out
 (first | subst eo11 | (injection eo11 with f1_ f2_ f3_; have f4_ := f1_.symm; have f5_ := f3_.symm; clear f1_ f2_ f3_; subst f4_; subst f5_))
 refine hK.out _ _ ⟨bx_ BK965.out 0, bx_ BK965.out 1, bx_ BK965.out 2, bx_ BK965.out 3, bx_ BK965.out 4⟩ (fun hHeld => ?_)
 clear hK K
 refine norm_ (a' := ?_) ?_ ?_
 rotate_left
 ·
  show Act.put _ (some 8) _ = _
  simp only [fr_]
  rfl
 refine last_ (i := 7) (N := none) #[t_,t_,t_,t_,t_,t_,t_,t_,f_,f_] rfl rfl (one_of HT_.out (by kernel_rfl)) (by decide) (fun K hK => ?_)
 have hs10 : w8.cell? ⟨gb965, 1, none⟩ = some (.slice A0_1 l0_1.length c0_1) := bx_ BK965.out 1
 have hfs10 := blk_frozen BK965.out 1
 have hns10_1 := NB966_965.out
 have hms10_1 := NB965_966.out
 refine skip_ (w1 := ?_) (by rfl) rfl ?_ ?_
 rotate_left
 ·
  go_simp
  rfl
 refine hK.out _ _ ?_
 clear hK K
 refine pu_ 8 10 ?_ (b_ 9 1) rfl rfl HT_.out ?_ ?_ ?_ ?_; rotate_left; intro w'; go_simp; with_reducible rfl; rotate_left; simp only [fr_]; rfl
 refine last_ (i := 9) (N := none) #[t_,t_,t_,t_,t_,t_,t_,t_,t_,t_] rfl rfl (one_of HT_.out (by kernel_rfl)) (by decide) (fun K hK => ?_)
 have hs12 : w8.cell? ⟨gb965, 4, none⟩ = some (.slice A0_4 l0_4.length c0_4) := bx_ BK965.out 4
 have hfs12 := blk_frozen BK965.out 4
 have hns12_1 := NB966_965.out
 have hms12_1 := NB965_966.out
 refine skip_ (w1 := ?_) (by rfl) rfl ?_ ?_
 rotate_left
 ·
  go_simp
  rfl
 refine hK.out _ _ ?_
 clear hK K
 refine done_ (done_of HT_.out (by kernel_rfl)) ?_
 have hnb13 := NB965_966.out
 have hnc13 := NB966_965.out
 obtain ⟨hcz14_0, hcz14_1, hcz14_2, hcz14_3, hcz14_4, hfz14_0, hfz14_1, hfz14_2, hfz14_3, hfz14_4⟩ := bc5_ BK965.out
 obtain ⟨hcz15_0, hcz15_1, hcz15_2, hcz15_3, hcz15_4, hfz15_0, hfz15_1, hfz15_2, hfz15_3, hfz15_4⟩ := bc5_ BK966.out
 try go_wp2
 refine bodyPost_ret (results_cell_row rfl _ _ gb966 75 #[.int .i64 a0_0, .slice Ao9 t967.length co9, .int .i64 a0_2, .int .i64 a0_3, .slice Ao11 t970.length co11] (0, 0) _ rfl (by (with_reducible repeat (first | refine kn_ ?_ _ | refine kd_ ?_ | refine ka_ ?_ _)); refine blk_put (cs := #[.int .i64 a0_0, .slice Ao9 t967.length co9, .int .i64 a0_2, .int .i64 a0_3, .slice none 0 0]) ?_ 4 _ rfl; (with_reducible repeat (first | refine kn_ ?_ _ | refine kd_ ?_ | refine ka_ ?_ _)); refine blk_put (cs := #[.int .i64 a0_0, .slice Ao9 t967.length co9, .int .i64 a0_2, .int .i64 0, .slice none 0 0]) ?_ 3 _ rfl; (with_reducible repeat (first | refine kn_ ?_ _ | refine kd_ ?_ | refine ka_ ?_ _)); refine blk_put (cs := #[.int .i64 a0_0, .slice Ao9 t967.length co9, .int .i64 0, .int .i64 0, .slice none 0 0]) ?_ 2 _ rfl; (with_reducible repeat (first | refine kn_ ?_ _ | refine kd_ ?_ | refine ka_ ?_ _)); refine blk_put (cs := #[.int .i64 a0_0, .slice none 0 0, .int .i64 0, .int .i64 0, .slice none 0 0]) ?_ 1 _ rfl; (with_reducible repeat (first | refine kn_ ?_ _ | refine kd_ ?_ | refine ka_ ?_ _)); refine blk_put (cs := #[.int .i64 0, .slice none 0 0, .int .i64 0, .int .i64 0, .slice none 0 0]) ?_ 0 _ rfl; (with_reducible repeat (first | refine kn_ ?_ _ | refine kd_ ?_ | refine ka_ ?_ _)); refine blk_far ?_ NB966_965.out _; (with_reducible repeat (first | refine kn_ ?_ _ | refine kd_ ?_ | refine ka_ ?_ _)); refine blk_far ?_ NB966_965.out _; (with_reducible repeat (first | refine kn_ ?_ _ | refine kd_ ?_ | refine ka_ ?_ _)); exact BK966.out) Try.underlying75 rfl (by kernel_rfl)) rfl ?_
 exact ⟨_, _, by first | rfl | (simp [errW_none, errW_some] <;> rfl) | (simp [*, errW_none, errW_some] <;> rfl), by (with_reducible repeat (first | apply Kd.R_alloc | apply Kd.R_drewN | apply Kd.R_drew)); exact Kd.R_mono (Kd.R_far (p := ⟨gb966, 4, none⟩) (Kd.R_far (p := ⟨gb966, 3, none⟩) (Kd.R_far (p := ⟨gb966, 2, none⟩) (Kd.R_far (p := ⟨gb966, 1, none⟩) (Kd.R_far (p := ⟨gb966, 0, none⟩) (Kd.R_far (p := ⟨gb965, 4, none⟩) (Kd.R_far (p := ⟨gb965, 1, none⟩) (Kd.R_types (Kd.R_types HO969.out BK965.out (by decide)) BK966.out (by decide)) (fun _ hk => hk.1.2) (.slice Ao9 t967.length co9)) (fun _ hk => hk.1.2) (.slice Ao11 t970.length co11)) (fun _ hk => hk.2) (.int .i64 a0_0)) (fun _ hk => hk.2) (.slice Ao9 t967.length co9)) (fun _ hk => hk.2) (.int .i64 a0_2)) (fun _ hk => hk.2) (.int .i64 a0_3)) (fun _ hk => hk.2) (.slice Ao11 t970.length co11)) (fun _ hk => trivial), by (with_reducible repeat (first | apply Kd.S_alloc | apply Kd.S_drewN | apply Kd.S_drew)); exact Kd.S_mono (Kd.S_far (p := ⟨gb966, 4, none⟩) (Kd.S_far (p := ⟨gb966, 3, none⟩) (Kd.S_far (p := ⟨gb966, 2, none⟩) (Kd.S_far (p := ⟨gb966, 1, none⟩) (Kd.S_far (p := ⟨gb966, 0, none⟩) (Kd.S_far (p := ⟨gb965, 4, none⟩) (Kd.S_far (p := ⟨gb965, 1, none⟩) (Kd.S_types (Kd.S_types HO972.out BK965.out (by decide)) BK966.out (by decide)) (fun _ hk => hk.1.2) (.slice Ao9 t967.length co9)) (fun _ hk => hk.1.2) (.slice Ao11 t970.length co11)) (fun _ hk => hk.2) (.int .i64 a0_0)) (fun _ hk => hk.2) (.slice Ao9 t967.length co9)) (fun _ hk => hk.2) (.int .i64 a0_2)) (fun _ hk => hk.2) (.int .i64 a0_3)) (fun _ hk => hk.2) (.slice Ao11 t970.length co11)) (fun _ hk => hk.1.1.2), by repeat (first | (with_reducible first | exact HB.out | apply ba_ | apply bn_ | apply bd_ | apply bs_ GE965 | apply bs_ GE966) | exact HB.out)⟩
end Go.Proofs.Ytfholjcelnkleaa.Print
end
section
namespace Go.Proofs.Ytfholjcelnkleaa.Print
open Go.RowKit Go.Proofs.YtfholjcelnkleaaV.PrintWords Go.Proofs.YtfholjcelnkleaaV.PrintLast Go.Proofs.YtfholjcelnkleaaV.PrintMore
attribute [local go_sem] max2_int min2_int max_two min_two max_three min_three max_four min_four
set_option linter.unusedVariables false
set_option linter.unusedSimpArgs false

attribute [local go_sem high] eqA164
set_option maxHeartbeats 8000000
set_option maxRecDepth 100000
def impl_SameSet.l0 : Nat → List (S164) → List (S164) → Int → Int → Option (Bool)
 | 0, _, _, _, _ => none
 | k + 1, x0, x1, x12, x13 => if x13 < x12 then (if 0 ≤ x13 then (if x13 < (x0.length : Int) then (if x13 < (x1.length : Int) then (if (!((((rd_T164 x0 x13).f0).toList) == (((rd_T164 x1 x13).f0).toList)) || (!((((rd_T164 x0 x13).f1).toList) == (((rd_T164 x1 x13).f1).toList)))) = true then (some false) else (impl_SameSet.l0 k x0 x1 x12 (wrap64 (x13 + 1)))) else (none)) else (none)) else (none)) else (some true)
def impl_SameSet.f (k : Nat) (l0 : List (S164)) (l1 : List (S164)) : Option (Bool) := if (l0.length : Int) = (l1.length : Int) then (impl_SameSet.l0 k l0 l1 (l0.length : Int) 0) else (some false)
theorem impl_SameSet.mono_l : ∀ k, (∀ y0 y1 y2 y3, LeO (impl_SameSet.l0 k y0 y1 y2 y3) (impl_SameSet.l0 (k + 1) y0 y1 y2 y3))
 | 0 => fun _ _ _ _ r h => by simp [impl_SameSet.l0] at h
 | k + 1 => by
  have ih0 := impl_SameSet.mono_l k
  intro y0 y1 y2 y3
  unfold impl_SameSet.l0
  repeat' first
  | (with_reducible exact ih0 _ _ _ _)
  | (with_reducible exact LeO.refl _)
  | (with_reducible exact LeO.none _)
  | (with_reducible refine LeO.ite ?_ ?_)
  | (with_reducible refine LeO.bind ?_ (fun _ => ?_))
  | exact ih0 _ _ _ _
theorem impl_SameSet.mono : ∀ a0 a1 k, LeO (impl_SameSet.f k a0 a1) (impl_SameSet.f (k + 1) a0 a1) := by
 intro a0 a1 k
 have ih0 := impl_SameSet.mono_l k
 unfold impl_SameSet.f
 repeat' first
   | (with_reducible exact ih0 _ _ _ _)
   | (with_reducible exact LeO.refl _)
   | (with_reducible exact LeO.none _)
   | (with_reducible refine LeO.ite ?_ ?_)
   | (with_reducible refine LeO.bind ?_ (fun _ => ?_))
   | exact ih0 _ _ _ _
theorem impl_SameSet.calls (k : Nat) (A0 : Option Addr) (c0 : Nat) (l0 : List (S164)) (A1 : Option Addr) (c1 : Nat) (l1 : List (S164)) (r : Bool) (w : World) (hr0 : Kd.C k164 w A0 l0.length l0) (hc0 : l0.length ≤ c0) (hr1 : Kd.C k164 w A1 l1.length l1) (hc1 : l1.length ≤ c1) (h : impl_SameSet.f k l0 l1 = some r) :
  Calls Try.prog 139 #[.slice A0 l0.length c0, .slice A1 l1.length c1] w fun e w' => e = .returned (.bool r) ∧ Drawn0 w w' := by
 have hu164 := Try.underlying164
 have HR0 := Aside0.mk hr0
 have HC0 := Aside0.mk hc0
 clear hr0 hc0
 have HR1 := Aside0.mk hr1
 have HC1 := Aside0.mk hc1
 clear hr1 hc1
 have H : (if (l0.length : Int) = (l1.length : Int) then (impl_SameSet.l0 k l0 l1 (l0.length : Int) 0) else (some false)) = some r := h
 clear h
 by_cases c3 : (l0.length : Int) = (l1.length : Int)
 ·
  rw [if_pos c3] at H
  have c3b0 : ((l0.length : Int) == (l1.length : Int)) = true := beq_iff_eq.mpr c3
  have c3b1 : ((l0.length : Int) != (l1.length : Int)) = false := bne_eq_false_iff_eq.mpr c3
  have c3b2 : (l0.length == l1.length) = true := by first | simpa using c3 | (simp at c3 ⊢; omega)
  clear c3
  have H' := Aside0.mk H
  clear H
  go_enter Try.func139, Try.ntmps139
  go_wp2
  repeat (go_quiet (fail); try go_wp2)
  go_loopg [13] k (fun kq v13 w' => ∃ (x13_1 : Int), v13 = .int .i64 x13_1 ∧ Aside0 (impl_SameSet.l0 kq l0 l1 (l0.length : Int) x13_1 = some r) ∧ Aside0 (kq ≤ k) ∧ Drawn0 w w')
  case atStart => exact ⟨(0), (by first | rfl | (simp; done) | (simp [*]; done)), H', ⟨Nat.le_refl _⟩, by repeat (first | exact Drawn0.refl _ | apply Drawn0.step)⟩
  case round =>
   clear H'
   try clear c1
   try clear p2
   try clear c3
   try clear c3b0
   try clear c3b1
   try clear c3b2
   obtain ⟨x13_1, rfl, HA, HK1, ⟨m1, rfl⟩⟩ := hrel
   cases gk with
   | zero => exact absurd HA.out (by simp [impl_SameSet.l0])
   | succ k1 =>
    have H := HA.out
    clear HA
    simp only [impl_SameSet.l0] at H
    by_cases c4 : x13_1 < (l0.length : Int)
    ·
     rw [if_pos c4] at H
     have c4b0 := decide_eq_true c4
     clear c4
     by_cases c5 : 0 ≤ x13_1
     ·
      rw [if_pos c5] at H
      have c5b0 := decide_eq_true c5
      clear c5
      by_cases c6 : x13_1 < (l0.length : Int)
      ·
       rw [if_pos c6] at H
       have c6b0 := decide_eq_true c6
       clear c6
       by_cases c7 : x13_1 < (l1.length : Int)
       ·
        rw [if_pos c7] at H
        have c7b0 := decide_eq_true c7
        clear c7
        by_cases c8 : (!((((rd_T164 l0 x13_1).f0).toList) == (((rd_T164 l1 x13_1).f0).toList)) || (!((((rd_T164 l0 x13_1).f1).toList) == (((rd_T164 l1 x13_1).f1).toList)))) = true
        ·
         rw [if_pos c8] at H
         have c8b0 : (!((((rd_T164 l0 x13_1).f0).toList) == (((rd_T164 l1 x13_1).f0).toList)) || (!((((rd_T164 l0 x13_1).f1).toList) == (((rd_T164 l1 x13_1).f1).toList)))) = true := c8
         clear c8
         obtain rfl := Option.some.inj H
         have p812 : 0 ≤ (x13_1 : Int) := of_decide_eq_true (by with_reducible assumption)
         have q812 : x13_1 < (l0.length : Int) := of_decide_eq_true (by with_reducible assumption)
         obtain ⟨ad812, e812, hx812_0, hx812_1⟩ := at_T164 HR0.out x13_1 p812 q812
         cases e812
         replace p812 := eq_true p812
         replace q812 := eq_true q812
         have p813 : 0 ≤ (x13_1 : Int) := of_decide_eq_true (by with_reducible assumption)
         have q813 : x13_1 < (l1.length : Int) := of_decide_eq_true (by with_reducible assumption)
         obtain ⟨ad813, e813, hx813_0, hx813_1⟩ := at_T164 HR1.out x13_1 p813 q813
         cases e813
         replace p813 := eq_true p813
         replace q813 := eq_true q813
         go_wp2
         repeat (go_quiet (fail); try go_wp2)
         go_ret
         exact ⟨by first | rfl | (simp; done) | (simp [*]; done), by repeat (first | exact Drawn0.refl _ | apply Drawn0.step)⟩
        rw [if_neg c8] at H
        have c8b0 : (!((((rd_T164 l0 x13_1).f0).toList) == (((rd_T164 l1 x13_1).f0).toList)) || (!((((rd_T164 l0 x13_1).f1).toList) == (((rd_T164 l1 x13_1).f1).toList)))) = false := by simpa using c8
        clear c8
        have H' := Aside0.mk H
        clear H
        have p812 : 0 ≤ (x13_1 : Int) := of_decide_eq_true (by with_reducible assumption)
        have q812 : x13_1 < (l0.length : Int) := of_decide_eq_true (by with_reducible assumption)
        obtain ⟨ad812, e812, hx812_0, hx812_1⟩ := at_T164 HR0.out x13_1 p812 q812
        cases e812
        replace p812 := eq_true p812
        replace q812 := eq_true q812
        have p813 : 0 ≤ (x13_1 : Int) := of_decide_eq_true (by with_reducible assumption)
        have q813 : x13_1 < (l1.length : Int) := of_decide_eq_true (by with_reducible assumption)
        obtain ⟨ad813, e813, hx813_0, hx813_1⟩ := at_T164 HR1.out x13_1 p813 q813
        cases e813
        replace p813 := eq_true p813
        replace q813 := eq_true q813
        go_wp2
        repeat (go_quiet (fail); try go_wp2)
        go_roundg k1
        case measure => have := HK1.out; omega
        case rel => exact ⟨(wrap64 (x13_1 + 1)), (by first | rfl | (simp; done) | (simp [*]; done)), H', ⟨by have := HK1.out; omega⟩, by repeat (first | exact Drawn0.refl _ | apply Drawn0.step)⟩
       rw [if_neg c7] at H
       exact absurd H (by simp)
      rw [if_neg c6] at H
      exact absurd H (by simp)
     rw [if_neg c5] at H
     exact absurd H (by simp)
    rw [if_neg c4] at H
    have c4b0 : decide (x13_1 < (l0.length : Int)) = false := decide_eq_false c4
    clear c4
    obtain rfl := Option.some.inj H
    go_wp2
    repeat (go_quiet (fail); try go_wp2)
    go_ret
    exact ⟨by first | rfl | (simp; done) | (simp [*]; done), by repeat (first | exact Drawn0.refl _ | apply Drawn0.step)⟩
 rw [if_neg c3] at H
 have c3b0 : ((l0.length : Int) == (l1.length : Int)) = false := beq_eq_false_iff_ne.mpr c3
 have c3b1 : ((l0.length : Int) != (l1.length : Int)) = true := bne_iff_ne.mpr c3
 have c3b2 : (l0.length == l1.length) = false := by first | simpa using c3 | (simp at c3 ⊢; omega)
 obtain rfl := Option.some.inj H
 go_enter Try.func139, Try.ntmps139
 go_wp2
 repeat (go_quiet (fail); try go_wp2)
 go_ret
 exact ⟨by first | rfl | (simp; done) | (simp [*]; done), by repeat (first | exact Drawn0.refl _ | apply Drawn0.step)⟩
end Go.Proofs.Ytfholjcelnkleaa.Print
end
section
namespace Go.Proofs.Ytfholjcelnkleaa.Print
open Go.RowKit Go.Proofs.YtfholjcelnkleaaV.PrintWords Go.Proofs.YtfholjcelnkleaaV.PrintLast Go.Proofs.YtfholjcelnkleaaV.PrintMore
attribute [local go_sem] max2_int min2_int max_two min_two max_three min_three max_four min_four
set_option linter.unusedVariables false
set_option linter.unusedSimpArgs false
set_option maxHeartbeats 8000000
set_option maxRecDepth 100000
def impl_labelsAt.l0 : Nat → List (S164) → List (S44) → Int → Int → Option (Int)
 | 0, _, _, _, _ => none
 | k + 1, x1, x7, x8, x9 => if x9 < x8 then (if 0 ≤ x9 then (if x9 < (x7.length : Int) then ((impl_SameSet.f k ((rd_T44 x7 x9).f0) x1).bind fun t975 => (if t975 = true then (some x9) else (impl_labelsAt.l0 k x1 x7 x8 (wrap64 (x9 + 1))))) else (none)) else (none)) else (some (-1))
def impl_labelsAt.f (k : Nat) (l0 : List (S44)) (l1 : List (S164)) : Option (Int) := impl_labelsAt.l0 k l1 l0 (l0.length : Int) 0
theorem impl_labelsAt.mono_l : ∀ k, (∀ y0 y1 y2 y3, LeO (impl_labelsAt.l0 k y0 y1 y2 y3) (impl_labelsAt.l0 (k + 1) y0 y1 y2 y3))
 | 0 => fun _ _ _ _ r h => by simp [impl_labelsAt.l0] at h
 | k + 1 => by
  have ih0 := impl_labelsAt.mono_l k
  intro y0 y1 y2 y3
  unfold impl_labelsAt.l0
  repeat' first
  | (with_reducible exact ih0 _ _ _ _)
  | (with_reducible exact impl_SameSet.mono _ _ _)
  | (with_reducible exact LeO.refl _)
  | (with_reducible exact LeO.none _)
  | (with_reducible refine LeO.ite ?_ ?_)
  | (with_reducible refine LeO.bind ?_ (fun _ => ?_))
  | exact ih0 _ _ _ _
  | exact impl_SameSet.mono _ _ _
theorem impl_labelsAt.mono : ∀ a0 a1 k, LeO (impl_labelsAt.f k a0 a1) (impl_labelsAt.f (k + 1) a0 a1) := by
 intro a0 a1 k
 have ih0 := impl_labelsAt.mono_l k
 unfold impl_labelsAt.f
 repeat' first
   | (with_reducible exact ih0 _ _ _ _)
   | (with_reducible exact impl_SameSet.mono _ _ _)
   | (with_reducible exact LeO.refl _)
   | (with_reducible exact LeO.none _)
   | (with_reducible refine LeO.ite ?_ ?_)
   | (with_reducible refine LeO.bind ?_ (fun _ => ?_))
   | exact ih0 _ _ _ _
   | exact impl_SameSet.mono _ _ _
theorem impl_labelsAt.calls (k : Nat) (A0 : Option Addr) (c0 : Nat) (l0 : List (S44)) (A1 : Option Addr) (c1 : Nat) (l1 : List (S164)) (r : Int) (w : World) (hr0 : Kd.C k44 w A0 l0.length l0) (hc0 : l0.length ≤ c0) (hr1 : Kd.C k164 w A1 l1.length l1) (hc1 : l1.length ≤ c1) (h : impl_labelsAt.f k l0 l1 = some r) :
  Calls Try.prog 115 #[.slice A0 l0.length c0, .slice A1 l1.length c1] w fun e w' => e = .returned (.int .i64 r) ∧ Below w.heap.size w w' := by
 have hu44 := Try.underlying44
 have HR0 := Aside0.mk hr0
 have HC0 := Aside0.mk hc0
 clear hr0 hc0
 have HR1 := Aside0.mk hr1
 have HC1 := Aside0.mk hc1
 clear hr1 hc1
 have HB := Aside0.mk (Below.refl w.heap.size w)
 have H : (impl_labelsAt.l0 k l1 l0 (l0.length : Int) 0) = some r := h
 clear h
 have H' := Aside0.mk H
 clear H
 go_enter Try.func115, Try.ntmps115
 go_wp2
 go_loopg [9] k (fun kq v9 w' => ∃ (x9_1 : Int), v9 = .int .i64 x9_1 ∧ Aside0 (impl_labelsAt.l0 kq l1 l0 (l0.length : Int) x9_1 = some r) ∧ Aside0 (kq ≤ k) ∧ Aside0 (Below w.heap.size w w'))
 case atStart => exact ⟨(0), (by first | rfl | (simp; done) | (simp [*]; done)), H', ⟨Nat.le_refl _⟩, ⟨by exact hb_ HB.out⟩⟩
 case round =>
  clear H'
  try clear c1
  try clear p2
  obtain ⟨x9_1, rfl, HA, HK1, HB⟩ := hrel
  cases gk with
  | zero => exact absurd HA.out (by simp [impl_labelsAt.l0])
  | succ k1 =>
   have H := HA.out
   clear HA
   simp only [impl_labelsAt.l0] at H
   by_cases c3 : x9_1 < (l0.length : Int)
   ·
    rw [if_pos c3] at H
    have c3b0 := decide_eq_true c3
    clear c3
    by_cases c4 : 0 ≤ x9_1
    ·
     rw [if_pos c4] at H
     have c4b0 := decide_eq_true c4
     clear c4
     by_cases c5 : x9_1 < (l0.length : Int)
     ·
      rw [if_pos c5] at H
      have c5b0 := decide_eq_true c5
      clear c5
      replace H := Option.bind_eq_some_iff.mp H
      obtain ⟨t975, A60, H⟩ := H
      have A6 := Aside0.mk A60
      clear A60
      by_cases c7 : t975 = true
      ·
       subst c7
       rw [if_pos rfl] at H
       obtain rfl := Option.some.inj H
       have p973 : 0 ≤ (x9_1 : Int) := of_decide_eq_true (by with_reducible assumption)
       have q973 : x9_1 < (l0.length : Int) := of_decide_eq_true (by with_reducible assumption)
       obtain ⟨ad973, A973_0, c973_0, e973, hx973_0, hx973_1, hx973_2, hx973_3, hl973_0, hi973_0⟩ := at_T44 HR0.out x9_1 p973 q973
       cases e973
       replace hx973_0 := cl_ HB.out hx973_0
       replace hx973_1 := cl_ HB.out hx973_1
       replace hx973_2 := cl_ HB.out hx973_2
       replace hx973_3 := cl_ HB.out hx973_3
       have HR973_0 := Aside0.mk hi973_0
       have HC973_0 := Aside0.mk hl973_0
       clear hi973_0 hl973_0
       replace p973 := eq_true p973
       replace q973 := eq_true q973
       go_wp2_with (first | ((with_reducible refine gate_dst (N := 6) rfl ?_); refine box_event ?hg (N := 6) ?hd (cs := #[.slice none 0 0, .int .i64 0, .int .i64 0, .string (⟨#[]⟩ : ByteArray)]) (t := 44) ?hr ?_; (case hd => rfl); (case hg => rfl); (case hr => first | (go_simp; done) | (go_simp; rfl)); intro gb974 hg w8 hbox hb; have BK974 := Aside0.mk (hbox); have GW974 := Aside0.mk ((by rw [hg]; exact (below_size (hb_ HB.out)) : w.heap.size ≤ gb974)); replace HB := Aside0.mk (below_step (hb_ HB.out) hb); have GE974 := GW974; clear hb hbox hg; obtain ⟨hcz9_0, hcz9_1, hcz9_2, hcz9_3, hfz9_0, hfz9_1, hfz9_2, hfz9_3⟩ := bc4_ BK974.out) | ((with_reducible refine gate_callee (f := 139) rfl ?_); refine goesL_ (some 17) rfl rfl Try.func139 (by kernel_rfl) rfl #[.slice A973_0 ((rd_T44 l0 x9_1).f0).length c973_0, .slice A1 l1.length c1] rfl (by (try simp only [mp_]); first | done | rfl | (simp only [List.length_drop, List.length_take]; rfl)) ?_; (with_reducible refine (impl_SameSet.calls k1 _ _ ((rd_T44 l0 x9_1).f0) _ _ l1 true _ ?side1 ?side2 ?side3 ?side4 A6.out).mono ?_); (case side1 => exact Kd.C_below HR973_0.out (by repeat (first | (with_reducible first | exact HB.out | apply ba_ | apply bn_ | apply bd_ | apply bs_ GE974) | exact HB.out))); (case side2 => exact HC973_0.out); (case side3 => exact Kd.C_below HR1.out (by repeat (first | (with_reducible first | exact HB.out | apply ba_ | apply bn_ | apply bd_ | apply bs_ GE974) | exact HB.out))); (case side4 => exact HC1.out); rintro e w' ⟨rfl, ⟨nd, rfl⟩⟩; refine ⟨_, rfl, ?_⟩))
       go_ret
       exact ⟨by first | rfl | (simp [errW_none, errW_some] <;> rfl) | (simp [*, errW_none, errW_some] <;> rfl), by repeat (first | (with_reducible first | exact HB.out | apply ba_ | apply bn_ | apply bd_ | apply bs_ GE974) | exact HB.out)⟩
      replace c7 := Bool.eq_false_iff.mpr c7
      subst c7
      rw [if_neg (show ¬ (false = true) by decide)] at H
      have H' := Aside0.mk H
      clear H
      have p973 : 0 ≤ (x9_1 : Int) := of_decide_eq_true (by with_reducible assumption)
      have q973 : x9_1 < (l0.length : Int) := of_decide_eq_true (by with_reducible assumption)
      obtain ⟨ad973, A973_0, c973_0, e973, hx973_0, hx973_1, hx973_2, hx973_3, hl973_0, hi973_0⟩ := at_T44 HR0.out x9_1 p973 q973
      cases e973
      replace hx973_0 := cl_ HB.out hx973_0
      replace hx973_1 := cl_ HB.out hx973_1
      replace hx973_2 := cl_ HB.out hx973_2
      replace hx973_3 := cl_ HB.out hx973_3
      have HR973_0 := Aside0.mk hi973_0
      have HC973_0 := Aside0.mk hl973_0
      clear hi973_0 hl973_0
      replace p973 := eq_true p973
      replace q973 := eq_true q973
      go_wp2_with (first | ((with_reducible refine gate_dst (N := 6) rfl ?_); refine box_event ?hg (N := 6) ?hd (cs := #[.slice none 0 0, .int .i64 0, .int .i64 0, .string (⟨#[]⟩ : ByteArray)]) (t := 44) ?hr ?_; (case hd => rfl); (case hg => rfl); (case hr => first | (go_simp; done) | (go_simp; rfl)); intro gb974 hg w10 hbox hb; have BK974 := Aside0.mk (hbox); have GW974 := Aside0.mk ((by rw [hg]; exact (below_size (hb_ HB.out)) : w.heap.size ≤ gb974)); replace HB := Aside0.mk (below_step (hb_ HB.out) hb); have GE974 := GW974; clear hb hbox hg; obtain ⟨hcz11_0, hcz11_1, hcz11_2, hcz11_3, hfz11_0, hfz11_1, hfz11_2, hfz11_3⟩ := bc4_ BK974.out) | ((with_reducible refine gate_callee (f := 139) rfl ?_); refine goesL_ (some 17) rfl rfl Try.func139 (by kernel_rfl) rfl #[.slice A973_0 ((rd_T44 l0 x9_1).f0).length c973_0, .slice A1 l1.length c1] rfl (by (try simp only [mp_]); first | done | rfl | (simp only [List.length_drop, List.length_take]; rfl)) ?_; (with_reducible refine (impl_SameSet.calls k1 _ _ ((rd_T44 l0 x9_1).f0) _ _ l1 false _ ?side1 ?side2 ?side3 ?side4 A6.out).mono ?_); (case side1 => exact Kd.C_below HR973_0.out (by repeat (first | (with_reducible first | exact HB.out | apply ba_ | apply bn_ | apply bd_ | apply bs_ GE974) | exact HB.out))); (case side2 => exact HC973_0.out); (case side3 => exact Kd.C_below HR1.out (by repeat (first | (with_reducible first | exact HB.out | apply ba_ | apply bn_ | apply bd_ | apply bs_ GE974) | exact HB.out))); (case side4 => exact HC1.out); rintro e w' ⟨rfl, ⟨nd, rfl⟩⟩; refine ⟨_, rfl, ?_⟩))
      go_roundg k1
      case measure => have := HK1.out; omega
      case rel => exact ⟨(wrap64 (x9_1 + 1)), (by first | rfl | (simp; done) | (simp [*]; done)), H', ⟨by have := HK1.out; omega⟩, ⟨by repeat (first | (with_reducible first | exact HB.out | apply ba_ | apply bn_ | apply bd_ | apply bs_ GE974) | exact HB.out)⟩⟩
     rw [if_neg c5] at H
     exact absurd H (by simp)
    rw [if_neg c4] at H
    exact absurd H (by simp)
   rw [if_neg c3] at H
   have c3b0 : decide (x9_1 < (l0.length : Int)) = false := decide_eq_false c3
   clear c3
   obtain rfl := Option.some.inj H
   go_wp2
   go_ret
   exact ⟨by first | rfl | (simp [errW_none, errW_some] <;> rfl) | (simp [*, errW_none, errW_some] <;> rfl), by exact hb_ HB.out⟩
mutual
def impl_SetLess.l0 : Nat → List (S164) → List (S164) → Int → Option (Bool)
 | 0, _, _, _ => none
 | k + 1, x0, x1, x5 => if x5 < (x0.length : Int) then (impl_SetLess.j1 k x0 x1 x5 (decide (x5 < (x1.length : Int)))) else (impl_SetLess.j1 k x0 x1 x5 false)
def impl_SetLess.j1 : Nat → List (S164) → List (S164) → Int → Bool → Option (Bool)
 | 0, _, _, _, _ => none
 | k + 1, x0, x1, x5, x15 => if x15 = true then (if 0 ≤ x5 then (if x5 < (x0.length : Int) then (if x5 < (x1.length : Int) then (if ((rd_T164 x0 x5).f0).toList = ((rd_T164 x1 x5).f0).toList then (if ((rd_T164 x0 x5).f1).toList = ((rd_T164 x1 x5).f1).toList then (impl_SetLess.l0 k x0 x1 (wrap64 (x5 + 1))) else (some (Op.bytesLess (((rd_T164 x0 x5).f1).toList) (((rd_T164 x1 x5).f1).toList)))) else (some (Op.bytesLess (((rd_T164 x0 x5).f0).toList) (((rd_T164 x1 x5).f0).toList)))) else (none)) else (none)) else (none)) else (some (decide ((x0.length : Int) < (x1.length : Int))))
end
def impl_SetLess.f (k : Nat) (l0 : List (S164)) (l1 : List (S164)) : Option (Bool) := impl_SetLess.l0 k l0 l1 0
theorem impl_SetLess.mono_l : ∀ k, (∀ y0 y1 y2, LeO (impl_SetLess.l0 k y0 y1 y2) (impl_SetLess.l0 (k + 1) y0 y1 y2)) ∧ (∀ y0 y1 y2 y3, LeO (impl_SetLess.j1 k y0 y1 y2 y3) (impl_SetLess.j1 (k + 1) y0 y1 y2 y3))
 | 0 => ⟨fun _ _ _ r h => by simp [impl_SetLess.l0] at h, fun _ _ _ _ r h => by simp [impl_SetLess.j1] at h⟩
 | k + 1 => by
  obtain ⟨ih0, ih1⟩ := impl_SetLess.mono_l k
  refine ⟨?_, ?_⟩
  ·
   intro y0 y1 y2
   unfold impl_SetLess.l0
   repeat' first
   | (with_reducible exact ih0 _ _ _)
   | (with_reducible exact ih1 _ _ _ _)
   | (with_reducible exact LeO.refl _)
   | (with_reducible exact LeO.none _)
   | (with_reducible refine LeO.ite ?_ ?_)
   | (with_reducible refine LeO.bind ?_ (fun _ => ?_))
   | exact ih0 _ _ _
   | exact ih1 _ _ _ _
  intro y0 y1 y2 y3
  unfold impl_SetLess.j1
  repeat' first
  | (with_reducible exact ih0 _ _ _)
  | (with_reducible exact ih1 _ _ _ _)
  | (with_reducible exact LeO.refl _)
  | (with_reducible exact LeO.none _)
  | (with_reducible refine LeO.ite ?_ ?_)
  | (with_reducible refine LeO.bind ?_ (fun _ => ?_))
  | exact ih0 _ _ _
  | exact ih1 _ _ _ _
theorem impl_SetLess.mono : ∀ a0 a1 k, LeO (impl_SetLess.f k a0 a1) (impl_SetLess.f (k + 1) a0 a1) := by
 intro a0 a1 k
 obtain ⟨ih0, ih1⟩ := impl_SetLess.mono_l k
 unfold impl_SetLess.f
 repeat' first
   | (with_reducible exact ih0 _ _ _)
   | (with_reducible exact ih1 _ _ _ _)
   | (with_reducible exact LeO.refl _)
   | (with_reducible exact LeO.none _)
   | (with_reducible refine LeO.ite ?_ ?_)
   | (with_reducible refine LeO.bind ?_ (fun _ => ?_))
   | exact ih0 _ _ _
   | exact ih1 _ _ _ _
theorem impl_SetLess.calls (k : Nat) (A0 : Option Addr) (c0 : Nat) (l0 : List (S164)) (A1 : Option Addr) (c1 : Nat) (l1 : List (S164)) (r : Bool) (w : World) (hr0 : Kd.C k164 w A0 l0.length l0) (hc0 : l0.length ≤ c0) (hr1 : Kd.C k164 w A1 l1.length l1) (hc1 : l1.length ≤ c1) (h : impl_SetLess.f k l0 l1 = some r) :
  Calls Try.prog 153 #[.slice A0 l0.length c0, .slice A1 l1.length c1] w fun e w' => e = .returned (.bool r) ∧ Drawn0 w w' := by
 have HR0 := Aside0.mk hr0
 have HC0 := Aside0.mk hc0
 clear hr0 hc0
 have HR1 := Aside0.mk hr1
 have HC1 := Aside0.mk hc1
 clear hr1 hc1
 have H : (impl_SetLess.l0 k l0 l1 0) = some r := h
 clear h
 have H' := Aside0.mk H
 clear H
 go_enter Try.func153, Try.ntmps153
 go_wp2
 repeat (go_quiet (fail); try go_wp2)
 go_loopg [5] k (fun kq v5 w' => ∃ (x5_1 : Int), v5 = .int .i64 x5_1 ∧ Aside0 (impl_SetLess.l0 kq l0 l1 x5_1 = some r) ∧ Aside0 (kq ≤ k) ∧ Drawn0 w w')
 case atStart => exact ⟨(0), (by first | rfl | (simp; done) | (simp [*]; done)), H', ⟨Nat.le_refl _⟩, by repeat (first | exact Drawn0.refl _ | apply Drawn0.step)⟩
 case round =>
  clear H'
  try clear c1
  try clear p2
  obtain ⟨x5_1, rfl, HA, HK1, ⟨m1, rfl⟩⟩ := hrel
  cases gk with
  | zero => exact absurd HA.out (by simp [impl_SetLess.l0])
  | succ k1 =>
   have H := HA.out
   clear HA
   simp only [impl_SetLess.l0] at H
   have HC3 := Aside0.mk H
   clear H
   go_upto_region 2 with (fail)
   repeat (go_quiet (fail); go_upto_region 2 with (fail))
   go_cut [15] (fun v15 wc => ∃ (kq : Nat) (x15_2 : Bool), v15 = .bool x15_2 ∧ Aside0 (impl_SetLess.j1 kq l0 l1 x5_1 x15_2 = some r) ∧ Aside0 (kq ≤ k1) ∧ Drawn0 w wc)
   case first =>
    have H := HC3.out
    clear HC3
    by_cases c4 : x5_1 < (l0.length : Int)
    ·
     rw [if_pos c4] at H
     have c4b0 := decide_eq_true c4
     clear c4
     (first | rw [c4b0] | (simp only [i64_w, i32_w]; rw [c4b0]) | skip)
     have H' := Aside0.mk H
     clear H
     go_wp2
     repeat (go_quiet (fail); try go_wp2)
     go_meet
     case rel => exact ⟨_, (decide (x5_1 < (l1.length : Int))), (by first | rfl | (simp; done) | (simp [*]; done)), H', ⟨by have := HK1.out; first | omega | exact Nat.le_refl _⟩, by repeat (first | exact Drawn0.refl _ | apply Drawn0.step)⟩
    rw [if_neg c4] at H
    have c4b0 : decide (x5_1 < (l0.length : Int)) = false := decide_eq_false c4
    clear c4
    (first | rw [c4b0] | (simp only [i64_w, i32_w]; rw [c4b0]) | skip)
    have H' := Aside0.mk H
    clear H
    go_wp2
    repeat (go_quiet (fail); try go_wp2)
    go_meet
    case rel => exact ⟨_, (false), (by first | rfl | (simp; done) | (simp [*]; done)), H', ⟨by have := HK1.out; first | omega | exact Nat.le_refl _⟩, by repeat (first | exact Drawn0.refl _ | apply Drawn0.step)⟩
   case rest =>
    clear HC3
    try clear c1
    try clear p2
    try clear c4
    try clear c4b0
    try clear p2
    obtain ⟨kq, x15_2, rfl, HA, HJ2, ⟨mc2, rfl⟩⟩ := hcut
    cases kq with
    | zero => exact absurd HA.out (by simp [impl_SetLess.j1])
    | succ kj2 =>
     have H := HA.out
     clear HA
     simp only [impl_SetLess.j1] at H
     by_cases c5 : x15_2 = true
     ·
      subst c5
      rw [if_pos rfl] at H
      by_cases c6 : 0 ≤ x5_1
      ·
       rw [if_pos c6] at H
       have c6b0 := decide_eq_true c6
       clear c6
       by_cases c7 : x5_1 < (l0.length : Int)
       ·
        rw [if_pos c7] at H
        have c7b0 := decide_eq_true c7
        clear c7
        by_cases c8 : x5_1 < (l1.length : Int)
        ·
         rw [if_pos c8] at H
         have c8b0 := decide_eq_true c8
         clear c8
         by_cases c9 : ((rd_T164 l0 x5_1).f0).toList = ((rd_T164 l1 x5_1).f0).toList
         ·
          rw [if_pos c9] at H
          have c9b0 : (((rd_T164 l0 x5_1).f0).toList == ((rd_T164 l1 x5_1).f0).toList) = true := beq_iff_eq.mpr c9
          have c9b1 : (((rd_T164 l0 x5_1).f0).toList != ((rd_T164 l1 x5_1).f0).toList) = false := bne_eq_false_iff_eq.mpr c9
          clear c9
          by_cases c10 : ((rd_T164 l0 x5_1).f1).toList = ((rd_T164 l1 x5_1).f1).toList
          ·
           rw [if_pos c10] at H
           have c10b0 : (((rd_T164 l0 x5_1).f1).toList == ((rd_T164 l1 x5_1).f1).toList) = true := beq_iff_eq.mpr c10
           have c10b1 : (((rd_T164 l0 x5_1).f1).toList != ((rd_T164 l1 x5_1).f1).toList) = false := bne_eq_false_iff_eq.mpr c10
           clear c10
           have H' := Aside0.mk H
           clear H
           have p814 : 0 ≤ (x5_1 : Int) := of_decide_eq_true (by with_reducible assumption)
           have q814 : x5_1 < (l0.length : Int) := of_decide_eq_true (by with_reducible assumption)
           obtain ⟨ad814, e814, hx814_0, hx814_1⟩ := at_T164 HR0.out x5_1 p814 q814
           cases e814
           replace p814 := eq_true p814
           replace q814 := eq_true q814
           have p815 : 0 ≤ (x5_1 : Int) := of_decide_eq_true (by with_reducible assumption)
           have q815 : x5_1 < (l1.length : Int) := of_decide_eq_true (by with_reducible assumption)
           obtain ⟨ad815, e815, hx815_0, hx815_1⟩ := at_T164 HR1.out x5_1 p815 q815
           cases e815
           replace p815 := eq_true p815
           replace q815 := eq_true q815
           have p816 : 0 ≤ (x5_1 : Int) := of_decide_eq_true (by with_reducible assumption)
           have q816 : x5_1 < (l0.length : Int) := of_decide_eq_true (by with_reducible assumption)
           obtain ⟨ad816, e816, hx816_0, hx816_1⟩ := at_T164 HR0.out x5_1 p816 q816
           obtain rfl : ad814 = ad816 := (by injection e816)
           replace p816 := eq_true p816
           replace q816 := eq_true q816
           have p817 : 0 ≤ (x5_1 : Int) := of_decide_eq_true (by with_reducible assumption)
           have q817 : x5_1 < (l1.length : Int) := of_decide_eq_true (by with_reducible assumption)
           obtain ⟨ad817, e817, hx817_0, hx817_1⟩ := at_T164 HR1.out x5_1 p817 q817
           obtain rfl : ad815 = ad817 := (by injection e817)
           replace p817 := eq_true p817
           replace q817 := eq_true q817
           go_wp2
           repeat (go_quiet (fail); try go_wp2)
           go_roundg kj2
           case measure => have := HK1.out; have := HJ2.out; omega
           case rel => exact ⟨(wrap64 (x5_1 + 1)), (by first | rfl | (simp; done) | (simp [*]; done)), H', ⟨by have := HK1.out; have := HJ2.out; omega⟩, by repeat (first | exact Drawn0.refl _ | apply Drawn0.step)⟩
          rw [if_neg c10] at H
          have c10b0 : (((rd_T164 l0 x5_1).f1).toList == ((rd_T164 l1 x5_1).f1).toList) = false := beq_eq_false_iff_ne.mpr c10
          have c10b1 : (((rd_T164 l0 x5_1).f1).toList != ((rd_T164 l1 x5_1).f1).toList) = true := bne_iff_ne.mpr c10
          obtain rfl := Option.some.inj H
          have p814 : 0 ≤ (x5_1 : Int) := of_decide_eq_true (by with_reducible assumption)
          have q814 : x5_1 < (l0.length : Int) := of_decide_eq_true (by with_reducible assumption)
          obtain ⟨ad814, e814, hx814_0, hx814_1⟩ := at_T164 HR0.out x5_1 p814 q814
          cases e814
          replace p814 := eq_true p814
          replace q814 := eq_true q814
          have p815 : 0 ≤ (x5_1 : Int) := of_decide_eq_true (by with_reducible assumption)
          have q815 : x5_1 < (l1.length : Int) := of_decide_eq_true (by with_reducible assumption)
          obtain ⟨ad815, e815, hx815_0, hx815_1⟩ := at_T164 HR1.out x5_1 p815 q815
          cases e815
          replace p815 := eq_true p815
          replace q815 := eq_true q815
          have p816 : 0 ≤ (x5_1 : Int) := of_decide_eq_true (by with_reducible assumption)
          have q816 : x5_1 < (l0.length : Int) := of_decide_eq_true (by with_reducible assumption)
          obtain ⟨ad816, e816, hx816_0, hx816_1⟩ := at_T164 HR0.out x5_1 p816 q816
          obtain rfl : ad814 = ad816 := (by injection e816)
          replace p816 := eq_true p816
          replace q816 := eq_true q816
          have p817 : 0 ≤ (x5_1 : Int) := of_decide_eq_true (by with_reducible assumption)
          have q817 : x5_1 < (l1.length : Int) := of_decide_eq_true (by with_reducible assumption)
          obtain ⟨ad817, e817, hx817_0, hx817_1⟩ := at_T164 HR1.out x5_1 p817 q817
          obtain rfl : ad815 = ad817 := (by injection e817)
          replace p817 := eq_true p817
          replace q817 := eq_true q817
          have p818 : 0 ≤ (x5_1 : Int) := of_decide_eq_true (by with_reducible assumption)
          have q818 : x5_1 < (l0.length : Int) := of_decide_eq_true (by with_reducible assumption)
          obtain ⟨ad818, e818, hx818_0, hx818_1⟩ := at_T164 HR0.out x5_1 p818 q818
          obtain rfl : ad814 = ad818 := (by injection e818)
          replace p818 := eq_true p818
          replace q818 := eq_true q818
          have p819 : 0 ≤ (x5_1 : Int) := of_decide_eq_true (by with_reducible assumption)
          have q819 : x5_1 < (l1.length : Int) := of_decide_eq_true (by with_reducible assumption)
          obtain ⟨ad819, e819, hx819_0, hx819_1⟩ := at_T164 HR1.out x5_1 p819 q819
          obtain rfl : ad815 = ad819 := (by injection e819)
          replace p819 := eq_true p819
          replace q819 := eq_true q819
          go_wp2
          repeat (go_quiet (fail); try go_wp2)
          go_ret
          exact ⟨by first | rfl | (simp; done) | (simp [*]; done), by repeat (first | exact Drawn0.refl _ | apply Drawn0.step)⟩
         rw [if_neg c9] at H
         have c9b0 : (((rd_T164 l0 x5_1).f0).toList == ((rd_T164 l1 x5_1).f0).toList) = false := beq_eq_false_iff_ne.mpr c9
         have c9b1 : (((rd_T164 l0 x5_1).f0).toList != ((rd_T164 l1 x5_1).f0).toList) = true := bne_iff_ne.mpr c9
         obtain rfl := Option.some.inj H
         have p814 : 0 ≤ (x5_1 : Int) := of_decide_eq_true (by with_reducible assumption)
         have q814 : x5_1 < (l0.length : Int) := of_decide_eq_true (by with_reducible assumption)
         obtain ⟨ad814, e814, hx814_0, hx814_1⟩ := at_T164 HR0.out x5_1 p814 q814
         cases e814
         replace p814 := eq_true p814
         replace q814 := eq_true q814
         have p815 : 0 ≤ (x5_1 : Int) := of_decide_eq_true (by with_reducible assumption)
         have q815 : x5_1 < (l1.length : Int) := of_decide_eq_true (by with_reducible assumption)
         obtain ⟨ad815, e815, hx815_0, hx815_1⟩ := at_T164 HR1.out x5_1 p815 q815
         cases e815
         replace p815 := eq_true p815
         replace q815 := eq_true q815
         have p820 : 0 ≤ (x5_1 : Int) := of_decide_eq_true (by with_reducible assumption)
         have q820 : x5_1 < (l0.length : Int) := of_decide_eq_true (by with_reducible assumption)
         obtain ⟨ad820, e820, hx820_0, hx820_1⟩ := at_T164 HR0.out x5_1 p820 q820
         obtain rfl : ad814 = ad820 := (by injection e820)
         replace p820 := eq_true p820
         replace q820 := eq_true q820
         have p821 : 0 ≤ (x5_1 : Int) := of_decide_eq_true (by with_reducible assumption)
         have q821 : x5_1 < (l1.length : Int) := of_decide_eq_true (by with_reducible assumption)
         obtain ⟨ad821, e821, hx821_0, hx821_1⟩ := at_T164 HR1.out x5_1 p821 q821
         obtain rfl : ad815 = ad821 := (by injection e821)
         replace p821 := eq_true p821
         replace q821 := eq_true q821
         go_wp2
         repeat (go_quiet (fail); try go_wp2)
         go_ret
         exact ⟨by first | rfl | (simp; done) | (simp [*]; done), by repeat (first | exact Drawn0.refl _ | apply Drawn0.step)⟩
        rw [if_neg c8] at H
        exact absurd H (by simp)
       rw [if_neg c7] at H
       exact absurd H (by simp)
      rw [if_neg c6] at H
      exact absurd H (by simp)
     replace c5 := Bool.eq_false_iff.mpr c5
     subst c5
     rw [if_neg (show ¬ (false = true) by decide)] at H
     obtain rfl := Option.some.inj H
     go_wp2
     repeat (go_quiet (fail); try go_wp2)
     go_ret
     exact ⟨by first | rfl | (simp; done) | (simp [*]; done), by repeat (first | exact Drawn0.refl _ | apply Drawn0.step)⟩
def impl_inserted.l0 : Nat → List (S44) → Int → List (S164) → Int → Int → ByteArray → Option ((List (S44)))
 | 0, _, _, _, _, _, _ => none
 | k + 1, x0, x5, x977000, x977001, x977002, x977003 => if x5 < (x0.length : Int) then (if 0 ≤ x5 then ((impl_SetLess.f k x977000 ((rd_T44 x0 x5).f0)).bind fun t978 => (if t978 = true then (if x5 ≤ (x0.length : Int) then ((impl_copyAlarms.f k (x0.take (x5 : Int).toNat)).bind fun t983 => ((impl_copyAlarm.f x977000 x977001 x977002 x977003).bind fun bt986 => (if t983.length < 2513169434916 then ((some (t983 ++ [(⟨bt986.1, bt986.2.1, bt986.2.2.1, bt986.2.2.2⟩ : S44)] : List (S44))).bind fun y992 => ((impl_copyAlarms.f k (x0.drop (x5 : Int).toNat)).bind fun t999 => (if y992.length + t999.length < 2513169434916 then (some (y992 ++ t999)) else (none)))) else (none)))) else (none)) else (impl_inserted.l0 k x0 (wrap64 (x5 + 1)) x977000 x977001 x977002 x977003))) else (none)) else (if 0 ≤ x5 then (if x5 ≤ (x0.length : Int) then ((impl_copyAlarms.f k (x0.take (x5 : Int).toNat)).bind fun t1009 => ((impl_copyAlarm.f x977000 x977001 x977002 x977003).bind fun bt1012 => (if t1009.length < 2513169434916 then ((some (t1009 ++ [(⟨bt1012.1, bt1012.2.1, bt1012.2.2.1, bt1012.2.2.2⟩ : S44)] : List (S44))).bind fun y1018 => ((impl_copyAlarms.f k (x0.drop (x5 : Int).toNat)).bind fun t1025 => (if y1018.length + t1025.length < 2513169434916 then (some (y1018 ++ t1025)) else (none)))) else (none)))) else (none)) else (none))
def impl_inserted.f (k : Nat) (l0 : List (S44)) (l1_0 : List (S164)) (a1_1 : Int) (a1_2 : Int) (a1_3 : ByteArray) : Option ((List (S44))) := impl_inserted.l0 k l0 0 l1_0 a1_1 a1_2 a1_3
theorem impl_inserted.mono_l : ∀ k, (∀ y0 y1 y2 y3 y4 y5, LeO (impl_inserted.l0 k y0 y1 y2 y3 y4 y5) (impl_inserted.l0 (k + 1) y0 y1 y2 y3 y4 y5))
 | 0 => fun _ _ _ _ _ _ r h => by simp [impl_inserted.l0] at h
 | k + 1 => by
  have ih0 := impl_inserted.mono_l k
  intro y0 y1 y2 y3 y4 y5
  unfold impl_inserted.l0
  repeat' first
  | (with_reducible exact ih0 _ _ _ _ _ _)
  | (with_reducible exact impl_SetLess.mono _ _ _)
  | (with_reducible exact impl_copyAlarms.mono _ _)
  | (with_reducible exact LeO.refl _)
  | (with_reducible exact LeO.none _)
  | (with_reducible refine LeO.ite ?_ ?_)
  | (with_reducible refine LeO.bind ?_ (fun _ => ?_))
  | exact ih0 _ _ _ _ _ _
  | exact impl_SetLess.mono _ _ _
  | exact impl_copyAlarms.mono _ _
theorem impl_inserted.mono : ∀ a0 a1 a2 a3 a4 k, LeO (impl_inserted.f k a0 a1 a2 a3 a4) (impl_inserted.f (k + 1) a0 a1 a2 a3 a4) := by
 intro a0 a1 a2 a3 a4 k
 have ih0 := impl_inserted.mono_l k
 unfold impl_inserted.f
 repeat' first
   | (with_reducible exact ih0 _ _ _ _ _ _)
   | (with_reducible exact impl_SetLess.mono _ _ _)
   | (with_reducible exact impl_copyAlarms.mono _ _)
   | (with_reducible exact LeO.refl _)
   | (with_reducible exact LeO.none _)
   | (with_reducible refine LeO.ite ?_ ?_)
   | (with_reducible refine LeO.bind ?_ (fun _ => ?_))
   | exact ih0 _ _ _ _ _ _
   | exact impl_SetLess.mono _ _ _
   | exact impl_copyAlarms.mono _ _
def impl_inserted.T2 : Bool × List (List Nat × List Nat) := (true, [([], []), ([], []), ([1], [1]), ([0, 2], [0, 2]), ([3], [3]), ([4], [4]), ([5, 4], [4, 5]), ([4], [4]), ([4], [4]), ([7, 8, 4], [4, 7, 8]), ([9, 4], [4, 9]), ([10, 4], [4, 10]), ([6, 11, 4, 4], [4, 6, 11]), ([12, 4], [4, 12]), ([4, 13], [4, 13])])
def impl_inserted.B2 : List Nat := [0, 0, 2, 7, 15, 31, 63, 31, 31, 415, 927, 1951, 4095, 8191, 16383]
theorem impl_inserted.tab2 : rtab .any (opsOf Try.f116 2) = impl_inserted.T2 := by kernel_rfl
theorem impl_inserted.bits2 : waitsOk impl_inserted.T2.2 impl_inserted.B2 = true := by kernel_rfl
def impl_inserted.T4 : Bool × List (List Nat × List Nat) := (true, [([], []), ([], []), ([0, 1], [0, 1]), ([2], [2]), ([], []), ([4, 3], [4]), ([5], [5]), ([3, 6, 5], [3, 6]), ([7, 7, 0, 1, 2, 3, 4, 5, 6, 7], [7])])
def impl_inserted.B4 : List Nat := [0, 0, 3, 7, 0, 31, 63, 127, 255]
theorem impl_inserted.tab4 : rtab .any (opsOf Try.f116 4) = impl_inserted.T4 := by kernel_rfl
theorem impl_inserted.bits4 : waitsOk impl_inserted.T4.2 impl_inserted.B4 = true := by kernel_rfl
theorem impl_inserted.calls (k : Nat) (A0 : Option Addr) (c0 : Nat) (l0 : List (S44)) (A1_0 : Option Addr) (c1_0 : Nat) (l1_0 : List (S164)) (a1_1 : Int) (a1_2 : Int) (a1_3 : ByteArray) (r : List (S44)) (w : World) (hr0 : Kd.C k44 w A0 l0.length l0) (hc0 : l0.length ≤ c0) (hr1_0 : Kd.C k164 w A1_0 l1_0.length l1_0) (hc1_0 : l1_0.length ≤ c1_0) (h : impl_inserted.f k l0 l1_0 a1_1 a1_2 a1_3 = some r) :
  Calls Try.prog 116 #[.slice A0 l0.length c0, .agg #[.slice A1_0 l1_0.length c1_0, .int .i64 a1_1, .int .i64 a1_2, .string a1_3]] w fun e w' => ∃ v0_ : Value, e = .returned (v0_) ∧ Kd.S k44 44 w' w.heap.size (fun _ => True) v0_ r ∧ Below w.heap.size w w' := by
 have hu44 := Try.underlying44
 have HR0 := Aside0.mk hr0
 have HC0 := Aside0.mk hc0
 clear hr0 hc0
 have HR1_0 := Aside0.mk hr1_0
 have HC1_0 := Aside0.mk hc1_0
 clear hr1_0 hc1_0
 have HB := Aside0.mk (Below.refl w.heap.size w)
 have H : (impl_inserted.l0 k l0 0 l1_0 a1_1 a1_2 a1_3) = some r := h
 clear h
 have H' := Aside0.mk H
 clear H
 go_enter Try.func116, Try.ntmps116
 go_wp2_with (first | ((with_reducible refine gate_dst (N := 3) rfl ?_); refine box_event ?hg (N := 3) ?hd (cs := #[.slice A1_0 l1_0.length c1_0, .int .i64 a1_1, .int .i64 a1_2, .string a1_3]) (t := 44) ?hr ?_; (case hd => rfl); (case hg => rfl); (case hr => first | (go_simp; done) | (go_simp; rfl)); intro gb976 hg w3 hbox hb; have BK976 := Aside0.mk (hbox); have GW976 := Aside0.mk ((by rw [hg]; exact (below_size (hb_ HB.out)) : w.heap.size ≤ gb976)); replace HB := Aside0.mk (below_step (hb_ HB.out) hb); have GE976 := GW976; clear hb hbox hg))
 go_loopg [5] k (fun kq v5 w' => ∃ (x5_1 : Int), v5 = .int .i64 x5_1 ∧ Aside0 (impl_inserted.l0 kq l0 x5_1 l1_0 a1_1 a1_2 a1_3 = some r) ∧ Aside0 (kq ≤ k) ∧ Aside0 (w'.heap[gb976]? = some (.cells #[(.slice A1_0 l1_0.length c1_0), .int .i64 a1_1, .int .i64 a1_2, .string a1_3] 44 (0, 0))) ∧ Aside0 (Below w.heap.size w w'))
 case atStart => exact ⟨(0), (by first | rfl | (simp; done) | (simp [*]; done)), H', ⟨Nat.le_refl _⟩, ⟨by (with_reducible repeat (first | refine kn_ ?_ _ | refine kd_ ?_ | refine ka_ ?_ _)); exact BK976.out⟩, ⟨by repeat (first | (with_reducible first | exact HB.out | apply ba_ | apply bn_ | apply bd_ | apply bs_ GE976) | exact HB.out)⟩⟩
 case round =>
  clear H'
  try clear c1
  try clear p2
  obtain ⟨x5_1, rfl, HA, HK1, BK976, HB⟩ := hrel
  cases gk with
  | zero => exact absurd HA.out (by simp [impl_inserted.l0])
  | succ k1 =>
   have H := HA.out
   clear HA
   simp only [impl_inserted.l0] at H
   by_cases c4 : x5_1 < (l0.length : Int)
   ·
    rw [if_pos c4] at H
    have c4b0 := decide_eq_true c4
    clear c4
    by_cases c5 : 0 ≤ x5_1
    ·
     rw [if_pos c5] at H
     have c5b0 := decide_eq_true c5
     clear c5
     replace H := Option.bind_eq_some_iff.mp H
     obtain ⟨t978, A60, H⟩ := H
     have A6 := Aside0.mk A60
     clear A60
     by_cases c7 : t978 = true
     ·
      subst c7
      rw [if_pos rfl] at H
      have c8b0 := eq_true (of_decide_eq_true (by with_reducible assumption) : 0 ≤ x5_1)
      by_cases c9 : x5_1 ≤ (l0.length : Int)
      ·
       rw [if_pos c9] at H
       have c9b0 := eq_true c9
       have c9b1 := decide_eq_true c9
       clear c9
       obtain ⟨y979, hy979⟩ : ∃ y_ : List (S44), y_ = (l0.take (x5_1 : Int).toNat) := ⟨_, rfl⟩
       replace H : ((impl_copyAlarms.f k1 y979).bind fun t983 => ((impl_copyAlarm.f l1_0 a1_1 a1_2 a1_3).bind fun bt986 => (if t983.length < 2513169434916 then ((some (t983 ++ [(⟨bt986.1, bt986.2.1, bt986.2.2.1, bt986.2.2.2⟩ : S44)] : List (S44))).bind fun y992 => ((impl_copyAlarms.f k1 (l0.drop (x5_1 : Int).toNat)).bind fun t999 => (if y992.length + t999.length < 2513169434916 then (some (y992 ++ t999)) else (none)))) else (none)))) = some r := by first | (rw [hy979]; with_reducible exact H) | (have H2_ := (Option.bind_some _ _).symm.trans H; rw [hy979]; with_reducible exact H2_) | (have H2_ := (Option.bind_some _ _).symm.trans H; with_reducible exact H2_) | with_reducible exact H | (rw [hy979]; exact H) | exact H
       have Ny979 := Aside0.mk hy979
       clear hy979
       replace H := Option.bind_eq_some_iff.mp H
       obtain ⟨t983, A100, H⟩ := H
       have A10 := Aside0.mk A100
       clear A100
       replace H := Option.bind_eq_some_iff.mp H
       obtain ⟨⟨t986, t989, t990, t991⟩, A110, H⟩ := H
       have A11 := Aside0.mk A110
       clear A110
       by_cases c12 : t983.length < 2513169434916
       ·
        rw [if_pos c12] at H
        have LMc12 := Aside0.mk c12
        clear c12
        obtain ⟨y992, hy992⟩ : ∃ y_ : List (S44), y_ = (t983 ++ [(⟨t986, t989, t990, t991⟩ : S44)]) := ⟨_, rfl⟩
        replace H : ((impl_copyAlarms.f k1 (l0.drop (x5_1 : Int).toNat)).bind fun t999 => (if y992.length + t999.length < 2513169434916 then (some (y992 ++ t999)) else (none))) = some r := by first | (rw [hy992]; with_reducible exact H) | (have H2_ := (Option.bind_some _ _).symm.trans H; rw [hy992]; with_reducible exact H2_) | (have H2_ := (Option.bind_some _ _).symm.trans H; with_reducible exact H2_) | with_reducible exact H | (rw [hy992]; exact H) | exact H
        have Ny992 := Aside0.mk hy992
        clear hy992
        have c13b0 := eq_true (of_decide_eq_true (by with_reducible assumption) : 0 ≤ x5_1)
        have c14b0 := eq_true (of_decide_eq_true (by with_reducible assumption) : x5_1 ≤ (l0.length : Int))
        obtain ⟨y995, hy995⟩ : ∃ y_ : List (S44), y_ = (l0.drop (x5_1 : Int).toNat) := ⟨_, rfl⟩
        replace H : ((impl_copyAlarms.f k1 y995).bind fun t999 => (if y992.length + t999.length < 2513169434916 then (some (y992 ++ t999)) else (none))) = some r := by first | (rw [hy995]; with_reducible exact H) | (have H2_ := (Option.bind_some _ _).symm.trans H; rw [hy995]; with_reducible exact H2_) | (have H2_ := (Option.bind_some _ _).symm.trans H; with_reducible exact H2_) | with_reducible exact H | (rw [hy995]; exact H) | exact H
        have Ny995 := Aside0.mk hy995
        clear hy995
        replace H := Option.bind_eq_some_iff.mp H
        obtain ⟨t999, A150, H⟩ := H
        have A15 := Aside0.mk A150
        clear A150
        by_cases c16 : y992.length + t999.length < 2513169434916
        ·
         rw [if_pos c16] at H
         have LMc16 := Aside0.mk c16
         clear c16
         obtain ⟨y1002, hy1002⟩ : ∃ y_ : List (S44), y_ = (y992 ++ t999) := ⟨_, rfl⟩
         replace H : (some y1002) = some r := by first | (rw [hy1002]; with_reducible exact H) | (have H2_ := (Option.bind_some _ _).symm.trans H; rw [hy1002]; with_reducible exact H2_) | (have H2_ := (Option.bind_some _ _).symm.trans H; with_reducible exact H2_) | with_reducible exact H | (rw [hy1002]; exact H) | exact H
         have Ny1002 := Aside0.mk hy1002
         clear hy1002
         obtain rfl := Option.some.inj H
         try go_wp2
         replace BK976 := Aside0.mk (blk_drew BK976.out)
         replace HB := Aside0.mk (bd_ HB.out)
         have p977 : 0 ≤ (x5_1 : Int) := of_decide_eq_true (by with_reducible assumption)
         have q977 : x5_1 < (l0.length : Int) := of_decide_eq_true (by with_reducible assumption)
         obtain ⟨ad977, A977_0, c977_0, e977, hx977_0, hx977_1, hx977_2, hx977_3, hl977_0, hi977_0⟩ := at_T44 HR0.out x5_1 p977 q977
         have hw977_3 := hx977_3
         have hw977_2 := hx977_2
         have hw977_1 := hx977_1
         have hw977_0 := hx977_0
         cases e977
         replace hx977_0 := cl_ HB.out hx977_0
         replace hx977_1 := cl_ HB.out hx977_1
         replace hx977_2 := cl_ HB.out hx977_2
         replace hx977_3 := cl_ HB.out hx977_3
         have HR977_0 := Aside0.mk hi977_0
         have HC977_0 := Aside0.mk hl977_0
         clear hi977_0 hl977_0
         replace p977 := eq_true p977
         replace q977 := eq_true q977
         refine start_ (n := 15) (S := fun w' => w'.cell? ⟨gb976, 0, none⟩ = some (.slice A1_0 l1_0.length c1_0) ∧ w'.cell? ⟨gb976, 1, none⟩ = some (.int .i64 a1_1) ∧ w'.cell? ⟨gb976, 2, none⟩ = some (.int .i64 a1_2) ∧ w'.cell? ⟨gb976, 3, none⟩ = some (.string a1_3) ∧ w'.cell? (ad977.add ((x5_1).toNat * 4)) = some (.slice A977_0 ((rd_T44 l0 x5_1).f0).length c977_0) ∧ w'.cell? ⟨(ad977.add ((x5_1).toNat * 4)).block, (ad977.add ((x5_1).toNat * 4)).off + 1, none⟩ = some (.int .i64 ((rd_T44 l0 x5_1).f1)) ∧ w'.cell? ⟨(ad977.add ((x5_1).toNat * 4)).block, (ad977.add ((x5_1).toNat * 4)).off + 2, none⟩ = some (.int .i64 ((rd_T44 l0 x5_1).f2)) ∧ w'.cell? ⟨(ad977.add ((x5_1).toNat * 4)).block, (ad977.add ((x5_1).toNat * 4)).off + 3, none⟩ = some (.string ((rd_T44 l0 x5_1).f3))) (ds := []) #[f_,f_,f_,f_,f_,f_,f_,f_,f_,f_,f_,f_,f_,f_,f_] (by kernel_rfl) rfl rfl ⟨bx_ BK976.out 0, bx_ BK976.out 1, bx_ BK976.out 2, bx_ BK976.out 3, ((HB.out.cell (World.block_lt_of_cell? w _ hw977_0)).trans hw977_0), ((HB.out.cell (World.block_lt_of_cell? w _ hw977_1)).trans hw977_1), ((HB.out.cell (World.block_lt_of_cell? w _ hw977_2)).trans hw977_2), ((HB.out.cell (World.block_lt_of_cell? w _ hw977_3)).trans hw977_3)⟩ (fun hHeld => ?_); refine with_tabW impl_inserted.tab2 impl_inserted.bits2 (fun HT_ HW_ => ?_)
         generalize wr.drew = w17 at BK976 HB HR977_0 hx977_0 hx977_1 hx977_2 hx977_3 hHeld ⊢
         refine pu_ 0 7 ?_ (b_ 1 14) rfl rfl HT_.out ?_ ?_ ?_ ?_; rotate_left; intro w'; go_simp; with_reducible rfl; rotate_left; simp only [fr_]; rfl
         refine pu_ 1 8 ?_ (b_ 2 13) rfl rfl HT_.out ?_ ?_ ?_ ?_; rotate_left; intro w'; go_simp; with_reducible rfl; rotate_left; simp only [fr_]; rfl
         refine pu_ 2 9 ?_ (b_ 3 12) rfl rfl HT_.out ?_ ?_ ?_ ?_; rotate_left; intro w'; go_simp; with_reducible rfl; rotate_left; simp only [fr_]; rfl
         refine pu_ 3 10 ?_ (b_ 4 11) rfl rfl HT_.out ?_ ?_ ?_ ?_; rotate_left; intro w'; go_simp; with_reducible rfl; rotate_left; simp only [fr_]; rfl
         refine pu_ 4 11 ?_ (b_ 5 10) rfl rfl HT_.out ?_ ?_ ?_ ?_; rotate_left; intro w'; go_simp; with_reducible rfl; rotate_left; simp only [fr_]; rfl
         refine pu_ 5 12 ?_ (b_ 6 9) rfl rfl HT_.out ?_ ?_ ?_ ?_; rotate_left; intro w'; go_simp; with_reducible rfl; rotate_left; simp only [fr_]; rfl
         refine pu_ 7 14 ?_ #[t_,t_,t_,t_,t_,t_,f_,t_,f_,f_,f_,f_,f_,f_,f_] rfl rfl HT_.out ?_ ?_ ?_ ?_; rotate_left; intro w'; go_simp; with_reducible rfl; rotate_left; simp only [fr_]; rfl
         refine pu_ 8 15 ?_ #[t_,t_,t_,t_,t_,t_,f_,t_,t_,f_,f_,f_,f_,f_,f_] rfl rfl HT_.out ?_ ?_ ?_ ?_; rotate_left; intro w'; go_simp; with_reducible rfl; rotate_left; simp only [fr_]; rfl
         refine pu_ 9 16 ?_ #[t_,t_,t_,t_,t_,t_,f_,t_,t_,t_,f_,f_,f_,f_,f_] rfl rfl HT_.out ?_ ?_ ?_ ?_; rotate_left; intro w'; go_simp; with_reducible rfl; rotate_left; simp only [fr_]; rfl
         refine pu_ 10 17 ?_ #[t_,t_,t_,t_,t_,t_,f_,t_,t_,t_,t_,f_,f_,f_,f_] rfl rfl HT_.out ?_ ?_ ?_ ?_; rotate_left; intro w'; go_simp; with_reducible rfl; rotate_left; simp only [fr_]; rfl
         refine take_ (i := 6) (N := some 13) (v := ?_) (a' := ?_) #[t_,t_,t_,t_,t_,t_,t_,t_,t_,t_,t_,f_,f_,f_,f_] rfl rfl (take_ofW HT_.out HW_.out (by kernel_rfl)) (fun _ _ _ h => h) (Or.inl ⟨by rfl, ?_⟩) hHeld ?_ ?_
         rotate_left
         ·
          rintro w' ⟨s0, s1, s2, s3, s4, s5, s6, s7⟩
          go_simp
          with_reducible rfl
         rotate_left
         ·
          simp only [fr_]
          rfl
         refine take_ (i := 11) (N := some 18) (v := ?_) (a' := ?_) #[t_,t_,t_,t_,t_,t_,t_,t_,t_,t_,t_,t_,f_,f_,f_] rfl rfl (take_ofW HT_.out HW_.out (by kernel_rfl)) (fun _ _ _ h => h) (Or.inl ⟨by rfl, ?_⟩) hHeld ?_ ?_
         rotate_left
         ·
          rintro w' ⟨s0, s1, s2, s3, s4, s5, s6, s7⟩
          go_simp
          with_reducible rfl
         rotate_left
         ·
          simp only [fr_]
          rfl
         refine one_ (i := 12) (N := some 19) #[t_,t_,t_,t_,t_,t_,t_,t_,t_,t_,t_,t_,t_,f_,f_] rfl rfl (one_of HT_.out (by kernel_rfl)) (by decide) (fun K hK => ?_)
         refine goes_ Try.func153 (by kernel_rfl) rfl #[.slice A1_0 l1_0.length c1_0, .slice A977_0 ((rd_T44 l0 x5_1).f0).length c977_0] (by rfl) rfl rfl (by (try simp only [mp_]); first | done | rfl | (simp only [List.length_drop, List.length_take]; rfl)) ?_
         with_reducible refine (impl_SetLess.calls k1 _ _ l1_0 _ _ ((rd_T44 l0 x5_1).f0) true _ ?side1 ?side2 ?side3 ?side4 A6.out).mono ?_
         (case side1 => exact cp_ ((Kd.C_below HR1_0.out HB.out)))
         (case side2 => exact HC1_0.out)
         (case side3 => exact cp_ ((Kd.C_below HR977_0.out HB.out)))
         (case side4 => exact HC977_0.out)
         rintro e w' ⟨rfl, ⟨nd, rfl⟩⟩
         refine ⟨_, rfl, ?_⟩
         refine hK.out _ _ ⟨bx_ BK976.out 0, bx_ BK976.out 1, bx_ BK976.out 2, bx_ BK976.out 3, ((HB.out.cell (World.block_lt_of_cell? w _ hw977_0)).trans hw977_0), ((HB.out.cell (World.block_lt_of_cell? w _ hw977_1)).trans hw977_1), ((HB.out.cell (World.block_lt_of_cell? w _ hw977_2)).trans hw977_2), ((HB.out.cell (World.block_lt_of_cell? w _ hw977_3)).trans hw977_3)⟩ (fun hHeld => ?_)
         clear hK K
         refine norm_ (a' := ?_) ?_ ?_
         rotate_left
         ·
          show Act.put _ (some 19) _ = _
          simp only [fr_]
          rfl
         refine pu_ 13 20 ?_ (b_ 14 1) rfl rfl HT_.out ?_ ?_ ?_ ?_; rotate_left; intro w'; go_simp; with_reducible rfl; rotate_left; simp only [fr_]; rfl
         refine pu_ 14 21 ?_ (b_ 15 0) rfl rfl HT_.out ?_ ?_ ?_ ?_; rotate_left; intro w'; go_simp; with_reducible rfl; rotate_left; simp only [fr_]; rfl
         refine done_ (done_of HT_.out (by kernel_rfl)) ?_
         try go_wp2
         (try (rw [drewN_self w17]; generalize hq_ : World.drewN w17 _ = w17; replace BK976 : Aside0 (w17.heap[gb976]? = some (.cells #[.slice A1_0 l1_0.length c1_0, .int .i64 a1_1, .int .i64 a1_2, .string a1_3] 44 (0, 0))) := ⟨by rw [← hq_]; exact (pb_ BK976.out)⟩; replace HB : Aside0 (Below w.heap.size w w17) := ⟨by rw [← hq_]; exact (by repeat (first | (with_reducible first | exact HB.out | apply ba_ | apply bn_ | apply bd_ | apply bs_ GE976) | exact HB.out))⟩; clear hq_))
         replace BK976 := Aside0.mk (blk_drew BK976.out)
         replace HB := Aside0.mk (bd_ HB.out)
         have q19 : (x5_1 : Int) ≤ ((l0.length : Int) : Int) := of_decide_eq_true (by with_reducible assumption)
         obtain ⟨i019, hi019, _, hsz19, _⟩ := info_parts info44
         have hroom19 : l0.length ≤ c0 := HC0.out
         have hC19 : Kd.C k44 _ (some ad977) l0.length l0 := HR0.out
         have hcut19 := cut_to (P := Try.prog) 37 44 .i64 Try.underlying37 hi019 (some ad977) l0.length c0 x5_1 (of_decide_eq_true (by with_reducible assumption)) q19 hroom19
         have hr19 := Kd.C_take (m := (x5_1 : Int).toNat) hC19 (by omega)
         have hy19 : y979.length = (x5_1 : Int).toNat := (by rw [Ny979.out, List.length_take]; omega)
         rw [← Ny979.out] at hr19
         rw [← hy19] at hcut19
         have HR982 := Aside0.mk hr19
         have HC982 := Aside0.mk (show y979.length ≤ c0 from by omega)
         clear hr19 hC19 hroom19 hi019 hsz19
         have KY19 := Aside0.mk hy19
         clear hy19
         replace q19 := eq_true q19
         refine start_ (n := 9) (S := fun w' => w'.cell? ⟨gb976, 0, none⟩ = some (.slice A1_0 l1_0.length c1_0) ∧ w'.cell? ⟨gb976, 1, none⟩ = some (.int .i64 a1_1) ∧ w'.cell? ⟨gb976, 2, none⟩ = some (.int .i64 a1_2) ∧ w'.cell? ⟨gb976, 3, none⟩ = some (.string a1_3)) (ds := []) #[f_,f_,f_,f_,f_,f_,f_,f_,f_] (by kernel_rfl) rfl rfl ⟨bx_ BK976.out 0, bx_ BK976.out 1, bx_ BK976.out 2, bx_ BK976.out 3⟩ (fun hHeld => ?_); refine with_tabW impl_inserted.tab4 impl_inserted.bits4 (fun HT_ HW_ => ?_)
         generalize w17.drew = w18 at BK976 HB HR982 hHeld ⊢
         refine pu_ 0 24 ?_ (b_ 1 8) rfl rfl HT_.out ?_ ?_ ?_ ?_; rotate_left; intro w'; go_simp; with_reducible rfl; rotate_left; simp only [fr_]; rfl
         refine pu_ 1 25 ?_ (b_ 2 7) rfl rfl HT_.out ?_ ?_ ?_ ?_; rotate_left; intro w'; go_simp; with_reducible rfl; rotate_left; simp only [fr_]; rfl
         refine pu_ 2 26 ?_ (b_ 3 6) rfl rfl HT_.out ?_ ?_ ?_ ?_; rotate_left; intro w'; go_simp; with_reducible rfl; rotate_left; simp only [fr_]; rfl
         refine take_ (i := 4) (N := some 28) (v := ?_) (a' := ?_) #[t_,t_,t_,f_,t_,f_,f_,f_,f_] rfl rfl (take_ofW HT_.out HW_.out (by kernel_rfl)) (fun _ _ _ h => h) (Or.inl ⟨by rfl, ?_⟩) hHeld ?_ ?_
         rotate_left
         ·
          rintro w' ⟨s0, s1, s2, s3⟩
          go_simp
          with_reducible rfl
         rotate_left
         ·
          simp only [fr_]
          rfl
         refine one_ (i := 3) (N := some 27) #[t_,t_,t_,t_,t_,f_,f_,f_,f_] rfl rfl (one_of HT_.out (by kernel_rfl)) (by decide) (fun K hK => ?_)
         refine goes_ Try.func101 (by kernel_rfl) rfl #[.slice (some ad977) y979.length c0] (by rfl) rfl rfl (by (try simp only [mp_]); first | done | rfl | (simp only [List.length_drop, List.length_take]; rfl)) ?_
         with_reducible refine (impl_copyAlarms.calls k1 _ _ y979 t983 _ ?side1 ?side2 A10.out).mono ?_
         (case side1 => exact cp_ ((Kd.C_below HR982.out HB.out)))
         (case side2 => exact HC982.out)
         rintro e w20 ⟨v984, rfl, ho0, hb⟩
         refine ⟨_, rfl, ?_⟩
         obtain ⟨gbz984, hz984⟩ := Kd.S_name ho0
         have HO985 := Aside0.mk (Kd.S_lower (Kd.S_newB (Kd.S_gez hz984 ho0) (g := gb976) (o := .cells #[.slice A1_0 l1_0.length c1_0, .int .i64 a1_1, .int .i64 a1_2, .string a1_3] 44 (0, 0)) (pb_ BK976.out)) (below_size (by repeat (first | (with_reducible first | exact HB.out | apply ba_ | apply bn_ | apply bd_ | apply bs_ GE976) | exact HB.out))))
         replace BK976 := Aside0.mk (bb_ BK976.out hb)
         replace HB := Aside0.mk (below_step (by repeat (first | (with_reducible first | exact HB.out | apply ba_ | apply bn_ | apply bd_ | apply bs_ GE976) | exact HB.out)) hb)
         (try clear hb)
         (try clear hb2)
         (try clear hk)
         (try clear hi)
         (try clear ho0)
         refine hK.out _ _ ⟨bx_ BK976.out 0, bx_ BK976.out 1, bx_ BK976.out 2, bx_ BK976.out 3⟩ (fun hHeld => ?_)
         clear hK K
         refine norm_ (a' := ?_) ?_ ?_
         rotate_left
         ·
          show Act.put _ (some 27) _ = _
          simp only [fr_]
          rfl
         refine one_ (i := 5) (N := some 29) #[t_,t_,t_,t_,t_,t_,f_,f_,f_] rfl rfl (one_of HT_.out (by kernel_rfl)) (by decide) (fun K hK => ?_)
         refine goes_ Try.func97 (by kernel_rfl) rfl #[.agg #[.slice A1_0 l1_0.length c1_0, .int .i64 a1_1, .int .i64 a1_2, .string a1_3]] (by rfl) rfl rfl (by (try simp only [mp_]); first | done | rfl | (simp only [List.length_drop, List.length_take]; rfl)) ?_
         with_reducible refine (impl_copyAlarm.calls _ _ l1_0 a1_1 a1_2 a1_3 t986 t989 t990 t991 _ ?side1 ?side2 A11.out).mono ?_
         (case side1 => exact cp_ ((Kd.C_below HR1_0.out HB.out)))
         (case side2 => exact HC1_0.out)
         rintro e w21 ⟨v987, rfl, ho0, hb⟩
         refine ⟨_, rfl, ?_⟩
         obtain ⟨gbz987, hz987⟩ := Kd.R_name ho0
         replace HO985 := Aside0.mk (Kd.S_below (Kd.S_ltz hz987 (sp_ HO985.out)) hb)
         have HO988 := Aside0.mk (Kd.R_lower (Kd.R_gez hz987 ho0) (below_size (by repeat (first | (with_reducible first | exact HB.out | apply ba_ | apply bn_ | apply bd_ | apply bs_ GE976) | exact HB.out))))
         replace BK976 := Aside0.mk (bb_ BK976.out hb)
         replace HB := Aside0.mk (below_step (by repeat (first | (with_reducible first | exact HB.out | apply ba_ | apply bn_ | apply bd_ | apply bs_ GE976) | exact HB.out)) hb)
         (try clear hb)
         (try clear hb2)
         (try clear hk)
         (try clear hi)
         (try clear ho0)
         obtain ⟨Ao23, co23, eo23⟩ := Kd.R_slice HO988.out
         (first | subst eo23 | (injection eo23 with f1_ f2_ f3_; have f4_ := f1_.symm; have f5_ := f3_.symm; clear f1_ f2_ f3_; subst f4_; subst f5_))
         refine hK.out _ _ ⟨bx_ BK976.out 0, bx_ BK976.out 1, bx_ BK976.out 2, bx_ BK976.out 3⟩ (fun hHeld => ?_)
         clear hK K
         refine norm_ (a' := ?_) ?_ ?_
         rotate_left
         ·
          show Act.put _ (some 29) _ = _
          simp only [fr_]
          rfl
         refine one_ (i := 6) (N := some 30) #[t_,t_,t_,t_,t_,t_,t_,f_,f_] rfl rfl (one_of HT_.out (by kernel_rfl)) (by decide) (fun K hK => ?_)
         refine value_ (w1 := ?_) (v := ?_) (by rfl) rfl ?_ ?_
         rotate_left 2
         ·
          go_simp
          constructor
          ·
           rfl
          rfl
         refine hK.out _ _ ⟨(blk_cell (blk_alloc BK976.out _) 0).trans rfl, (blk_cell (blk_alloc BK976.out _) 1).trans rfl, (blk_cell (blk_alloc BK976.out _) 2).trans rfl, (blk_cell (blk_alloc BK976.out _) 3).trans rfl⟩ (fun hHeld => ?_)
         clear hK K
         refine norm_ (a' := ?_) ?_ ?_
         rotate_left
         ·
          show Act.put _ (some 30) _ = _
          simp only [fr_]
          rfl
         refine one_ (i := 7) (N := some 31) #[t_,t_,t_,t_,t_,t_,t_,t_,f_] rfl rfl (one_of HT_.out (by kernel_rfl)) (by decide) (fun K hK => ?_)
         refine Kd.S_append_step k44 (w0 := w) w.heap.size (by rfl) (.tmp 27) (.tmp 30) 37 44 (.agg #[(.slice none 0 0), (.int .i64 0), (.int .i64 0), (.string ⟨#[]⟩)]) 56 rfl Try.underlying37 info44 rfl (by decide) (by omega) v984 t983 (⟨t986, t989, t990, t991⟩ : S44) [.slice Ao23 t986.length co23, .int .i64 t989, .int .i64 t990, .string t991] (fun k_ => k_ ≠ gb976) (fun k_ => some k_ = (.slice Ao23 t986.length co23 : Value).ownBlock) rfl rfl ?aP (fun k_ hk_ => ((Kd.R_mono (ok' := fun k_ => ((fun k_ => k_ ≠ gb976)) k_ ∧ some k_ ≠ (v984 : Value).ownBlock) (Kd.R_types (Kd.R_apart' (HO988.out) (Kd.S_typed HO985.out) (by decide)) BK976.out (by decide)) (fun k_ hk => ⟨hk.2, hk.1.2⟩))).1 k_ hk_.symm) ?aF ?aO ?aB ?aS ?aL ?_
         (case aP => exact k44_mkM _ _ _ (⟨t986, t989, t990, t991⟩ : S44) (Kd.R_mono (Kd.R_tight rfl (Kd.R_mono (ok' := fun k_ => ((fun k_ => k_ ≠ gb976)) k_ ∧ some k_ ≠ (v984 : Value).ownBlock) (Kd.R_types (Kd.R_apart' (HO988.out) (Kd.S_typed HO985.out) (by decide)) BK976.out (by decide)) (fun k_ hk => ⟨hk.2, hk.1.2⟩))) (fun _ h_ => h_)))
         (case aB => exact (by repeat (first | (with_reducible first | exact HB.out | apply ba_ | apply bn_ | apply bd_ | apply bs_ GE976) | exact HB.out)))
         (case aF => exact (fun k_ hk => Kd.freshB (g := gb976) (o := .cells #[.slice A1_0 l1_0.length c1_0, .int .i64 a1_1, .int .i64 a1_2, .string a1_3] 44 (0, 0)) (pb_ BK976.out) k_ hk))
         (case aO => exact (by (with_reducible repeat (first | apply Kd.S_alloc | apply Kd.S_drewN | apply Kd.S_drew)); exact Kd.S_mono HO985.out (fun k_ hk => ⟨hk.1.2, fun e_ => (fun ez_ => Nat.lt_irrefl _ (Nat.lt_of_lt_of_le hk.2 (HO988.out.1 _ ez_.symm).2)) e_⟩)))
         (case aS => exact (below_size (by repeat (first | (with_reducible first | exact HB.out | apply ba_ | apply bn_ | apply bd_ | apply bs_ GE976) | exact HB.out))))
         (case aL => have := LMc12.out; omega)
         intro v993 w22 ho hb hg hat
         rw [← Ny992.out] at ho
         have n0_ := Aside0.mk (blk_grown (g := gb976) (o := .cells #[.slice A1_0 l1_0.length c1_0, .int .i64 a1_1, .int .i64 a1_2, .string a1_3] 44 (0, 0)) (pb_ BK976.out) hg (Kd.S_away HO985.out (fun _ hk => hk.1.2)))
         have n1_ := Aside0.mk (hb)
         have n2_ := Aside0.mk (ho)
         clear BK976 HB HO985 HO988
         have BK976 := n0_
         have HB := n1_
         have HO994 := n2_
         clear n0_ n1_ n2_ ho hb hg hat
         refine hK.out _ _ ⟨bx_ BK976.out 0, bx_ BK976.out 1, bx_ BK976.out 2, bx_ BK976.out 3⟩ (fun hHeld => ?_)
         clear hK K
         refine norm_ (a' := ?_) ?_ ?_
         rotate_left
         ·
          show Act.put _ (some 31) _ = _
          simp only [fr_]
          rfl
         refine pu_ 8 6 ?_ (b_ 9 0) rfl rfl HT_.out ?_ ?_ ?_ ?_; rotate_left; intro w'; go_simp; with_reducible rfl; rotate_left; simp only [fr_]; rfl
         refine done_ (done_of HT_.out (by kernel_rfl)) ?_
         have q24 : (x5_1 : Int) ≤ ((l0.length : Int) : Int) := of_decide_eq_true (by with_reducible assumption)
         obtain ⟨i024, hi024, _, hsz24, _⟩ := info_parts info44
         have hroom24 : l0.length ≤ c0 := HC0.out
         have hC24 : Kd.C k44 _ (some ad977) l0.length l0 := HR0.out
         have q024 : (0 : Int) ≤ (x5_1 : Int) := of_decide_eq_true (by with_reducible assumption)
         have hcut24 := cut_from (P := Try.prog) 37 44 .i64 Try.underlying37 hi024 4 hsz24 (some ad977) l0.length c0 x5_1 q024 q24
         have hr24 := Kd.C_drop (m := (x5_1 : Int).toNat) (c := c0) hC24 (by omega) hroom24
         obtain ⟨A24, hA24⟩ : ∃ A1, A1 = (if c0 = (x5_1 : Int).toNat then (some ad977) else ((some ad977) : Option Addr).map (·.add ((x5_1 : Int).toNat * 4))) := ⟨_, rfl⟩
         obtain ⟨c24, hc24⟩ : ∃ c1, c1 = c0 - (x5_1 : Int).toNat := ⟨_, rfl⟩
         have hy24 : y995.length = l0.length - (x5_1 : Int).toNat := (by rw [Ny995.out, List.length_drop] <;> omega)
         rw [show (l0).drop (x5_1 : Int).toNat = y995 from Ny995.out.symm] at hr24
         replace hr24 : Kd.C k44 _ A24 y995.length y995 := (by rw [hA24]; exact hr24)
         rw [← hy24, ← hA24, ← hc24] at hcut24
         have HR998 := Aside0.mk hr24
         have HC998 := Aside0.mk (show y995.length ≤ c24 from by rw [hy24, hc24]; exact Nat.sub_le_sub_right hroom24 _)
         clear hr24 hC24 hroom24 hi024 hsz24 hc24
         have KY24 := Aside0.mk hy24
         have KA24 := Aside0.mk hA24
         clear hy24 hA24
         replace q24 := eq_true q24
         try go_wp2_with (first | ((with_reducible refine gate_callee (f := 101) rfl ?_); refine goesL_ (some 36) rfl rfl Try.func101 (by kernel_rfl) rfl #[.slice A24 y995.length c24] rfl (by (try simp only [mp_]); first | done | rfl | (simp only [List.length_drop, List.length_take]; rfl)) ?_; (with_reducible refine (impl_copyAlarms.calls k1 _ _ y995 t999 _ ?side1 ?side2 A15.out).mono ?_); (case side1 => exact cp_ ((Kd.C_below HR998.out HB.out))); (case side2 => exact HC998.out); rintro e w25 ⟨v1000, rfl, ho0, hb⟩; refine ⟨_, rfl, ?_⟩; obtain ⟨gbz1000, hz1000⟩ := Kd.S_name ho0; replace HO994 := Aside0.mk (Kd.S_below (Kd.S_ltz hz1000 (sp_ HO994.out)) hb); have HO1001 := Aside0.mk (Kd.S_lower (Kd.S_newB (Kd.S_gez hz1000 ho0) (g := gb976) (o := .cells #[.slice A1_0 l1_0.length c1_0, .int .i64 a1_1, .int .i64 a1_2, .string a1_3] 44 (0, 0)) (pb_ BK976.out)) (below_size (by repeat (first | (with_reducible first | exact HB.out | apply ba_ | apply bn_ | apply bd_ | apply bs_ GE976) | exact HB.out)))); replace BK976 := Aside0.mk (bb_ BK976.out hb); replace HB := Aside0.mk (below_step (by repeat (first | (with_reducible first | exact HB.out | apply ba_ | apply bn_ | apply bd_ | apply bs_ GE976) | exact HB.out)) hb); (try clear hb); (try clear hb2); (try clear hk); (try clear hi); (try clear ho0); obtain ⟨Ao27, co27, eo27⟩ := Kd.S_slice HO1001.out; subst eo27; obtain ⟨PXP28, hPXP28, hPlP28⟩ := Kd.S_fp ((Kd.S_mono HO1001.out (fun k_ hk => (⟨hk, fun ez_ => Nat.lt_irrefl _ (Nat.lt_of_lt_of_le ((Kd.S_R HO994.out).1 _ ez_.symm).2 hk.1.2)⟩ : _ ∧ some k_ ≠ (v993 : Value).ownBlock))))) | ((with_reducible refine gate_builtin (b := .append) (xs := #[.tmp 32, .tmp 36]) rfl ?_); at_builtin; refine Kd.S_append_rows k44 (w0 := w) w.heap.size rfl (.tmp 32) (.tmp 36) 37 44 (.agg #[(.slice none 0 0), (.int .i64 0), (.int .i64 0), (.string ⟨#[]⟩)]) 56 rfl Try.underlying37 info44 rfl (by decide) (by omega) v993 y992 t999 _ _ _ (fun k_ => k_ ≠ gb976) PXP28 rfl rfl ?aR (fun k_ hk_ => ⟨(hPlP28 k_ hk_).1.1.2, (hPlP28 k_ hk_).1.2⟩) ?aF ?aO ?aB ?aS ?aL ?_; (case aR => exact hPXP28); (case aB => exact (by repeat (first | (with_reducible first | exact HB.out | apply ba_ | apply bn_ | apply bd_ | apply bs_ GE976) | exact HB.out))); (case aF => exact (fun k_ hk => Kd.freshB (g := gb976) (o := .cells #[.slice A1_0 l1_0.length c1_0, .int .i64 a1_1, .int .i64 a1_2, .string a1_3] 44 (0, 0)) (pb_ BK976.out) k_ hk)); (case aO => exact (by (with_reducible repeat (first | apply Kd.S_alloc | apply Kd.S_drewN | apply Kd.S_drew)); exact Kd.S_mono HO994.out (fun k_ hk => ⟨hk.1, fun e_ => (fun ez_ => Nat.lt_irrefl _ (Nat.lt_of_lt_of_le hk.2 (hPlP28 _ ez_).1.1.1.2)) e_⟩))); (case aS => exact (below_size (by repeat (first | (with_reducible first | exact HB.out | apply ba_ | apply bn_ | apply bd_ | apply bs_ GE976) | exact HB.out)))); (case aL => have := LMc16.out; omega); intro v1003 w26 ho hb hg hat; rw [← Ny1002.out] at ho; replace BK976 := Aside0.mk (blk_grown (g := gb976) (o := .cells #[.slice A1_0 l1_0.length c1_0, .int .i64 a1_1, .int .i64 a1_2, .string a1_3] 44 (0, 0)) (pb_ BK976.out) hg (Kd.S_away HO994.out (fun _ hk => hk.1))); replace HB := Aside0.mk (hb); have HO1004 := Aside0.mk (ho); clear HO994 HO1001; clear ho hb hg hat))
         go_ret
         exact ⟨_, by first | rfl | (simp [errW_none, errW_some] <;> rfl) | (simp [*, errW_none, errW_some] <;> rfl), by (with_reducible repeat (first | apply Kd.S_alloc | apply Kd.S_drewN | apply Kd.S_drew)); exact Kd.S_mono HO1004.out (fun _ hk => trivial), by repeat (first | (with_reducible first | exact HB.out | apply ba_ | apply bn_ | apply bd_ | apply bs_ GE976) | exact HB.out)⟩
        rw [if_neg c16] at H
        exact absurd H (by simp)
       rw [if_neg c12] at H
       exact absurd H (by simp)
      rw [if_neg c9] at H
      exact absurd H (by simp)
     replace c7 := Bool.eq_false_iff.mpr c7
     subst c7
     rw [if_neg (show ¬ (false = true) by decide)] at H
     have H' := Aside0.mk H
     clear H
     try go_wp2
     replace BK976 := Aside0.mk (blk_drew BK976.out)
     replace HB := Aside0.mk (bd_ HB.out)
     have p977 : 0 ≤ (x5_1 : Int) := of_decide_eq_true (by with_reducible assumption)
     have q977 : x5_1 < (l0.length : Int) := of_decide_eq_true (by with_reducible assumption)
     obtain ⟨ad977, A977_0, c977_0, e977, hx977_0, hx977_1, hx977_2, hx977_3, hl977_0, hi977_0⟩ := at_T44 HR0.out x5_1 p977 q977
     have hw977_3 := hx977_3
     have hw977_2 := hx977_2
     have hw977_1 := hx977_1
     have hw977_0 := hx977_0
     cases e977
     replace hx977_0 := cl_ HB.out hx977_0
     replace hx977_1 := cl_ HB.out hx977_1
     replace hx977_2 := cl_ HB.out hx977_2
     replace hx977_3 := cl_ HB.out hx977_3
     have HR977_0 := Aside0.mk hi977_0
     have HC977_0 := Aside0.mk hl977_0
     clear hi977_0 hl977_0
     replace p977 := eq_true p977
     replace q977 := eq_true q977
     refine start_ (n := 15) (S := fun w' => w'.cell? ⟨gb976, 0, none⟩ = some (.slice A1_0 l1_0.length c1_0) ∧ w'.cell? ⟨gb976, 1, none⟩ = some (.int .i64 a1_1) ∧ w'.cell? ⟨gb976, 2, none⟩ = some (.int .i64 a1_2) ∧ w'.cell? ⟨gb976, 3, none⟩ = some (.string a1_3) ∧ w'.cell? (ad977.add ((x5_1).toNat * 4)) = some (.slice A977_0 ((rd_T44 l0 x5_1).f0).length c977_0) ∧ w'.cell? ⟨(ad977.add ((x5_1).toNat * 4)).block, (ad977.add ((x5_1).toNat * 4)).off + 1, none⟩ = some (.int .i64 ((rd_T44 l0 x5_1).f1)) ∧ w'.cell? ⟨(ad977.add ((x5_1).toNat * 4)).block, (ad977.add ((x5_1).toNat * 4)).off + 2, none⟩ = some (.int .i64 ((rd_T44 l0 x5_1).f2)) ∧ w'.cell? ⟨(ad977.add ((x5_1).toNat * 4)).block, (ad977.add ((x5_1).toNat * 4)).off + 3, none⟩ = some (.string ((rd_T44 l0 x5_1).f3))) (ds := []) #[f_,f_,f_,f_,f_,f_,f_,f_,f_,f_,f_,f_,f_,f_,f_] (by kernel_rfl) rfl rfl ⟨bx_ BK976.out 0, bx_ BK976.out 1, bx_ BK976.out 2, bx_ BK976.out 3, ((HB.out.cell (World.block_lt_of_cell? w _ hw977_0)).trans hw977_0), ((HB.out.cell (World.block_lt_of_cell? w _ hw977_1)).trans hw977_1), ((HB.out.cell (World.block_lt_of_cell? w _ hw977_2)).trans hw977_2), ((HB.out.cell (World.block_lt_of_cell? w _ hw977_3)).trans hw977_3)⟩ (fun hHeld => ?_); refine with_tabW impl_inserted.tab2 impl_inserted.bits2 (fun HT_ HW_ => ?_)
     generalize wr.drew = w29 at BK976 HB HR977_0 hx977_0 hx977_1 hx977_2 hx977_3 hHeld ⊢
     refine pu_ 0 7 ?_ (b_ 1 14) rfl rfl HT_.out ?_ ?_ ?_ ?_; rotate_left; intro w'; go_simp; with_reducible rfl; rotate_left; simp only [fr_]; rfl
     refine pu_ 1 8 ?_ (b_ 2 13) rfl rfl HT_.out ?_ ?_ ?_ ?_; rotate_left; intro w'; go_simp; with_reducible rfl; rotate_left; simp only [fr_]; rfl
     refine pu_ 2 9 ?_ (b_ 3 12) rfl rfl HT_.out ?_ ?_ ?_ ?_; rotate_left; intro w'; go_simp; with_reducible rfl; rotate_left; simp only [fr_]; rfl
     refine pu_ 3 10 ?_ (b_ 4 11) rfl rfl HT_.out ?_ ?_ ?_ ?_; rotate_left; intro w'; go_simp; with_reducible rfl; rotate_left; simp only [fr_]; rfl
     refine pu_ 4 11 ?_ (b_ 5 10) rfl rfl HT_.out ?_ ?_ ?_ ?_; rotate_left; intro w'; go_simp; with_reducible rfl; rotate_left; simp only [fr_]; rfl
     refine pu_ 5 12 ?_ (b_ 6 9) rfl rfl HT_.out ?_ ?_ ?_ ?_; rotate_left; intro w'; go_simp; with_reducible rfl; rotate_left; simp only [fr_]; rfl
     refine pu_ 7 14 ?_ #[t_,t_,t_,t_,t_,t_,f_,t_,f_,f_,f_,f_,f_,f_,f_] rfl rfl HT_.out ?_ ?_ ?_ ?_; rotate_left; intro w'; go_simp; with_reducible rfl; rotate_left; simp only [fr_]; rfl
     refine pu_ 8 15 ?_ #[t_,t_,t_,t_,t_,t_,f_,t_,t_,f_,f_,f_,f_,f_,f_] rfl rfl HT_.out ?_ ?_ ?_ ?_; rotate_left; intro w'; go_simp; with_reducible rfl; rotate_left; simp only [fr_]; rfl
     refine pu_ 9 16 ?_ #[t_,t_,t_,t_,t_,t_,f_,t_,t_,t_,f_,f_,f_,f_,f_] rfl rfl HT_.out ?_ ?_ ?_ ?_; rotate_left; intro w'; go_simp; with_reducible rfl; rotate_left; simp only [fr_]; rfl
     refine pu_ 10 17 ?_ #[t_,t_,t_,t_,t_,t_,f_,t_,t_,t_,t_,f_,f_,f_,f_] rfl rfl HT_.out ?_ ?_ ?_ ?_; rotate_left; intro w'; go_simp; with_reducible rfl; rotate_left; simp only [fr_]; rfl
     refine take_ (i := 6) (N := some 13) (v := ?_) (a' := ?_) #[t_,t_,t_,t_,t_,t_,t_,t_,t_,t_,t_,f_,f_,f_,f_] rfl rfl (take_ofW HT_.out HW_.out (by kernel_rfl)) (fun _ _ _ h => h) (Or.inl ⟨by rfl, ?_⟩) hHeld ?_ ?_
     rotate_left
     ·
      rintro w' ⟨s0, s1, s2, s3, s4, s5, s6, s7⟩
      go_simp
      with_reducible rfl
     rotate_left
     ·
      simp only [fr_]
      rfl
     refine take_ (i := 11) (N := some 18) (v := ?_) (a' := ?_) #[t_,t_,t_,t_,t_,t_,t_,t_,t_,t_,t_,t_,f_,f_,f_] rfl rfl (take_ofW HT_.out HW_.out (by kernel_rfl)) (fun _ _ _ h => h) (Or.inl ⟨by rfl, ?_⟩) hHeld ?_ ?_
     rotate_left
     ·
      rintro w' ⟨s0, s1, s2, s3, s4, s5, s6, s7⟩
      go_simp
      with_reducible rfl
     rotate_left
     ·
      simp only [fr_]
      rfl
     refine one_ (i := 12) (N := some 19) #[t_,t_,t_,t_,t_,t_,t_,t_,t_,t_,t_,t_,t_,f_,f_] rfl rfl (one_of HT_.out (by kernel_rfl)) (by decide) (fun K hK => ?_)
     refine goes_ Try.func153 (by kernel_rfl) rfl #[.slice A1_0 l1_0.length c1_0, .slice A977_0 ((rd_T44 l0 x5_1).f0).length c977_0] (by rfl) rfl rfl (by (try simp only [mp_]); first | done | rfl | (simp only [List.length_drop, List.length_take]; rfl)) ?_
     with_reducible refine (impl_SetLess.calls k1 _ _ l1_0 _ _ ((rd_T44 l0 x5_1).f0) false _ ?side1 ?side2 ?side3 ?side4 A6.out).mono ?_
     (case side1 => exact cp_ ((Kd.C_below HR1_0.out HB.out)))
     (case side2 => exact HC1_0.out)
     (case side3 => exact cp_ ((Kd.C_below HR977_0.out HB.out)))
     (case side4 => exact HC977_0.out)
     rintro e w' ⟨rfl, ⟨nd, rfl⟩⟩
     refine ⟨_, rfl, ?_⟩
     refine hK.out _ _ ⟨bx_ BK976.out 0, bx_ BK976.out 1, bx_ BK976.out 2, bx_ BK976.out 3, ((HB.out.cell (World.block_lt_of_cell? w _ hw977_0)).trans hw977_0), ((HB.out.cell (World.block_lt_of_cell? w _ hw977_1)).trans hw977_1), ((HB.out.cell (World.block_lt_of_cell? w _ hw977_2)).trans hw977_2), ((HB.out.cell (World.block_lt_of_cell? w _ hw977_3)).trans hw977_3)⟩ (fun hHeld => ?_)
     clear hK K
     refine norm_ (a' := ?_) ?_ ?_
     rotate_left
     ·
      show Act.put _ (some 19) _ = _
      simp only [fr_]
      rfl
     refine pu_ 13 20 ?_ (b_ 14 1) rfl rfl HT_.out ?_ ?_ ?_ ?_; rotate_left; intro w'; go_simp; with_reducible rfl; rotate_left; simp only [fr_]; rfl
     refine pu_ 14 21 ?_ (b_ 15 0) rfl rfl HT_.out ?_ ?_ ?_ ?_; rotate_left; intro w'; go_simp; with_reducible rfl; rotate_left; simp only [fr_]; rfl
     refine done_ (done_of HT_.out (by kernel_rfl)) ?_
     try go_wp2
     go_roundg k1
     case measure => have := HK1.out; omega
     case rel => exact ⟨(wrap64 (x5_1 + 1)), (by first | rfl | (simp; done) | (simp [*]; done)), H', ⟨by have := HK1.out; omega⟩, ⟨by (with_reducible repeat (first | refine kn_ ?_ _ | refine kd_ ?_ | refine ka_ ?_ _)); exact BK976.out⟩, ⟨by repeat (first | (with_reducible first | exact HB.out | apply ba_ | apply bn_ | apply bd_ | apply bs_ GE976) | exact HB.out)⟩⟩
    rw [if_neg c5] at H
    exact absurd H (by simp)
   rw [if_neg c4] at H
   have c4b0 : decide (x5_1 < (l0.length : Int)) = false := decide_eq_false c4
   clear c4
   by_cases c30 : 0 ≤ x5_1
   ·
    rw [if_pos c30] at H
    have c30b0 := eq_true c30
    have c30b1 := decide_eq_true c30
    clear c30
    by_cases c31 : x5_1 ≤ (l0.length : Int)
    ·
     rw [if_pos c31] at H
     have c31b0 := eq_true c31
     have c31b1 := decide_eq_true c31
     clear c31
     obtain ⟨y1005, hy1005⟩ : ∃ y_ : List (S44), y_ = (l0.take (x5_1 : Int).toNat) := ⟨_, rfl⟩
     replace H : ((impl_copyAlarms.f k1 y1005).bind fun t1009 => ((impl_copyAlarm.f l1_0 a1_1 a1_2 a1_3).bind fun bt1012 => (if t1009.length < 2513169434916 then ((some (t1009 ++ [(⟨bt1012.1, bt1012.2.1, bt1012.2.2.1, bt1012.2.2.2⟩ : S44)] : List (S44))).bind fun y1018 => ((impl_copyAlarms.f k1 (l0.drop (x5_1 : Int).toNat)).bind fun t1025 => (if y1018.length + t1025.length < 2513169434916 then (some (y1018 ++ t1025)) else (none)))) else (none)))) = some r := by first | (rw [hy1005]; with_reducible exact H) | (have H2_ := (Option.bind_some _ _).symm.trans H; rw [hy1005]; with_reducible exact H2_) | (have H2_ := (Option.bind_some _ _).symm.trans H; with_reducible exact H2_) | with_reducible exact H | (rw [hy1005]; exact H) | exact H
     have Ny1005 := Aside0.mk hy1005
     clear hy1005
     replace H := Option.bind_eq_some_iff.mp H
     obtain ⟨t1009, A320, H⟩ := H
     have A32 := Aside0.mk A320
     clear A320
     replace H := Option.bind_eq_some_iff.mp H
     obtain ⟨⟨t1012, t1015, t1016, t1017⟩, A330, H⟩ := H
     have A33 := Aside0.mk A330
     clear A330
     by_cases c34 : t1009.length < 2513169434916
     ·
      rw [if_pos c34] at H
      have LMc34 := Aside0.mk c34
      clear c34
      obtain ⟨y1018, hy1018⟩ : ∃ y_ : List (S44), y_ = (t1009 ++ [(⟨t1012, t1015, t1016, t1017⟩ : S44)]) := ⟨_, rfl⟩
      replace H : ((impl_copyAlarms.f k1 (l0.drop (x5_1 : Int).toNat)).bind fun t1025 => (if y1018.length + t1025.length < 2513169434916 then (some (y1018 ++ t1025)) else (none))) = some r := by first | (rw [hy1018]; with_reducible exact H) | (have H2_ := (Option.bind_some _ _).symm.trans H; rw [hy1018]; with_reducible exact H2_) | (have H2_ := (Option.bind_some _ _).symm.trans H; with_reducible exact H2_) | with_reducible exact H | (rw [hy1018]; exact H) | exact H
      have Ny1018 := Aside0.mk hy1018
      clear hy1018
      have c35b0 := eq_true (of_decide_eq_true (by with_reducible assumption) : 0 ≤ x5_1)
      have c36b0 := eq_true (of_decide_eq_true (by with_reducible assumption) : x5_1 ≤ (l0.length : Int))
      obtain ⟨y1021, hy1021⟩ : ∃ y_ : List (S44), y_ = (l0.drop (x5_1 : Int).toNat) := ⟨_, rfl⟩
      replace H : ((impl_copyAlarms.f k1 y1021).bind fun t1025 => (if y1018.length + t1025.length < 2513169434916 then (some (y1018 ++ t1025)) else (none))) = some r := by first | (rw [hy1021]; with_reducible exact H) | (have H2_ := (Option.bind_some _ _).symm.trans H; rw [hy1021]; with_reducible exact H2_) | (have H2_ := (Option.bind_some _ _).symm.trans H; with_reducible exact H2_) | with_reducible exact H | (rw [hy1021]; exact H) | exact H
      have Ny1021 := Aside0.mk hy1021
      clear hy1021
      replace H := Option.bind_eq_some_iff.mp H
      obtain ⟨t1025, A370, H⟩ := H
      have A37 := Aside0.mk A370
      clear A370
      by_cases c38 : y1018.length + t1025.length < 2513169434916
      ·
       rw [if_pos c38] at H
       have LMc38 := Aside0.mk c38
       clear c38
       obtain ⟨y1028, hy1028⟩ : ∃ y_ : List (S44), y_ = (y1018 ++ t1025) := ⟨_, rfl⟩
       replace H : (some y1028) = some r := by first | (rw [hy1028]; with_reducible exact H) | (have H2_ := (Option.bind_some _ _).symm.trans H; rw [hy1028]; with_reducible exact H2_) | (have H2_ := (Option.bind_some _ _).symm.trans H; with_reducible exact H2_) | with_reducible exact H | (rw [hy1028]; exact H) | exact H
       have Ny1028 := Aside0.mk hy1028
       clear hy1028
       obtain rfl := Option.some.inj H
       try go_wp2
       replace BK976 := Aside0.mk (blk_drew BK976.out)
       replace HB := Aside0.mk (bd_ HB.out)
       refine start_ (n := 15) (S := fun w' => True) (ds := []) #[f_,f_,f_,f_,f_,f_,f_,f_,f_,f_,f_,f_,f_,f_,f_] (by kernel_rfl) rfl rfl trivial (fun hHeld => ?_); refine with_tabW impl_inserted.tab2 impl_inserted.bits2 (fun HT_ HW_ => ?_)
       generalize wr.drew = w39 at BK976 HB hHeld ⊢
       refine pu_ 0 7 ?_ (b_ 1 14) rfl rfl HT_.out ?_ ?_ ?_ ?_; rotate_left; intro w'; go_simp; with_reducible rfl; rotate_left; simp only [fr_]; rfl
       refine pu_ 1 8 ?_ (b_ 2 13) rfl rfl HT_.out ?_ ?_ ?_ ?_; rotate_left; intro w'; go_simp; with_reducible rfl; rotate_left; simp only [fr_]; rfl
       refine pu_ 2 9 ?_ (b_ 3 12) rfl rfl HT_.out ?_ ?_ ?_ ?_; rotate_left; intro w'; go_simp; with_reducible rfl; rotate_left; simp only [fr_]; rfl
       refine pu_ 3 10 ?_ (b_ 4 11) rfl rfl HT_.out ?_ ?_ ?_ ?_; rotate_left; intro w'; go_simp; with_reducible rfl; rotate_left; simp only [fr_]; rfl
       refine pu_ 4 11 ?_ (b_ 5 10) rfl rfl HT_.out ?_ ?_ ?_ ?_; rotate_left; intro w'; go_simp; with_reducible rfl; rotate_left; simp only [fr_]; rfl
       refine pv_ 5 12 ?_ (b_ 6 9) rfl rfl HT_.out ?_ ?_; rotate_left; simp only [fr_]; rfl
       refine pv_ 6 13 ?_ (b_ 7 8) rfl rfl HT_.out ?_ ?_; rotate_left; simp only [fr_]; rfl
       refine pv_ 7 14 ?_ (b_ 8 7) rfl rfl HT_.out ?_ ?_; rotate_left; simp only [fr_]; rfl
       refine pv_ 8 15 ?_ (b_ 9 6) rfl rfl HT_.out ?_ ?_; rotate_left; simp only [fr_]; rfl
       refine pv_ 9 16 ?_ (b_ 10 5) rfl rfl HT_.out ?_ ?_; rotate_left; simp only [fr_]; rfl
       refine pv_ 10 17 ?_ (b_ 11 4) rfl rfl HT_.out ?_ ?_; rotate_left; simp only [fr_]; rfl
       refine pv_ 11 18 ?_ (b_ 12 3) rfl rfl HT_.out ?_ ?_; rotate_left; simp only [fr_]; rfl
       refine pv_ 12 19 ?_ (b_ 13 2) rfl rfl HT_.out ?_ ?_; rotate_left; simp only [fr_]; rfl
       refine pv_ 13 20 ?_ (b_ 14 1) rfl rfl HT_.out ?_ ?_; rotate_left; simp only [fr_]; rfl
       refine pu_ 14 21 ?_ (b_ 15 0) rfl rfl HT_.out ?_ ?_ ?_ ?_; rotate_left; intro w'; go_simp; with_reducible rfl; rotate_left; simp only [fr_]; rfl
       refine done_ (done_of HT_.out (by kernel_rfl)) ?_
       try go_wp2
       replace BK976 := Aside0.mk (blk_drew BK976.out)
       replace HB := Aside0.mk (bd_ HB.out)
       have q41 : (x5_1 : Int) ≤ ((l0.length : Int) : Int) := of_decide_eq_true (by with_reducible assumption)
       obtain ⟨i041, hi041, _, hsz41, _⟩ := info_parts info44
       have hroom41 : l0.length ≤ c0 := HC0.out
       have hC41 : Kd.C k44 _ A0 l0.length l0 := HR0.out
       have hcut41 := cut_to (P := Try.prog) 37 44 .i64 Try.underlying37 hi041 A0 l0.length c0 x5_1 (of_decide_eq_true (by with_reducible assumption)) q41 hroom41
       have hr41 := Kd.C_take (m := (x5_1 : Int).toNat) hC41 (by omega)
       have hy41 : y1005.length = (x5_1 : Int).toNat := (by rw [Ny1005.out, List.length_take]; omega)
       rw [← Ny1005.out] at hr41
       rw [← hy41] at hcut41
       have HR1008 := Aside0.mk hr41
       have HC1008 := Aside0.mk (show y1005.length ≤ c0 from by omega)
       clear hr41 hC41 hroom41 hi041 hsz41
       have KY41 := Aside0.mk hy41
       clear hy41
       replace q41 := eq_true q41
       refine start_ (n := 9) (S := fun w' => w'.cell? ⟨gb976, 0, none⟩ = some (.slice A1_0 l1_0.length c1_0) ∧ w'.cell? ⟨gb976, 1, none⟩ = some (.int .i64 a1_1) ∧ w'.cell? ⟨gb976, 2, none⟩ = some (.int .i64 a1_2) ∧ w'.cell? ⟨gb976, 3, none⟩ = some (.string a1_3)) (ds := []) #[f_,f_,f_,f_,f_,f_,f_,f_,f_] (by kernel_rfl) rfl rfl ⟨bx_ BK976.out 0, bx_ BK976.out 1, bx_ BK976.out 2, bx_ BK976.out 3⟩ (fun hHeld => ?_); refine with_tabW impl_inserted.tab4 impl_inserted.bits4 (fun HT_ HW_ => ?_)
       generalize w39.drew = w40 at BK976 HB HR1008 hHeld ⊢
       refine pu_ 0 24 ?_ (b_ 1 8) rfl rfl HT_.out ?_ ?_ ?_ ?_; rotate_left; intro w'; go_simp; with_reducible rfl; rotate_left; simp only [fr_]; rfl
       refine pu_ 1 25 ?_ (b_ 2 7) rfl rfl HT_.out ?_ ?_ ?_ ?_; rotate_left; intro w'; go_simp; with_reducible rfl; rotate_left; simp only [fr_]; rfl
       refine pu_ 2 26 ?_ (b_ 3 6) rfl rfl HT_.out ?_ ?_ ?_ ?_; rotate_left; intro w'; go_simp; with_reducible rfl; rotate_left; simp only [fr_]; rfl
       refine take_ (i := 4) (N := some 28) (v := ?_) (a' := ?_) #[t_,t_,t_,f_,t_,f_,f_,f_,f_] rfl rfl (take_ofW HT_.out HW_.out (by kernel_rfl)) (fun _ _ _ h => h) (Or.inl ⟨by rfl, ?_⟩) hHeld ?_ ?_
       rotate_left
       ·
        rintro w' ⟨s0, s1, s2, s3⟩
        go_simp
        with_reducible rfl
       rotate_left
       ·
        simp only [fr_]
        rfl
       refine one_ (i := 3) (N := some 27) #[t_,t_,t_,t_,t_,f_,f_,f_,f_] rfl rfl (one_of HT_.out (by kernel_rfl)) (by decide) (fun K hK => ?_)
       refine goes_ Try.func101 (by kernel_rfl) rfl #[.slice A0 y1005.length c0] (by rfl) rfl rfl (by (try simp only [mp_]); first | done | rfl | (simp only [List.length_drop, List.length_take]; rfl)) ?_
       with_reducible refine (impl_copyAlarms.calls k1 _ _ y1005 t1009 _ ?side1 ?side2 A32.out).mono ?_
       (case side1 => exact cp_ ((Kd.C_below HR1008.out HB.out)))
       (case side2 => exact HC1008.out)
       rintro e w42 ⟨v1010, rfl, ho0, hb⟩
       refine ⟨_, rfl, ?_⟩
       obtain ⟨gbz1010, hz1010⟩ := Kd.S_name ho0
       have HO1011 := Aside0.mk (Kd.S_lower (Kd.S_newB (Kd.S_gez hz1010 ho0) (g := gb976) (o := .cells #[.slice A1_0 l1_0.length c1_0, .int .i64 a1_1, .int .i64 a1_2, .string a1_3] 44 (0, 0)) (pb_ BK976.out)) (below_size (by repeat (first | (with_reducible first | exact HB.out | apply ba_ | apply bn_ | apply bd_ | apply bs_ GE976) | exact HB.out))))
       replace BK976 := Aside0.mk (bb_ BK976.out hb)
       replace HB := Aside0.mk (below_step (by repeat (first | (with_reducible first | exact HB.out | apply ba_ | apply bn_ | apply bd_ | apply bs_ GE976) | exact HB.out)) hb)
       (try clear hb)
       (try clear hb2)
       (try clear hk)
       (try clear hi)
       (try clear ho0)
       refine hK.out _ _ ⟨bx_ BK976.out 0, bx_ BK976.out 1, bx_ BK976.out 2, bx_ BK976.out 3⟩ (fun hHeld => ?_)
       clear hK K
       refine norm_ (a' := ?_) ?_ ?_
       rotate_left
       ·
        show Act.put _ (some 27) _ = _
        simp only [fr_]
        rfl
       refine one_ (i := 5) (N := some 29) #[t_,t_,t_,t_,t_,t_,f_,f_,f_] rfl rfl (one_of HT_.out (by kernel_rfl)) (by decide) (fun K hK => ?_)
       refine goes_ Try.func97 (by kernel_rfl) rfl #[.agg #[.slice A1_0 l1_0.length c1_0, .int .i64 a1_1, .int .i64 a1_2, .string a1_3]] (by rfl) rfl rfl (by (try simp only [mp_]); first | done | rfl | (simp only [List.length_drop, List.length_take]; rfl)) ?_
       with_reducible refine (impl_copyAlarm.calls _ _ l1_0 a1_1 a1_2 a1_3 t1012 t1015 t1016 t1017 _ ?side1 ?side2 A33.out).mono ?_
       (case side1 => exact cp_ ((Kd.C_below HR1_0.out HB.out)))
       (case side2 => exact HC1_0.out)
       rintro e w43 ⟨v1013, rfl, ho0, hb⟩
       refine ⟨_, rfl, ?_⟩
       obtain ⟨gbz1013, hz1013⟩ := Kd.R_name ho0
       replace HO1011 := Aside0.mk (Kd.S_below (Kd.S_ltz hz1013 (sp_ HO1011.out)) hb)
       have HO1014 := Aside0.mk (Kd.R_lower (Kd.R_gez hz1013 ho0) (below_size (by repeat (first | (with_reducible first | exact HB.out | apply ba_ | apply bn_ | apply bd_ | apply bs_ GE976) | exact HB.out))))
       replace BK976 := Aside0.mk (bb_ BK976.out hb)
       replace HB := Aside0.mk (below_step (by repeat (first | (with_reducible first | exact HB.out | apply ba_ | apply bn_ | apply bd_ | apply bs_ GE976) | exact HB.out)) hb)
       (try clear hb)
       (try clear hb2)
       (try clear hk)
       (try clear hi)
       (try clear ho0)
       obtain ⟨Ao45, co45, eo45⟩ := Kd.R_slice HO1014.out
       (first | subst eo45 | (injection eo45 with f1_ f2_ f3_; have f4_ := f1_.symm; have f5_ := f3_.symm; clear f1_ f2_ f3_; subst f4_; subst f5_))
       refine hK.out _ _ ⟨bx_ BK976.out 0, bx_ BK976.out 1, bx_ BK976.out 2, bx_ BK976.out 3⟩ (fun hHeld => ?_)
       clear hK K
       refine norm_ (a' := ?_) ?_ ?_
       rotate_left
       ·
        show Act.put _ (some 29) _ = _
        simp only [fr_]
        rfl
       refine one_ (i := 6) (N := some 30) #[t_,t_,t_,t_,t_,t_,t_,f_,f_] rfl rfl (one_of HT_.out (by kernel_rfl)) (by decide) (fun K hK => ?_)
       refine value_ (w1 := ?_) (v := ?_) (by rfl) rfl ?_ ?_
       rotate_left 2
       ·
        go_simp
        constructor
        ·
         rfl
        rfl
       refine hK.out _ _ ⟨(blk_cell (blk_alloc BK976.out _) 0).trans rfl, (blk_cell (blk_alloc BK976.out _) 1).trans rfl, (blk_cell (blk_alloc BK976.out _) 2).trans rfl, (blk_cell (blk_alloc BK976.out _) 3).trans rfl⟩ (fun hHeld => ?_)
       clear hK K
       refine norm_ (a' := ?_) ?_ ?_
       rotate_left
       ·
        show Act.put _ (some 30) _ = _
        simp only [fr_]
        rfl
       refine one_ (i := 7) (N := some 31) #[t_,t_,t_,t_,t_,t_,t_,t_,f_] rfl rfl (one_of HT_.out (by kernel_rfl)) (by decide) (fun K hK => ?_)
       refine Kd.S_append_step k44 (w0 := w) w.heap.size (by rfl) (.tmp 27) (.tmp 30) 37 44 (.agg #[(.slice none 0 0), (.int .i64 0), (.int .i64 0), (.string ⟨#[]⟩)]) 56 rfl Try.underlying37 info44 rfl (by decide) (by omega) v1010 t1009 (⟨t1012, t1015, t1016, t1017⟩ : S44) [.slice Ao45 t1012.length co45, .int .i64 t1015, .int .i64 t1016, .string t1017] (fun k_ => k_ ≠ gb976) (fun k_ => some k_ = (.slice Ao45 t1012.length co45 : Value).ownBlock) rfl rfl ?aP (fun k_ hk_ => ((Kd.R_mono (ok' := fun k_ => ((fun k_ => k_ ≠ gb976)) k_ ∧ some k_ ≠ (v1010 : Value).ownBlock) (Kd.R_types (Kd.R_apart' (HO1014.out) (Kd.S_typed HO1011.out) (by decide)) BK976.out (by decide)) (fun k_ hk => ⟨hk.2, hk.1.2⟩))).1 k_ hk_.symm) ?aF ?aO ?aB ?aS ?aL ?_
       (case aP => exact k44_mkM _ _ _ (⟨t1012, t1015, t1016, t1017⟩ : S44) (Kd.R_mono (Kd.R_tight rfl (Kd.R_mono (ok' := fun k_ => ((fun k_ => k_ ≠ gb976)) k_ ∧ some k_ ≠ (v1010 : Value).ownBlock) (Kd.R_types (Kd.R_apart' (HO1014.out) (Kd.S_typed HO1011.out) (by decide)) BK976.out (by decide)) (fun k_ hk => ⟨hk.2, hk.1.2⟩))) (fun _ h_ => h_)))
       (case aB => exact (by repeat (first | (with_reducible first | exact HB.out | apply ba_ | apply bn_ | apply bd_ | apply bs_ GE976) | exact HB.out)))
       (case aF => exact (fun k_ hk => Kd.freshB (g := gb976) (o := .cells #[.slice A1_0 l1_0.length c1_0, .int .i64 a1_1, .int .i64 a1_2, .string a1_3] 44 (0, 0)) (pb_ BK976.out) k_ hk))
       (case aO => exact (by (with_reducible repeat (first | apply Kd.S_alloc | apply Kd.S_drewN | apply Kd.S_drew)); exact Kd.S_mono HO1011.out (fun k_ hk => ⟨hk.1.2, fun e_ => (fun ez_ => Nat.lt_irrefl _ (Nat.lt_of_lt_of_le hk.2 (HO1014.out.1 _ ez_.symm).2)) e_⟩)))
       (case aS => exact (below_size (by repeat (first | (with_reducible first | exact HB.out | apply ba_ | apply bn_ | apply bd_ | apply bs_ GE976) | exact HB.out))))
       (case aL => have := LMc34.out; omega)
       intro v1019 w44 ho hb hg hat
       rw [← Ny1018.out] at ho
       have n0_ := Aside0.mk (blk_grown (g := gb976) (o := .cells #[.slice A1_0 l1_0.length c1_0, .int .i64 a1_1, .int .i64 a1_2, .string a1_3] 44 (0, 0)) (pb_ BK976.out) hg (Kd.S_away HO1011.out (fun _ hk => hk.1.2)))
       have n1_ := Aside0.mk (hb)
       have n2_ := Aside0.mk (ho)
       clear BK976 HB HO1011 HO1014
       have BK976 := n0_
       have HB := n1_
       have HO1020 := n2_
       clear n0_ n1_ n2_ ho hb hg hat
       refine hK.out _ _ ⟨bx_ BK976.out 0, bx_ BK976.out 1, bx_ BK976.out 2, bx_ BK976.out 3⟩ (fun hHeld => ?_)
       clear hK K
       refine norm_ (a' := ?_) ?_ ?_
       rotate_left
       ·
        show Act.put _ (some 31) _ = _
        simp only [fr_]
        rfl
       refine pu_ 8 6 ?_ (b_ 9 0) rfl rfl HT_.out ?_ ?_ ?_ ?_; rotate_left; intro w'; go_simp; with_reducible rfl; rotate_left; simp only [fr_]; rfl
       refine done_ (done_of HT_.out (by kernel_rfl)) ?_
       have q46 : (x5_1 : Int) ≤ ((l0.length : Int) : Int) := of_decide_eq_true (by with_reducible assumption)
       obtain ⟨i046, hi046, _, hsz46, _⟩ := info_parts info44
       have hroom46 : l0.length ≤ c0 := HC0.out
       have hC46 : Kd.C k44 _ A0 l0.length l0 := HR0.out
       have q046 : (0 : Int) ≤ (x5_1 : Int) := of_decide_eq_true (by with_reducible assumption)
       have hcut46 := cut_from (P := Try.prog) 37 44 .i64 Try.underlying37 hi046 4 hsz46 A0 l0.length c0 x5_1 q046 q46
       have hr46 := Kd.C_drop (m := (x5_1 : Int).toNat) (c := c0) hC46 (by omega) hroom46
       obtain ⟨A46, hA46⟩ : ∃ A1, A1 = (if c0 = (x5_1 : Int).toNat then A0 else (A0 : Option Addr).map (·.add ((x5_1 : Int).toNat * 4))) := ⟨_, rfl⟩
       obtain ⟨c46, hc46⟩ : ∃ c1, c1 = c0 - (x5_1 : Int).toNat := ⟨_, rfl⟩
       have hy46 : y1021.length = l0.length - (x5_1 : Int).toNat := (by rw [Ny1021.out, List.length_drop] <;> omega)
       rw [show (l0).drop (x5_1 : Int).toNat = y1021 from Ny1021.out.symm] at hr46
       replace hr46 : Kd.C k44 _ A46 y1021.length y1021 := (by rw [hA46]; exact hr46)
       rw [← hy46, ← hA46, ← hc46] at hcut46
       have HR1024 := Aside0.mk hr46
       have HC1024 := Aside0.mk (show y1021.length ≤ c46 from by rw [hy46, hc46]; exact Nat.sub_le_sub_right hroom46 _)
       clear hr46 hC46 hroom46 hi046 hsz46 hc46
       have KY46 := Aside0.mk hy46
       have KA46 := Aside0.mk hA46
       clear hy46 hA46
       replace q46 := eq_true q46
       try go_wp2_with (first | ((with_reducible refine gate_callee (f := 101) rfl ?_); refine goesL_ (some 36) rfl rfl Try.func101 (by kernel_rfl) rfl #[.slice A46 y1021.length c46] rfl (by (try simp only [mp_]); first | done | rfl | (simp only [List.length_drop, List.length_take]; rfl)) ?_; (with_reducible refine (impl_copyAlarms.calls k1 _ _ y1021 t1025 _ ?side1 ?side2 A37.out).mono ?_); (case side1 => exact cp_ ((Kd.C_below HR1024.out HB.out))); (case side2 => exact HC1024.out); rintro e w47 ⟨v1026, rfl, ho0, hb⟩; refine ⟨_, rfl, ?_⟩; obtain ⟨gbz1026, hz1026⟩ := Kd.S_name ho0; replace HO1020 := Aside0.mk (Kd.S_below (Kd.S_ltz hz1026 (sp_ HO1020.out)) hb); have HO1027 := Aside0.mk (Kd.S_lower (Kd.S_newB (Kd.S_gez hz1026 ho0) (g := gb976) (o := .cells #[.slice A1_0 l1_0.length c1_0, .int .i64 a1_1, .int .i64 a1_2, .string a1_3] 44 (0, 0)) (pb_ BK976.out)) (below_size (by repeat (first | (with_reducible first | exact HB.out | apply ba_ | apply bn_ | apply bd_ | apply bs_ GE976) | exact HB.out)))); replace BK976 := Aside0.mk (bb_ BK976.out hb); replace HB := Aside0.mk (below_step (by repeat (first | (with_reducible first | exact HB.out | apply ba_ | apply bn_ | apply bd_ | apply bs_ GE976) | exact HB.out)) hb); (try clear hb); (try clear hb2); (try clear hk); (try clear hi); (try clear ho0); obtain ⟨Ao49, co49, eo49⟩ := Kd.S_slice HO1027.out; subst eo49; obtain ⟨PXP50, hPXP50, hPlP50⟩ := Kd.S_fp ((Kd.S_mono HO1027.out (fun k_ hk => (⟨hk, fun ez_ => Nat.lt_irrefl _ (Nat.lt_of_lt_of_le ((Kd.S_R HO1020.out).1 _ ez_.symm).2 hk.1.2)⟩ : _ ∧ some k_ ≠ (v1019 : Value).ownBlock))))) | ((with_reducible refine gate_builtin (b := .append) (xs := #[.tmp 32, .tmp 36]) rfl ?_); at_builtin; refine Kd.S_append_rows k44 (w0 := w) w.heap.size rfl (.tmp 32) (.tmp 36) 37 44 (.agg #[(.slice none 0 0), (.int .i64 0), (.int .i64 0), (.string ⟨#[]⟩)]) 56 rfl Try.underlying37 info44 rfl (by decide) (by omega) v1019 y1018 t1025 _ _ _ (fun k_ => k_ ≠ gb976) PXP50 rfl rfl ?aR (fun k_ hk_ => ⟨(hPlP50 k_ hk_).1.1.2, (hPlP50 k_ hk_).1.2⟩) ?aF ?aO ?aB ?aS ?aL ?_; (case aR => exact hPXP50); (case aB => exact (by repeat (first | (with_reducible first | exact HB.out | apply ba_ | apply bn_ | apply bd_ | apply bs_ GE976) | exact HB.out))); (case aF => exact (fun k_ hk => Kd.freshB (g := gb976) (o := .cells #[.slice A1_0 l1_0.length c1_0, .int .i64 a1_1, .int .i64 a1_2, .string a1_3] 44 (0, 0)) (pb_ BK976.out) k_ hk)); (case aO => exact (by (with_reducible repeat (first | apply Kd.S_alloc | apply Kd.S_drewN | apply Kd.S_drew)); exact Kd.S_mono HO1020.out (fun k_ hk => ⟨hk.1, fun e_ => (fun ez_ => Nat.lt_irrefl _ (Nat.lt_of_lt_of_le hk.2 (hPlP50 _ ez_).1.1.1.2)) e_⟩))); (case aS => exact (below_size (by repeat (first | (with_reducible first | exact HB.out | apply ba_ | apply bn_ | apply bd_ | apply bs_ GE976) | exact HB.out)))); (case aL => have := LMc38.out; omega); intro v1029 w48 ho hb hg hat; rw [← Ny1028.out] at ho; replace BK976 := Aside0.mk (blk_grown (g := gb976) (o := .cells #[.slice A1_0 l1_0.length c1_0, .int .i64 a1_1, .int .i64 a1_2, .string a1_3] 44 (0, 0)) (pb_ BK976.out) hg (Kd.S_away HO1020.out (fun _ hk => hk.1))); replace HB := Aside0.mk (hb); have HO1030 := Aside0.mk (ho); clear HO1020 HO1027; clear ho hb hg hat))
       go_ret
       exact ⟨_, by first | rfl | (simp [errW_none, errW_some] <;> rfl) | (simp [*, errW_none, errW_some] <;> rfl), by (with_reducible repeat (first | apply Kd.S_alloc | apply Kd.S_drewN | apply Kd.S_drew)); exact Kd.S_mono HO1030.out (fun _ hk => trivial), by repeat (first | (with_reducible first | exact HB.out | apply ba_ | apply bn_ | apply bd_ | apply bs_ GE976) | exact HB.out)⟩
      rw [if_neg c38] at H
      exact absurd H (by simp)
     rw [if_neg c34] at H
     exact absurd H (by simp)
    rw [if_neg c31] at H
    exact absurd H (by simp)
   rw [if_neg c30] at H
   exact absurd H (by simp)
end Go.Proofs.Ytfholjcelnkleaa.Print
end
