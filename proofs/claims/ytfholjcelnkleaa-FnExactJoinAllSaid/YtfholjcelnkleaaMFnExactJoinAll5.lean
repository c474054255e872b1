import Derived.Test.YtfholjcelnkleaaMFnExactJoinAll1
import Derived.Test.YtfholjcelnkleaaMFnExactJoinAll4
section
namespace Go.Proofs.Ytfholjcelnkleaa.Print
open Go.RowKit Go.Proofs.YtfholjcelnkleaaV.PrintWords Go.Proofs.YtfholjcelnkleaaV.PrintLast Go.Proofs.YtfholjcelnkleaaV.PrintMore
attribute [local go_sem] max2_int min2_int max_two min_two max_three min_three max_four min_four
set_option linter.unusedVariables false
set_option linter.unusedSimpArgs false
set_option maxHeartbeats 8000000
set_option maxRecDepth 100000
def impl_JoinIn.f (k : Nat) (a0_0 : Int) (l0_1 : List (S164)) (a0_2 : Int) (a0_3 : Int) (l0_4 : List (S44)) (l1_0 : List (S164)) (a1_1 : Int) (a1_2 : Int) (a1_3 : ByteArray) : Option (Int × (List (S164)) × Int × Int × (List (S44))) := (impl_copyGroup.f k a0_0 l0_1 a0_2 a0_3 l0_4).bind fun bt1034 => ((impl_labelsAt.f k l0_4 l1_0).bind fun t1044 => (if t1044 ≥ 0 then ((impl_copyAlarm.f l1_0 a1_1 a1_2 a1_3).bind fun bt1045 => (if 0 ≤ t1044 then (if t1044 < (bt1034.2.2.2.2.length : Int) then (some (bt1034.1, bt1034.2.1, bt1034.2.2.1, bt1034.2.2.2.1, (bt1034.2.2.2.2.set (t1044 : Int).toNat (⟨bt1045.1, bt1045.2.1, bt1045.2.2.1, bt1045.2.2.2⟩ : S44)))) else (none)) else (none))) else ((impl_inserted.f k l0_4 l1_0 a1_1 a1_2 a1_3).bind fun t1052 => (some (bt1034.1, bt1034.2.1, bt1034.2.2.1, bt1034.2.2.2.1, t1052)))))
theorem impl_JoinIn.mono : ∀ a0 a1 a2 a3 a4 a5 a6 a7 a8 k, LeO (impl_JoinIn.f k a0 a1 a2 a3 a4 a5 a6 a7 a8) (impl_JoinIn.f (k + 1) a0 a1 a2 a3 a4 a5 a6 a7 a8) := by
 intro a0 a1 a2 a3 a4 a5 a6 a7 a8 k
 unfold impl_JoinIn.f
 repeat' first
   | (with_reducible exact impl_copyGroup.mono _ _ _ _ _ _)
   | (with_reducible exact impl_inserted.mono _ _ _ _ _ _)
   | (with_reducible exact impl_labelsAt.mono _ _ _)
   | (with_reducible exact LeO.refl _)
   | (with_reducible exact LeO.none _)
   | (with_reducible refine LeO.ite ?_ ?_)
   | (with_reducible refine LeO.bind ?_ (fun _ => ?_))
   | exact impl_copyGroup.mono _ _ _ _ _ _
   | exact impl_inserted.mono _ _ _ _ _ _
   | exact impl_labelsAt.mono _ _ _
theorem impl_JoinIn.calls (k : Nat) (a0_0 : Int) (A0_1 : Option Addr) (c0_1 : Nat) (l0_1 : List (S164)) (a0_2 : Int) (a0_3 : Int) (A0_4 : Option Addr) (c0_4 : Nat) (l0_4 : List (S44)) (A1_0 : Option Addr) (c1_0 : Nat) (l1_0 : List (S164)) (a1_1 : Int) (a1_2 : Int) (a1_3 : ByteArray) (r1 : Int) (r2 : List (S164)) (r3 : Int) (r4 : Int) (r5 : List (S44)) (w : World) (hr0_1 : Kd.C k164 w A0_1 l0_1.length l0_1) (hc0_1 : l0_1.length ≤ c0_1) (hr0_4 : Kd.C k44 w A0_4 l0_4.length l0_4) (hc0_4 : l0_4.length ≤ c0_4) (hr1_0 : Kd.C k164 w A1_0 l1_0.length l1_0) (hc1_0 : l1_0.length ≤ c1_0) (h : impl_JoinIn.f k a0_0 l0_1 a0_2 a0_3 l0_4 l1_0 a1_1 a1_2 a1_3 = some (r1, r2, r3, r4, r5)) :
  Calls Try.prog 57 #[.agg #[.int .i64 a0_0, .slice A0_1 l0_1.length c0_1, .int .i64 a0_2, .int .i64 a0_3, .slice A0_4 l0_4.length c0_4], .agg #[.slice A1_0 l1_0.length c1_0, .int .i64 a1_1, .int .i64 a1_2, .string a1_3]] w fun e w' => ∃ v1_ v4_ : Value, e = .returned (.agg #[.int .i64 r1, v1_, .int .i64 r3, .int .i64 r4, v4_]) ∧ Kd.R k164 164 w' w.heap.size (fun _ => True) v1_ r2 ∧ Kd.S k44 44 w' w.heap.size (fun k_ => some k_ ≠ (v1_ : Value).ownBlock) v4_ r5 ∧ Below w.heap.size w w' := by
 have hu75 := Try.underlying75
 have hu44 := Try.underlying44
 have HR0_1 := Aside0.mk hr0_1
 have HC0_1 := Aside0.mk hc0_1
 clear hr0_1 hc0_1
 have HR0_4 := Aside0.mk hr0_4
 have HC0_4 := Aside0.mk hc0_4
 clear hr0_4 hc0_4
 have HR1_0 := Aside0.mk hr1_0
 have HC1_0 := Aside0.mk hc1_0
 clear hr1_0 hc1_0
 have HB := Aside0.mk (Below.refl w.heap.size w)
 have H : ((impl_copyGroup.f k a0_0 l0_1 a0_2 a0_3 l0_4).bind fun bt1034 => ((impl_labelsAt.f k l0_4 l1_0).bind fun t1044 => (if t1044 ≥ 0 then ((impl_copyAlarm.f l1_0 a1_1 a1_2 a1_3).bind fun bt1045 => (if 0 ≤ t1044 then (if t1044 < (bt1034.2.2.2.2.length : Int) then (some (bt1034.1, bt1034.2.1, bt1034.2.2.1, bt1034.2.2.2.1, (bt1034.2.2.2.2.set (t1044 : Int).toNat (⟨bt1045.1, bt1045.2.1, bt1045.2.2.1, bt1045.2.2.2⟩ : S44)))) else (none)) else (none))) else ((impl_inserted.f k l0_4 l1_0 a1_1 a1_2 a1_3).bind fun t1052 => (some (bt1034.1, bt1034.2.1, bt1034.2.2.1, bt1034.2.2.2.1, t1052)))))) = some (r1, r2, r3, r4, r5) := h
 clear h
 replace H := Option.bind_eq_some_iff.mp H
 obtain ⟨⟨t1034, t1035, t1038, t1039, t1040⟩, A30, H⟩ := H
 have A3 := Aside0.mk A30
 clear A30
 replace H := Option.bind_eq_some_iff.mp H
 obtain ⟨t1044, A40, H⟩ := H
 have A4 := Aside0.mk A40
 clear A40
 by_cases c5 : t1044 ≥ 0
 ·
  rw [if_pos c5] at H
  have c5b0 : decide (0 ≤ t1044) = true := decide_eq_true c5
  clear c5
  replace H := Option.bind_eq_some_iff.mp H
  obtain ⟨⟨t1045, t1048, t1049, t1050⟩, A60, H⟩ := H
  have A6 := Aside0.mk A60
  clear A60
  by_cases c7 : 0 ≤ t1044
  ·
   rw [if_pos c7] at H
   have c7b0 := decide_eq_true c7
   clear c7
   by_cases c8 : t1044 < (t1040.length : Int)
   ·
    rw [if_pos c8] at H
    have c8b0 := decide_eq_true c8
    clear c8
    obtain ⟨y1051, hy1051⟩ : ∃ y_ : List (S44), y_ = (t1040.set (t1044 : Int).toNat (⟨t1045, t1048, t1049, t1050⟩ : S44)) := ⟨_, rfl⟩
    replace H : (some (t1034, t1035, t1038, t1039, y1051)) = some (r1, r2, r3, r4, r5) := by first | (rw [hy1051]; with_reducible exact H) | (have H2_ := (Option.bind_some _ _).symm.trans H; rw [hy1051]; with_reducible exact H2_) | (have H2_ := (Option.bind_some _ _).symm.trans H; with_reducible exact H2_) | with_reducible exact H | (rw [hy1051]; exact H) | exact H
    have Ny1051 := Aside0.mk hy1051
    clear hy1051
    simp only [Option.some.injEq, Prod.mk.injEq] at H
    obtain ⟨rfl, rfl, rfl, rfl, rfl⟩ := H
    go_enter Try.func57, Try.ntmps57
    try go_wp2_with (first | ((with_reducible refine gate_dst (N := 2) rfl ?_); refine box_event ?hg (N := 2) ?hd (cs := #[.int .i64 a0_0, .slice A0_1 l0_1.length c0_1, .int .i64 a0_2, .int .i64 a0_3, .slice A0_4 l0_4.length c0_4]) (t := 75) ?hr ?_; (case hd => rfl); (case hg => rfl); (case hr => first | (go_simp; done) | (go_simp; rfl)); intro gb1031 hg w10 hbox hb; have BK1031 := Aside0.mk (hbox); have GW1031 := Aside0.mk ((by rw [hg]; exact (below_size (hb_ HB.out)) : w.heap.size ≤ gb1031)); replace HB := Aside0.mk (below_step (hb_ HB.out) hb); have GE1031 := GW1031; clear hb hbox hg) | ((with_reducible refine gate_dst (N := 3) rfl ?_); refine box_event ?hg (N := 3) ?hd (cs := #[.slice A1_0 l1_0.length c1_0, .int .i64 a1_1, .int .i64 a1_2, .string a1_3]) (t := 44) ?hr ?_; (case hd => rfl); (case hg => rfl); (case hr => first | (go_simp; done) | (go_simp; rfl)); intro gb1032 hg w11 hbox hb; have BK1032 := Aside0.mk (hbox); have GW1032 := Aside0.mk ((by rw [hg]; exact (below_size (by repeat (first | (with_reducible first | exact HB.out | apply ba_ | apply bn_ | apply bd_ | apply bs_ GE1031) | exact HB.out))) : w.heap.size ≤ gb1032)); replace HB := Aside0.mk (below_step (by repeat (first | (with_reducible first | exact HB.out | apply ba_ | apply bn_ | apply bd_ | apply bs_ GE1031) | exact HB.out)) hb); have GE1032 := GW1032; have NB1031_1032 := Aside0.mk (nl_ BK1031.out hg); replace BK1031 := Aside0.mk (bb_ BK1031.out hb); have NB1032_1031 := Aside0.mk (NB1031_1032.out.symm); clear hb hbox hg) | ((with_reducible refine gate_dst (N := 4) rfl ?_); refine box_event ?hg (N := 4) ?hd (cs := #[.int .i64 0, .slice none 0 0, .int .i64 0, .int .i64 0, .slice none 0 0]) (t := 75) ?hr ?_; (case hd => rfl); (case hg => rfl); (case hr => first | (go_simp; done) | (go_simp; rfl)); intro gb1033 hg w12 hbox hb; have BK1033 := Aside0.mk (hbox); have GW1033 := Aside0.mk ((by rw [hg]; exact (below_size (by repeat (first | (with_reducible first | exact HB.out | apply ba_ | apply bn_ | apply bd_ | apply bs_ GE1031 | apply bs_ GE1032) | exact HB.out))) : w.heap.size ≤ gb1033)); replace HB := Aside0.mk (below_step (by repeat (first | (with_reducible first | exact HB.out | apply ba_ | apply bn_ | apply bd_ | apply bs_ GE1031 | apply bs_ GE1032) | exact HB.out)) hb); have GE1033 := GW1033; have NB1031_1033 := Aside0.mk (nl_ BK1031.out hg); replace BK1031 := Aside0.mk (bb_ BK1031.out hb); have NB1033_1031 := Aside0.mk (NB1031_1033.out.symm); have NB1032_1033 := Aside0.mk (nl_ BK1032.out hg); replace BK1032 := Aside0.mk (bb_ BK1032.out hb); have NB1033_1032 := Aside0.mk (NB1032_1033.out.symm); clear hb hbox hg; have hnb13 := NB1031_1032.out; have hnc13 := NB1032_1031.out; have hnb14 := NB1031_1033.out; have hnc14 := NB1033_1031.out; obtain ⟨hcz15_0, hcz15_1, hcz15_2, hcz15_3, hcz15_4, hfz15_0, hfz15_1, hfz15_2, hfz15_3, hfz15_4⟩ := bc5_ BK1031.out) | ((with_reducible refine gate_callee (f := 114) rfl ?_); refine goesL_ (some 8) rfl rfl Try.func114 (by kernel_rfl) rfl #[.agg #[.int .i64 a0_0, .slice A0_1 l0_1.length c0_1, .int .i64 a0_2, .int .i64 a0_3, .slice A0_4 l0_4.length c0_4]] rfl (by (try simp only [mp_]); first | done | rfl | (simp only [List.length_drop, List.length_take]; rfl)) ?_; (with_reducible refine (impl_copyGroup.calls k a0_0 _ _ l0_1 a0_2 a0_3 _ _ l0_4 t1034 t1035 t1038 t1039 t1040 _ ?side1 ?side2 ?side3 ?side4 A3.out).mono ?_); (case side1 => exact cp_ ((Kd.C_below HR0_1.out HB.out))); (case side2 => exact HC0_1.out); (case side3 => exact cp_ ((Kd.C_below HR0_4.out HB.out))); (case side4 => exact HC0_4.out); rintro e w16 ⟨v1036, v1041, rfl, ho0, ho1, hb⟩; refine ⟨_, rfl, ?_⟩; have HO1037 := Aside0.mk (Kd.R_lower ho0 (below_size (by repeat (first | (with_reducible first | exact HB.out | apply ba_ | apply bn_ | apply bd_ | apply bs_ GE1031 | apply bs_ GE1032 | apply bs_ GE1033) | exact HB.out)))); have HO1042 := Aside0.mk (Kd.S_lower (Kd.S_newB ho1 (g := gb1032) (o := .cells #[.slice A1_0 l1_0.length c1_0, .int .i64 a1_1, .int .i64 a1_2, .string a1_3] 44 (0, 0)) (pb_ BK1032.out)) (below_size (by repeat (first | (with_reducible first | exact HB.out | apply ba_ | apply bn_ | apply bd_ | apply bs_ GE1031 | apply bs_ GE1032 | apply bs_ GE1033) | exact HB.out)))); replace BK1031 := Aside0.mk (bb_ BK1031.out hb); replace BK1032 := Aside0.mk (bb_ BK1032.out hb); replace BK1033 := Aside0.mk (bb_ BK1033.out hb); replace HB := Aside0.mk (below_step (by repeat (first | (with_reducible first | exact HB.out | apply ba_ | apply bn_ | apply bd_ | apply bs_ GE1031 | apply bs_ GE1032 | apply bs_ GE1033) | exact HB.out)) hb); (try clear hb); (try clear hb2); (try clear hk); (try clear hi); (try clear ho0); (try clear ho1)) | ((with_reducible refine gate_dst (N := 5) rfl ?_); refine box_event ?hg (N := 5) ?hd (cs := #[.int .i64 0, .slice none 0 0, .int .i64 0, .int .i64 0, .slice none 0 0]) (t := 75) ?hr ?_; (case hd => rfl); (case hg => rfl); (case hr => first | (go_simp; done) | (go_simp; rfl)); intro gb1043 hg w17 hbox hb; replace HO1037 := Aside0.mk (Kd.R_below (rp_ HO1037.out) hb); replace HO1042 := Aside0.mk (Kd.S_below (sp_ HO1042.out) hb); have BK1043 := Aside0.mk (hbox); have GW1043 := Aside0.mk ((by rw [hg]; exact (below_size (by repeat (first | (with_reducible first | exact HB.out | apply ba_ | apply bn_ | apply bd_ | apply bs_ GE1031 | apply bs_ GE1032 | apply bs_ GE1033) | exact HB.out))) : w.heap.size ≤ gb1043)); replace HB := Aside0.mk (below_step (by repeat (first | (with_reducible first | exact HB.out | apply ba_ | apply bn_ | apply bd_ | apply bs_ GE1031 | apply bs_ GE1032 | apply bs_ GE1033) | exact HB.out)) hb); have GE1043 := GW1043; have NB1031_1043 := Aside0.mk (nl_ BK1031.out hg); replace BK1031 := Aside0.mk (bb_ BK1031.out hb); have NB1043_1031 := Aside0.mk (NB1031_1043.out.symm); have NB1032_1043 := Aside0.mk (nl_ BK1032.out hg); replace BK1032 := Aside0.mk (bb_ BK1032.out hb); have NB1043_1032 := Aside0.mk (NB1032_1043.out.symm); have NB1033_1043 := Aside0.mk (nl_ BK1033.out hg); replace BK1033 := Aside0.mk (bb_ BK1033.out hb); have NB1043_1033 := Aside0.mk (NB1033_1043.out.symm); clear hb hbox hg; have hnb18 := NB1043_1031.out; have hnc18 := NB1031_1043.out; have hnb19 := NB1043_1032.out; have hnc19 := NB1032_1043.out; have hnb20 := NB1043_1033.out; have hnc20 := NB1033_1043.out; obtain ⟨hcz21_0, hcz21_1, hcz21_2, hcz21_3, hcz21_4, hfz21_0, hfz21_1, hfz21_2, hfz21_3, hfz21_4⟩ := bc5_ BK1043.out; obtain ⟨Ao22, co22, eo22⟩ := Kd.R_slice HO1037.out; subst eo22; obtain ⟨Ao23, co23, eo23⟩ := Kd.S_slice HO1042.out; subst eo23; obtain ⟨hcz24_0, hcz24_1, hcz24_2, hcz24_3, hcz24_4, hfz24_0, hfz24_1, hfz24_2, hfz24_3, hfz24_4⟩ := bc5_ BK1031.out; have hnb25 := NB1032_1033.out; have hnc25 := NB1033_1032.out; obtain ⟨hcz26_0, hcz26_1, hcz26_2, hcz26_3, hfz26_0, hfz26_1, hfz26_2, hfz26_3⟩ := bc4_ BK1032.out) | ((with_reducible refine gate_callee (f := 115) rfl ?_); refine goesL_ (some 13) rfl rfl Try.func115 (by kernel_rfl) rfl #[.slice A0_4 l0_4.length c0_4, .slice A1_0 l1_0.length c1_0] rfl (by (try simp only [mp_]); first | done | rfl | (simp only [List.length_drop, List.length_take]; rfl)) ?_; (with_reducible refine (impl_labelsAt.calls k _ _ l0_4 _ _ l1_0 t1044 _ ?side1 ?side2 ?side3 ?side4 A4.out).mono ?_); (case side1 => exact Kd.C_below HR0_4.out (by repeat (first | (with_reducible first | exact HB.out | apply ba_ | apply bn_ | apply bd_ | apply bs_ GE1031 | apply bs_ GE1032 | apply bs_ GE1033 | apply bs_ GE1043) | exact HB.out))); (case side2 => exact HC0_4.out); (case side3 => exact Kd.C_below HR1_0.out (by repeat (first | (with_reducible first | exact HB.out | apply ba_ | apply bn_ | apply bd_ | apply bs_ GE1031 | apply bs_ GE1032 | apply bs_ GE1033 | apply bs_ GE1043) | exact HB.out))); (case side4 => exact HC1_0.out); rintro e w27 ⟨rfl, hb⟩; refine ⟨_, rfl, ?_⟩; replace HO1037 := Aside0.mk (Kd.R_below (by (with_reducible repeat (first | apply Kd.R_alloc | apply Kd.R_drewN | apply Kd.R_drew)); exact (Kd.R_mono (Kd.R_far (p := ⟨gb1043, 4, none⟩) (Kd.R_far (p := ⟨gb1043, 3, none⟩) (Kd.R_far (p := ⟨gb1043, 2, none⟩) (Kd.R_far (p := ⟨gb1043, 1, none⟩) (Kd.R_far (p := ⟨gb1043, 0, none⟩) (Kd.R_types HO1037.out BK1043.out (by decide)) (fun _ hk => hk.2) (.int .i64 t1034)) (fun _ hk => hk.2) (.slice Ao22 t1035.length co22)) (fun _ hk => hk.2) (.int .i64 t1038)) (fun _ hk => hk.2) (.int .i64 t1039)) (fun _ hk => hk.2) (.slice Ao23 t1040.length co23)) (fun _ h_ => h_.1))) hb); replace HO1042 := Aside0.mk (Kd.S_below (by (with_reducible repeat (first | apply Kd.S_alloc | apply Kd.S_drewN | apply Kd.S_drew)); exact (Kd.S_mono (Kd.S_far (p := ⟨gb1043, 4, none⟩) (Kd.S_far (p := ⟨gb1043, 3, none⟩) (Kd.S_far (p := ⟨gb1043, 2, none⟩) (Kd.S_far (p := ⟨gb1043, 1, none⟩) (Kd.S_far (p := ⟨gb1043, 0, none⟩) (Kd.S_types HO1042.out BK1043.out (by decide)) (fun _ hk => hk.2) (.int .i64 t1034)) (fun _ hk => hk.2) (.slice Ao22 t1035.length co22)) (fun _ hk => hk.2) (.int .i64 t1038)) (fun _ hk => hk.2) (.int .i64 t1039)) (fun _ hk => hk.2) (.slice Ao23 t1040.length co23)) (fun _ h_ => h_.1))) hb); replace BK1031 := Aside0.mk (blk_below (g := gb1031) (o := .cells #[.int .i64 a0_0, .slice A0_1 l0_1.length c0_1, .int .i64 a0_2, .int .i64 a0_3, .slice A0_4 l0_4.length c0_4] 75 (0, 0)) (by (with_reducible repeat (first | refine kn_ ?_ _ | refine kd_ ?_ | refine ka_ ?_ _)); refine blk_far ?_ NB1031_1043.out _; (with_reducible repeat (first | refine kn_ ?_ _ | refine kd_ ?_ | refine ka_ ?_ _)); refine blk_far ?_ NB1031_1043.out _; (with_reducible repeat (first | refine kn_ ?_ _ | refine kd_ ?_ | refine ka_ ?_ _)); refine blk_far ?_ NB1031_1043.out _; (with_reducible repeat (first | refine kn_ ?_ _ | refine kd_ ?_ | refine ka_ ?_ _)); refine blk_far ?_ NB1031_1043.out _; (with_reducible repeat (first | refine kn_ ?_ _ | refine kd_ ?_ | refine ka_ ?_ _)); refine blk_far ?_ NB1031_1043.out _; (with_reducible repeat (first | refine kn_ ?_ _ | refine kd_ ?_ | refine ka_ ?_ _)); exact BK1031.out) hb); replace BK1032 := Aside0.mk (blk_below (g := gb1032) (o := .cells #[.slice A1_0 l1_0.length c1_0, .int .i64 a1_1, .int .i64 a1_2, .string a1_3] 44 (0, 0)) (by (with_reducible repeat (first | refine kn_ ?_ _ | refine kd_ ?_ | refine ka_ ?_ _)); refine blk_far ?_ NB1032_1043.out _; (with_reducible repeat (first | refine kn_ ?_ _ | refine kd_ ?_ | refine ka_ ?_ _)); refine blk_far ?_ NB1032_1043.out _; (with_reducible repeat (first | refine kn_ ?_ _ | refine kd_ ?_ | refine ka_ ?_ _)); refine blk_far ?_ NB1032_1043.out _; (with_reducible repeat (first | refine kn_ ?_ _ | refine kd_ ?_ | refine ka_ ?_ _)); refine blk_far ?_ NB1032_1043.out _; (with_reducible repeat (first | refine kn_ ?_ _ | refine kd_ ?_ | refine ka_ ?_ _)); refine blk_far ?_ NB1032_1043.out _; (with_reducible repeat (first | refine kn_ ?_ _ | refine kd_ ?_ | refine ka_ ?_ _)); exact BK1032.out) hb); replace BK1033 := Aside0.mk (blk_below (g := gb1033) (o := .cells #[.int .i64 0, .slice none 0 0, .int .i64 0, .int .i64 0, .slice none 0 0] 75 (0, 0)) (by (with_reducible repeat (first | refine kn_ ?_ _ | refine kd_ ?_ | refine ka_ ?_ _)); refine blk_far ?_ NB1033_1043.out _; (with_reducible repeat (first | refine kn_ ?_ _ | refine kd_ ?_ | refine ka_ ?_ _)); refine blk_far ?_ NB1033_1043.out _; (with_reducible repeat (first | refine kn_ ?_ _ | refine kd_ ?_ | refine ka_ ?_ _)); refine blk_far ?_ NB1033_1043.out _; (with_reducible repeat (first | refine kn_ ?_ _ | refine kd_ ?_ | refine ka_ ?_ _)); refine blk_far ?_ NB1033_1043.out _; (with_reducible repeat (first | refine kn_ ?_ _ | refine kd_ ?_ | refine ka_ ?_ _)); refine blk_far ?_ NB1033_1043.out _; (with_reducible repeat (first | refine kn_ ?_ _ | refine kd_ ?_ | refine ka_ ?_ _)); exact BK1033.out) hb); replace BK1043 := Aside0.mk (blk_below (g := gb1043) (o := .cells #[.int .i64 t1034, .slice Ao22 t1035.length co22, .int .i64 t1038, .int .i64 t1039, .slice Ao23 t1040.length co23] 75 (0, 0)) (by (with_reducible repeat (first | refine kn_ ?_ _ | refine kd_ ?_ | refine ka_ ?_ _)); refine blk_put (cs := #[.int .i64 t1034, .slice Ao22 t1035.length co22, .int .i64 t1038, .int .i64 t1039, .slice none 0 0]) ?_ 4 _ rfl; (with_reducible repeat (first | refine kn_ ?_ _ | refine kd_ ?_ | refine ka_ ?_ _)); refine blk_put (cs := #[.int .i64 t1034, .slice Ao22 t1035.length co22, .int .i64 t1038, .int .i64 0, .slice none 0 0]) ?_ 3 _ rfl; (with_reducible repeat (first | refine kn_ ?_ _ | refine kd_ ?_ | refine ka_ ?_ _)); refine blk_put (cs := #[.int .i64 t1034, .slice Ao22 t1035.length co22, .int .i64 0, .int .i64 0, .slice none 0 0]) ?_ 2 _ rfl; (with_reducible repeat (first | refine kn_ ?_ _ | refine kd_ ?_ | refine ka_ ?_ _)); refine blk_put (cs := #[.int .i64 t1034, .slice none 0 0, .int .i64 0, .int .i64 0, .slice none 0 0]) ?_ 1 _ rfl; (with_reducible repeat (first | refine kn_ ?_ _ | refine kd_ ?_ | refine ka_ ?_ _)); refine blk_put (cs := #[.int .i64 0, .slice none 0 0, .int .i64 0, .int .i64 0, .slice none 0 0]) ?_ 0 _ rfl; (with_reducible repeat (first | refine kn_ ?_ _ | refine kd_ ?_ | refine ka_ ?_ _)); exact BK1043.out) hb); replace HB := Aside0.mk (below_step (by repeat (first | (with_reducible first | exact HB.out | apply ba_ | apply bn_ | apply bd_ | apply bs_ GE1031 | apply bs_ GE1032 | apply bs_ GE1033 | apply bs_ GE1043) | exact HB.out)) hb); (try clear hb); (try clear hb2); (try clear hk); (try clear hi)))
    replace HO1037 := Aside0.mk (Kd.R_drew HO1037.out)
    replace HO1042 := Aside0.mk (Kd.S_drew HO1042.out)
    replace BK1031 := Aside0.mk (blk_drew BK1031.out)
    replace BK1032 := Aside0.mk (blk_drew BK1032.out)
    replace BK1033 := Aside0.mk (blk_drew BK1033.out)
    replace BK1043 := Aside0.mk (blk_drew BK1043.out)
    replace HB := Aside0.mk (bd_ HB.out)
    refine start_ (n := 7) (S := fun w' => w'.cell? ⟨gb1043, 0, none⟩ = some (.int .i64 t1034) ∧ w'.cell? ⟨gb1043, 1, none⟩ = some (.slice Ao22 t1035.length co22) ∧ w'.cell? ⟨gb1043, 2, none⟩ = some (.int .i64 t1038) ∧ w'.cell? ⟨gb1043, 3, none⟩ = some (.int .i64 t1039) ∧ w'.cell? ⟨gb1043, 4, none⟩ = some (.slice Ao23 t1040.length co23) ∧ w'.cell? ⟨gb1032, 0, none⟩ = some (.slice A1_0 l1_0.length c1_0) ∧ w'.cell? ⟨gb1032, 1, none⟩ = some (.int .i64 a1_1) ∧ w'.cell? ⟨gb1032, 2, none⟩ = some (.int .i64 a1_2) ∧ w'.cell? ⟨gb1032, 3, none⟩ = some (.string a1_3)) (ds := [6]) #[f_,f_,f_,f_,f_,f_,f_] (by kernel_rfl) rfl rfl ⟨bx_ BK1043.out 0, bx_ BK1043.out 1, bx_ BK1043.out 2, bx_ BK1043.out 3, bx_ BK1043.out 4, bx_ BK1032.out 0, bx_ BK1032.out 1, bx_ BK1032.out 2, bx_ BK1032.out 3⟩ (fun hHeld => ?_)
    generalize w27.drew = w28 at HO1037 HO1042 BK1031 BK1032 BK1033 BK1043 HB hHeld ⊢
    refine pure_ (i := 0) (N := some 16) (v := ?_) (a' := ?_) #[t_,f_,f_,f_,f_,f_,f_] rfl rfl (by kernel_rfl) (fun _ _ _ h => h) (Or.inl ⟨by rfl, ?_⟩) ?_ ?_
    rotate_left
    ·
     intro w'
     go_simp
     with_reducible rfl
    rotate_left
    ·
     simp only [fr_]
     rfl
    refine pure_ (i := 2) (N := some 18) (v := ?_) (a' := ?_) #[t_,f_,t_,f_,f_,f_,f_] rfl rfl (by kernel_rfl) (fun _ _ _ h => h) (Or.inl ⟨by rfl, ?_⟩) ?_ ?_
    rotate_left
    ·
     intro w'
     go_simp
     with_reducible rfl
    rotate_left
    ·
     simp only [fr_]
     rfl
    refine take_ (i := 1) (N := some 17) (v := ?_) (a' := ?_) #[t_,t_,t_,f_,f_,f_,f_] rfl rfl (by kernel_rfl) (fun _ _ _ h => h) (Or.inl ⟨by rfl, ?_⟩) hHeld ?_ ?_
    rotate_left
    ·
     rintro w' ⟨s0, s1, s2, s3, s4, s5, s6, s7, s8⟩
     go_simp
     with_reducible rfl
    rotate_left
    ·
     simp only [fr_]
     rfl
    refine take_ (i := 3) (N := some 19) (v := ?_) (a' := ?_) #[t_,t_,t_,t_,f_,f_,f_] rfl rfl (by kernel_rfl) (fun _ _ _ h => h) (Or.inl ⟨by rfl, ?_⟩) hHeld ?_ ?_
    rotate_left
    ·
     rintro w' ⟨s0, s1, s2, s3, s4, s5, s6, s7, s8⟩
     go_simp
     with_reducible rfl
    rotate_left
    ·
     simp only [fr_]
     rfl
    refine one_ (i := 4) (N := some 20) #[t_,t_,t_,t_,t_,f_,f_] rfl rfl (by kernel_rfl) (by decide) (fun K hK => ?_)
    refine goes_ Try.func97 (by kernel_rfl) rfl #[.agg #[.slice A1_0 l1_0.length c1_0, .int .i64 a1_1, .int .i64 a1_2, .string a1_3]] (by rfl) rfl rfl (by (try simp only [mp_]); first | done | rfl | (simp only [List.length_drop, List.length_take]; rfl)) ?_
    with_reducible refine (impl_copyAlarm.calls _ _ l1_0 a1_1 a1_2 a1_3 t1045 t1048 t1049 t1050 _ ?side1 ?side2 A6.out).mono ?_
    (case side1 => exact cp_ ((Kd.C_below HR1_0.out HB.out)))
    (case side2 => exact HC1_0.out)
    rintro e w29 ⟨v1046, rfl, ho0, hb⟩
    refine ⟨_, rfl, ?_⟩
    replace HO1042 := Aside0.mk (Kd.S_elder' (sp_ HO1042.out) (Kd.R_base ho0) hb)
    have HO1047 := Aside0.mk (Kd.R_lower (Kd.R_new' ho0 (Kd.R_lt (rp_ HO1037.out))) (below_size (by repeat (first | (with_reducible first | exact HB.out | apply ba_ | apply bn_ | apply bd_ | apply bs_ GE1031 | apply bs_ GE1032 | apply bs_ GE1033 | apply bs_ GE1043) | exact HB.out))))
    replace HO1037 := Aside0.mk (Kd.R_elder' (rp_ HO1037.out) (Kd.R_base ho0) hb)
    replace BK1031 := Aside0.mk (bb_ BK1031.out hb)
    replace BK1032 := Aside0.mk (bb_ BK1032.out hb)
    replace BK1033 := Aside0.mk (bb_ BK1033.out hb)
    replace BK1043 := Aside0.mk (bb_ BK1043.out hb)
    replace HB := Aside0.mk (below_step (by repeat (first | (with_reducible first | exact HB.out | apply ba_ | apply bn_ | apply bd_ | apply bs_ GE1031 | apply bs_ GE1032 | apply bs_ GE1033 | apply bs_ GE1043) | exact HB.out)) hb)
    (try clear hb)
    (try clear hb2)
    (try clear hk)
    (try clear hi)
    (try clear ho0)
    have p9 : 0 ≤ (t1044 : Int) := of_decide_eq_true (by with_reducible assumption)
    have q9 : (t1044 : Int) < ((t1040.length : Int) : Int) := of_decide_eq_true (by with_reducible assumption)
    obtain ⟨go9, co9, eo9, gb9, gl9, cl9, HG9⟩ := Kd.S_form HO1042.out (by omega)
    (first | cases eo9 | (injection eo9 with ea_ en_ ec_; (first | subst ea_ | (injection ea_ with ea_; subst ea_)); subst ec_; clear en_))
    have GB9 := Aside0.mk gb9
    have GG9 := Aside0.mk HG9
    clear gb9 gl9 HG9
    obtain ⟨_, ce9, hcl9, hM9, hcc9, hfr9, _, _⟩ := Kd.S_elem HO1042.out z44 (t1044 : Int) p9 q9
    obtain ⟨ve9_0, rfl, ge9_0⟩ := k44_openM hM9
    have hx9_0 : World.cell? _ ⟨go9, (t1044 : Int).toNat * 4, none⟩ = some (ve9_0) := hcc9 0 _ rfl
    have hx9_1 : World.cell? _ ⟨go9, (t1044 : Int).toNat * 4 + 1, none⟩ = some (.int .i64 ((rd_T44 t1040 t1044).f1)) := hcc9 1 _ rfl
    have hx9_2 : World.cell? _ ⟨go9, (t1044 : Int).toNat * 4 + 2, none⟩ = some (.int .i64 ((rd_T44 t1040 t1044).f2)) := hcc9 2 _ rfl
    have hx9_3 : World.cell? _ ⟨go9, (t1044 : Int).toNat * 4 + 3, none⟩ = some (.string ((rd_T44 t1040 t1044).f3)) := hcc9 3 _ rfl
    have hf9_0 : World.frozen? _ ⟨go9, (t1044 : Int).toNat * 4, none⟩ = false := hfr9 0
    have hf9_1 : World.frozen? _ ⟨go9, (t1044 : Int).toNat * 4 + 1, none⟩ = false := hfr9 1
    have hf9_2 : World.frozen? _ ⟨go9, (t1044 : Int).toNat * 4 + 2, none⟩ = false := hfr9 2
    have hf9_3 : World.frozen? _ ⟨go9, (t1044 : Int).toNat * 4 + 3, none⟩ = false := hfr9 3
    clear hcl9 hcc9 hfr9 hM9
    replace p9 := eq_true p9
    replace q9 := eq_true q9
    obtain ⟨Ao31, co31, eo31⟩ := Kd.R_slice HO1047.out
    (first | subst eo31 | (injection eo31 with f1_ f2_ f3_; have f4_ := f1_.symm; have f5_ := f3_.symm; clear f1_ f2_ f3_; subst f4_; subst f5_))
    have HX30 := Aside0.mk (show Kd.S k44 44 _ w.heap.size (fun k_ => ((fun k_ => some k_ ≠ (.slice Ao22 t1035.length co22 : Value).ownBlock ∧ k_ ≠ gb1032)) k_ ∧ ¬ ((fun k_ => some k_ = (.slice Ao31 t1045.length co31 : Value).ownBlock)) k_) (.slice (some ⟨go9, 0, none⟩) t1040.length co23) t1040 from (Kd.S_mono HO1042.out (fun k_ hk => ⟨⟨hk.1.1, hk.1.2⟩, fun e_ => hk.2 e_⟩)))
    obtain ⟨oki30, ce30, hcl30, hM30, hcc30, hfr30, hoki30, hH30⟩ := Kd.S_elem HX30.out z44 (t1044 : Int) (of_decide_eq_true (by with_reducible assumption)) (by have h_ : (t1044 : Int) < ((t1040.length : Int) : Int) := of_decide_eq_true (by with_reducible assumption); first | exact h_ | (have e_ := (Kd.S_reads' HO1042.out).1; omega) | simpa using h_)
    obtain ⟨ve30_0, rfl, ge30_0⟩ := k44_openM hM30
    have HP30 := (Kd.S_seg hH30 (of_decide_eq_true (by with_reducible assumption)) (by have h_ : (t1044 : Int) < ((t1040.length : Int) : Int) := of_decide_eq_true (by with_reducible assumption); first | exact h_ | (have e_ := (Kd.S_reads' HO1042.out).1; omega) | simpa using h_) (seg := [.slice Ao31 t1045.length co31, .int .i64 t1048, .int .i64 t1049, .string t1050]) (j := 0) (show 4 ≤ 4 from by decide) (x' := (⟨t1045, t1048, t1049, t1050⟩ : S44)) (okg := (fun k_ => some k_ = (.slice Ao31 t1045.length co31 : Value).ownBlock)) (okp := fun k_ => oki30 k_ ∨ ((fun k_ => some k_ = (.slice Ao31 t1045.length co31 : Value).ownBlock)) k_) (k44_mkM _ _ _ (⟨t1045, t1048, t1049, t1050⟩ : S44) (Kd.R_mono (Kd.R_tight rfl (Kd.R_mono (ok' := fun k_ => ((fun k_ => some k_ ≠ (.slice Ao22 t1035.length co22 : Value).ownBlock ∧ k_ ≠ gb1032)) k_ ∧ k_ ≠ go9) (Kd.R_types (Kd.R_apart' (HO1047.out) (Kd.S_typed HO1042.out) (by decide)) BK1032.out (by decide)) (fun k_ hk => ⟨⟨hk.1.1.2, hk.2⟩, fun e_ => (hk.1.2) (by rw [e_]; rfl)⟩))) (fun _ h_ => Or.inr (h_)))) (fun _ hk => hk) (fun k_ hk_ => ((Kd.R_mono (ok' := fun k_ => ((fun k_ => some k_ ≠ (.slice Ao22 t1035.length co22 : Value).ownBlock ∧ k_ ≠ gb1032)) k_ ∧ k_ ≠ go9) (Kd.R_types (Kd.R_apart' (HO1047.out) (Kd.S_typed HO1042.out) (by decide)) BK1032.out (by decide)) (fun k_ hk => ⟨⟨hk.1.1.2, hk.2⟩, fun e_ => (hk.1.2) (by rw [e_]; rfl)⟩))).1 k_ hk_.symm)).1
    rw [← Ny1051.out] at HP30
    have HQ30 := Aside0.mk HP30
    clear hcl30 hcc30 hfr30 hM30 HP30
    refine hK.out _ _ ⟨bx_ BK1043.out 0, bx_ BK1043.out 1, bx_ BK1043.out 2, bx_ BK1043.out 3, bx_ BK1043.out 4, bx_ BK1032.out 0, bx_ BK1032.out 1, bx_ BK1032.out 2, bx_ BK1032.out 3⟩ (fun hHeld => ?_)
    clear hK K
    refine norm_ (a' := ?_) ?_ ?_
    rotate_left
    ·
     show Act.put _ (some 20) _ = _
     simp only [fr_]
     rfl
    refine pure_ (i := 5) (N := some 21) (v := ?_) (a' := ?_) #[t_,t_,t_,t_,t_,t_,f_] rfl rfl (by kernel_rfl) (fun _ _ _ h => h) (Or.inl ⟨by rfl, ?_⟩) ?_ ?_
    rotate_left
    ·
     intro w'
     go_simp
     with_reducible rfl
    rotate_left
    ·
     simp only [fr_]
     rfl
    refine last_ (i := 6) (N := none) #[t_,t_,t_,t_,t_,t_,t_] rfl rfl (by kernel_rfl) (by decide) (fun K hK => ?_)
    refine skip_ (w1 := ?_) (by rfl) rfl ?_ ?_
    rotate_left
    ·
     go_simp
     rfl
    refine hK.out _ _ ?_
    clear hK K
    refine done_ (by kernel_rfl) ?_
    have n0_ : Aside0 (Kd.R k164 164 ((((w29.setCell ⟨go9, (t1044 : Int).toNat * 4, none⟩ (.slice Ao31 t1045.length co31)).setCell ⟨go9, (t1044 : Int).toNat * 4 + 1, none⟩ (.int .i64 t1048)).setCell ⟨go9, (t1044 : Int).toNat * 4 + 2, none⟩ (.int .i64 t1049)).setCell ⟨go9, (t1044 : Int).toNat * 4 + 3, none⟩ (.string t1050)) w.heap.size (fun _ => True) (.slice Ao22 t1035.length co22) t1035) := ⟨by (with_reducible repeat (first | apply Kd.R_alloc | apply Kd.R_drewN | apply Kd.R_drew)); exact Kd.R_mono (Kd.R_far (p := ⟨go9, (t1044 : Int).toNat * 4 + 3, none⟩) (Kd.R_far (p := ⟨go9, (t1044 : Int).toNat * 4 + 2, none⟩) (Kd.R_far (p := ⟨go9, (t1044 : Int).toNat * 4 + 1, none⟩) (Kd.R_far (p := ⟨go9, (t1044 : Int).toNat * 4, none⟩) (Kd.R_types HO1037.out GG9.out (by decide)) (fun _ hk => hk.2) (.slice Ao31 t1045.length co31)) (fun _ hk => hk.2) (.int .i64 t1048)) (fun _ hk => hk.2) (.int .i64 t1049)) (fun _ hk => hk.2) (.string t1050)) (fun _ hk => trivial)⟩
    have n1_ : Aside0 (Kd.S k44 44 ((((w29.setCell ⟨go9, (t1044 : Int).toNat * 4, none⟩ (.slice Ao31 t1045.length co31)).setCell ⟨go9, (t1044 : Int).toNat * 4 + 1, none⟩ (.int .i64 t1048)).setCell ⟨go9, (t1044 : Int).toNat * 4 + 2, none⟩ (.int .i64 t1049)).setCell ⟨go9, (t1044 : Int).toNat * 4 + 3, none⟩ (.string t1050)) w.heap.size (fun k_ => some k_ ≠ (.slice Ao22 t1035.length co22 : Value).ownBlock ∧ k_ ≠ gb1032) (.slice (some ⟨go9, 0, none⟩) t1040.length co23) y1051) := ⟨by (with_reducible repeat (first | apply Kd.S_alloc | apply Kd.S_drewN | apply Kd.S_drew)); exact HQ30.out⟩
    have n2_ : Aside0 (((((w29.setCell ⟨go9, (t1044 : Int).toNat * 4, none⟩ (.slice Ao31 t1045.length co31)).setCell ⟨go9, (t1044 : Int).toNat * 4 + 1, none⟩ (.int .i64 t1048)).setCell ⟨go9, (t1044 : Int).toNat * 4 + 2, none⟩ (.int .i64 t1049)).setCell ⟨go9, (t1044 : Int).toNat * 4 + 3, none⟩ (.string t1050)).heap[gb1031]? = some (.cells #[.int .i64 a0_0, .slice A0_1 l0_1.length c0_1, .int .i64 a0_2, .int .i64 a0_3, .slice A0_4 l0_4.length c0_4] 75 (0, 0))) := ⟨by (with_reducible repeat (first | refine kn_ ?_ _ | refine kd_ ?_ | refine ka_ ?_ _)); refine blk_far ?_ (by have h_ := Kd.S_ne HO1042.out BK1031.out (by decide); intro e_; exact h_ (by rw [e_]; rfl)) _; (with_reducible repeat (first | refine kn_ ?_ _ | refine kd_ ?_ | refine ka_ ?_ _)); refine blk_far ?_ (by have h_ := Kd.S_ne HO1042.out BK1031.out (by decide); intro e_; exact h_ (by rw [e_]; rfl)) _; (with_reducible repeat (first | refine kn_ ?_ _ | refine kd_ ?_ | refine ka_ ?_ _)); refine blk_far ?_ (by have h_ := Kd.S_ne HO1042.out BK1031.out (by decide); intro e_; exact h_ (by rw [e_]; rfl)) _; (with_reducible repeat (first | refine kn_ ?_ _ | refine kd_ ?_ | refine ka_ ?_ _)); refine blk_far ?_ (by have h_ := Kd.S_ne HO1042.out BK1031.out (by decide); intro e_; exact h_ (by rw [e_]; rfl)) _; (with_reducible repeat (first | refine kn_ ?_ _ | refine kd_ ?_ | refine ka_ ?_ _)); exact BK1031.out⟩
    have n3_ : Aside0 (((((w29.setCell ⟨go9, (t1044 : Int).toNat * 4, none⟩ (.slice Ao31 t1045.length co31)).setCell ⟨go9, (t1044 : Int).toNat * 4 + 1, none⟩ (.int .i64 t1048)).setCell ⟨go9, (t1044 : Int).toNat * 4 + 2, none⟩ (.int .i64 t1049)).setCell ⟨go9, (t1044 : Int).toNat * 4 + 3, none⟩ (.string t1050)).heap[gb1032]? = some (.cells #[.slice A1_0 l1_0.length c1_0, .int .i64 a1_1, .int .i64 a1_2, .string a1_3] 44 (0, 0))) := ⟨by (with_reducible repeat (first | refine kn_ ?_ _ | refine kd_ ?_ | refine ka_ ?_ _)); refine blk_far ?_ (by have h_ := Kd.S_away HO1042.out (fun _ hk => hk.1.2); intro e_; exact h_ (by rw [e_]; rfl)) _; (with_reducible repeat (first | refine kn_ ?_ _ | refine kd_ ?_ | refine ka_ ?_ _)); refine blk_far ?_ (by have h_ := Kd.S_away HO1042.out (fun _ hk => hk.1.2); intro e_; exact h_ (by rw [e_]; rfl)) _; (with_reducible repeat (first | refine kn_ ?_ _ | refine kd_ ?_ | refine ka_ ?_ _)); refine blk_far ?_ (by have h_ := Kd.S_away HO1042.out (fun _ hk => hk.1.2); intro e_; exact h_ (by rw [e_]; rfl)) _; (with_reducible repeat (first | refine kn_ ?_ _ | refine kd_ ?_ | refine ka_ ?_ _)); refine blk_far ?_ (by have h_ := Kd.S_away HO1042.out (fun _ hk => hk.1.2); intro e_; exact h_ (by rw [e_]; rfl)) _; (with_reducible repeat (first | refine kn_ ?_ _ | refine kd_ ?_ | refine ka_ ?_ _)); exact BK1032.out⟩
    have n4_ : Aside0 (((((w29.setCell ⟨go9, (t1044 : Int).toNat * 4, none⟩ (.slice Ao31 t1045.length co31)).setCell ⟨go9, (t1044 : Int).toNat * 4 + 1, none⟩ (.int .i64 t1048)).setCell ⟨go9, (t1044 : Int).toNat * 4 + 2, none⟩ (.int .i64 t1049)).setCell ⟨go9, (t1044 : Int).toNat * 4 + 3, none⟩ (.string t1050)).heap[gb1033]? = some (.cells #[.int .i64 0, .slice none 0 0, .int .i64 0, .int .i64 0, .slice none 0 0] 75 (0, 0))) := ⟨by (with_reducible repeat (first | refine kn_ ?_ _ | refine kd_ ?_ | refine ka_ ?_ _)); refine blk_far ?_ (by have h_ := Kd.S_ne HO1042.out BK1033.out (by decide); intro e_; exact h_ (by rw [e_]; rfl)) _; (with_reducible repeat (first | refine kn_ ?_ _ | refine kd_ ?_ | refine ka_ ?_ _)); refine blk_far ?_ (by have h_ := Kd.S_ne HO1042.out BK1033.out (by decide); intro e_; exact h_ (by rw [e_]; rfl)) _; (with_reducible repeat (first | refine kn_ ?_ _ | refine kd_ ?_ | refine ka_ ?_ _)); refine blk_far ?_ (by have h_ := Kd.S_ne HO1042.out BK1033.out (by decide); intro e_; exact h_ (by rw [e_]; rfl)) _; (with_reducible repeat (first | refine kn_ ?_ _ | refine kd_ ?_ | refine ka_ ?_ _)); refine blk_far ?_ (by have h_ := Kd.S_ne HO1042.out BK1033.out (by decide); intro e_; exact h_ (by rw [e_]; rfl)) _; (with_reducible repeat (first | refine kn_ ?_ _ | refine kd_ ?_ | refine ka_ ?_ _)); exact BK1033.out⟩
    have n5_ : Aside0 (((((w29.setCell ⟨go9, (t1044 : Int).toNat * 4, none⟩ (.slice Ao31 t1045.length co31)).setCell ⟨go9, (t1044 : Int).toNat * 4 + 1, none⟩ (.int .i64 t1048)).setCell ⟨go9, (t1044 : Int).toNat * 4 + 2, none⟩ (.int .i64 t1049)).setCell ⟨go9, (t1044 : Int).toNat * 4 + 3, none⟩ (.string t1050)).heap[gb1043]? = some (.cells #[.int .i64 t1034, .slice Ao22 t1035.length co22, .int .i64 t1038, .int .i64 t1039, .slice (some ⟨go9, 0, none⟩) t1040.length co23] 75 (0, 0))) := ⟨by (with_reducible repeat (first | refine kn_ ?_ _ | refine kd_ ?_ | refine ka_ ?_ _)); refine blk_far ?_ (by have h_ := Kd.S_ne HO1042.out BK1043.out (by decide); intro e_; exact h_ (by rw [e_]; rfl)) _; (with_reducible repeat (first | refine kn_ ?_ _ | refine kd_ ?_ | refine ka_ ?_ _)); refine blk_far ?_ (by have h_ := Kd.S_ne HO1042.out BK1043.out (by decide); intro e_; exact h_ (by rw [e_]; rfl)) _; (with_reducible repeat (first | refine kn_ ?_ _ | refine kd_ ?_ | refine ka_ ?_ _)); refine blk_far ?_ (by have h_ := Kd.S_ne HO1042.out BK1043.out (by decide); intro e_; exact h_ (by rw [e_]; rfl)) _; (with_reducible repeat (first | refine kn_ ?_ _ | refine kd_ ?_ | refine ka_ ?_ _)); refine blk_far ?_ (by have h_ := Kd.S_ne HO1042.out BK1043.out (by decide); intro e_; exact h_ (by rw [e_]; rfl)) _; (with_reducible repeat (first | refine kn_ ?_ _ | refine kd_ ?_ | refine ka_ ?_ _)); exact BK1043.out⟩
    have n6_ : Aside0 (Below w.heap.size w ((((w29.setCell ⟨go9, (t1044 : Int).toNat * 4, none⟩ (.slice Ao31 t1045.length co31)).setCell ⟨go9, (t1044 : Int).toNat * 4 + 1, none⟩ (.int .i64 t1048)).setCell ⟨go9, (t1044 : Int).toNat * 4 + 2, none⟩ (.int .i64 t1049)).setCell ⟨go9, (t1044 : Int).toNat * 4 + 3, none⟩ (.string t1050))) := ⟨by repeat (first | (with_reducible first | exact HB.out | apply ba_ | apply bn_ | apply bd_ | refine below_set ?_ GB9.out | refine below_set ?_ GB9.out | refine below_set ?_ GB9.out | refine below_set ?_ GB9.out | apply bs_ GE1031 | apply bs_ GE1032 | apply bs_ GE1033 | apply bs_ GE1043) | exact HB.out)⟩
    (try clear HO1037)
    (try clear HO1042)
    (try clear BK1031)
    (try clear BK1032)
    (try clear BK1033)
    (try clear BK1043)
    (try clear HB)
    generalize ((((w29.setCell ⟨go9, (t1044 : Int).toNat * 4, none⟩ (.slice Ao31 t1045.length co31)).setCell ⟨go9, (t1044 : Int).toNat * 4 + 1, none⟩ (.int .i64 t1048)).setCell ⟨go9, (t1044 : Int).toNat * 4 + 2, none⟩ (.int .i64 t1049)).setCell ⟨go9, (t1044 : Int).toNat * 4 + 3, none⟩ (.string t1050)) = w32 at n0_ n1_ n2_ n3_ n4_ n5_ n6_ ⊢
    have HO1037 := n0_
    have HO1042 := n1_
    have BK1031 := n2_
    have BK1032 := n3_
    have BK1033 := n4_
    have BK1043 := n5_
    have HB := n6_
    clear n0_ n1_ n2_ n3_ n4_ n5_ n6_
    obtain ⟨hcz33_0, hcz33_1, hcz33_2, hcz33_3, hcz33_4, hfz33_0, hfz33_1, hfz33_2, hfz33_3, hfz33_4⟩ := bc5_ BK1043.out
    obtain ⟨hcz34_0, hcz34_1, hcz34_2, hcz34_3, hcz34_4, hfz34_0, hfz34_1, hfz34_2, hfz34_3, hfz34_4⟩ := bc5_ BK1033.out
    try go_wp2
    refine bodyPost_ret (results_cell_row rfl _ _ gb1033 75 #[.int .i64 t1034, .slice Ao22 t1035.length co22, .int .i64 t1038, .int .i64 t1039, .slice (some ⟨go9, 0, none⟩) t1040.length co23] (0, 0) _ rfl (by (with_reducible repeat (first | refine kn_ ?_ _ | refine kd_ ?_ | refine ka_ ?_ _)); refine blk_put (cs := #[.int .i64 t1034, .slice Ao22 t1035.length co22, .int .i64 t1038, .int .i64 t1039, .slice none 0 0]) ?_ 4 _ rfl; (with_reducible repeat (first | refine kn_ ?_ _ | refine kd_ ?_ | refine ka_ ?_ _)); refine blk_put (cs := #[.int .i64 t1034, .slice Ao22 t1035.length co22, .int .i64 t1038, .int .i64 0, .slice none 0 0]) ?_ 3 _ rfl; (with_reducible repeat (first | refine kn_ ?_ _ | refine kd_ ?_ | refine ka_ ?_ _)); refine blk_put (cs := #[.int .i64 t1034, .slice Ao22 t1035.length co22, .int .i64 0, .int .i64 0, .slice none 0 0]) ?_ 2 _ rfl; (with_reducible repeat (first | refine kn_ ?_ _ | refine kd_ ?_ | refine ka_ ?_ _)); refine blk_put (cs := #[.int .i64 t1034, .slice none 0 0, .int .i64 0, .int .i64 0, .slice none 0 0]) ?_ 1 _ rfl; (with_reducible repeat (first | refine kn_ ?_ _ | refine kd_ ?_ | refine ka_ ?_ _)); refine blk_put (cs := #[.int .i64 0, .slice none 0 0, .int .i64 0, .int .i64 0, .slice none 0 0]) ?_ 0 _ rfl; (with_reducible repeat (first | refine kn_ ?_ _ | refine kd_ ?_ | refine ka_ ?_ _)); exact BK1033.out) Try.underlying75 rfl (by kernel_rfl)) rfl ?_
    exact ⟨_, _, by first | rfl | (simp [errW_none, errW_some] <;> rfl) | (simp [*, errW_none, errW_some] <;> rfl), by (with_reducible repeat (first | apply Kd.R_alloc | apply Kd.R_drewN | apply Kd.R_drew)); exact Kd.R_mono (Kd.R_far (p := ⟨gb1033, 4, none⟩) (Kd.R_far (p := ⟨gb1033, 3, none⟩) (Kd.R_far (p := ⟨gb1033, 2, none⟩) (Kd.R_far (p := ⟨gb1033, 1, none⟩) (Kd.R_far (p := ⟨gb1033, 0, none⟩) (Kd.R_types HO1037.out BK1033.out (by decide)) (fun _ hk => hk.2) (.int .i64 t1034)) (fun _ hk => hk.2) (.slice Ao22 t1035.length co22)) (fun _ hk => hk.2) (.int .i64 t1038)) (fun _ hk => hk.2) (.int .i64 t1039)) (fun _ hk => hk.2) (.slice (some ⟨go9, 0, none⟩) t1040.length co23)) (fun _ hk => trivial), by (with_reducible repeat (first | apply Kd.S_alloc | apply Kd.S_drewN | apply Kd.S_drew)); exact Kd.S_mono (Kd.S_far (p := ⟨gb1033, 4, none⟩) (Kd.S_far (p := ⟨gb1033, 3, none⟩) (Kd.S_far (p := ⟨gb1033, 2, none⟩) (Kd.S_far (p := ⟨gb1033, 1, none⟩) (Kd.S_far (p := ⟨gb1033, 0, none⟩) (Kd.S_types HO1042.out BK1033.out (by decide)) (fun _ hk => hk.2) (.int .i64 t1034)) (fun _ hk => hk.2) (.slice Ao22 t1035.length co22)) (fun _ hk => hk.2) (.int .i64 t1038)) (fun _ hk => hk.2) (.int .i64 t1039)) (fun _ hk => hk.2) (.slice (some ⟨go9, 0, none⟩) t1040.length co23)) (fun _ hk => hk.1.1), by repeat (first | (with_reducible first | exact HB.out | apply ba_ | apply bn_ | apply bd_ | apply bs_ GE1031 | apply bs_ GE1032 | apply bs_ GE1033 | apply bs_ GE1043) | exact HB.out)⟩
   rw [if_neg c8] at H
   exact absurd H (by simp)
  rw [if_neg c7] at H
  exact absurd H (by simp)
 rw [if_neg c5] at H
 have c5b0 : decide (0 ≤ t1044) = false := decide_eq_false c5
 clear c5
 replace H := Option.bind_eq_some_iff.mp H
 obtain ⟨t1052, A350, H⟩ := H
 have A35 := Aside0.mk A350
 clear A350
 simp only [Option.some.injEq, Prod.mk.injEq] at H
 obtain ⟨rfl, rfl, rfl, rfl, rfl⟩ := H
 go_enter Try.func57, Try.ntmps57
 go_wp2_with (first | ((with_reducible refine gate_dst (N := 2) rfl ?_); refine box_event ?hg (N := 2) ?hd (cs := #[.int .i64 a0_0, .slice A0_1 l0_1.length c0_1, .int .i64 a0_2, .int .i64 a0_3, .slice A0_4 l0_4.length c0_4]) (t := 75) ?hr ?_; (case hd => rfl); (case hg => rfl); (case hr => first | (go_simp; done) | (go_simp; rfl)); intro gb1031 hg w36 hbox hb; have BK1031 := Aside0.mk (hbox); have GW1031 := Aside0.mk ((by rw [hg]; exact (below_size (hb_ HB.out)) : w.heap.size ≤ gb1031)); replace HB := Aside0.mk (below_step (hb_ HB.out) hb); have GE1031 := GW1031; clear hb hbox hg) | ((with_reducible refine gate_dst (N := 3) rfl ?_); refine box_event ?hg (N := 3) ?hd (cs := #[.slice A1_0 l1_0.length c1_0, .int .i64 a1_1, .int .i64 a1_2, .string a1_3]) (t := 44) ?hr ?_; (case hd => rfl); (case hg => rfl); (case hr => first | (go_simp; done) | (go_simp; rfl)); intro gb1032 hg w37 hbox hb; have BK1032 := Aside0.mk (hbox); have GW1032 := Aside0.mk ((by rw [hg]; exact (below_size (by repeat (first | (with_reducible first | exact HB.out | apply ba_ | apply bn_ | apply bd_ | apply bs_ GE1031) | exact HB.out))) : w.heap.size ≤ gb1032)); replace HB := Aside0.mk (below_step (by repeat (first | (with_reducible first | exact HB.out | apply ba_ | apply bn_ | apply bd_ | apply bs_ GE1031) | exact HB.out)) hb); have GE1032 := GW1032; have NB1031_1032 := Aside0.mk (nl_ BK1031.out hg); replace BK1031 := Aside0.mk (bb_ BK1031.out hb); have NB1032_1031 := Aside0.mk (NB1031_1032.out.symm); clear hb hbox hg) | ((with_reducible refine gate_dst (N := 4) rfl ?_); refine box_event ?hg (N := 4) ?hd (cs := #[.int .i64 0, .slice none 0 0, .int .i64 0, .int .i64 0, .slice none 0 0]) (t := 75) ?hr ?_; (case hd => rfl); (case hg => rfl); (case hr => first | (go_simp; done) | (go_simp; rfl)); intro gb1033 hg w38 hbox hb; have BK1033 := Aside0.mk (hbox); have GW1033 := Aside0.mk ((by rw [hg]; exact (below_size (by repeat (first | (with_reducible first | exact HB.out | apply ba_ | apply bn_ | apply bd_ | apply bs_ GE1031 | apply bs_ GE1032) | exact HB.out))) : w.heap.size ≤ gb1033)); replace HB := Aside0.mk (below_step (by repeat (first | (with_reducible first | exact HB.out | apply ba_ | apply bn_ | apply bd_ | apply bs_ GE1031 | apply bs_ GE1032) | exact HB.out)) hb); have GE1033 := GW1033; have NB1031_1033 := Aside0.mk (nl_ BK1031.out hg); replace BK1031 := Aside0.mk (bb_ BK1031.out hb); have NB1033_1031 := Aside0.mk (NB1031_1033.out.symm); have NB1032_1033 := Aside0.mk (nl_ BK1032.out hg); replace BK1032 := Aside0.mk (bb_ BK1032.out hb); have NB1033_1032 := Aside0.mk (NB1032_1033.out.symm); clear hb hbox hg; have hnb39 := NB1031_1032.out; have hnc39 := NB1032_1031.out; have hnb40 := NB1031_1033.out; have hnc40 := NB1033_1031.out; obtain ⟨hcz41_0, hcz41_1, hcz41_2, hcz41_3, hcz41_4, hfz41_0, hfz41_1, hfz41_2, hfz41_3, hfz41_4⟩ := bc5_ BK1031.out) | ((with_reducible refine gate_callee (f := 114) rfl ?_); refine goesL_ (some 8) rfl rfl Try.func114 (by kernel_rfl) rfl #[.agg #[.int .i64 a0_0, .slice A0_1 l0_1.length c0_1, .int .i64 a0_2, .int .i64 a0_3, .slice A0_4 l0_4.length c0_4]] rfl (by (try simp only [mp_]); first | done | rfl | (simp only [List.length_drop, List.length_take]; rfl)) ?_; (with_reducible refine (impl_copyGroup.calls k a0_0 _ _ l0_1 a0_2 a0_3 _ _ l0_4 t1034 t1035 t1038 t1039 t1040 _ ?side1 ?side2 ?side3 ?side4 A3.out).mono ?_); (case side1 => exact cp_ ((Kd.C_below HR0_1.out HB.out))); (case side2 => exact HC0_1.out); (case side3 => exact cp_ ((Kd.C_below HR0_4.out HB.out))); (case side4 => exact HC0_4.out); rintro e w42 ⟨v1036, v1041, rfl, ho0, ho1, hb⟩; refine ⟨_, rfl, ?_⟩; have HO1037 := Aside0.mk (Kd.R_lower ho0 (below_size (by repeat (first | (with_reducible first | exact HB.out | apply ba_ | apply bn_ | apply bd_ | apply bs_ GE1031 | apply bs_ GE1032 | apply bs_ GE1033) | exact HB.out)))); have HO1042 := Aside0.mk (Kd.S_lower (Kd.S_newB ho1 (g := gb1032) (o := .cells #[.slice A1_0 l1_0.length c1_0, .int .i64 a1_1, .int .i64 a1_2, .string a1_3] 44 (0, 0)) (pb_ BK1032.out)) (below_size (by repeat (first | (with_reducible first | exact HB.out | apply ba_ | apply bn_ | apply bd_ | apply bs_ GE1031 | apply bs_ GE1032 | apply bs_ GE1033) | exact HB.out)))); replace BK1031 := Aside0.mk (bb_ BK1031.out hb); replace BK1032 := Aside0.mk (bb_ BK1032.out hb); replace BK1033 := Aside0.mk (bb_ BK1033.out hb); replace HB := Aside0.mk (below_step (by repeat (first | (with_reducible first | exact HB.out | apply ba_ | apply bn_ | apply bd_ | apply bs_ GE1031 | apply bs_ GE1032 | apply bs_ GE1033) | exact HB.out)) hb); (try clear hb); (try clear hb2); (try clear hk); (try clear hi); (try clear ho0); (try clear ho1)) | ((with_reducible refine gate_dst (N := 5) rfl ?_); refine box_event ?hg (N := 5) ?hd (cs := #[.int .i64 0, .slice none 0 0, .int .i64 0, .int .i64 0, .slice none 0 0]) (t := 75) ?hr ?_; (case hd => rfl); (case hg => rfl); (case hr => first | (go_simp; done) | (go_simp; rfl)); intro gb1043 hg w43 hbox hb; replace HO1037 := Aside0.mk (Kd.R_below (rp_ HO1037.out) hb); replace HO1042 := Aside0.mk (Kd.S_below (sp_ HO1042.out) hb); have BK1043 := Aside0.mk (hbox); have GW1043 := Aside0.mk ((by rw [hg]; exact (below_size (by repeat (first | (with_reducible first | exact HB.out | apply ba_ | apply bn_ | apply bd_ | apply bs_ GE1031 | apply bs_ GE1032 | apply bs_ GE1033) | exact HB.out))) : w.heap.size ≤ gb1043)); replace HB := Aside0.mk (below_step (by repeat (first | (with_reducible first | exact HB.out | apply ba_ | apply bn_ | apply bd_ | apply bs_ GE1031 | apply bs_ GE1032 | apply bs_ GE1033) | exact HB.out)) hb); have GE1043 := GW1043; have NB1031_1043 := Aside0.mk (nl_ BK1031.out hg); replace BK1031 := Aside0.mk (bb_ BK1031.out hb); have NB1043_1031 := Aside0.mk (NB1031_1043.out.symm); have NB1032_1043 := Aside0.mk (nl_ BK1032.out hg); replace BK1032 := Aside0.mk (bb_ BK1032.out hb); have NB1043_1032 := Aside0.mk (NB1032_1043.out.symm); have NB1033_1043 := Aside0.mk (nl_ BK1033.out hg); replace BK1033 := Aside0.mk (bb_ BK1033.out hb); have NB1043_1033 := Aside0.mk (NB1033_1043.out.symm); clear hb hbox hg; have hnb44 := NB1043_1031.out; have hnc44 := NB1031_1043.out; have hnb45 := NB1043_1032.out; have hnc45 := NB1032_1043.out; have hnb46 := NB1043_1033.out; have hnc46 := NB1033_1043.out; obtain ⟨hcz47_0, hcz47_1, hcz47_2, hcz47_3, hcz47_4, hfz47_0, hfz47_1, hfz47_2, hfz47_3, hfz47_4⟩ := bc5_ BK1043.out; obtain ⟨Ao48, co48, eo48⟩ := Kd.R_slice HO1037.out; subst eo48; obtain ⟨Ao49, co49, eo49⟩ := Kd.S_slice HO1042.out; subst eo49; obtain ⟨hcz50_0, hcz50_1, hcz50_2, hcz50_3, hcz50_4, hfz50_0, hfz50_1, hfz50_2, hfz50_3, hfz50_4⟩ := bc5_ BK1031.out; have hnb51 := NB1032_1033.out; have hnc51 := NB1033_1032.out; obtain ⟨hcz52_0, hcz52_1, hcz52_2, hcz52_3, hfz52_0, hfz52_1, hfz52_2, hfz52_3⟩ := bc4_ BK1032.out) | ((with_reducible refine gate_callee (f := 115) rfl ?_); refine goesL_ (some 13) rfl rfl Try.func115 (by kernel_rfl) rfl #[.slice A0_4 l0_4.length c0_4, .slice A1_0 l1_0.length c1_0] rfl (by (try simp only [mp_]); first | done | rfl | (simp only [List.length_drop, List.length_take]; rfl)) ?_; (with_reducible refine (impl_labelsAt.calls k _ _ l0_4 _ _ l1_0 t1044 _ ?side1 ?side2 ?side3 ?side4 A4.out).mono ?_); (case side1 => exact Kd.C_below HR0_4.out (by repeat (first | (with_reducible first | exact HB.out | apply ba_ | apply bn_ | apply bd_ | apply bs_ GE1031 | apply bs_ GE1032 | apply bs_ GE1033 | apply bs_ GE1043) | exact HB.out))); (case side2 => exact HC0_4.out); (case side3 => exact Kd.C_below HR1_0.out (by repeat (first | (with_reducible first | exact HB.out | apply ba_ | apply bn_ | apply bd_ | apply bs_ GE1031 | apply bs_ GE1032 | apply bs_ GE1033 | apply bs_ GE1043) | exact HB.out))); (case side4 => exact HC1_0.out); rintro e w53 ⟨rfl, hb⟩; refine ⟨_, rfl, ?_⟩; replace HO1037 := Aside0.mk (Kd.R_below (by (with_reducible repeat (first | apply Kd.R_alloc | apply Kd.R_drewN | apply Kd.R_drew)); exact (Kd.R_mono (Kd.R_far (p := ⟨gb1043, 4, none⟩) (Kd.R_far (p := ⟨gb1043, 3, none⟩) (Kd.R_far (p := ⟨gb1043, 2, none⟩) (Kd.R_far (p := ⟨gb1043, 1, none⟩) (Kd.R_far (p := ⟨gb1043, 0, none⟩) (Kd.R_types HO1037.out BK1043.out (by decide)) (fun _ hk => hk.2) (.int .i64 t1034)) (fun _ hk => hk.2) (.slice Ao48 t1035.length co48)) (fun _ hk => hk.2) (.int .i64 t1038)) (fun _ hk => hk.2) (.int .i64 t1039)) (fun _ hk => hk.2) (.slice Ao49 t1040.length co49)) (fun _ h_ => h_.1))) hb); replace HO1042 := Aside0.mk (Kd.S_below (by (with_reducible repeat (first | apply Kd.S_alloc | apply Kd.S_drewN | apply Kd.S_drew)); exact (Kd.S_mono (Kd.S_far (p := ⟨gb1043, 4, none⟩) (Kd.S_far (p := ⟨gb1043, 3, none⟩) (Kd.S_far (p := ⟨gb1043, 2, none⟩) (Kd.S_far (p := ⟨gb1043, 1, none⟩) (Kd.S_far (p := ⟨gb1043, 0, none⟩) (Kd.S_types HO1042.out BK1043.out (by decide)) (fun _ hk => hk.2) (.int .i64 t1034)) (fun _ hk => hk.2) (.slice Ao48 t1035.length co48)) (fun _ hk => hk.2) (.int .i64 t1038)) (fun _ hk => hk.2) (.int .i64 t1039)) (fun _ hk => hk.2) (.slice Ao49 t1040.length co49)) (fun _ h_ => h_.1))) hb); replace BK1031 := Aside0.mk (blk_below (g := gb1031) (o := .cells #[.int .i64 a0_0, .slice A0_1 l0_1.length c0_1, .int .i64 a0_2, .int .i64 a0_3, .slice A0_4 l0_4.length c0_4] 75 (0, 0)) (by (with_reducible repeat (first | refine kn_ ?_ _ | refine kd_ ?_ | refine ka_ ?_ _)); refine blk_far ?_ NB1031_1043.out _; (with_reducible repeat (first | refine kn_ ?_ _ | refine kd_ ?_ | refine ka_ ?_ _)); refine blk_far ?_ NB1031_1043.out _; (with_reducible repeat (first | refine kn_ ?_ _ | refine kd_ ?_ | refine ka_ ?_ _)); refine blk_far ?_ NB1031_1043.out _; (with_reducible repeat (first | refine kn_ ?_ _ | refine kd_ ?_ | refine ka_ ?_ _)); refine blk_far ?_ NB1031_1043.out _; (with_reducible repeat (first | refine kn_ ?_ _ | refine kd_ ?_ | refine ka_ ?_ _)); refine blk_far ?_ NB1031_1043.out _; (with_reducible repeat (first | refine kn_ ?_ _ | refine kd_ ?_ | refine ka_ ?_ _)); exact BK1031.out) hb); replace BK1032 := Aside0.mk (blk_below (g := gb1032) (o := .cells #[.slice A1_0 l1_0.length c1_0, .int .i64 a1_1, .int .i64 a1_2, .string a1_3] 44 (0, 0)) (by (with_reducible repeat (first | refine kn_ ?_ _ | refine kd_ ?_ | refine ka_ ?_ _)); refine blk_far ?_ NB1032_1043.out _; (with_reducible repeat (first | refine kn_ ?_ _ | refine kd_ ?_ | refine ka_ ?_ _)); refine blk_far ?_ NB1032_1043.out _; (with_reducible repeat (first | refine kn_ ?_ _ | refine kd_ ?_ | refine ka_ ?_ _)); refine blk_far ?_ NB1032_1043.out _; (with_reducible repeat (first | refine kn_ ?_ _ | refine kd_ ?_ | refine ka_ ?_ _)); refine blk_far ?_ NB1032_1043.out _; (with_reducible repeat (first | refine kn_ ?_ _ | refine kd_ ?_ | refine ka_ ?_ _)); refine blk_far ?_ NB1032_1043.out _; (with_reducible repeat (first | refine kn_ ?_ _ | refine kd_ ?_ | refine ka_ ?_ _)); exact BK1032.out) hb); replace BK1033 := Aside0.mk (blk_below (g := gb1033) (o := .cells #[.int .i64 0, .slice none 0 0, .int .i64 0, .int .i64 0, .slice none 0 0] 75 (0, 0)) (by (with_reducible repeat (first | refine kn_ ?_ _ | refine kd_ ?_ | refine ka_ ?_ _)); refine blk_far ?_ NB1033_1043.out _; (with_reducible repeat (first | refine kn_ ?_ _ | refine kd_ ?_ | refine ka_ ?_ _)); refine blk_far ?_ NB1033_1043.out _; (with_reducible repeat (first | refine kn_ ?_ _ | refine kd_ ?_ | refine ka_ ?_ _)); refine blk_far ?_ NB1033_1043.out _; (with_reducible repeat (first | refine kn_ ?_ _ | refine kd_ ?_ | refine ka_ ?_ _)); refine blk_far ?_ NB1033_1043.out _; (with_reducible repeat (first | refine kn_ ?_ _ | refine kd_ ?_ | refine ka_ ?_ _)); refine blk_far ?_ NB1033_1043.out _; (with_reducible repeat (first | refine kn_ ?_ _ | refine kd_ ?_ | refine ka_ ?_ _)); exact BK1033.out) hb); replace BK1043 := Aside0.mk (blk_below (g := gb1043) (o := .cells #[.int .i64 t1034, .slice Ao48 t1035.length co48, .int .i64 t1038, .int .i64 t1039, .slice Ao49 t1040.length co49] 75 (0, 0)) (by (with_reducible repeat (first | refine kn_ ?_ _ | refine kd_ ?_ | refine ka_ ?_ _)); refine blk_put (cs := #[.int .i64 t1034, .slice Ao48 t1035.length co48, .int .i64 t1038, .int .i64 t1039, .slice none 0 0]) ?_ 4 _ rfl; (with_reducible repeat (first | refine kn_ ?_ _ | refine kd_ ?_ | refine ka_ ?_ _)); refine blk_put (cs := #[.int .i64 t1034, .slice Ao48 t1035.length co48, .int .i64 t1038, .int .i64 0, .slice none 0 0]) ?_ 3 _ rfl; (with_reducible repeat (first | refine kn_ ?_ _ | refine kd_ ?_ | refine ka_ ?_ _)); refine blk_put (cs := #[.int .i64 t1034, .slice Ao48 t1035.length co48, .int .i64 0, .int .i64 0, .slice none 0 0]) ?_ 2 _ rfl; (with_reducible repeat (first | refine kn_ ?_ _ | refine kd_ ?_ | refine ka_ ?_ _)); refine blk_put (cs := #[.int .i64 t1034, .slice none 0 0, .int .i64 0, .int .i64 0, .slice none 0 0]) ?_ 1 _ rfl; (with_reducible repeat (first | refine kn_ ?_ _ | refine kd_ ?_ | refine ka_ ?_ _)); refine blk_put (cs := #[.int .i64 0, .slice none 0 0, .int .i64 0, .int .i64 0, .slice none 0 0]) ?_ 0 _ rfl; (with_reducible repeat (first | refine kn_ ?_ _ | refine kd_ ?_ | refine ka_ ?_ _)); exact BK1043.out) hb); replace HB := Aside0.mk (below_step (by repeat (first | (with_reducible first | exact HB.out | apply ba_ | apply bn_ | apply bd_ | apply bs_ GE1031 | apply bs_ GE1032 | apply bs_ GE1033 | apply bs_ GE1043) | exact HB.out)) hb); (try clear hb); (try clear hb2); (try clear hk); (try clear hi); obtain ⟨hcz54_0, hcz54_1, hcz54_2, hcz54_3, hcz54_4, hfz54_0, hfz54_1, hfz54_2, hfz54_3, hfz54_4⟩ := bc5_ BK1031.out; obtain ⟨hcz55_0, hcz55_1, hcz55_2, hcz55_3, hfz55_0, hfz55_1, hfz55_2, hfz55_3⟩ := bc4_ BK1032.out) | ((with_reducible refine gate_callee (f := 116) rfl ?_); refine goesL_ (some 25) rfl rfl Try.func116 (by kernel_rfl) rfl #[.slice A0_4 l0_4.length c0_4, .agg #[.slice A1_0 l1_0.length c1_0, .int .i64 a1_1, .int .i64 a1_2, .string a1_3]] rfl (by (try simp only [mp_]); first | done | rfl | (simp only [List.length_drop, List.length_take]; rfl)) ?_; (with_reducible refine (impl_inserted.calls k _ _ l0_4 _ _ l1_0 a1_1 a1_2 a1_3 t1052 _ ?side1 ?side2 ?side3 ?side4 A35.out).mono ?_); (case side1 => exact cp_ ((Kd.C_below HR0_4.out HB.out))); (case side2 => exact HC0_4.out); (case side3 => exact cp_ ((Kd.C_below HR1_0.out HB.out))); (case side4 => exact HC1_0.out); rintro e w56 ⟨v1053, rfl, ho0, hb⟩; refine ⟨_, rfl, ?_⟩; have HO1054 := Aside0.mk (Kd.S_lower (Kd.S_newB (Kd.S_new' (Kd.S_new' ho0 (Kd.R_lt (rp_ HO1037.out))) (Kd.S_lt (sp_ HO1042.out))) (g := gb1032) (o := .cells #[.slice A1_0 l1_0.length c1_0, .int .i64 a1_1, .int .i64 a1_2, .string a1_3] 44 (0, 0)) (pb_ BK1032.out)) (below_size (by repeat (first | (with_reducible first | exact HB.out | apply ba_ | apply bn_ | apply bd_ | apply bs_ GE1031 | apply bs_ GE1032 | apply bs_ GE1033 | apply bs_ GE1043) | exact HB.out)))); replace HO1037 := Aside0.mk (Kd.R_below (rp_ HO1037.out) hb); replace HO1042 := Aside0.mk (Kd.S_elder' (sp_ HO1042.out) (Kd.S_base ho0) hb); replace BK1031 := Aside0.mk (bb_ BK1031.out hb); replace BK1032 := Aside0.mk (bb_ BK1032.out hb); replace BK1033 := Aside0.mk (bb_ BK1033.out hb); replace BK1043 := Aside0.mk (bb_ BK1043.out hb); replace HB := Aside0.mk (below_step (by repeat (first | (with_reducible first | exact HB.out | apply ba_ | apply bn_ | apply bd_ | apply bs_ GE1031 | apply bs_ GE1032 | apply bs_ GE1033 | apply bs_ GE1043) | exact HB.out)) hb); (try clear hb); (try clear hb2); (try clear hk); (try clear hi); (try clear ho0); obtain ⟨Ao57, co57, eo57⟩ := Kd.S_slice HO1054.out; subst eo57; obtain ⟨hcz58_0, hcz58_1, hcz58_2, hcz58_3, hcz58_4, hfz58_0, hfz58_1, hfz58_2, hfz58_3, hfz58_4⟩ := bc5_ BK1043.out; obtain ⟨hcz59_0, hcz59_1, hcz59_2, hcz59_3, hcz59_4, hfz59_0, hfz59_1, hfz59_2, hfz59_3, hfz59_4⟩ := bc5_ BK1033.out))
 refine bodyPost_ret (results_cell_row rfl _ _ gb1033 75 #[.int .i64 t1034, .slice Ao48 t1035.length co48, .int .i64 t1038, .int .i64 t1039, .slice Ao57 t1052.length co57] (0, 0) _ rfl (by (with_reducible repeat (first | refine kn_ ?_ _ | refine kd_ ?_ | refine ka_ ?_ _)); refine blk_put (cs := #[.int .i64 t1034, .slice Ao48 t1035.length co48, .int .i64 t1038, .int .i64 t1039, .slice none 0 0]) ?_ 4 _ rfl; (with_reducible repeat (first | refine kn_ ?_ _ | refine kd_ ?_ | refine ka_ ?_ _)); refine blk_put (cs := #[.int .i64 t1034, .slice Ao48 t1035.length co48, .int .i64 t1038, .int .i64 0, .slice none 0 0]) ?_ 3 _ rfl; (with_reducible repeat (first | refine kn_ ?_ _ | refine kd_ ?_ | refine ka_ ?_ _)); refine blk_put (cs := #[.int .i64 t1034, .slice Ao48 t1035.length co48, .int .i64 0, .int .i64 0, .slice none 0 0]) ?_ 2 _ rfl; (with_reducible repeat (first | refine kn_ ?_ _ | refine kd_ ?_ | refine ka_ ?_ _)); refine blk_put (cs := #[.int .i64 t1034, .slice none 0 0, .int .i64 0, .int .i64 0, .slice none 0 0]) ?_ 1 _ rfl; (with_reducible repeat (first | refine kn_ ?_ _ | refine kd_ ?_ | refine ka_ ?_ _)); refine blk_put (cs := #[.int .i64 0, .slice none 0 0, .int .i64 0, .int .i64 0, .slice none 0 0]) ?_ 0 _ rfl; (with_reducible repeat (first | refine kn_ ?_ _ | refine kd_ ?_ | refine ka_ ?_ _)); refine blk_far ?_ NB1033_1043.out _; (with_reducible repeat (first | refine kn_ ?_ _ | refine kd_ ?_ | refine ka_ ?_ _)); exact BK1033.out) Try.underlying75 rfl (by kernel_rfl)) rfl ?_
 exact ⟨_, _, by first | rfl | (simp [errW_none, errW_some] <;> rfl) | (simp [*, errW_none, errW_some] <;> rfl), by (with_reducible repeat (first | apply Kd.R_alloc | apply Kd.R_drewN | apply Kd.R_drew)); exact Kd.R_mono (Kd.R_far (p := ⟨gb1033, 4, none⟩) (Kd.R_far (p := ⟨gb1033, 3, none⟩) (Kd.R_far (p := ⟨gb1033, 2, none⟩) (Kd.R_far (p := ⟨gb1033, 1, none⟩) (Kd.R_far (p := ⟨gb1033, 0, none⟩) (Kd.R_far (p := ⟨gb1043, 4, none⟩) (Kd.R_types (Kd.R_types HO1037.out BK1043.out (by decide)) BK1033.out (by decide)) (fun _ hk => hk.1.2) (.slice Ao57 t1052.length co57)) (fun _ hk => hk.2) (.int .i64 t1034)) (fun _ hk => hk.2) (.slice Ao48 t1035.length co48)) (fun _ hk => hk.2) (.int .i64 t1038)) (fun _ hk => hk.2) (.int .i64 t1039)) (fun _ hk => hk.2) (.slice Ao57 t1052.length co57)) (fun _ hk => trivial), by (with_reducible repeat (first | apply Kd.S_alloc | apply Kd.S_drewN | apply Kd.S_drew)); exact Kd.S_mono (Kd.S_far (p := ⟨gb1033, 4, none⟩) (Kd.S_far (p := ⟨gb1033, 3, none⟩) (Kd.S_far (p := ⟨gb1033, 2, none⟩) (Kd.S_far (p := ⟨gb1033, 1, none⟩) (Kd.S_far (p := ⟨gb1033, 0, none⟩) (Kd.S_far (p := ⟨gb1043, 4, none⟩) (Kd.S_types (Kd.S_types HO1054.out BK1043.out (by decide)) BK1033.out (by decide)) (fun _ hk => hk.1.2) (.slice Ao57 t1052.length co57)) (fun _ hk => hk.2) (.int .i64 t1034)) (fun _ hk => hk.2) (.slice Ao48 t1035.length co48)) (fun _ hk => hk.2) (.int .i64 t1038)) (fun _ hk => hk.2) (.int .i64 t1039)) (fun _ hk => hk.2) (.slice Ao57 t1052.length co57)) (fun _ hk => hk.1.1.1.1.2), by repeat (first | (with_reducible first | exact HB.out | apply ba_ | apply bn_ | apply bd_ | apply bs_ GE1031 | apply bs_ GE1032 | apply bs_ GE1033 | apply bs_ GE1043) | exact HB.out)⟩
def impl_GroupOf.l0 : Nat → List (S164) → List (S75) → Int → Int → Option (Int)
 | 0, _, _, _, _ => none
 | k + 1, x1, x7, x8, x9 => if x9 < x8 then (if 0 ≤ x9 then (if x9 < (x7.length : Int) then ((impl_SameSet.f k ((rd_T75 x7 x9).f1) x1).bind fun t1194 => (if t1194 = true then (some x9) else (impl_GroupOf.l0 k x1 x7 x8 (wrap64 (x9 + 1))))) else (none)) else (none)) else (some (-1))
def impl_GroupOf.f (k : Nat) (l0 : List (S75)) (l1 : List (S164)) : Option (Int) := impl_GroupOf.l0 k l1 l0 (l0.length : Int) 0
theorem impl_GroupOf.mono_l : ∀ k, (∀ y0 y1 y2 y3, LeO (impl_GroupOf.l0 k y0 y1 y2 y3) (impl_GroupOf.l0 (k + 1) y0 y1 y2 y3))
 | 0 => fun _ _ _ _ r h => by simp [impl_GroupOf.l0] at h
 | k + 1 => by
  have ih0 := impl_GroupOf.mono_l k
  intro y0 y1 y2 y3
  unfold impl_GroupOf.l0
  repeat' first
  | (with_reducible exact ih0 _ _ _ _)
  | (with_reducible exact impl_SameSet.mono _ _ _)
  | (with_reducible exact LeO.refl _)
  | (with_reducible exact LeO.none _)
  | (with_reducible refine LeO.ite ?_ ?_)
  | (with_reducible refine LeO.bind ?_ (fun _ => ?_))
  | exact ih0 _ _ _ _
  | exact impl_SameSet.mono _ _ _
theorem impl_GroupOf.mono : ∀ a0 a1 k, LeO (impl_GroupOf.f k a0 a1) (impl_GroupOf.f (k + 1) a0 a1) := by
 intro a0 a1 k
 have ih0 := impl_GroupOf.mono_l k
 unfold impl_GroupOf.f
 repeat' first
   | (with_reducible exact ih0 _ _ _ _)
   | (with_reducible exact impl_SameSet.mono _ _ _)
   | (with_reducible exact LeO.refl _)
   | (with_reducible exact LeO.none _)
   | (with_reducible refine LeO.ite ?_ ?_)
   | (with_reducible refine LeO.bind ?_ (fun _ => ?_))
   | exact ih0 _ _ _ _
   | exact impl_SameSet.mono _ _ _
theorem impl_GroupOf.calls (k : Nat) (A0 : Option Addr) (c0 : Nat) (l0 : List (S75)) (A1 : Option Addr) (c1 : Nat) (l1 : List (S164)) (r : Int) (w : World) (hr0 : Kd.C k75 w A0 l0.length l0) (hc0 : l0.length ≤ c0) (hr1 : Kd.C k164 w A1 l1.length l1) (hc1 : l1.length ≤ c1) (h : impl_GroupOf.f k l0 l1 = some r) :
  Calls Try.prog 117 #[.slice A0 l0.length c0, .slice A1 l1.length c1] w fun e w' => e = .returned (.int .i64 r) ∧ Below w.heap.size w w' := by
 have hu75 := Try.underlying75
 have HR0 := Aside0.mk hr0
 have HC0 := Aside0.mk hc0
 clear hr0 hc0
 have HR1 := Aside0.mk hr1
 have HC1 := Aside0.mk hc1
 clear hr1 hc1
 have HB := Aside0.mk (Below.refl w.heap.size w)
 have H : (impl_GroupOf.l0 k l1 l0 (l0.length : Int) 0) = some r := h
 clear h
 have H' := Aside0.mk H
 clear H
 go_enter Try.func117, Try.ntmps117
 go_wp2
 go_loopg [9] k (fun kq v9 w' => ∃ (x9_1 : Int), v9 = .int .i64 x9_1 ∧ Aside0 (impl_GroupOf.l0 kq l1 l0 (l0.length : Int) x9_1 = some r) ∧ Aside0 (kq ≤ k) ∧ Aside0 (Below w.heap.size w w'))
 case atStart => exact ⟨(0), (by first | rfl | (simp; done) | (simp [*]; done)), H', ⟨Nat.le_refl _⟩, ⟨by exact hb_ HB.out⟩⟩
 case round =>
  clear H'
  try clear c1
  try clear p2
  obtain ⟨x9_1, rfl, HA, HK1, HB⟩ := hrel
  cases gk with
  | zero => exact absurd HA.out (by simp [impl_GroupOf.l0])
  | succ k1 =>
   have H := HA.out
   clear HA
   simp only [impl_GroupOf.l0] at H
   by_cases c3 : x9_1 < (l0.length : Int)
   ·
    rw [if_pos c3] at H
    have c3b0 := decide_eq_true c3
    clear c3
    by_cases c4 : 0 ≤ x9_1
    ·
     rw [if_pos c4] at H
     have c4b0 := decide_eq_true c4
     clear c4
     by_cases c5 : x9_1 < (l0.length : Int)
     ·
      rw [if_pos c5] at H
      have c5b0 := decide_eq_true c5
      clear c5
      replace H := Option.bind_eq_some_iff.mp H
      obtain ⟨t1194, A60, H⟩ := H
      have A6 := Aside0.mk A60
      clear A60
      by_cases c7 : t1194 = true
      ·
       subst c7
       rw [if_pos rfl] at H
       obtain rfl := Option.some.inj H
       have p1192 : 0 ≤ (x9_1 : Int) := of_decide_eq_true (by with_reducible assumption)
       have q1192 : x9_1 < (l0.length : Int) := of_decide_eq_true (by with_reducible assumption)
       obtain ⟨ad1192, A1192_1, c1192_1, A1192_4, c1192_4, e1192, hx1192_0, hx1192_1, hx1192_2, hx1192_3, hx1192_4, hl1192_1, hi1192_1, hl1192_4, hi1192_4⟩ := at_T75 HR0.out x9_1 p1192 q1192
       cases e1192
       replace hx1192_0 := cl_ HB.out hx1192_0
       replace hx1192_1 := cl_ HB.out hx1192_1
       replace hx1192_2 := cl_ HB.out hx1192_2
       replace hx1192_3 := cl_ HB.out hx1192_3
       replace hx1192_4 := cl_ HB.out hx1192_4
       have HR1192_1 := Aside0.mk hi1192_1
       have HC1192_1 := Aside0.mk hl1192_1
       clear hi1192_1 hl1192_1
       have HR1192_4 := Aside0.mk hi1192_4
       have HC1192_4 := Aside0.mk hl1192_4
       clear hi1192_4 hl1192_4
       replace p1192 := eq_true p1192
       replace q1192 := eq_true q1192
       go_wp2_with (first | ((with_reducible refine gate_dst (N := 6) rfl ?_); refine box_event ?hg (N := 6) ?hd (cs := #[.int .i64 0, .slice none 0 0, .int .i64 0, .int .i64 0, .slice none 0 0]) (t := 75) ?hr ?_; (case hd => rfl); (case hg => rfl); (case hr => first | (go_simp; done) | (go_simp; rfl)); intro gb1193 hg w8 hbox hb; have BK1193 := Aside0.mk (hbox); have GW1193 := Aside0.mk ((by rw [hg]; exact (below_size (hb_ HB.out)) : w.heap.size ≤ gb1193)); replace HB := Aside0.mk (below_step (hb_ HB.out) hb); have GE1193 := GW1193; clear hb hbox hg; obtain ⟨hcz9_0, hcz9_1, hcz9_2, hcz9_3, hcz9_4, hfz9_0, hfz9_1, hfz9_2, hfz9_3, hfz9_4⟩ := bc5_ BK1193.out) | ((with_reducible refine gate_callee (f := 139) rfl ?_); refine goesL_ (some 17) rfl rfl Try.func139 (by kernel_rfl) rfl #[.slice A1192_1 ((rd_T75 l0 x9_1).f1).length c1192_1, .slice A1 l1.length c1] rfl (by (try simp only [mp_]); first | done | rfl | (simp only [List.length_drop, List.length_take]; rfl)) ?_; (with_reducible refine (impl_SameSet.calls k1 _ _ ((rd_T75 l0 x9_1).f1) _ _ l1 true _ ?side1 ?side2 ?side3 ?side4 A6.out).mono ?_); (case side1 => exact Kd.C_below HR1192_1.out (by repeat (first | (with_reducible first | exact HB.out | apply ba_ | apply bn_ | apply bd_ | apply bs_ GE1193) | exact HB.out))); (case side2 => exact HC1192_1.out); (case side3 => exact Kd.C_below HR1.out (by repeat (first | (with_reducible first | exact HB.out | apply ba_ | apply bn_ | apply bd_ | apply bs_ GE1193) | exact HB.out))); (case side4 => exact HC1.out); rintro e w' ⟨rfl, ⟨nd, rfl⟩⟩; refine ⟨_, rfl, ?_⟩))
       go_ret
       exact ⟨by first | rfl | (simp [errW_none, errW_some] <;> rfl) | (simp [*, errW_none, errW_some] <;> rfl), by repeat (first | (with_reducible first | exact HB.out | apply ba_ | apply bn_ | apply bd_ | apply bs_ GE1193) | exact HB.out)⟩
      replace c7 := Bool.eq_false_iff.mpr c7
      subst c7
      rw [if_neg (show ¬ (false = true) by decide)] at H
      have H' := Aside0.mk H
      clear H
      have p1192 : 0 ≤ (x9_1 : Int) := of_decide_eq_true (by with_reducible assumption)
      have q1192 : x9_1 < (l0.length : Int) := of_decide_eq_true (by with_reducible assumption)
      obtain ⟨ad1192, A1192_1, c1192_1, A1192_4, c1192_4, e1192, hx1192_0, hx1192_1, hx1192_2, hx1192_3, hx1192_4, hl1192_1, hi1192_1, hl1192_4, hi1192_4⟩ := at_T75 HR0.out x9_1 p1192 q1192
      cases e1192
      replace hx1192_0 := cl_ HB.out hx1192_0
      replace hx1192_1 := cl_ HB.out hx1192_1
      replace hx1192_2 := cl_ HB.out hx1192_2
      replace hx1192_3 := cl_ HB.out hx1192_3
      replace hx1192_4 := cl_ HB.out hx1192_4
      have HR1192_1 := Aside0.mk hi1192_1
      have HC1192_1 := Aside0.mk hl1192_1
      clear hi1192_1 hl1192_1
      have HR1192_4 := Aside0.mk hi1192_4
      have HC1192_4 := Aside0.mk hl1192_4
      clear hi1192_4 hl1192_4
      replace p1192 := eq_true p1192
      replace q1192 := eq_true q1192
      go_wp2_with (first | ((with_reducible refine gate_dst (N := 6) rfl ?_); refine box_event ?hg (N := 6) ?hd (cs := #[.int .i64 0, .slice none 0 0, .int .i64 0, .int .i64 0, .slice none 0 0]) (t := 75) ?hr ?_; (case hd => rfl); (case hg => rfl); (case hr => first | (go_simp; done) | (go_simp; rfl)); intro gb1193 hg w10 hbox hb; have BK1193 := Aside0.mk (hbox); have GW1193 := Aside0.mk ((by rw [hg]; exact (below_size (hb_ HB.out)) : w.heap.size ≤ gb1193)); replace HB := Aside0.mk (below_step (hb_ HB.out) hb); have GE1193 := GW1193; clear hb hbox hg; obtain ⟨hcz11_0, hcz11_1, hcz11_2, hcz11_3, hcz11_4, hfz11_0, hfz11_1, hfz11_2, hfz11_3, hfz11_4⟩ := bc5_ BK1193.out) | ((with_reducible refine gate_callee (f := 139) rfl ?_); refine goesL_ (some 17) rfl rfl Try.func139 (by kernel_rfl) rfl #[.slice A1192_1 ((rd_T75 l0 x9_1).f1).length c1192_1, .slice A1 l1.length c1] rfl (by (try simp only [mp_]); first | done | rfl | (simp only [List.length_drop, List.length_take]; rfl)) ?_; (with_reducible refine (impl_SameSet.calls k1 _ _ ((rd_T75 l0 x9_1).f1) _ _ l1 false _ ?side1 ?side2 ?side3 ?side4 A6.out).mono ?_); (case side1 => exact Kd.C_below HR1192_1.out (by repeat (first | (with_reducible first | exact HB.out | apply ba_ | apply bn_ | apply bd_ | apply bs_ GE1193) | exact HB.out))); (case side2 => exact HC1192_1.out); (case side3 => exact Kd.C_below HR1.out (by repeat (first | (with_reducible first | exact HB.out | apply ba_ | apply bn_ | apply bd_ | apply bs_ GE1193) | exact HB.out))); (case side4 => exact HC1.out); rintro e w' ⟨rfl, ⟨nd, rfl⟩⟩; refine ⟨_, rfl, ?_⟩))
      go_roundg k1
      case measure => have := HK1.out; omega
      case rel => exact ⟨(wrap64 (x9_1 + 1)), (by first | rfl | (simp; done) | (simp [*]; done)), H', ⟨by have := HK1.out; omega⟩, ⟨by repeat (first | (with_reducible first | exact HB.out | apply ba_ | apply bn_ | apply bd_ | apply bs_ GE1193) | exact HB.out)⟩⟩
     rw [if_neg c5] at H
     exact absurd H (by simp)
    rw [if_neg c4] at H
    exact absurd H (by simp)
   rw [if_neg c3] at H
   have c3b0 : decide (x9_1 < (l0.length : Int)) = false := decide_eq_false c3
   clear c3
   obtain rfl := Option.some.inj H
   go_wp2
   go_ret
   exact ⟨by first | rfl | (simp [errW_none, errW_some] <;> rfl) | (simp [*, errW_none, errW_some] <;> rfl), by exact hb_ HB.out⟩
def impl_copyGroups.l0 : Nat → List (S75) → List (S75) → Int → Int → Option ((List (S75)))
 | 0, _, _, _, _ => none
 | k + 1, x3, x6, x7, x8 => if x8 < x7 then (if 0 ≤ x8 then (if x8 < (x6.length : Int) then ((impl_copyGroup.f k ((rd_T75 x6 x8).f0) ((rd_T75 x6 x8).f1) ((rd_T75 x6 x8).f2) ((rd_T75 x6 x8).f3) ((rd_T75 x6 x8).f4)).bind fun bt1451 => (if x3.length < 1954687338268 then (impl_copyGroups.l0 k (x3 ++ [(⟨bt1451.1, bt1451.2.1, bt1451.2.2.1, bt1451.2.2.2.1, bt1451.2.2.2.2⟩ : S75)]) x6 x7 (wrap64 (x8 + 1))) else (none))) else (none)) else (none)) else (some x3)
def impl_copyGroups.f (k : Nat) (l0 : List (S75)) : Option ((List (S75))) := impl_copyGroups.l0 k ([] : List (S75)) l0 (l0.length : Int) 0
theorem impl_copyGroups.mono_l : ∀ k, (∀ y0 y1 y2 y3, LeO (impl_copyGroups.l0 k y0 y1 y2 y3) (impl_copyGroups.l0 (k + 1) y0 y1 y2 y3))
 | 0 => fun _ _ _ _ r h => by simp [impl_copyGroups.l0] at h
 | k + 1 => by
  have ih0 := impl_copyGroups.mono_l k
  intro y0 y1 y2 y3
  unfold impl_copyGroups.l0
  repeat' first
  | (with_reducible exact ih0 _ _ _ _)
  | (with_reducible exact impl_copyGroup.mono _ _ _ _ _ _)
  | (with_reducible exact LeO.refl _)
  | (with_reducible exact LeO.none _)
  | (with_reducible refine LeO.ite ?_ ?_)
  | (with_reducible refine LeO.bind ?_ (fun _ => ?_))
  | exact ih0 _ _ _ _
  | exact impl_copyGroup.mono _ _ _ _ _ _
theorem impl_copyGroups.mono : ∀ a0 k, LeO (impl_copyGroups.f k a0) (impl_copyGroups.f (k + 1) a0) := by
 intro a0 k
 have ih0 := impl_copyGroups.mono_l k
 unfold impl_copyGroups.f
 repeat' first
   | (with_reducible exact ih0 _ _ _ _)
   | (with_reducible exact impl_copyGroup.mono _ _ _ _ _ _)
   | (with_reducible exact LeO.refl _)
   | (with_reducible exact LeO.none _)
   | (with_reducible refine LeO.ite ?_ ?_)
   | (with_reducible refine LeO.bind ?_ (fun _ => ?_))
   | exact ih0 _ _ _ _
   | exact impl_copyGroup.mono _ _ _ _ _ _
theorem impl_copyGroups.calls (k : Nat) (A0 : Option Addr) (c0 : Nat) (l0 : List (S75)) (r : List (S75)) (w : World) (hr0 : Kd.C k75 w A0 l0.length l0) (hc0 : l0.length ≤ c0) (h : impl_copyGroups.f k l0 = some r) :
  Calls Try.prog 129 #[.slice A0 l0.length c0] w fun e w' => ∃ v0_ : Value, e = .returned (v0_) ∧ Kd.S k75 75 w' w.heap.size (fun _ => True) v0_ r ∧ Below w.heap.size w w' := by
 have hu75 := Try.underlying75
 have HR0 := Aside0.mk hr0
 have HC0 := Aside0.mk hc0
 clear hr0 hc0
 have HB := Aside0.mk (Below.refl w.heap.size w)
 have H : (impl_copyGroups.l0 k ([] : List (S75)) l0 (l0.length : Int) 0) = some r := h
 clear h
 have H' := Aside0.mk H
 clear H
 go_enter Try.func129, Try.ntmps129
 go_wp2
 go_loopg [3, 8] k (fun kq v3 v8 w' => ∃ (x3_1 : List (S75)) (x8_1 : Int), v8 = .int .i64 x8_1 ∧ Aside0 (impl_copyGroups.l0 kq x3_1 l0 (l0.length : Int) x8_1 = some r) ∧ Aside0 (kq ≤ k) ∧ Aside0 (Kd.S k75 75 w' w.heap.size (fun _ => True) v3 x3_1) ∧ Aside0 (Below w.heap.size w w'))
 case atStart => exact ⟨(([] : List (S75))), (0), (by first | rfl | (simp; done) | (simp [*]; done)), H', ⟨Nat.le_refl _⟩, ⟨by first | exact Kd.S_nil _ _ _ _ _ | exact Kd.N_nil _ _ _ _ _ | exact Kd.V_nil _ _ _ _ _ | exact Kd.Q_nil _ _ _ _ _ | exact Kd.R_nil _ _ _ _ _⟩, ⟨by exact hb_ HB.out⟩⟩
 case round =>
  clear H'
  try clear c1
  obtain ⟨x3_1, x8_1, rfl, HA, HK1, HO_3, HB⟩ := hrel
  cases gk with
  | zero => exact absurd HA.out (by simp [impl_copyGroups.l0])
  | succ k1 =>
   have H := HA.out
   clear HA
   simp only [impl_copyGroups.l0] at H
   by_cases c2 : x8_1 < (l0.length : Int)
   ·
    rw [if_pos c2] at H
    have c2b0 := decide_eq_true c2
    clear c2
    by_cases c3 : 0 ≤ x8_1
    ·
     rw [if_pos c3] at H
     have c3b0 := decide_eq_true c3
     clear c3
     by_cases c4 : x8_1 < (l0.length : Int)
     ·
      rw [if_pos c4] at H
      have c4b0 := decide_eq_true c4
      clear c4
      replace H := Option.bind_eq_some_iff.mp H
      obtain ⟨⟨t1451, t1452, t1455, t1456, t1457⟩, A50, H⟩ := H
      have A5 := Aside0.mk A50
      clear A50
      by_cases c6 : x3_1.length < 1954687338268
      ·
       rw [if_pos c6] at H
       have LMc6 := Aside0.mk c6
       clear c6
       obtain ⟨y1460, hy1460⟩ : ∃ y_ : List (S75), y_ = (x3_1 ++ [(⟨t1451, t1452, t1455, t1456, t1457⟩ : S75)]) := ⟨_, rfl⟩
       replace H : (impl_copyGroups.l0 k1 y1460 l0 (l0.length : Int) (wrap64 (x8_1 + 1))) = some r := by first | (rw [hy1460]; with_reducible exact H) | (have H2_ := (Option.bind_some _ _).symm.trans H; rw [hy1460]; with_reducible exact H2_) | (have H2_ := (Option.bind_some _ _).symm.trans H; with_reducible exact H2_) | with_reducible exact H | (rw [hy1460]; exact H) | exact H
       have Ny1460 := Aside0.mk hy1460
       clear hy1460
       have H' := Aside0.mk H
       clear H
       have p1449 : 0 ≤ (x8_1 : Int) := of_decide_eq_true (by with_reducible assumption)
       have q1449 : x8_1 < (l0.length : Int) := of_decide_eq_true (by with_reducible assumption)
       obtain ⟨ad1449, A1449_1, c1449_1, A1449_4, c1449_4, e1449, hx1449_0, hx1449_1, hx1449_2, hx1449_3, hx1449_4, hl1449_1, hi1449_1, hl1449_4, hi1449_4⟩ := at_T75 HR0.out x8_1 p1449 q1449
       cases e1449
       replace hx1449_0 := cl_ HB.out hx1449_0
       replace hx1449_1 := cl_ HB.out hx1449_1
       replace hx1449_2 := cl_ HB.out hx1449_2
       replace hx1449_3 := cl_ HB.out hx1449_3
       replace hx1449_4 := cl_ HB.out hx1449_4
       have HR1449_1 := Aside0.mk hi1449_1
       have HC1449_1 := Aside0.mk hl1449_1
       clear hi1449_1 hl1449_1
       have HR1449_4 := Aside0.mk hi1449_4
       have HC1449_4 := Aside0.mk hl1449_4
       clear hi1449_4 hl1449_4
       replace p1449 := eq_true p1449
       replace q1449 := eq_true q1449
       go_wp2_with (first | ((with_reducible refine gate_dst (N := 5) rfl ?_); refine box_event ?hg (N := 5) ?hd (cs := #[.int .i64 0, .slice none 0 0, .int .i64 0, .int .i64 0, .slice none 0 0]) (t := 75) ?hr ?_; (case hd => rfl); (case hg => rfl); (case hr => first | (go_simp; done) | (go_simp; rfl)); intro gb1450 hg w7 hbox hb; replace HO_3 := Aside0.mk (Kd.S_below (Kd.S_elderB (sp_ HO_3.out) gb1450 (Nat.le_of_eq hg.symm)) hb); have BK1450 := Aside0.mk (hbox); have GW1450 := Aside0.mk ((by rw [hg]; exact (below_size (hb_ HB.out)) : w.heap.size ≤ gb1450)); replace HB := Aside0.mk (below_step (hb_ HB.out) hb); have GE1450 := GW1450; clear hb hbox hg; obtain ⟨hcz8_0, hcz8_1, hcz8_2, hcz8_3, hcz8_4, hfz8_0, hfz8_1, hfz8_2, hfz8_3, hfz8_4⟩ := bc5_ BK1450.out) | ((with_reducible refine gate_callee (f := 114) rfl ?_); refine goesL_ (some 14) rfl rfl Try.func114 (by kernel_rfl) rfl #[.agg #[.int .i64 ((rd_T75 l0 x8_1).f0), .slice A1449_1 ((rd_T75 l0 x8_1).f1).length c1449_1, .int .i64 ((rd_T75 l0 x8_1).f2), .int .i64 ((rd_T75 l0 x8_1).f3), .slice A1449_4 ((rd_T75 l0 x8_1).f4).length c1449_4]] rfl (by (try simp only [mp_]); first | done | rfl | (simp only [List.length_drop, List.length_take]; rfl)) ?_; (with_reducible refine (impl_copyGroup.calls k1 ((rd_T75 l0 x8_1).f0) _ _ ((rd_T75 l0 x8_1).f1) ((rd_T75 l0 x8_1).f2) ((rd_T75 l0 x8_1).f3) _ _ ((rd_T75 l0 x8_1).f4) t1451 t1452 t1455 t1456 t1457 _ ?side1 ?side2 ?side3 ?side4 A5.out).mono ?_); (case side1 => exact Kd.C_below HR1449_1.out (by repeat (first | (with_reducible first | exact HB.out | apply ba_ | apply bn_ | apply bd_ | apply bs_ GE1450) | exact HB.out))); (case side2 => exact HC1449_1.out); (case side3 => exact Kd.C_below HR1449_4.out (by repeat (first | (with_reducible first | exact HB.out | apply ba_ | apply bn_ | apply bd_ | apply bs_ GE1450) | exact HB.out))); (case side4 => exact HC1449_4.out); rintro e w9 ⟨v1453, v1458, rfl, ho0, ho1, hb⟩; refine ⟨_, rfl, ?_⟩; obtain ⟨gbz1453, hz1453⟩ := Kd.R_name ho0; replace HO_3 := Aside0.mk (Kd.S_below (Kd.S_ltz hz1453 (by (with_reducible repeat (first | apply Kd.S_alloc | apply Kd.S_drewN | apply Kd.S_drew)); exact (Kd.S_mono (Kd.S_far (p := ⟨gb1450, 4, none⟩) (Kd.S_far (p := ⟨gb1450, 3, none⟩) (Kd.S_far (p := ⟨gb1450, 2, none⟩) (Kd.S_far (p := ⟨gb1450, 1, none⟩) (Kd.S_far (p := ⟨gb1450, 0, none⟩) (Kd.S_mono HO_3.out (fun k_ hk => (⟨hk, hk.2⟩ : _ ∧ k_ ≠ gb1450))) (fun _ hk => hk.2) (.int .i64 ((rd_T75 l0 x8_1).f0))) (fun _ hk => hk.2) (.slice A1449_1 ((rd_T75 l0 x8_1).f1).length c1449_1)) (fun _ hk => hk.2) (.int .i64 ((rd_T75 l0 x8_1).f2))) (fun _ hk => hk.2) (.int .i64 ((rd_T75 l0 x8_1).f3))) (fun _ hk => hk.2) (.slice A1449_4 ((rd_T75 l0 x8_1).f4).length c1449_4)) (fun _ h_ => h_.1)))) hb); have HO1454 := Aside0.mk (Kd.R_lower (Kd.R_gez hz1453 ho0) (below_size (by repeat (first | (with_reducible first | exact HB.out | apply ba_ | apply bn_ | apply bd_ | apply bs_ GE1450) | exact HB.out)))); have HO1459 := Aside0.mk (Kd.S_lower (Kd.S_gez hz1453 ho1) (below_size (by repeat (first | (with_reducible first | exact HB.out | apply ba_ | apply bn_ | apply bd_ | apply bs_ GE1450) | exact HB.out)))); replace BK1450 := Aside0.mk (blk_below (g := gb1450) (o := .cells #[.int .i64 ((rd_T75 l0 x8_1).f0), .slice A1449_1 ((rd_T75 l0 x8_1).f1).length c1449_1, .int .i64 ((rd_T75 l0 x8_1).f2), .int .i64 ((rd_T75 l0 x8_1).f3), .slice A1449_4 ((rd_T75 l0 x8_1).f4).length c1449_4] 75 (0, 0)) (by (with_reducible repeat (first | refine kn_ ?_ _ | refine kd_ ?_ | refine ka_ ?_ _)); refine blk_put (cs := #[.int .i64 ((rd_T75 l0 x8_1).f0), .slice A1449_1 ((rd_T75 l0 x8_1).f1).length c1449_1, .int .i64 ((rd_T75 l0 x8_1).f2), .int .i64 ((rd_T75 l0 x8_1).f3), .slice none 0 0]) ?_ 4 _ rfl; (with_reducible repeat (first | refine kn_ ?_ _ | refine kd_ ?_ | refine ka_ ?_ _)); refine blk_put (cs := #[.int .i64 ((rd_T75 l0 x8_1).f0), .slice A1449_1 ((rd_T75 l0 x8_1).f1).length c1449_1, .int .i64 ((rd_T75 l0 x8_1).f2), .int .i64 0, .slice none 0 0]) ?_ 3 _ rfl; (with_reducible repeat (first | refine kn_ ?_ _ | refine kd_ ?_ | refine ka_ ?_ _)); refine blk_put (cs := #[.int .i64 ((rd_T75 l0 x8_1).f0), .slice A1449_1 ((rd_T75 l0 x8_1).f1).length c1449_1, .int .i64 0, .int .i64 0, .slice none 0 0]) ?_ 2 _ rfl; (with_reducible repeat (first | refine kn_ ?_ _ | refine kd_ ?_ | refine ka_ ?_ _)); refine blk_put (cs := #[.int .i64 ((rd_T75 l0 x8_1).f0), .slice none 0 0, .int .i64 0, .int .i64 0, .slice none 0 0]) ?_ 1 _ rfl; (with_reducible repeat (first | refine kn_ ?_ _ | refine kd_ ?_ | refine ka_ ?_ _)); refine blk_put (cs := #[.int .i64 0, .slice none 0 0, .int .i64 0, .int .i64 0, .slice none 0 0]) ?_ 0 _ rfl; (with_reducible repeat (first | refine kn_ ?_ _ | refine kd_ ?_ | refine ka_ ?_ _)); exact BK1450.out) hb); replace HB := Aside0.mk (below_step (by repeat (first | (with_reducible first | exact HB.out | apply ba_ | apply bn_ | apply bd_ | apply bs_ GE1450) | exact HB.out)) hb); (try clear hb); (try clear hb2); (try clear hk); (try clear hi); (try clear ho0); (try clear ho1); obtain ⟨Ao11, co11, eo11⟩ := Kd.R_slice HO1454.out; subst eo11; obtain ⟨Ao12, co12, eo12⟩ := Kd.S_slice HO1459.out; subst eo12; obtain ⟨PXP13, hPXP13, hPlP13⟩ := Kd.S_fp (Kd.S_types (Kd.S_apart' (HO1459.out) (Kd.S_typed HO_3.out) (by decide)) BK1450.out (by decide))) | ((with_reducible refine gate_builtin (b := .append) (xs := #[.tmp 12, .tmp 15]) rfl ?_); at_builtin; refine Kd.S_append k75 (w0 := w) w.heap.size rfl (.tmp 12) (.tmp 15) 87 75 (.agg #[(.int .i64 0), (.slice none 0 0), (.int .i64 0), (.int .i64 0), (.slice none 0 0)]) 72 rfl Try.underlying87 info75 rfl (by decide) (by omega) u3 x3_1 (⟨t1451, t1452, t1455, t1456, t1457⟩ : S75) [.int .i64 t1451, .slice Ao11 t1452.length co11, .int .i64 t1455, .int .i64 t1456, .slice Ao12 t1457.length co12] (fun k_ => k_ ≠ gb1450) (fun k_ => some k_ = (.slice Ao11 t1452.length co11 : Value).ownBlock ∨ PXP13 k_) rfl rfl ?aP (fun k_ hk_ => hk_.elim (fun h_ => ((Kd.R_mono (ok' := fun k_ => ((fun k_ => k_ ≠ gb1450)) k_ ∧ some k_ ≠ (u3 : Value).ownBlock) (Kd.R_types (Kd.R_apart' (HO1454.out) (Kd.S_typed HO_3.out) (by decide)) BK1450.out (by decide)) (fun k_ hk => ⟨hk.2, hk.1.2⟩))).1 k_ h_.symm) (fun h_ => ⟨(hPlP13 k_ h_).1.2, (hPlP13 k_ h_).1.1.2⟩)) ?aF ?aO ?aB ?aS ?aL ?_; (case aP => exact k75_mkM _ _ _ (⟨t1451, t1452, t1455, t1456, t1457⟩ : S75) (P := fun k_ => some k_ = (.slice Ao11 t1452.length co11 : Value).ownBlock) (Kd.R_mono (Kd.R_tight rfl (Kd.R_mono (ok' := fun k_ => ((fun k_ => k_ ≠ gb1450)) k_ ∧ some k_ ≠ (u3 : Value).ownBlock) (Kd.R_types (Kd.R_apart' (HO1454.out) (Kd.S_typed HO_3.out) (by decide)) BK1450.out (by decide)) (fun k_ hk => ⟨hk.2, hk.1.2⟩))) (fun _ h_ => ⟨Or.inl h_, h_⟩)) (Kd.S_mono hPXP13 (fun k_ h_ => ⟨Or.inr (h_), fun e_ => (hPlP13 k_ h_).1.1.1.1 e_⟩))); (case aB => exact (by repeat (first | (with_reducible first | exact HB.out | apply ba_ | apply bn_ | apply bd_ | apply bs_ GE1450) | exact HB.out))); (case aF => exact (fun k_ hk => Kd.freshB (g := gb1450) (o := .cells #[.int .i64 ((rd_T75 l0 x8_1).f0), .slice A1449_1 ((rd_T75 l0 x8_1).f1).length c1449_1, .int .i64 ((rd_T75 l0 x8_1).f2), .int .i64 ((rd_T75 l0 x8_1).f3), .slice A1449_4 ((rd_T75 l0 x8_1).f4).length c1449_4] 75 (0, 0)) (pb_ BK1450.out) k_ hk)); (case aO => exact (by (with_reducible repeat (first | apply Kd.S_alloc | apply Kd.S_drewN | apply Kd.S_drew)); exact Kd.S_mono HO_3.out (fun k_ hk => ⟨hk.1.2, fun e_ => e_.elim (fun h_ => (fun ez_ => Nat.lt_irrefl _ (Nat.lt_of_lt_of_le hk.2 (HO1454.out.1 _ ez_.symm).2)) h_) (fun h_ => (fun ez_ => Nat.lt_irrefl _ (Nat.lt_of_lt_of_le hk.2 (hPlP13 _ ez_).1.1.1.2)) h_)⟩))); (case aS => exact (below_size (by repeat (first | (with_reducible first | exact HB.out | apply ba_ | apply bn_ | apply bd_ | apply bs_ GE1450) | exact HB.out)))); (case aL => have := LMc6.out; omega); intro v1461 w10 ho hb hg hat; rw [← Ny1460.out] at ho; replace BK1450 := Aside0.mk (blk_grown (g := gb1450) (o := .cells #[.int .i64 ((rd_T75 l0 x8_1).f0), .slice A1449_1 ((rd_T75 l0 x8_1).f1).length c1449_1, .int .i64 ((rd_T75 l0 x8_1).f2), .int .i64 ((rd_T75 l0 x8_1).f3), .slice A1449_4 ((rd_T75 l0 x8_1).f4).length c1449_4] 75 (0, 0)) (pb_ BK1450.out) hg (Kd.S_away HO_3.out (fun _ hk => hk.1.2))); replace HB := Aside0.mk (hb); have HO1462 := Aside0.mk (ho); clear HO_3 HO1454 HO1459; clear ho hb hg hat))
       go_roundg k1
       case measure => have := HK1.out; omega
       case rel => exact ⟨(y1460), (wrap64 (x8_1 + 1)), (by first | rfl | (simp; done) | (simp [*]; done)), H', ⟨by have := HK1.out; omega⟩, ⟨by (with_reducible repeat (first | apply Kd.S_alloc | apply Kd.S_drewN | apply Kd.S_drew)); exact Kd.S_mono HO1462.out (fun _ hk => trivial)⟩, ⟨by repeat (first | (with_reducible first | exact HB.out | apply ba_ | apply bn_ | apply bd_ | apply bs_ GE1450) | exact HB.out)⟩⟩
      rw [if_neg c6] at H
      exact absurd H (by simp)
     rw [if_neg c4] at H
     exact absurd H (by simp)
    rw [if_neg c3] at H
    exact absurd H (by simp)
   rw [if_neg c2] at H
   have c2b0 : decide (x8_1 < (l0.length : Int)) = false := decide_eq_false c2
   clear c2
   obtain rfl := Option.some.inj H
   go_wp2
   go_ret
   exact ⟨_, by first | rfl | (simp [errW_none, errW_some] <;> rfl) | (simp [*, errW_none, errW_some] <;> rfl), by (with_reducible repeat (first | apply Kd.S_alloc | apply Kd.S_drewN | apply Kd.S_drew)); exact HO_3.out, by exact hb_ HB.out⟩
def impl_JoinAll.f (k : Nat) (l0 : List (S75)) (l1_0 : List (S164)) (a1_1 : Int) (a1_2 : Int) (a1_3 : ByteArray) (l2 : List ByteArray) (a3 : Int) (a4 : Int) : Option ((List (S75)) × Bool) := (impl_copyGroups.f k l0).bind fun t1464 => ((impl_KeyOf.f k l1_0 a1_1 a1_2 a1_3 l2).bind fun t1467 => ((impl_GroupOf.f k l0 t1467).bind fun t1470 => (if t1470 ≥ 0 then (if 0 ≤ t1470 then (if t1470 < (l0.length : Int) then ((impl_JoinIn.f k ((rd_T75 l0 t1470).f0) ((rd_T75 l0 t1470).f1) ((rd_T75 l0 t1470).f2) ((rd_T75 l0 t1470).f3) ((rd_T75 l0 t1470).f4) l1_0 a1_1 a1_2 a1_3).bind fun bt1472 => (if t1470 < (t1464.length : Int) then (some ((t1464.set (t1470 : Int).toNat (⟨bt1472.1, bt1472.2.1, bt1472.2.2.1, bt1472.2.2.2.1, bt1472.2.2.2.2⟩ : S75)), false)) else (none))) else (none)) else (none)) else ((impl_copyAlarm.f l1_0 a1_1 a1_2 a1_3).bind fun bt1482 => (if t1464.length < 1954687338268 then (some ((t1464 ++ [(⟨a3, t1467, a4, (-1), (([(⟨bt1482.1, bt1482.2.1, bt1482.2.2.1, bt1482.2.2.2⟩ : S44)] : List (S44)))⟩ : S75)]), true)) else (none))))))
theorem impl_JoinAll.mono : ∀ a0 a1 a2 a3 a4 a5 a6 a7 k, LeO (impl_JoinAll.f k a0 a1 a2 a3 a4 a5 a6 a7) (impl_JoinAll.f (k + 1) a0 a1 a2 a3 a4 a5 a6 a7) := by
 intro a0 a1 a2 a3 a4 a5 a6 a7 k
 unfold impl_JoinAll.f
 repeat' first
   | (with_reducible exact impl_GroupOf.mono _ _ _)
   | (with_reducible exact impl_JoinIn.mono _ _ _ _ _ _ _ _ _ _)
   | (with_reducible exact impl_KeyOf.mono _ _ _ _ _ _)
   | (with_reducible exact impl_copyGroups.mono _ _)
   | (with_reducible exact LeO.refl _)
   | (with_reducible exact LeO.none _)
   | (with_reducible refine LeO.ite ?_ ?_)
   | (with_reducible refine LeO.bind ?_ (fun _ => ?_))
   | exact impl_GroupOf.mono _ _ _
   | exact impl_JoinIn.mono _ _ _ _ _ _ _ _ _ _
   | exact impl_KeyOf.mono _ _ _ _ _ _
   | exact impl_copyGroups.mono _ _
def impl_JoinAll.T5 : Bool × List (List Nat × List Nat) := (true, [([], []), ([], []), ([], []), ([], []), ([2, 3], [2, 3]), ([4], [4]), ([], []), ([5, 6], [5, 6]), ([0, 1, 0, 1, 2, 3, 4, 5, 6, 7], [0, 1]), ([8, 7, 7, 0, 1, 2, 3, 4, 5, 6, 7], [7, 8])])
def impl_JoinAll.B5 : List Nat := [0, 0, 0, 0, 12, 28, 0, 124, 255, 511]
theorem impl_JoinAll.tab5 : rtab .any (opsOf Try.f71 5) = impl_JoinAll.T5 := by kernel_rfl
theorem impl_JoinAll.bits5 : waitsOk impl_JoinAll.T5.2 impl_JoinAll.B5 = true := by kernel_rfl
theorem impl_JoinAll.calls (k : Nat) (A0 : Option Addr) (c0 : Nat) (l0 : List (S75)) (A1_0 : Option Addr) (c1_0 : Nat) (l1_0 : List (S164)) (a1_1 : Int) (a1_2 : Int) (a1_3 : ByteArray) (A2 : Option Addr) (c2 : Nat) (l2 : List ByteArray) (a3 : Int) (a4 : Int) (r1 : List (S75)) (r2 : Bool) (w : World) (hr0 : Kd.C k75 w A0 l0.length l0) (hc0 : l0.length ≤ c0) (hr1_0 : Kd.C k164 w A1_0 l1_0.length l1_0) (hc1_0 : l1_0.length ≤ c1_0) (hr2 : Kd.C Kd.string w A2 l2.length l2) (hc2 : l2.length ≤ c2) (h : impl_JoinAll.f k l0 l1_0 a1_1 a1_2 a1_3 l2 a3 a4 = some (r1, r2)) :
  Calls Try.prog 71 #[.slice A0 l0.length c0, .agg #[.slice A1_0 l1_0.length c1_0, .int .i64 a1_1, .int .i64 a1_2, .string a1_3], .slice A2 l2.length c2, .int .i64 a3, .int .i64 a4] w fun e w' => ∃ v0_ : Value, e = .returned (.tuple #[v0_, .bool r2]) ∧ Kd.S k75 75 w' w.heap.size (fun _ => True) v0_ r1 ∧ Below w.heap.size w w' := by
 have hu44 := Try.underlying44
 have hu75 := Try.underlying75
 have HR0 := Aside0.mk hr0
 have HC0 := Aside0.mk hc0
 clear hr0 hc0
 have HR1_0 := Aside0.mk hr1_0
 have HC1_0 := Aside0.mk hc1_0
 clear hr1_0 hc1_0
 have HR2 := Aside0.mk hr2
 have HC2 := Aside0.mk hc2
 clear hr2 hc2
 have HB := Aside0.mk (Below.refl w.heap.size w)
 have H : ((impl_copyGroups.f k l0).bind fun t1464 => ((impl_KeyOf.f k l1_0 a1_1 a1_2 a1_3 l2).bind fun t1467 => ((impl_GroupOf.f k l0 t1467).bind fun t1470 => (if t1470 ≥ 0 then (if 0 ≤ t1470 then (if t1470 < (l0.length : Int) then ((impl_JoinIn.f k ((rd_T75 l0 t1470).f0) ((rd_T75 l0 t1470).f1) ((rd_T75 l0 t1470).f2) ((rd_T75 l0 t1470).f3) ((rd_T75 l0 t1470).f4) l1_0 a1_1 a1_2 a1_3).bind fun bt1472 => (if t1470 < (t1464.length : Int) then (some ((t1464.set (t1470 : Int).toNat (⟨bt1472.1, bt1472.2.1, bt1472.2.2.1, bt1472.2.2.2.1, bt1472.2.2.2.2⟩ : S75)), false)) else (none))) else (none)) else (none)) else ((impl_copyAlarm.f l1_0 a1_1 a1_2 a1_3).bind fun bt1482 => (if t1464.length < 1954687338268 then (some ((t1464 ++ [(⟨a3, t1467, a4, (-1), (([(⟨bt1482.1, bt1482.2.1, bt1482.2.2.1, bt1482.2.2.2⟩ : S44)] : List (S44)))⟩ : S75)]), true)) else (none))))))) = some (r1, r2) := h
 clear h
 replace H := Option.bind_eq_some_iff.mp H
 obtain ⟨t1464, A60, H⟩ := H
 have A6 := Aside0.mk A60
 clear A60
 replace H := Option.bind_eq_some_iff.mp H
 obtain ⟨t1467, A70, H⟩ := H
 have A7 := Aside0.mk A70
 clear A70
 replace H := Option.bind_eq_some_iff.mp H
 obtain ⟨t1470, A80, H⟩ := H
 have A8 := Aside0.mk A80
 clear A80
 by_cases c9 : t1470 ≥ 0
 ·
  rw [if_pos c9] at H
  have c9b0 : decide (0 ≤ t1470) = true := decide_eq_true c9
  clear c9
  by_cases c10 : 0 ≤ t1470
  ·
   rw [if_pos c10] at H
   have c10b0 := decide_eq_true c10
   clear c10
   by_cases c11 : t1470 < (l0.length : Int)
   ·
    rw [if_pos c11] at H
    have c11b0 := decide_eq_true c11
    clear c11
    replace H := Option.bind_eq_some_iff.mp H
    obtain ⟨⟨t1472, t1473, t1476, t1477, t1478⟩, A120, H⟩ := H
    have A12 := Aside0.mk A120
    clear A120
    by_cases c13 : t1470 < (t1464.length : Int)
    ·
     rw [if_pos c13] at H
     have c13b0 := decide_eq_true c13
     clear c13
     obtain ⟨y1481, hy1481⟩ : ∃ y_ : List (S75), y_ = (t1464.set (t1470 : Int).toNat (⟨t1472, t1473, t1476, t1477, t1478⟩ : S75)) := ⟨_, rfl⟩
     replace H : (some (y1481, false)) = some (r1, r2) := by first | (rw [hy1481]; with_reducible exact H) | (have H2_ := (Option.bind_some _ _).symm.trans H; rw [hy1481]; with_reducible exact H2_) | (have H2_ := (Option.bind_some _ _).symm.trans H; with_reducible exact H2_) | with_reducible exact H | (rw [hy1481]; exact H) | exact H
     have Ny1481 := Aside0.mk hy1481
     clear hy1481
     simp only [Option.some.injEq, Prod.mk.injEq] at H
     obtain ⟨rfl, rfl⟩ := H
     go_enter Try.func71, Try.ntmps71
     try go_wp2_with (first | ((with_reducible refine gate_dst (N := 6) rfl ?_); refine box_event ?hg (N := 6) ?hd (cs := #[.slice A1_0 l1_0.length c1_0, .int .i64 a1_1, .int .i64 a1_2, .string a1_3]) (t := 44) ?hr ?_; (case hd => rfl); (case hg => rfl); (case hr => first | (go_simp; done) | (go_simp; rfl)); intro gb1463 hg w15 hbox hb; have BK1463 := Aside0.mk (hbox); have GW1463 := Aside0.mk ((by rw [hg]; exact (below_size (hb_ HB.out)) : w.heap.size ≤ gb1463)); replace HB := Aside0.mk (below_step (hb_ HB.out) hb); have GE1463 := GW1463; clear hb hbox hg) | ((with_reducible refine gate_callee (f := 129) rfl ?_); refine goesL_ (some 16) rfl rfl Try.func129 (by kernel_rfl) rfl #[.slice A0 l0.length c0] rfl (by (try simp only [mp_]); first | done | rfl | (simp only [List.length_drop, List.length_take]; rfl)) ?_; (with_reducible refine (impl_copyGroups.calls k _ _ l0 t1464 _ ?side1 ?side2 A6.out).mono ?_); (case side1 => exact cp_ ((Kd.C_below HR0.out HB.out))); (case side2 => exact HC0.out); rintro e w16 ⟨v1465, rfl, ho0, hb⟩; refine ⟨_, rfl, ?_⟩; obtain ⟨gbz1465, hz1465⟩ := Kd.S_name ho0; have HO1466 := Aside0.mk (Kd.S_lower (Kd.S_newB (Kd.S_gez hz1465 ho0) (g := gb1463) (o := .cells #[.slice A1_0 l1_0.length c1_0, .int .i64 a1_1, .int .i64 a1_2, .string a1_3] 44 (0, 0)) (pb_ BK1463.out)) (below_size (by repeat (first | (with_reducible first | exact HB.out | apply ba_ | apply bn_ | apply bd_ | apply bs_ GE1463) | exact HB.out)))); replace BK1463 := Aside0.mk (bb_ BK1463.out hb); replace HB := Aside0.mk (below_step (by repeat (first | (with_reducible first | exact HB.out | apply ba_ | apply bn_ | apply bd_ | apply bs_ GE1463) | exact HB.out)) hb); (try clear hb); (try clear hb2); (try clear hk); (try clear hi); (try clear ho0); obtain ⟨hcz17_0, hcz17_1, hcz17_2, hcz17_3, hfz17_0, hfz17_1, hfz17_2, hfz17_3⟩ := bc4_ BK1463.out) | ((with_reducible refine gate_callee (f := 130) rfl ?_); refine goesL_ (some 19) rfl rfl Try.func130 (by kernel_rfl) rfl #[.agg #[.slice A1_0 l1_0.length c1_0, .int .i64 a1_1, .int .i64 a1_2, .string a1_3], .slice A2 l2.length c2] rfl (by (try simp only [mp_]); first | done | rfl | (simp only [List.length_drop, List.length_take]; rfl)) ?_; (with_reducible refine (impl_KeyOf.calls k _ _ l1_0 a1_1 a1_2 a1_3 _ _ l2 t1467 _ ?side1 ?side2 ?side3 ?side4 A7.out).mono ?_); (case side1 => exact cp_ ((Kd.C_below HR1_0.out HB.out))); (case side2 => exact HC1_0.out); (case side3 => exact cp_ ((Kd.C_below HR2.out HB.out))); (case side4 => exact HC2.out); rintro e w18 ⟨v1468, rfl, ho0, hb⟩; refine ⟨_, rfl, ?_⟩; obtain ⟨gbz1468, hz1468⟩ := Kd.R_name ho0; replace HO1466 := Aside0.mk (Kd.S_below (Kd.S_ltz hz1468 (sp_ HO1466.out)) hb); have HO1469 := Aside0.mk (Kd.R_lower (Kd.R_gez hz1468 ho0) (below_size (by repeat (first | (with_reducible first | exact HB.out | apply ba_ | apply bn_ | apply bd_ | apply bs_ GE1463) | exact HB.out)))); replace BK1463 := Aside0.mk (bb_ BK1463.out hb); replace HB := Aside0.mk (below_step (by repeat (first | (with_reducible first | exact HB.out | apply ba_ | apply bn_ | apply bd_ | apply bs_ GE1463) | exact HB.out)) hb); (try clear hb); (try clear hb2); (try clear hk); (try clear hi); (try clear ho0); obtain ⟨Ao19, co19, eo19⟩ := Kd.R_slice HO1469.out; subst eo19) | ((with_reducible refine gate_callee (f := 117) rfl ?_); refine goesL_ (some 22) rfl rfl Try.func117 (by kernel_rfl) rfl #[.slice A0 l0.length c0, .slice Ao19 t1467.length co19] rfl (by (try simp only [mp_]); first | done | rfl | (simp only [List.length_drop, List.length_take]; rfl)) ?_; (with_reducible refine (impl_GroupOf.calls k _ _ l0 _ _ t1467 t1470 _ ?side1 ?side2 ?side3 ?side4 A8.out).mono ?_); (case side1 => exact cp_ ((Kd.C_below HR0.out HB.out))); (case side2 => exact HC0.out); (case side3 => exact cp_ ((Kd.R_reads' HO1469.out).2.2)); (case side4 => exact (Kd.R_reads' HO1469.out).2.1); rintro e w20 ⟨rfl, hb⟩; refine ⟨_, rfl, ?_⟩; replace HO1466 := Aside0.mk (Kd.S_below (sp_ HO1466.out) hb); replace HO1469 := Aside0.mk (Kd.R_below (rp_ HO1469.out) hb); replace BK1463 := Aside0.mk (bb_ BK1463.out hb); replace HB := Aside0.mk (below_step (by repeat (first | (with_reducible first | exact HB.out | apply ba_ | apply bn_ | apply bd_ | apply bs_ GE1463) | exact HB.out)) hb); (try clear hb); (try clear hb2); (try clear hk); (try clear hi)))
     replace HO1466 := Aside0.mk (Kd.S_drew HO1466.out)
     replace HO1469 := Aside0.mk (Kd.R_drew HO1469.out)
     replace BK1463 := Aside0.mk (blk_drew BK1463.out)
     replace HB := Aside0.mk (bd_ HB.out)
     have p1471 : 0 ≤ (t1470 : Int) := of_decide_eq_true (by with_reducible assumption)
     have q1471 : t1470 < (l0.length : Int) := of_decide_eq_true (by with_reducible assumption)
     obtain ⟨ad1471, A1471_1, c1471_1, A1471_4, c1471_4, e1471, hx1471_0, hx1471_1, hx1471_2, hx1471_3, hx1471_4, hl1471_1, hi1471_1, hl1471_4, hi1471_4⟩ := at_T75 HR0.out t1470 p1471 q1471
     have hw1471_4 := hx1471_4
     have hw1471_3 := hx1471_3
     have hw1471_2 := hx1471_2
     have hw1471_1 := hx1471_1
     have hw1471_0 := hx1471_0
     cases e1471
     replace hx1471_0 := cl_ HB.out hx1471_0
     replace hx1471_1 := cl_ HB.out hx1471_1
     replace hx1471_2 := cl_ HB.out hx1471_2
     replace hx1471_3 := cl_ HB.out hx1471_3
     replace hx1471_4 := cl_ HB.out hx1471_4
     have HR1471_1 := Aside0.mk hi1471_1
     have HC1471_1 := Aside0.mk hl1471_1
     clear hi1471_1 hl1471_1
     have HR1471_4 := Aside0.mk hi1471_4
     have HC1471_4 := Aside0.mk hl1471_4
     clear hi1471_4 hl1471_4
     replace p1471 := eq_true p1471
     replace q1471 := eq_true q1471
     refine start_ (n := 10) (S := fun w' => w'.cell? ⟨gb1463, 0, none⟩ = some (.slice A1_0 l1_0.length c1_0) ∧ w'.cell? ⟨gb1463, 1, none⟩ = some (.int .i64 a1_1) ∧ w'.cell? ⟨gb1463, 2, none⟩ = some (.int .i64 a1_2) ∧ w'.cell? ⟨gb1463, 3, none⟩ = some (.string a1_3) ∧ w'.cell? (ad1471.add ((t1470).toNat * 5)) = some (.int .i64 ((rd_T75 l0 t1470).f0)) ∧ w'.cell? ⟨(ad1471.add ((t1470).toNat * 5)).block, (ad1471.add ((t1470).toNat * 5)).off + 1, none⟩ = some (.slice A1471_1 ((rd_T75 l0 t1470).f1).length c1471_1) ∧ w'.cell? ⟨(ad1471.add ((t1470).toNat * 5)).block, (ad1471.add ((t1470).toNat * 5)).off + 2, none⟩ = some (.int .i64 ((rd_T75 l0 t1470).f2)) ∧ w'.cell? ⟨(ad1471.add ((t1470).toNat * 5)).block, (ad1471.add ((t1470).toNat * 5)).off + 3, none⟩ = some (.int .i64 ((rd_T75 l0 t1470).f3)) ∧ w'.cell? ⟨(ad1471.add ((t1470).toNat * 5)).block, (ad1471.add ((t1470).toNat * 5)).off + 4, none⟩ = some (.slice A1471_4 ((rd_T75 l0 t1470).f4).length c1471_4)) (ds := [9]) #[f_,f_,f_,f_,f_,f_,f_,f_,f_,f_] (by kernel_rfl) rfl rfl ⟨bx_ BK1463.out 0, bx_ BK1463.out 1, bx_ BK1463.out 2, bx_ BK1463.out 3, ((HB.out.cell (World.block_lt_of_cell? w _ hw1471_0)).trans hw1471_0), ((HB.out.cell (World.block_lt_of_cell? w _ hw1471_1)).trans hw1471_1), ((HB.out.cell (World.block_lt_of_cell? w _ hw1471_2)).trans hw1471_2), ((HB.out.cell (World.block_lt_of_cell? w _ hw1471_3)).trans hw1471_3), ((HB.out.cell (World.block_lt_of_cell? w _ hw1471_4)).trans hw1471_4)⟩ (fun hHeld => ?_); refine with_tabW impl_JoinAll.tab5 impl_JoinAll.bits5 (fun HT_ HW_ => ?_)
     generalize w20.drew = w21 at HO1466 HO1469 BK1463 HB HR1471_1 HR1471_4 hx1471_0 hx1471_1 hx1471_2 hx1471_3 hx1471_4 hHeld ⊢
     refine pu_ 0 25 ?_ (b_ 1 9) rfl rfl HT_.out ?_ ?_ ?_ ?_; rotate_left; intro w'; go_simp; with_reducible rfl; rotate_left; simp only [fr_]; rfl
     refine pu_ 1 26 ?_ (b_ 2 8) rfl rfl HT_.out ?_ ?_ ?_ ?_; rotate_left; intro w'; go_simp; with_reducible rfl; rotate_left; simp only [fr_]; rfl
     refine pu_ 2 27 ?_ (b_ 3 7) rfl rfl HT_.out ?_ ?_ ?_ ?_; rotate_left; intro w'; go_simp; with_reducible rfl; rotate_left; simp only [fr_]; rfl
     refine pu_ 3 28 ?_ (b_ 4 6) rfl rfl HT_.out ?_ ?_ ?_ ?_; rotate_left; intro w'; go_simp; with_reducible rfl; rotate_left; simp only [fr_]; rfl
     refine pu_ 4 29 ?_ (b_ 5 5) rfl rfl HT_.out ?_ ?_ ?_ ?_; rotate_left; intro w'; go_simp; with_reducible rfl; rotate_left; simp only [fr_]; rfl
     refine take_ (i := 5) (N := some 30) (v := ?_) (a' := ?_) #[t_,t_,t_,t_,t_,t_,f_,f_,f_,f_] rfl rfl (take_ofW HT_.out HW_.out (by kernel_rfl)) (fun _ _ _ h => h) (Or.inl ⟨by rfl, ?_⟩) hHeld ?_ ?_
     rotate_left
     ·
      rintro w' ⟨s0, s1, s2, s3, s4, s5, s6, s7, s8⟩
      go_simp
      with_reducible rfl
     rotate_left
     ·
      simp only [fr_]
      rfl
     refine take_ (i := 6) (N := some 31) (v := ?_) (a' := ?_) #[t_,t_,t_,t_,t_,t_,t_,f_,f_,f_] rfl rfl (take_ofW HT_.out HW_.out (by kernel_rfl)) (fun _ _ _ h => h) (Or.inl ⟨by rfl, ?_⟩) hHeld ?_ ?_
     rotate_left
     ·
      rintro w' ⟨s0, s1, s2, s3, s4, s5, s6, s7, s8⟩
      go_simp
      with_reducible rfl
     rotate_left
     ·
      simp only [fr_]
      rfl
     refine one_ (i := 7) (N := some 32) #[t_,t_,t_,t_,t_,t_,t_,t_,f_,f_] rfl rfl (one_of HT_.out (by kernel_rfl)) (by decide) (fun K hK => ?_)
     refine goes_ Try.func57 (by kernel_rfl) rfl #[.agg #[.int .i64 ((rd_T75 l0 t1470).f0), .slice A1471_1 ((rd_T75 l0 t1470).f1).length c1471_1, .int .i64 ((rd_T75 l0 t1470).f2), .int .i64 ((rd_T75 l0 t1470).f3), .slice A1471_4 ((rd_T75 l0 t1470).f4).length c1471_4], .agg #[.slice A1_0 l1_0.length c1_0, .int .i64 a1_1, .int .i64 a1_2, .string a1_3]] (by rfl) rfl rfl (by (try simp only [mp_]); first | done | rfl | (simp only [List.length_drop, List.length_take]; rfl)) ?_
     with_reducible refine (impl_JoinIn.calls k ((rd_T75 l0 t1470).f0) _ _ ((rd_T75 l0 t1470).f1) ((rd_T75 l0 t1470).f2) ((rd_T75 l0 t1470).f3) _ _ ((rd_T75 l0 t1470).f4) _ _ l1_0 a1_1 a1_2 a1_3 t1472 t1473 t1476 t1477 t1478 _ ?side1 ?side2 ?side3 ?side4 ?side5 ?side6 A12.out).mono ?_
     (case side1 => exact cp_ ((Kd.C_below HR1471_1.out HB.out)))
     (case side2 => exact HC1471_1.out)
     (case side3 => exact cp_ ((Kd.C_below HR1471_4.out HB.out)))
     (case side4 => exact HC1471_4.out)
     (case side5 => exact cp_ ((Kd.C_below HR1_0.out HB.out)))
     (case side6 => exact HC1_0.out)
     rintro e w22 ⟨v1474, v1479, rfl, ho0, ho1, hb⟩
     refine ⟨_, rfl, ?_⟩
     obtain ⟨gbz1474, hz1474⟩ := Kd.R_name ho0
     replace HO1466 := Aside0.mk (Kd.S_below (Kd.S_ltz hz1474 (sp_ HO1466.out)) hb)
     replace HO1469 := Aside0.mk (Kd.R_below (Kd.R_ltz hz1474 (rp_ HO1469.out)) hb)
     have HO1475 := Aside0.mk (Kd.R_lower (Kd.R_gez hz1474 ho0) (below_size (by repeat (first | (with_reducible first | exact HB.out | apply ba_ | apply bn_ | apply bd_ | apply bs_ GE1463) | exact HB.out))))
     have HO1480 := Aside0.mk (Kd.S_lower (Kd.S_newB (Kd.S_gez hz1474 ho1) (g := gb1463) (o := .cells #[.slice A1_0 l1_0.length c1_0, .int .i64 a1_1, .int .i64 a1_2, .string a1_3] 44 (0, 0)) (pb_ BK1463.out)) (below_size (by repeat (first | (with_reducible first | exact HB.out | apply ba_ | apply bn_ | apply bd_ | apply bs_ GE1463) | exact HB.out))))
     replace BK1463 := Aside0.mk (bb_ BK1463.out hb)
     replace HB := Aside0.mk (below_step (by repeat (first | (with_reducible first | exact HB.out | apply ba_ | apply bn_ | apply bd_ | apply bs_ GE1463) | exact HB.out)) hb)
     (try clear hb)
     (try clear hb2)
     (try clear hk)
     (try clear hi)
     (try clear ho0)
     (try clear ho1)
     have p14 : 0 ≤ (t1470 : Int) := of_decide_eq_true (by with_reducible assumption)
     have q14 : (t1470 : Int) < ((t1464.length : Int) : Int) := of_decide_eq_true (by with_reducible assumption)
     obtain ⟨go14, co14, eo14, gb14, gl14, cl14, HG14⟩ := Kd.S_form HO1466.out (by omega)
     (first | cases eo14 | (injection eo14 with ea_ en_ ec_; (first | subst ea_ | (injection ea_ with ea_; subst ea_)); subst ec_; clear en_))
     have GB14 := Aside0.mk gb14
     have GG14 := Aside0.mk HG14
     clear gb14 gl14 HG14
     obtain ⟨_, ce14, hcl14, hM14, hcc14, hfr14, _, _⟩ := Kd.S_elem HO1466.out z75 (t1470 : Int) p14 q14
     obtain ⟨ve14_1, ve14_4, rfl, ge14_1, ge14_4⟩ := k75_openM hM14
     have hx14_0 : World.cell? _ ⟨go14, (t1470 : Int).toNat * 5, none⟩ = some (.int .i64 ((rd_T75 t1464 t1470).f0)) := hcc14 0 _ rfl
     have hx14_1 : World.cell? _ ⟨go14, (t1470 : Int).toNat * 5 + 1, none⟩ = some (ve14_1) := hcc14 1 _ rfl
     have hx14_2 : World.cell? _ ⟨go14, (t1470 : Int).toNat * 5 + 2, none⟩ = some (.int .i64 ((rd_T75 t1464 t1470).f2)) := hcc14 2 _ rfl
     have hx14_3 : World.cell? _ ⟨go14, (t1470 : Int).toNat * 5 + 3, none⟩ = some (.int .i64 ((rd_T75 t1464 t1470).f3)) := hcc14 3 _ rfl
     have hx14_4 : World.cell? _ ⟨go14, (t1470 : Int).toNat * 5 + 4, none⟩ = some (ve14_4) := hcc14 4 _ rfl
     have hf14_0 : World.frozen? _ ⟨go14, (t1470 : Int).toNat * 5, none⟩ = false := hfr14 0
     have hf14_1 : World.frozen? _ ⟨go14, (t1470 : Int).toNat * 5 + 1, none⟩ = false := hfr14 1
     have hf14_2 : World.frozen? _ ⟨go14, (t1470 : Int).toNat * 5 + 2, none⟩ = false := hfr14 2
     have hf14_3 : World.frozen? _ ⟨go14, (t1470 : Int).toNat * 5 + 3, none⟩ = false := hfr14 3
     have hf14_4 : World.frozen? _ ⟨go14, (t1470 : Int).toNat * 5 + 4, none⟩ = false := hfr14 4
     clear hcl14 hcc14 hfr14 hM14
     replace p14 := eq_true p14
     replace q14 := eq_true q14
     obtain ⟨Ao24, co24, eo24⟩ := Kd.R_slice HO1475.out
     (first | subst eo24 | (injection eo24 with f1_ f2_ f3_; have f4_ := f1_.symm; have f5_ := f3_.symm; clear f1_ f2_ f3_; subst f4_; subst f5_))
     obtain ⟨Ao25, co25, eo25⟩ := Kd.S_slice HO1480.out
     (first | subst eo25 | (injection eo25 with f1_ f2_ f3_; have f4_ := f1_.symm; have f5_ := f3_.symm; clear f1_ f2_ f3_; subst f4_; subst f5_))
     obtain ⟨PXP26, hPXP26, hPlP26⟩ := Kd.S_fp (Kd.S_apart' (HO1480.out) (Kd.S_typed HO1466.out) (by decide))
     have HX23 := Aside0.mk (show Kd.S k75 75 _ w.heap.size (fun k_ => ((fun k_ => k_ ≠ gb1463)) k_ ∧ ¬ ((fun k_ => some k_ = (.slice Ao24 t1473.length co24 : Value).ownBlock ∨ PXP26 k_)) k_) (.slice (some ⟨go14, 0, none⟩) t1464.length co14) t1464 from (Kd.S_mono HO1466.out (fun k_ hk => ⟨hk.1.1.2, fun e_ => e_.elim (fun h_ => (fun ez_ => Nat.lt_irrefl _ (Nat.lt_of_lt_of_le hk.2 (HO1475.out.1 _ ez_.symm).2)) h_) (fun h_ => (fun ez_ => Nat.lt_irrefl _ (Nat.lt_of_lt_of_le hk.2 (hPlP26 _ ez_).1.1.1.2)) h_)⟩)))
     obtain ⟨oki23, ce23, hcl23, hM23, hcc23, hfr23, hoki23, hH23⟩ := Kd.S_elem HX23.out z75 (t1470 : Int) (of_decide_eq_true (by with_reducible assumption)) (by have h_ : (t1470 : Int) < ((t1464.length : Int) : Int) := of_decide_eq_true (by with_reducible assumption); first | exact h_ | (have e_ := (Kd.S_reads' HO1466.out).1; omega) | simpa using h_)
     obtain ⟨ve23_1, ve23_4, rfl, ge23_1, ge23_4⟩ := k75_openM hM23
     have HP23 := (Kd.S_seg hH23 (of_decide_eq_true (by with_reducible assumption)) (by have h_ : (t1470 : Int) < ((t1464.length : Int) : Int) := of_decide_eq_true (by with_reducible assumption); first | exact h_ | (have e_ := (Kd.S_reads' HO1466.out).1; omega) | simpa using h_) (seg := [.int .i64 t1472, .slice Ao24 t1473.length co24, .int .i64 t1476, .int .i64 t1477, .slice Ao25 t1478.length co25]) (j := 0) (show 5 ≤ 5 from by decide) (x' := (⟨t1472, t1473, t1476, t1477, t1478⟩ : S75)) (okg := (fun k_ => some k_ = (.slice Ao24 t1473.length co24 : Value).ownBlock ∨ PXP26 k_)) (okp := fun k_ => oki23 k_ ∨ ((fun k_ => some k_ = (.slice Ao24 t1473.length co24 : Value).ownBlock ∨ PXP26 k_)) k_) (k75_mkM _ _ _ (⟨t1472, t1473, t1476, t1477, t1478⟩ : S75) (Kd.R_mono (Kd.R_tight rfl (Kd.R_mono (ok' := fun k_ => ((fun k_ => k_ ≠ gb1463)) k_ ∧ k_ ≠ go14) (Kd.R_types (Kd.R_apart' (HO1475.out) (Kd.S_typed HO1466.out) (by decide)) BK1463.out (by decide)) (fun k_ hk => ⟨hk.2, fun e_ => (hk.1.2) (by rw [e_]; rfl)⟩))) (fun _ h_ => ⟨Or.inr (Or.inl h_), h_⟩)) (Kd.S_mono hPXP26 (fun k_ h_ => ⟨Or.inr (Or.inr (h_)), fun e_ => (hPlP26 k_ h_).1.1.1.1 e_⟩))) (fun _ hk => hk) (fun k_ hk_ => hk_.elim (fun h_ => ((Kd.R_mono (ok' := fun k_ => ((fun k_ => k_ ≠ gb1463)) k_ ∧ k_ ≠ go14) (Kd.R_types (Kd.R_apart' (HO1475.out) (Kd.S_typed HO1466.out) (by decide)) BK1463.out (by decide)) (fun k_ hk => ⟨hk.2, fun e_ => (hk.1.2) (by rw [e_]; rfl)⟩))).1 k_ h_.symm) (fun h_ => ⟨(hPlP26 k_ h_).1.1.2, fun e_ => ((hPlP26 k_ h_).1.2) (by rw [e_]; rfl)⟩))).1
     rw [← Ny1481.out] at HP23
     have HQ23 := Aside0.mk HP23
     clear hcl23 hcc23 hfr23 hM23 HP23
     refine hK.out _ _ ⟨bx_ BK1463.out 0, bx_ BK1463.out 1, bx_ BK1463.out 2, bx_ BK1463.out 3, ((HB.out.cell (World.block_lt_of_cell? w _ hw1471_0)).trans hw1471_0), ((HB.out.cell (World.block_lt_of_cell? w _ hw1471_1)).trans hw1471_1), ((HB.out.cell (World.block_lt_of_cell? w _ hw1471_2)).trans hw1471_2), ((HB.out.cell (World.block_lt_of_cell? w _ hw1471_3)).trans hw1471_3), ((HB.out.cell (World.block_lt_of_cell? w _ hw1471_4)).trans hw1471_4)⟩ (fun hHeld => ?_)
     clear hK K
     refine norm_ (a' := ?_) ?_ ?_
     rotate_left
     ·
      show Act.put _ (some 32) _ = _
      simp only [fr_]
      rfl
     refine pu_ 8 33 ?_ (b_ 9 1) rfl rfl HT_.out ?_ ?_ ?_ ?_; rotate_left; intro w'; go_simp; with_reducible rfl; rotate_left; simp only [fr_]; rfl
     refine last_ (i := 9) (N := none) #[t_,t_,t_,t_,t_,t_,t_,t_,t_,t_] rfl rfl (one_of HT_.out (by kernel_rfl)) (by decide) (fun K hK => ?_)
     refine skip_ (w1 := ?_) (by rfl) rfl ?_ ?_
     rotate_left
     ·
      go_simp
      rfl
     refine hK.out _ _ ?_
     clear hK K
     refine done_ (done_of HT_.out (by kernel_rfl)) ?_
     try go_wp2
     go_ret2
     exact ⟨_, by first | rfl | (simp [errW_none, errW_some] <;> rfl) | (simp [*, errW_none, errW_some] <;> rfl), by (with_reducible repeat (first | apply Kd.S_alloc | apply Kd.S_drewN | apply Kd.S_drew)); exact Kd.S_mono HQ23.out (fun _ hk => trivial), by repeat (first | (with_reducible first | exact HB.out | apply ba_ | apply bn_ | apply bd_ | refine below_set ?_ GB14.out | refine below_set ?_ GB14.out | refine below_set ?_ GB14.out | refine below_set ?_ GB14.out | refine below_set ?_ GB14.out | apply bs_ GE1463) | exact HB.out)⟩
    rw [if_neg c13] at H
    exact absurd H (by simp)
   rw [if_neg c11] at H
   exact absurd H (by simp)
  rw [if_neg c10] at H
  exact absurd H (by simp)
 rw [if_neg c9] at H
 have c9b0 : decide (0 ≤ t1470) = false := decide_eq_false c9
 clear c9
 replace H := Option.bind_eq_some_iff.mp H
 obtain ⟨⟨t1482, t1485, t1486, t1487⟩, A270, H⟩ := H
 have A27 := Aside0.mk A270
 clear A270
 obtain ⟨y1488, hy1488⟩ : ∃ y_ : List (S44), y_ = (([(⟨t1482, t1485, t1486, t1487⟩ : S44)] : List (S44))) := ⟨_, rfl⟩
 replace H : (if t1464.length < 1954687338268 then (some ((t1464 ++ [(⟨a3, t1467, a4, (-1), y1488⟩ : S75)]), true)) else (none)) = some (r1, r2) := by first | (rw [hy1488]; with_reducible exact H) | (have H2_ := (Option.bind_some _ _).symm.trans H; rw [hy1488]; with_reducible exact H2_) | (have H2_ := (Option.bind_some _ _).symm.trans H; with_reducible exact H2_) | with_reducible exact H | (rw [hy1488]; exact H) | exact H
 have Ny1488 := Aside0.mk hy1488
 clear hy1488
 by_cases c28 : t1464.length < 1954687338268
 ·
  rw [if_pos c28] at H
  have LMc28 := Aside0.mk c28
  clear c28
  obtain ⟨y1491, hy1491⟩ : ∃ y_ : List (S75), y_ = (t1464 ++ [(⟨a3, t1467, a4, (-1), y1488⟩ : S75)]) := ⟨_, rfl⟩
  replace H : (some (y1491, true)) = some (r1, r2) := by first | (rw [hy1491]; with_reducible exact H) | (have H2_ := (Option.bind_some _ _).symm.trans H; rw [hy1491]; with_reducible exact H2_) | (have H2_ := (Option.bind_some _ _).symm.trans H; with_reducible exact H2_) | with_reducible exact H | (rw [hy1491]; exact H) | exact H
  have Ny1491 := Aside0.mk hy1491
  clear hy1491
  simp only [Option.some.injEq, Prod.mk.injEq] at H
  obtain ⟨rfl, rfl⟩ := H
  go_enter Try.func71, Try.ntmps71
  go_wp2_with (first | ((with_reducible refine gate_dst (N := 6) rfl ?_); refine box_event ?hg (N := 6) ?hd (cs := #[.slice A1_0 l1_0.length c1_0, .int .i64 a1_1, .int .i64 a1_2, .string a1_3]) (t := 44) ?hr ?_; (case hd => rfl); (case hg => rfl); (case hr => first | (go_simp; done) | (go_simp; rfl)); intro gb1463 hg w29 hbox hb; have BK1463 := Aside0.mk (hbox); have GW1463 := Aside0.mk ((by rw [hg]; exact (below_size (hb_ HB.out)) : w.heap.size ≤ gb1463)); replace HB := Aside0.mk (below_step (hb_ HB.out) hb); have GE1463 := GW1463; clear hb hbox hg) | ((with_reducible refine gate_callee (f := 129) rfl ?_); refine goesL_ (some 16) rfl rfl Try.func129 (by kernel_rfl) rfl #[.slice A0 l0.length c0] rfl (by (try simp only [mp_]); first | done | rfl | (simp only [List.length_drop, List.length_take]; rfl)) ?_; (with_reducible refine (impl_copyGroups.calls k _ _ l0 t1464 _ ?side1 ?side2 A6.out).mono ?_); (case side1 => exact cp_ ((Kd.C_below HR0.out HB.out))); (case side2 => exact HC0.out); rintro e w30 ⟨v1465, rfl, ho0, hb⟩; refine ⟨_, rfl, ?_⟩; obtain ⟨gbz1465, hz1465⟩ := Kd.S_name ho0; have HO1466 := Aside0.mk (Kd.S_lower (Kd.S_newB (Kd.S_gez hz1465 ho0) (g := gb1463) (o := .cells #[.slice A1_0 l1_0.length c1_0, .int .i64 a1_1, .int .i64 a1_2, .string a1_3] 44 (0, 0)) (pb_ BK1463.out)) (below_size (by repeat (first | (with_reducible first | exact HB.out | apply ba_ | apply bn_ | apply bd_ | apply bs_ GE1463) | exact HB.out)))); replace BK1463 := Aside0.mk (bb_ BK1463.out hb); replace HB := Aside0.mk (below_step (by repeat (first | (with_reducible first | exact HB.out | apply ba_ | apply bn_ | apply bd_ | apply bs_ GE1463) | exact HB.out)) hb); (try clear hb); (try clear hb2); (try clear hk); (try clear hi); (try clear ho0); obtain ⟨hcz31_0, hcz31_1, hcz31_2, hcz31_3, hfz31_0, hfz31_1, hfz31_2, hfz31_3⟩ := bc4_ BK1463.out) | ((with_reducible refine gate_callee (f := 130) rfl ?_); refine goesL_ (some 19) rfl rfl Try.func130 (by kernel_rfl) rfl #[.agg #[.slice A1_0 l1_0.length c1_0, .int .i64 a1_1, .int .i64 a1_2, .string a1_3], .slice A2 l2.length c2] rfl (by (try simp only [mp_]); first | done | rfl | (simp only [List.length_drop, List.length_take]; rfl)) ?_; (with_reducible refine (impl_KeyOf.calls k _ _ l1_0 a1_1 a1_2 a1_3 _ _ l2 t1467 _ ?side1 ?side2 ?side3 ?side4 A7.out).mono ?_); (case side1 => exact cp_ ((Kd.C_below HR1_0.out HB.out))); (case side2 => exact HC1_0.out); (case side3 => exact cp_ ((Kd.C_below HR2.out HB.out))); (case side4 => exact HC2.out); rintro e w32 ⟨v1468, rfl, ho0, hb⟩; refine ⟨_, rfl, ?_⟩; obtain ⟨gbz1468, hz1468⟩ := Kd.R_name ho0; replace HO1466 := Aside0.mk (Kd.S_below (Kd.S_ltz hz1468 (sp_ HO1466.out)) hb); have HO1469 := Aside0.mk (Kd.R_lower (Kd.R_gez hz1468 ho0) (below_size (by repeat (first | (with_reducible first | exact HB.out | apply ba_ | apply bn_ | apply bd_ | apply bs_ GE1463) | exact HB.out)))); replace BK1463 := Aside0.mk (bb_ BK1463.out hb); replace HB := Aside0.mk (below_step (by repeat (first | (with_reducible first | exact HB.out | apply ba_ | apply bn_ | apply bd_ | apply bs_ GE1463) | exact HB.out)) hb); (try clear hb); (try clear hb2); (try clear hk); (try clear hi); (try clear ho0); obtain ⟨Ao33, co33, eo33⟩ := Kd.R_slice HO1469.out; subst eo33) | ((with_reducible refine gate_callee (f := 117) rfl ?_); refine goesL_ (some 22) rfl rfl Try.func117 (by kernel_rfl) rfl #[.slice A0 l0.length c0, .slice Ao33 t1467.length co33] rfl (by (try simp only [mp_]); first | done | rfl | (simp only [List.length_drop, List.length_take]; rfl)) ?_; (with_reducible refine (impl_GroupOf.calls k _ _ l0 _ _ t1467 t1470 _ ?side1 ?side2 ?side3 ?side4 A8.out).mono ?_); (case side1 => exact cp_ ((Kd.C_below HR0.out HB.out))); (case side2 => exact HC0.out); (case side3 => exact cp_ ((Kd.R_reads' HO1469.out).2.2)); (case side4 => exact (Kd.R_reads' HO1469.out).2.1); rintro e w34 ⟨rfl, hb⟩; refine ⟨_, rfl, ?_⟩; replace HO1466 := Aside0.mk (Kd.S_below (sp_ HO1466.out) hb); replace HO1469 := Aside0.mk (Kd.R_below (rp_ HO1469.out) hb); replace BK1463 := Aside0.mk (bb_ BK1463.out hb); replace HB := Aside0.mk (below_step (by repeat (first | (with_reducible first | exact HB.out | apply ba_ | apply bn_ | apply bd_ | apply bs_ GE1463) | exact HB.out)) hb); (try clear hb); (try clear hb2); (try clear hk); (try clear hi); obtain ⟨hcz35_0, hcz35_1, hcz35_2, hcz35_3, hfz35_0, hfz35_1, hfz35_2, hfz35_3⟩ := bc4_ BK1463.out) | ((with_reducible refine gate_callee (f := 97) rfl ?_); refine goesL_ (some 40) rfl rfl Try.func97 (by kernel_rfl) rfl #[.agg #[.slice A1_0 l1_0.length c1_0, .int .i64 a1_1, .int .i64 a1_2, .string a1_3]] rfl (by (try simp only [mp_]); first | done | rfl | (simp only [List.length_drop, List.length_take]; rfl)) ?_; (with_reducible refine (impl_copyAlarm.calls _ _ l1_0 a1_1 a1_2 a1_3 t1482 t1485 t1486 t1487 _ ?side1 ?side2 A27.out).mono ?_); (case side1 => exact cp_ ((Kd.C_below HR1_0.out HB.out))); (case side2 => exact HC1_0.out); rintro e w36 ⟨v1483, rfl, ho0, hb⟩; refine ⟨_, rfl, ?_⟩; obtain ⟨gbz1483, hz1483⟩ := Kd.R_name ho0; replace HO1466 := Aside0.mk (Kd.S_below (Kd.S_ltz hz1483 (sp_ HO1466.out)) hb); replace HO1469 := Aside0.mk (Kd.R_below (Kd.R_ltz hz1483 (rp_ HO1469.out)) hb); have HO1484 := Aside0.mk (Kd.R_lower (Kd.R_gez hz1483 ho0) (below_size (by repeat (first | (with_reducible first | exact HB.out | apply ba_ | apply bn_ | apply bd_ | apply bs_ GE1463) | exact HB.out)))); replace BK1463 := Aside0.mk (bb_ BK1463.out hb); replace HB := Aside0.mk (below_step (by repeat (first | (with_reducible first | exact HB.out | apply ba_ | apply bn_ | apply bd_ | apply bs_ GE1463) | exact HB.out)) hb); (try clear hb); (try clear hb2); (try clear hk); (try clear hi); (try clear ho0); obtain ⟨Ao37, co37, eo37⟩ := Kd.R_slice HO1484.out; subst eo37) | ((with_reducible refine gate_dst (N := 41) rfl ?_); refine Kd.S_lit2 k44 w.heap.size 44 ?hg (N := 41) ?hd (x := (⟨t1482, t1485, t1486, t1487⟩ : S44)) (cs := [.slice Ao37 t1482.length co37, .int .i64 t1485, .int .i64 t1486, .string t1487]) (ok := (fun k_ => some k_ ≠ (.slice Ao33 t1467.length co33 : Value).ownBlock ∧ k_ ≠ gb1463)) (okp := (fun k_ => some k_ = (.slice Ao37 t1482.length co37 : Value).ownBlock)) (fun k_ => gbz1483 ≤ k_) ?hr ?hp (fun k_ hk_ => (fun e_ => e_.1.1.2) ((Kd.R_types ((Kd.R_mono HO1484.out (fun k_ hk => (⟨hk, fun ez_ => Nat.lt_irrefl _ (Nat.lt_of_lt_of_le (HO1469.out.1 _ ez_.symm).2 hk.2)⟩ : _ ∧ some k_ ≠ (.slice Ao33 t1467.length co33 : Value).ownBlock)))) BK1463.out (by decide)).1 k_ hk_.symm)) (fun k_ hk_ => ((Kd.R_mono (ok' := (fun k_ => some k_ ≠ (.slice Ao33 t1467.length co33 : Value).ownBlock ∧ k_ ≠ gb1463)) (Kd.R_types ((Kd.R_mono HO1484.out (fun k_ hk => (⟨hk, fun ez_ => Nat.lt_irrefl _ (Nat.lt_of_lt_of_le (HO1469.out.1 _ ez_.symm).2 hk.2)⟩ : _ ∧ some k_ ≠ (.slice Ao33 t1467.length co33 : Value).ownBlock)))) BK1463.out (by decide)) (fun k_ hk => ⟨hk.1.2, hk.2⟩))).1 k_ hk_.symm) ?hf ?aS ?_; (case hd => rfl); (case hg => rfl); (case hr => first | (go_simp; done) | (go_simp; rfl)); (case hp => exact (k44_mkM _ _ _ (⟨t1482, t1485, t1486, t1487⟩ : S44) (Kd.R_mono (Kd.R_tight rfl (Kd.R_mono (ok' := (fun k_ => some k_ ≠ (.slice Ao33 t1467.length co33 : Value).ownBlock ∧ k_ ≠ gb1463)) (Kd.R_types ((Kd.R_mono HO1484.out (fun k_ hk => (⟨hk, fun ez_ => Nat.lt_irrefl _ (Nat.lt_of_lt_of_le (HO1469.out.1 _ ez_.symm).2 hk.2)⟩ : _ ∧ some k_ ≠ (.slice Ao33 t1467.length co33 : Value).ownBlock)))) BK1463.out (by decide)) (fun k_ hk => ⟨hk.1.2, hk.2⟩))) (fun _ h_ => h_)))); (case hf => exact (show ∀ k_, w36.heap.size ≤ k_ → ((fun k_ => some k_ ≠ (.slice Ao33 t1467.length co33 : Value).ownBlock ∧ k_ ≠ gb1463)) k_ from fun k_ hk => ⟨Kd.fresh' (Kd.R_lt (rp_ HO1469.out)) k_ hk, Kd.freshB (g := gb1463) (o := .cells #[.slice A1_0 l1_0.length c1_0, .int .i64 a1_1, .int .i64 a1_2, .string a1_3] 44 (0, 0)) (pb_ BK1463.out) k_ hk⟩) _ (Nat.le_refl _)); (case aS => exact (below_size (by repeat (first | (with_reducible first | exact HB.out | apply ba_ | apply bn_ | apply bd_ | apply bs_ GE1463) | exact HB.out)))); intro v1489 w38 ho39 hb hnew_; rw [← Ny1488.out] at ho39; replace HO1466 := Aside0.mk (Kd.S_elder' (sp_ HO1466.out) hnew_ hb); replace HO1469 := Aside0.mk (Kd.R_below (rp_ HO1469.out) hb); have HO1490 := Aside0.mk (ho39); replace BK1463 := Aside0.mk (bb_ BK1463.out hb); replace HB := Aside0.mk (below_step (by repeat (first | (with_reducible first | exact HB.out | apply ba_ | apply bn_ | apply bd_ | apply bs_ GE1463) | exact HB.out)) hb); clear HO1484; clear hb hnew_ ho39; obtain ⟨Ao40, co40, eo40⟩ := Kd.S_slice HO1490.out; subst eo40; obtain ⟨PXP42, hPXP42, hPlP42⟩ := Kd.S_fp (Kd.S_apart' (HO1490.out) (Kd.S_typed HO1466.out) (by decide))) | ((with_reducible refine gate_builtin (b := .append) (xs := #[.tmp 35, .tmp 43]) rfl ?_); at_builtin; refine Kd.S_append k75 (w0 := w) w.heap.size rfl (.tmp 35) (.tmp 43) 87 75 (.agg #[(.int .i64 0), (.slice none 0 0), (.int .i64 0), (.int .i64 0), (.slice none 0 0)]) 72 rfl Try.underlying87 info75 rfl (by decide) (by omega) v1465 t1464 (⟨a3, t1467, a4, (-1), y1488⟩ : S75) [.int .i64 a3, .slice Ao33 t1467.length co33, .int .i64 a4, .int .i64 (-1), .slice Ao40 y1488.length co40] (fun k_ => k_ ≠ gb1463) (fun k_ => some k_ = (.slice Ao33 t1467.length co33 : Value).ownBlock ∨ PXP42 k_) rfl rfl ?aP (fun k_ hk_ => hk_.elim (fun h_ => ((Kd.R_mono (ok' := fun k_ => ((fun k_ => k_ ≠ gb1463)) k_ ∧ some k_ ≠ (v1465 : Value).ownBlock) (Kd.R_types (Kd.R_apart' (HO1469.out) (Kd.S_typed HO1466.out) (by decide)) BK1463.out (by decide)) (fun k_ hk => ⟨hk.2, hk.1.2⟩))).1 k_ h_.symm) (fun h_ => ⟨(hPlP42 k_ h_).1.1.1.2, (hPlP42 k_ h_).1.2⟩)) ?aF ?aO ?aB ?aS ?aL ?_; (case aP => exact k75_mkM _ _ _ (⟨a3, t1467, a4, (-1), y1488⟩ : S75) (P := fun k_ => some k_ = (.slice Ao33 t1467.length co33 : Value).ownBlock) (Kd.R_mono (Kd.R_tight rfl (Kd.R_mono (ok' := fun k_ => ((fun k_ => k_ ≠ gb1463)) k_ ∧ some k_ ≠ (v1465 : Value).ownBlock) (Kd.R_types (Kd.R_apart' (HO1469.out) (Kd.S_typed HO1466.out) (by decide)) BK1463.out (by decide)) (fun k_ hk => ⟨hk.2, hk.1.2⟩))) (fun _ h_ => ⟨Or.inl h_, h_⟩)) (Kd.S_mono hPXP42 (fun k_ h_ => ⟨Or.inr (h_), fun e_ => (hPlP42 k_ h_).1.1.1.1 e_⟩))); (case aB => exact (by repeat (first | (with_reducible first | exact HB.out | apply ba_ | apply bn_ | apply bd_ | apply bs_ GE1463) | exact HB.out))); (case aF => exact (fun k_ hk => Kd.freshB (g := gb1463) (o := .cells #[.slice A1_0 l1_0.length c1_0, .int .i64 a1_1, .int .i64 a1_2, .string a1_3] 44 (0, 0)) (pb_ BK1463.out) k_ hk)); (case aO => exact (by (with_reducible repeat (first | apply Kd.S_alloc | apply Kd.S_drewN | apply Kd.S_drew)); exact Kd.S_mono HO1466.out (fun k_ hk => ⟨hk.1.1.1.2, fun e_ => e_.elim (fun h_ => (fun ez_ => Nat.lt_irrefl _ (Nat.lt_of_lt_of_le hk.1.1.2 (HO1469.out.1 _ ez_.symm).1.2)) h_) (fun h_ => (fun ez_ => Or.elim (hPlP42 _ ez_).1.1.2 (fun e3_ => hk.2 e3_) (fun e3_ => Nat.lt_irrefl _ (Nat.lt_of_lt_of_le hk.1.2 e3_))) h_)⟩))); (case aS => exact (below_size (by repeat (first | (with_reducible first | exact HB.out | apply ba_ | apply bn_ | apply bd_ | apply bs_ GE1463) | exact HB.out)))); (case aL => have := LMc28.out; omega); intro v1492 w41 ho hb hg hat; rw [← Ny1491.out] at ho; replace BK1463 := Aside0.mk (blk_grown (g := gb1463) (o := .cells #[.slice A1_0 l1_0.length c1_0, .int .i64 a1_1, .int .i64 a1_2, .string a1_3] 44 (0, 0)) (pb_ BK1463.out) hg (Kd.S_ne HO1466.out BK1463.out (by decide))); replace HB := Aside0.mk (hb); have HO1493 := Aside0.mk (ho); clear HO1466 HO1469 HO1490; clear ho hb hg hat))
  go_ret2
  exact ⟨_, by first | rfl | (simp [errW_none, errW_some] <;> rfl) | (simp [*, errW_none, errW_some] <;> rfl), by (with_reducible repeat (first | apply Kd.S_alloc | apply Kd.S_drewN | apply Kd.S_drew)); exact Kd.S_mono HO1493.out (fun _ hk => trivial), by repeat (first | (with_reducible first | exact HB.out | apply ba_ | apply bn_ | apply bd_ | apply bs_ GE1463) | exact HB.out)⟩
 rw [if_neg c28] at H
 exact absurd H (by simp)
def laws_markAlarmS.l0 : Nat → List S44 → Int → Int → Option (Int × (List S44))
 | 0, _, _, _ => none
 | k + 1, x0, x1, x5 => if x5 < (x0.length : Int) then (if 0 ≤ x5 then ((laws_markLabelS.f k (rd_T44 x0 x5).f0 x1).bind fun b0 => ((laws_markText.f k (wrap64 ((wrap64 (b0.1 + 1)) + 1))).bind fun b3 => (laws_markAlarmS.l0 k (x0.set x5.toNat (⟨b0.2, b0.1, wrap64 (b0.1 + 1), b3⟩ : S44)) (wrap64 ((wrap64 ((wrap64 (b0.1 + 1)) + 1)) + 1)) (wrap64 (x5 + 1))))) else (none)) else (some (x1, x0))
def laws_markAlarmS.f (k : Nat) (l0 : List S44) (a1 : Int) : Option (Int × (List S44)) := laws_markAlarmS.l0 k l0 a1 0
theorem laws_markAlarmS.mono_l : ∀ k, (∀ y0 y1 y2, LeO (laws_markAlarmS.l0 k y0 y1 y2) (laws_markAlarmS.l0 (k + 1) y0 y1 y2))
 | 0 => fun _ _ _ r h => by simp [laws_markAlarmS.l0] at h
 | k + 1 => by
  have ih0 := laws_markAlarmS.mono_l k
  intro y0 y1 y2
  unfold laws_markAlarmS.l0
  repeat' first
  | (with_reducible exact ih0 _ _ _)
  | (with_reducible exact laws_markLabelS.mono _ _ _)
  | (with_reducible exact laws_markText.mono _ _)
  | (with_reducible exact LeO.refl _)
  | (with_reducible exact LeO.none _)
  | (with_reducible refine LeO.ite ?_ ?_)
  | (with_reducible refine LeO.bind ?_ (fun _ => ?_))
  | exact ih0 _ _ _
  | exact laws_markLabelS.mono _ _ _
  | exact laws_markText.mono _ _
theorem laws_markAlarmS.mono : ∀ a0 a1 k, LeO (laws_markAlarmS.f k a0 a1) (laws_markAlarmS.f (k + 1) a0 a1) := by
 intro a0 a1 k
 have ih0 := laws_markAlarmS.mono_l k
 unfold laws_markAlarmS.f
 repeat' first
   | (with_reducible exact ih0 _ _ _)
   | (with_reducible exact laws_markLabelS.mono _ _ _)
   | (with_reducible exact laws_markText.mono _ _)
   | (with_reducible exact LeO.refl _)
   | (with_reducible exact LeO.none _)
   | (with_reducible refine LeO.ite ?_ ?_)
   | (with_reducible refine LeO.bind ?_ (fun _ => ?_))
   | exact ih0 _ _ _
   | exact laws_markLabelS.mono _ _ _
   | exact laws_markText.mono _ _
theorem laws_markAlarmS.calls (k : Nat) (P0_ : Nat → Prop) (u9000_ : Value) (l0 : List S44) (a1 : Int) (r1 : Int) (r2 : List S44) (w0 w : World) (hB : Below w0.heap.size w0 w) (ho0 : Kd.S k44 44 w w0.heap.size P0_ u9000_ l0) (h : laws_markAlarmS.f k l0 a1 = some (r1, r2)) :
  Calls Try.prog 39 #[u9000_, .int .i64 a1] w fun e w' => e = .returned (.int .i64 r1) ∧ Kd.S k44 44 w' w0.heap.size P0_ u9000_ r2 ∧ Below w0.heap.size w0 w' ∧ Kept w w' (fun k_ => P0_ k_) := by
 have HO := Aside0.mk ho0
 have HK := Aside0.mk (Kept.refl w (fun k_ => P0_ k_))
 have HB := Aside0.mk hB
 clear hB ho0
 have H' := Aside0.mk (show laws_markAlarmS.l0 k l0 a1 0 = some (r1, r2) from h)
 clear h
 go_enter Try.func39, Try.ntmps39
 go_wp2
 go_loopg [1, 5] k (fun kq v1 v5 w' => ∃ (x0_1 : List S44) (x1_1 : Int) (x5_1 : Int), v1 = .int .i64 x1_1 ∧ v5 = .int .i64 x5_1 ∧ Aside0 (laws_markAlarmS.l0 kq x0_1 x1_1 x5_1 = some (r1, r2)) ∧ Aside0 (kq ≤ k) ∧ Aside0 (Kd.S k44 44 w' w0.heap.size P0_ u9000_ x0_1) ∧ Aside0 (Kept w w' (fun k_ => P0_ k_)) ∧ Aside0 (Below w0.heap.size w0 w'))
 case atStart => exact ⟨l0, a1, 0, (by first | rfl | (simp; done) | (simp [*]; done)), (by first | rfl | (simp; done) | (simp [*]; done)), H', ⟨Nat.le_refl _⟩, ⟨(sp_ HO.out)⟩, ⟨(by repeat (first | (with_reducible first | exact HK.out | apply Kept.alloc | apply Kept.drewN | apply Kept.drew) | exact HK.out))⟩, ⟨(hb_ HB.out)⟩⟩
 case round =>
  clear H'
  obtain ⟨x0_1, x1_1, x5_1, rfl, rfl, HA, HK1, HO, HK, HB⟩ := hrel
  cases gk with
  | zero => exact absurd HA.out (by simp [laws_markAlarmS.l0])
  | succ k1 =>
   have H := HA.out
   clear HA
   simp only [laws_markAlarmS.l0] at H
   by_cases c3 : x5_1 < (x0_1.length : Int)
   ·
    rw [if_pos c3] at H
    have c3b0 := decide_eq_true c3
    by_cases c4 : 0 ≤ x5_1
    ·
     rw [if_pos c4] at H
     have c4b0 := decide_eq_true c4
     obtain ⟨⟨t0, s0⟩, A0_, H⟩ := Option.bind_eq_some_iff.mp H
     have A0 := Aside0.mk A0_; clear A0_; dsimp only at H A0
     obtain ⟨s3, A3_, H⟩ := Option.bind_eq_some_iff.mp H
     have A3 := Aside0.mk A3_; clear A3_; (try dsimp only at H A3)
     have H' := Aside0.mk H
     clear H
     obtain ⟨Ao, co, eo⟩ := Kd.S_slice HO.out
     subst eo
     obtain ⟨go, co_, eo_, gb_, gl_, cl_, HG_⟩ := Kd.S_form HO.out (by omega)
     (first | cases eo_ | (injection eo_ with ea_ en_ ec_; (first | subst ea_ | (injection ea_ with ea_; subst ea_)); subst ec_; clear en_))
     have GB := Aside0.mk gb_
     clear gb_ gl_ HG_
     have p5 : (0 ≤ (x5_1 : Int)) = True := eq_true c4
     have q5 : ((x5_1 : Int) < (x0_1.length : Int)) = True := eq_true c3
     have HO1 := Aside0.mk (show Kd.S k44 44 wr w0.heap.size P0_ (.slice (some ⟨go, 0, none⟩) x0_1.length co) (x0_1.set (x5_1 : Int).toNat (rd_T44 x0_1 x5_1)) from S_begin HO.out z44 x5_1 c4 c3)
     clear HO
     have HO := HO1
     clear HO1
     obtain ⟨oki1, ce1, hM1, hcc1, hfr1, hoki1, hin1, hput1⟩ := S_hand HO.out c4 c3
     obtain ⟨ve1_0, rfl, ge1_0⟩ := k44_openM hM1
     have hx1_0 : wr.cell? ⟨go, (x5_1 : Int).toNat * 4, none⟩ = some (ve1_0) := hcc1 0 _ rfl
     have hf1_0 : wr.frozen? ⟨go, (x5_1 : Int).toNat * 4, none⟩ = false := hfr1 0
     have hx1_1 : wr.cell? ⟨go, (x5_1 : Int).toNat * 4 + 1, none⟩ = some (.int .i64 ((rd_T44 x0_1 x5_1).f1)) := hcc1 1 _ rfl
     have hf1_1 : wr.frozen? ⟨go, (x5_1 : Int).toNat * 4 + 1, none⟩ = false := hfr1 1
     have hx1_2 : wr.cell? ⟨go, (x5_1 : Int).toNat * 4 + 2, none⟩ = some (.int .i64 ((rd_T44 x0_1 x5_1).f2)) := hcc1 2 _ rfl
     have hf1_2 : wr.frozen? ⟨go, (x5_1 : Int).toNat * 4 + 2, none⟩ = false := hfr1 2
     have hx1_3 : wr.cell? ⟨go, (x5_1 : Int).toNat * 4 + 3, none⟩ = some (.string ((rd_T44 x0_1 x5_1).f3)) := hcc1 3 _ rfl
     have hf1_3 : wr.frozen? ⟨go, (x5_1 : Int).toNat * 4 + 3, none⟩ = false := hfr1 3
     clear hcc1 hfr1 hM1
     go_wp2_with (first | ((with_reducible refine gate_callee (f := 99) rfl ?_); refine goesL_ (some 18) rfl rfl Try.func99 (by kernel_rfl) rfl #[ve1_0, .int .i64 x1_1] rfl (by (try simp only [mp_]); first | done | rfl | (simp only [List.length_drop, List.length_take]; rfl)) ?_; (with_reducible refine (laws_markLabelS.calls k1 oki1 ve1_0 ((rd_T44 x0_1 x5_1).f0) x1_1 t0 s0 w0 _ (hb_ HB.out) ge1_0 A0.out).mono ?_); rintro e wm1 ⟨rfl, hy, hb, hkp⟩; refine ⟨_, rfl, ?_⟩; replace HO := Aside0.mk (hin1 wm1 (⟨s0, ((rd_T44 x0_1 x5_1).f1), ((rd_T44 x0_1 x5_1).f2), ((rd_T44 x0_1 x5_1).f3)⟩ : S44) hkp (k44_mkM _ _ _ (⟨s0, ((rd_T44 x0_1 x5_1).f1), ((rd_T44 x0_1 x5_1).f2), ((rd_T44 x0_1 x5_1).f3)⟩ : S44) (Kd.R_reok rfl hy (fun k_ e_ => ge1_0.1 k_ e_)))); replace HK := Aside0.mk (Kept.then_ (S := (fun k_ => P0_ k_)) (by repeat (first | (with_reducible first | exact HK.out | apply Kept.alloc | apply Kept.drewN | apply Kept.drew) | exact HK.out)) hkp (fun k_ h_ => .inl (hoki1 k_ h_).1)); replace HB := Aside0.mk hb; obtain ⟨oki2, ce2, hM2, hcc2, hfr2, hoki2, hin2, hput2⟩ := S_hand HO.out c4 c3; obtain ⟨ve2_0, rfl, ge2_0⟩ := k44_openM hM2; have hx2_0 : wm1.cell? ⟨go, (x5_1 : Int).toNat * 4, none⟩ = some (ve2_0) := hcc2 0 _ rfl; have hf2_0 : wm1.frozen? ⟨go, (x5_1 : Int).toNat * 4, none⟩ = false := hfr2 0; have hx2_1 : wm1.cell? ⟨go, (x5_1 : Int).toNat * 4 + 1, none⟩ = some (.int .i64 ((rd_T44 x0_1 x5_1).f1)) := hcc2 1 _ rfl; have hf2_1 : wm1.frozen? ⟨go, (x5_1 : Int).toNat * 4 + 1, none⟩ = false := hfr2 1; have hx2_2 : wm1.cell? ⟨go, (x5_1 : Int).toNat * 4 + 2, none⟩ = some (.int .i64 ((rd_T44 x0_1 x5_1).f2)) := hcc2 2 _ rfl; have hf2_2 : wm1.frozen? ⟨go, (x5_1 : Int).toNat * 4 + 2, none⟩ = false := hfr2 2; have hx2_3 : wm1.cell? ⟨go, (x5_1 : Int).toNat * 4 + 3, none⟩ = some (.string ((rd_T44 x0_1 x5_1).f3)) := hcc2 3 _ rfl; have hf2_3 : wm1.frozen? ⟨go, (x5_1 : Int).toNat * 4 + 3, none⟩ = false := hfr2 3; clear hcc2 hfr2 hM2) | ((with_reducible refine gate_store (t := 3) (p := 23) rfl ?_); refine store_event (t := 3) (p := 23) (v := ?vo_wm2) (w1 := (wm1.setCell ⟨go, (x5_1 : Int).toNat * 4 + 1, none⟩ (.int .i64 t0))) ?hg ?ho ?hn ?hr ?_; (case ho => rfl); (case hg => rfl); (case hn => rfl); (case hr => first | (go_simp; done) | (go_simp; rfl)); intro wm2 hw; have hs_ := hput2 (.int .i64 t0) 1 (⟨s0, t0, ((rd_T44 x0_1 x5_1).f2), ((rd_T44 x0_1 x5_1).f3)⟩ : S44) rfl (by decide) (k44_mkM _ _ _ (⟨s0, t0, ((rd_T44 x0_1 x5_1).f2), ((rd_T44 x0_1 x5_1).f3)⟩ : S44) ge2_0); have hg : wm1.grownBy wm2 (some go) := (by rw [hw]; exact hs_.2); replace HB := Aside0.mk (show Below w0.heap.size w0 wm2 from (by rw [hw]; exact below_set (HB.out) GB.out)); replace HK := Aside0.mk (Kept.of_grown (S := (fun k_ => P0_ k_)) hg (by repeat (first | (with_reducible first | exact HK.out | apply Kept.alloc | apply Kept.drewN | apply Kept.drew) | exact HK.out)) (fun k_ e_ => .inl ((Kd.S_R HO.out).1 k_ e_))); replace HO := Aside0.mk (show Kd.S k44 44 wm2 w0.heap.size P0_ (.slice (some ⟨go, 0, none⟩) x0_1.length co) (x0_1.set (x5_1 : Int).toNat (⟨s0, t0, ((rd_T44 x0_1 x5_1).f2), ((rd_T44 x0_1 x5_1).f3)⟩ : S44)) from (by rw [hw]; exact hs_.1)); clear hg hw hs_; obtain ⟨oki3, ce3, hM3, hcc3, hfr3, hoki3, hin3, hput3⟩ := S_hand HO.out c4 c3; obtain ⟨ve3_0, rfl, ge3_0⟩ := k44_openM hM3; have hx3_0 : wm2.cell? ⟨go, (x5_1 : Int).toNat * 4, none⟩ = some (ve3_0) := hcc3 0 _ rfl; have hf3_0 : wm2.frozen? ⟨go, (x5_1 : Int).toNat * 4, none⟩ = false := hfr3 0; have hx3_1 : wm2.cell? ⟨go, (x5_1 : Int).toNat * 4 + 1, none⟩ = some (.int .i64 t0) := hcc3 1 _ rfl; have hf3_1 : wm2.frozen? ⟨go, (x5_1 : Int).toNat * 4 + 1, none⟩ = false := hfr3 1; have hx3_2 : wm2.cell? ⟨go, (x5_1 : Int).toNat * 4 + 2, none⟩ = some (.int .i64 ((rd_T44 x0_1 x5_1).f2)) := hcc3 2 _ rfl; have hf3_2 : wm2.frozen? ⟨go, (x5_1 : Int).toNat * 4 + 2, none⟩ = false := hfr3 2; have hx3_3 : wm2.cell? ⟨go, (x5_1 : Int).toNat * 4 + 3, none⟩ = some (.string ((rd_T44 x0_1 x5_1).f3)) := hcc3 3 _ rfl; have hf3_3 : wm2.frozen? ⟨go, (x5_1 : Int).toNat * 4 + 3, none⟩ = false := hfr3 3; clear hcc3 hfr3 hM3) | ((with_reducible refine gate_store (t := 3) (p := 30) rfl ?_); refine store_event (t := 3) (p := 30) (v := ?vo_wm3) (w1 := (wm2.setCell ⟨go, (x5_1 : Int).toNat * 4 + 2, none⟩ (.int .i64 (wrap64 (t0 + 1))))) ?hg ?ho ?hn ?hr ?_; (case ho => rfl); (case hg => rfl); (case hn => rfl); (case hr => first | (go_simp; done) | (go_simp; rfl)); intro wm3 hw; have hs_ := hput3 (.int .i64 (wrap64 (t0 + 1))) 2 (⟨s0, t0, wrap64 (t0 + 1), ((rd_T44 x0_1 x5_1).f3)⟩ : S44) rfl (by decide) (k44_mkM _ _ _ (⟨s0, t0, wrap64 (t0 + 1), ((rd_T44 x0_1 x5_1).f3)⟩ : S44) ge3_0); have hg : wm2.grownBy wm3 (some go) := (by rw [hw]; exact hs_.2); replace HB := Aside0.mk (show Below w0.heap.size w0 wm3 from (by rw [hw]; exact below_set (HB.out) GB.out)); replace HK := Aside0.mk (Kept.of_grown (S := (fun k_ => P0_ k_)) hg (by repeat (first | (with_reducible first | exact HK.out | apply Kept.alloc | apply Kept.drewN | apply Kept.drew) | exact HK.out)) (fun k_ e_ => .inl ((Kd.S_R HO.out).1 k_ e_))); replace HO := Aside0.mk (show Kd.S k44 44 wm3 w0.heap.size P0_ (.slice (some ⟨go, 0, none⟩) x0_1.length co) (x0_1.set (x5_1 : Int).toNat (⟨s0, t0, wrap64 (t0 + 1), ((rd_T44 x0_1 x5_1).f3)⟩ : S44)) from (by rw [hw]; exact hs_.1)); clear hg hw hs_; obtain ⟨oki4, ce4, hM4, hcc4, hfr4, hoki4, hin4, hput4⟩ := S_hand HO.out c4 c3; obtain ⟨ve4_0, rfl, ge4_0⟩ := k44_openM hM4; have hx4_0 : wm3.cell? ⟨go, (x5_1 : Int).toNat * 4, none⟩ = some (ve4_0) := hcc4 0 _ rfl; have hf4_0 : wm3.frozen? ⟨go, (x5_1 : Int).toNat * 4, none⟩ = false := hfr4 0; have hx4_1 : wm3.cell? ⟨go, (x5_1 : Int).toNat * 4 + 1, none⟩ = some (.int .i64 t0) := hcc4 1 _ rfl; have hf4_1 : wm3.frozen? ⟨go, (x5_1 : Int).toNat * 4 + 1, none⟩ = false := hfr4 1; have hx4_2 : wm3.cell? ⟨go, (x5_1 : Int).toNat * 4 + 2, none⟩ = some (.int .i64 (wrap64 (t0 + 1))) := hcc4 2 _ rfl; have hf4_2 : wm3.frozen? ⟨go, (x5_1 : Int).toNat * 4 + 2, none⟩ = false := hfr4 2; have hx4_3 : wm3.cell? ⟨go, (x5_1 : Int).toNat * 4 + 3, none⟩ = some (.string ((rd_T44 x0_1 x5_1).f3)) := hcc4 3 _ rfl; have hf4_3 : wm3.frozen? ⟨go, (x5_1 : Int).toNat * 4 + 3, none⟩ = false := hfr4 3; clear hcc4 hfr4 hM4) | ((with_reducible refine gate_callee (f := 103) rfl ?_); refine goesL_ (some 36) rfl rfl Try.func103 (by kernel_rfl) rfl #[.int .i64 (wrap64 ((wrap64 (t0 + 1)) + 1))] rfl (by (try simp only [mp_]); first | done | rfl | (simp only [List.length_drop, List.length_take]; rfl)) ?_; (with_reducible refine (laws_markText.calls k1 (wrap64 ((wrap64 (t0 + 1)) + 1)) s3 _ A3.out).mono ?_); rintro e wm4 ⟨rfl, hb⟩; refine ⟨_, rfl, ?_⟩; replace HO := Aside0.mk (Kd.S_below (sp_ HO.out) hb); replace HK := Aside0.mk (Kept.below (S := (fun k_ => P0_ k_)) (by repeat (first | (with_reducible first | exact HK.out | apply Kept.alloc | apply Kept.drewN | apply Kept.drew) | exact HK.out)) hb); replace HB := Aside0.mk (below_step (hb_ HB.out) hb); obtain ⟨oki5, ce5, hM5, hcc5, hfr5, hoki5, hin5, hput5⟩ := S_hand HO.out c4 c3; obtain ⟨ve5_0, rfl, ge5_0⟩ := k44_openM hM5; have hx5_0 : wm4.cell? ⟨go, (x5_1 : Int).toNat * 4, none⟩ = some (ve5_0) := hcc5 0 _ rfl; have hf5_0 : wm4.frozen? ⟨go, (x5_1 : Int).toNat * 4, none⟩ = false := hfr5 0; have hx5_1 : wm4.cell? ⟨go, (x5_1 : Int).toNat * 4 + 1, none⟩ = some (.int .i64 t0) := hcc5 1 _ rfl; have hf5_1 : wm4.frozen? ⟨go, (x5_1 : Int).toNat * 4 + 1, none⟩ = false := hfr5 1; have hx5_2 : wm4.cell? ⟨go, (x5_1 : Int).toNat * 4 + 2, none⟩ = some (.int .i64 (wrap64 (t0 + 1))) := hcc5 2 _ rfl; have hf5_2 : wm4.frozen? ⟨go, (x5_1 : Int).toNat * 4 + 2, none⟩ = false := hfr5 2; have hx5_3 : wm4.cell? ⟨go, (x5_1 : Int).toNat * 4 + 3, none⟩ = some (.string ((rd_T44 x0_1 x5_1).f3)) := hcc5 3 _ rfl; have hf5_3 : wm4.frozen? ⟨go, (x5_1 : Int).toNat * 4 + 3, none⟩ = false := hfr5 3; clear hcc5 hfr5 hM5) | ((with_reducible refine gate_store (t := 9) (p := 38) rfl ?_); refine store_event (t := 9) (p := 38) (v := ?vo_wm5) (w1 := (wm4.setCell ⟨go, (x5_1 : Int).toNat * 4 + 3, none⟩ (.string s3))) ?hg ?ho ?hn ?hr ?_; (case ho => rfl); (case hg => rfl); (case hn => rfl); (case hr => first | (go_simp; done) | (go_simp; rfl)); intro wm5 hw; have hs_ := hput5 (.string s3) 3 (⟨s0, t0, wrap64 (t0 + 1), s3⟩ : S44) rfl (by decide) (k44_mkM _ _ _ (⟨s0, t0, wrap64 (t0 + 1), s3⟩ : S44) ge5_0); have hg : wm4.grownBy wm5 (some go) := (by rw [hw]; exact hs_.2); replace HB := Aside0.mk (show Below w0.heap.size w0 wm5 from (by rw [hw]; exact below_set (HB.out) GB.out)); replace HK := Aside0.mk (Kept.of_grown (S := (fun k_ => P0_ k_)) hg (by repeat (first | (with_reducible first | exact HK.out | apply Kept.alloc | apply Kept.drewN | apply Kept.drew) | exact HK.out)) (fun k_ e_ => .inl ((Kd.S_R HO.out).1 k_ e_))); replace HO := Aside0.mk (show Kd.S k44 44 wm5 w0.heap.size P0_ (.slice (some ⟨go, 0, none⟩) x0_1.length co) (x0_1.set (x5_1 : Int).toNat (⟨s0, t0, wrap64 (t0 + 1), s3⟩ : S44)) from (by rw [hw]; exact hs_.1)); clear hg hw hs_))
     go_roundg k1
     case measure => have := HK1.out; omega
     case rel => exact ⟨x0_1.set (x5_1 : Int).toNat (⟨s0, t0, wrap64 (t0 + 1), s3⟩ : S44), (wrap64 ((wrap64 ((wrap64 (t0 + 1)) + 1)) + 1)), wrap64 (x5_1 + 1), (by first | rfl | (simp; done) | (simp [*]; done)), (by first | rfl | (simp; done) | (simp [*]; done)), H', ⟨by have := HK1.out; omega⟩, ⟨(sp_ HO.out)⟩, ⟨(by repeat (first | (with_reducible first | exact HK.out | apply Kept.alloc | apply Kept.drewN | apply Kept.drew) | exact HK.out))⟩, ⟨(hb_ HB.out)⟩⟩
    rw [if_neg c4] at H
    exact absurd H (by simp)
   rw [if_neg c3] at H
   have c3b0 : decide (x5_1 < (x0_1.length : Int)) = false := decide_eq_false c3
   simp only [Option.some.injEq, Prod.mk.injEq] at H
   obtain ⟨rfl, rfl⟩ := H
   obtain ⟨Ao, co, eo⟩ := Kd.S_slice HO.out
   subst eo
   go_wp2
   go_ret
   exact ⟨by first | rfl | (simp [*] <;> rfl), (sp_ HO.out), (hb_ HB.out), (by repeat (first | (with_reducible first | exact HK.out | apply Kept.alloc | apply Kept.drewN | apply Kept.drew) | exact HK.out))⟩
def laws_markGroupS.l0 : Nat → List S75 → Int → Int → Option (Int × (List S75))
 | 0, _, _, _ => none
 | k + 1, x0, x1, x5 => if x5 < (x0.length : Int) then (if 0 ≤ x5 then ((laws_markLabelS.f k (rd_T75 x0 x5).f1 (wrap64 (x1 + 1))).bind fun b1 => ((laws_markAlarmS.f k (rd_T75 x0 x5).f4 (wrap64 ((wrap64 (b1.1 + 1)) + 1))).bind fun b4 => (laws_markGroupS.l0 k (x0.set x5.toNat (⟨x1, b1.2, b1.1, wrap64 (b1.1 + 1), b4.2⟩ : S75)) b4.1 (wrap64 (x5 + 1))))) else (none)) else (some (x1, x0))
def laws_markGroupS.f (k : Nat) (l0 : List S75) (a1 : Int) : Option (Int × (List S75)) := laws_markGroupS.l0 k l0 a1 0
theorem laws_markGroupS.mono_l : ∀ k, (∀ y0 y1 y2, LeO (laws_markGroupS.l0 k y0 y1 y2) (laws_markGroupS.l0 (k + 1) y0 y1 y2))
 | 0 => fun _ _ _ r h => by simp [laws_markGroupS.l0] at h
 | k + 1 => by
  have ih0 := laws_markGroupS.mono_l k
  intro y0 y1 y2
  unfold laws_markGroupS.l0
  repeat' first
  | (with_reducible exact ih0 _ _ _)
  | (with_reducible exact laws_markAlarmS.mono _ _ _)
  | (with_reducible exact laws_markLabelS.mono _ _ _)
  | (with_reducible exact LeO.refl _)
  | (with_reducible exact LeO.none _)
  | (with_reducible refine LeO.ite ?_ ?_)
  | (with_reducible refine LeO.bind ?_ (fun _ => ?_))
  | exact ih0 _ _ _
  | exact laws_markAlarmS.mono _ _ _
  | exact laws_markLabelS.mono _ _ _
theorem laws_markGroupS.mono : ∀ a0 a1 k, LeO (laws_markGroupS.f k a0 a1) (laws_markGroupS.f (k + 1) a0 a1) := by
 intro a0 a1 k
 have ih0 := laws_markGroupS.mono_l k
 unfold laws_markGroupS.f
 repeat' first
   | (with_reducible exact ih0 _ _ _)
   | (with_reducible exact laws_markAlarmS.mono _ _ _)
   | (with_reducible exact laws_markLabelS.mono _ _ _)
   | (with_reducible exact LeO.refl _)
   | (with_reducible exact LeO.none _)
   | (with_reducible refine LeO.ite ?_ ?_)
   | (with_reducible refine LeO.bind ?_ (fun _ => ?_))
   | exact ih0 _ _ _
   | exact laws_markAlarmS.mono _ _ _
   | exact laws_markLabelS.mono _ _ _
theorem laws_markGroupS.calls (k : Nat) (P0_ : Nat → Prop) (u9000_ : Value) (l0 : List S75) (a1 : Int) (r1 : Int) (r2 : List S75) (w0 w : World) (hB : Below w0.heap.size w0 w) (ho0 : Kd.S k75 75 w w0.heap.size P0_ u9000_ l0) (h : laws_markGroupS.f k l0 a1 = some (r1, r2)) :
  Calls Try.prog 72 #[u9000_, .int .i64 a1] w fun e w' => e = .returned (.int .i64 r1) ∧ Kd.S k75 75 w' w0.heap.size P0_ u9000_ r2 ∧ Below w0.heap.size w0 w' ∧ Kept w w' (fun k_ => P0_ k_) := by
 have HO := Aside0.mk ho0
 have HK := Aside0.mk (Kept.refl w (fun k_ => P0_ k_))
 have HB := Aside0.mk hB
 clear hB ho0
 have H' := Aside0.mk (show laws_markGroupS.l0 k l0 a1 0 = some (r1, r2) from h)
 clear h
 go_enter Try.func72, Try.ntmps72
 go_wp2
 go_loopg [1, 5] k (fun kq v1 v5 w' => ∃ (x0_1 : List S75) (x1_1 : Int) (x5_1 : Int), v1 = .int .i64 x1_1 ∧ v5 = .int .i64 x5_1 ∧ Aside0 (laws_markGroupS.l0 kq x0_1 x1_1 x5_1 = some (r1, r2)) ∧ Aside0 (kq ≤ k) ∧ Aside0 (Kd.S k75 75 w' w0.heap.size P0_ u9000_ x0_1) ∧ Aside0 (Kept w w' (fun k_ => P0_ k_)) ∧ Aside0 (Below w0.heap.size w0 w'))
 case atStart => exact ⟨l0, a1, 0, (by first | rfl | (simp; done) | (simp [*]; done)), (by first | rfl | (simp; done) | (simp [*]; done)), H', ⟨Nat.le_refl _⟩, ⟨(sp_ HO.out)⟩, ⟨(by repeat (first | (with_reducible first | exact HK.out | apply Kept.alloc | apply Kept.drewN | apply Kept.drew) | exact HK.out))⟩, ⟨(hb_ HB.out)⟩⟩
 case round =>
  clear H'
  obtain ⟨x0_1, x1_1, x5_1, rfl, rfl, HA, HK1, HO, HK, HB⟩ := hrel
  cases gk with
  | zero => exact absurd HA.out (by simp [laws_markGroupS.l0])
  | succ k1 =>
   have H := HA.out
   clear HA
   simp only [laws_markGroupS.l0] at H
   by_cases c3 : x5_1 < (x0_1.length : Int)
   ·
    rw [if_pos c3] at H
    have c3b0 := decide_eq_true c3
    by_cases c4 : 0 ≤ x5_1
    ·
     rw [if_pos c4] at H
     have c4b0 := decide_eq_true c4
     obtain ⟨⟨t1, s1⟩, A1_, H⟩ := Option.bind_eq_some_iff.mp H
     have A1 := Aside0.mk A1_; clear A1_; dsimp only at H A1
     obtain ⟨⟨t4, s4⟩, A4_, H⟩ := Option.bind_eq_some_iff.mp H
     have A4 := Aside0.mk A4_; clear A4_; dsimp only at H A4
     have H' := Aside0.mk H
     clear H
     obtain ⟨Ao, co, eo⟩ := Kd.S_slice HO.out
     subst eo
     obtain ⟨go, co_, eo_, gb_, gl_, cl_, HG_⟩ := Kd.S_form HO.out (by omega)
     (first | cases eo_ | (injection eo_ with ea_ en_ ec_; (first | subst ea_ | (injection ea_ with ea_; subst ea_)); subst ec_; clear en_))
     have GB := Aside0.mk gb_
     clear gb_ gl_ HG_
     have p5 : (0 ≤ (x5_1 : Int)) = True := eq_true c4
     have q5 : ((x5_1 : Int) < (x0_1.length : Int)) = True := eq_true c3
     have HO1 := Aside0.mk (show Kd.S k75 75 wr w0.heap.size P0_ (.slice (some ⟨go, 0, none⟩) x0_1.length co) (x0_1.set (x5_1 : Int).toNat (rd_T75 x0_1 x5_1)) from S_begin HO.out z75 x5_1 c4 c3)
     clear HO
     have HO := HO1
     clear HO1
     obtain ⟨oki1, ce1, hM1, hcc1, hfr1, hoki1, hin1, hput1⟩ := S_hand HO.out c4 c3
     obtain ⟨PA1, ve1_1, ve1_4, rfl, ge1_1, ge1_4⟩ := k75_openA hM1
     have hx1_0 : wr.cell? ⟨go, (x5_1 : Int).toNat * 5, none⟩ = some (.int .i64 ((rd_T75 x0_1 x5_1).f0)) := hcc1 0 _ rfl
     have hf1_0 : wr.frozen? ⟨go, (x5_1 : Int).toNat * 5, none⟩ = false := hfr1 0
     have hx1_1 : wr.cell? ⟨go, (x5_1 : Int).toNat * 5 + 1, none⟩ = some (ve1_1) := hcc1 1 _ rfl
     have hf1_1 : wr.frozen? ⟨go, (x5_1 : Int).toNat * 5 + 1, none⟩ = false := hfr1 1
     have hx1_2 : wr.cell? ⟨go, (x5_1 : Int).toNat * 5 + 2, none⟩ = some (.int .i64 ((rd_T75 x0_1 x5_1).f2)) := hcc1 2 _ rfl
     have hf1_2 : wr.frozen? ⟨go, (x5_1 : Int).toNat * 5 + 2, none⟩ = false := hfr1 2
     have hx1_3 : wr.cell? ⟨go, (x5_1 : Int).toNat * 5 + 3, none⟩ = some (.int .i64 ((rd_T75 x0_1 x5_1).f3)) := hcc1 3 _ rfl
     have hf1_3 : wr.frozen? ⟨go, (x5_1 : Int).toNat * 5 + 3, none⟩ = false := hfr1 3
     have hx1_4 : wr.cell? ⟨go, (x5_1 : Int).toNat * 5 + 4, none⟩ = some (ve1_4) := hcc1 4 _ rfl
     have hf1_4 : wr.frozen? ⟨go, (x5_1 : Int).toNat * 5 + 4, none⟩ = false := hfr1 4
     clear hcc1 hfr1 hM1
     go_wp2_with (first | ((with_reducible refine gate_store (t := 3) (p := 16) rfl ?_); refine store_event (t := 3) (p := 16) (v := ?vo_wm1) (w1 := (wr.setCell ⟨go, (x5_1 : Int).toNat * 5, none⟩ (.int .i64 x1_1))) ?hg ?ho ?hn ?hr ?_; (case ho => rfl); (case hg => rfl); (case hn => rfl); (case hr => first | (go_simp; done) | (go_simp; rfl)); intro wm1 hw; have hs_ := hput1 (.int .i64 x1_1) 0 (⟨x1_1, ((rd_T75 x0_1 x5_1).f1), ((rd_T75 x0_1 x5_1).f2), ((rd_T75 x0_1 x5_1).f3), ((rd_T75 x0_1 x5_1).f4)⟩ : S75) rfl (by decide) (k75_mkM _ _ _ (P := PA1) (⟨x1_1, ((rd_T75 x0_1 x5_1).f1), ((rd_T75 x0_1 x5_1).f2), ((rd_T75 x0_1 x5_1).f3), ((rd_T75 x0_1 x5_1).f4)⟩ : S75) ge1_1 ge1_4); have hg : wr.grownBy wm1 (some go) := (by rw [hw]; exact hs_.2); replace HB := Aside0.mk (show Below w0.heap.size w0 wm1 from (by rw [hw]; exact below_set (HB.out) GB.out)); replace HK := Aside0.mk (Kept.of_grown (S := (fun k_ => P0_ k_)) hg (by repeat (first | (with_reducible first | exact HK.out | apply Kept.alloc | apply Kept.drewN | apply Kept.drew) | exact HK.out)) (fun k_ e_ => .inl ((Kd.S_R HO.out).1 k_ e_))); replace HO := Aside0.mk (show Kd.S k75 75 wm1 w0.heap.size P0_ (.slice (some ⟨go, 0, none⟩) x0_1.length co) (x0_1.set (x5_1 : Int).toNat (⟨x1_1, ((rd_T75 x0_1 x5_1).f1), ((rd_T75 x0_1 x5_1).f2), ((rd_T75 x0_1 x5_1).f3), ((rd_T75 x0_1 x5_1).f4)⟩ : S75)) from (by rw [hw]; exact hs_.1)); clear hg hw hs_; obtain ⟨oki2, ce2, hM2, hcc2, hfr2, hoki2, hin2, hput2⟩ := S_hand HO.out c4 c3; obtain ⟨PA2, ve2_1, ve2_4, rfl, ge2_1, ge2_4⟩ := k75_openA hM2; have hx2_0 : wm1.cell? ⟨go, (x5_1 : Int).toNat * 5, none⟩ = some (.int .i64 x1_1) := hcc2 0 _ rfl; have hf2_0 : wm1.frozen? ⟨go, (x5_1 : Int).toNat * 5, none⟩ = false := hfr2 0; have hx2_1 : wm1.cell? ⟨go, (x5_1 : Int).toNat * 5 + 1, none⟩ = some (ve2_1) := hcc2 1 _ rfl; have hf2_1 : wm1.frozen? ⟨go, (x5_1 : Int).toNat * 5 + 1, none⟩ = false := hfr2 1; have hx2_2 : wm1.cell? ⟨go, (x5_1 : Int).toNat * 5 + 2, none⟩ = some (.int .i64 ((rd_T75 x0_1 x5_1).f2)) := hcc2 2 _ rfl; have hf2_2 : wm1.frozen? ⟨go, (x5_1 : Int).toNat * 5 + 2, none⟩ = false := hfr2 2; have hx2_3 : wm1.cell? ⟨go, (x5_1 : Int).toNat * 5 + 3, none⟩ = some (.int .i64 ((rd_T75 x0_1 x5_1).f3)) := hcc2 3 _ rfl; have hf2_3 : wm1.frozen? ⟨go, (x5_1 : Int).toNat * 5 + 3, none⟩ = false := hfr2 3; have hx2_4 : wm1.cell? ⟨go, (x5_1 : Int).toNat * 5 + 4, none⟩ = some (ve2_4) := hcc2 4 _ rfl; have hf2_4 : wm1.frozen? ⟨go, (x5_1 : Int).toNat * 5 + 4, none⟩ = false := hfr2 4; clear hcc2 hfr2 hM2) | ((with_reducible refine gate_callee (f := 99) rfl ?_); refine goesL_ (some 25) rfl rfl Try.func99 (by kernel_rfl) rfl #[ve2_1, .int .i64 (wrap64 (x1_1 + 1))] rfl (by (try simp only [mp_]); first | done | rfl | (simp only [List.length_drop, List.length_take]; rfl)) ?_; (with_reducible refine (laws_markLabelS.calls k1 (fun k_ => oki2 k_ ∧ PA2 k_) ve2_1 ((rd_T75 x0_1 x5_1).f1) (wrap64 (x1_1 + 1)) t1 s1 w0 _ (hb_ HB.out) ge2_1 A1.out).mono ?_); rintro e wm2 ⟨rfl, hy, hb, hkp⟩; refine ⟨_, rfl, ?_⟩; replace HO := Aside0.mk (hin2 wm2 (⟨x1_1, s1, ((rd_T75 x0_1 x5_1).f2), ((rd_T75 x0_1 x5_1).f3), ((rd_T75 x0_1 x5_1).f4)⟩ : S75) ⟨hkp.1, fun k_ hl_ hn_ => hkp.2 k_ hl_ (fun h_ => hn_ h_.1)⟩ (k75_mkM _ _ _ (P := PA2) (⟨x1_1, s1, ((rd_T75 x0_1 x5_1).f2), ((rd_T75 x0_1 x5_1).f3), ((rd_T75 x0_1 x5_1).f4)⟩ : S75) (Kd.R_reok rfl hy (fun k_ e_ => ge2_1.1 k_ e_)) (Kd.S_step ge2_4 (fun k_ ho_ hl_ => hkp.2 k_ hl_ (fun h_ => ho_.2 h_.2))))); replace HK := Aside0.mk (Kept.then_ (S := (fun k_ => P0_ k_)) (by repeat (first | (with_reducible first | exact HK.out | apply Kept.alloc | apply Kept.drewN | apply Kept.drew) | exact HK.out)) hkp (fun k_ h_ => .inl (hoki2 k_ h_.1).1)); replace HB := Aside0.mk hb; obtain ⟨oki3, ce3, hM3, hcc3, hfr3, hoki3, hin3, hput3⟩ := S_hand HO.out c4 c3; obtain ⟨PA3, ve3_1, ve3_4, rfl, ge3_1, ge3_4⟩ := k75_openA hM3; have hx3_0 : wm2.cell? ⟨go, (x5_1 : Int).toNat * 5, none⟩ = some (.int .i64 x1_1) := hcc3 0 _ rfl; have hf3_0 : wm2.frozen? ⟨go, (x5_1 : Int).toNat * 5, none⟩ = false := hfr3 0; have hx3_1 : wm2.cell? ⟨go, (x5_1 : Int).toNat * 5 + 1, none⟩ = some (ve3_1) := hcc3 1 _ rfl; have hf3_1 : wm2.frozen? ⟨go, (x5_1 : Int).toNat * 5 + 1, none⟩ = false := hfr3 1; have hx3_2 : wm2.cell? ⟨go, (x5_1 : Int).toNat * 5 + 2, none⟩ = some (.int .i64 ((rd_T75 x0_1 x5_1).f2)) := hcc3 2 _ rfl; have hf3_2 : wm2.frozen? ⟨go, (x5_1 : Int).toNat * 5 + 2, none⟩ = false := hfr3 2; have hx3_3 : wm2.cell? ⟨go, (x5_1 : Int).toNat * 5 + 3, none⟩ = some (.int .i64 ((rd_T75 x0_1 x5_1).f3)) := hcc3 3 _ rfl; have hf3_3 : wm2.frozen? ⟨go, (x5_1 : Int).toNat * 5 + 3, none⟩ = false := hfr3 3; have hx3_4 : wm2.cell? ⟨go, (x5_1 : Int).toNat * 5 + 4, none⟩ = some (ve3_4) := hcc3 4 _ rfl; have hf3_4 : wm2.frozen? ⟨go, (x5_1 : Int).toNat * 5 + 4, none⟩ = false := hfr3 4; clear hcc3 hfr3 hM3) | ((with_reducible refine gate_store (t := 3) (p := 30) rfl ?_); refine store_event (t := 3) (p := 30) (v := ?vo_wm3) (w1 := (wm2.setCell ⟨go, (x5_1 : Int).toNat * 5 + 2, none⟩ (.int .i64 t1))) ?hg ?ho ?hn ?hr ?_; (case ho => rfl); (case hg => rfl); (case hn => rfl); (case hr => first | (go_simp; done) | (go_simp; rfl)); intro wm3 hw; have hs_ := hput3 (.int .i64 t1) 2 (⟨x1_1, s1, t1, ((rd_T75 x0_1 x5_1).f3), ((rd_T75 x0_1 x5_1).f4)⟩ : S75) rfl (by decide) (k75_mkM _ _ _ (P := PA3) (⟨x1_1, s1, t1, ((rd_T75 x0_1 x5_1).f3), ((rd_T75 x0_1 x5_1).f4)⟩ : S75) ge3_1 ge3_4); have hg : wm2.grownBy wm3 (some go) := (by rw [hw]; exact hs_.2); replace HB := Aside0.mk (show Below w0.heap.size w0 wm3 from (by rw [hw]; exact below_set (HB.out) GB.out)); replace HK := Aside0.mk (Kept.of_grown (S := (fun k_ => P0_ k_)) hg (by repeat (first | (with_reducible first | exact HK.out | apply Kept.alloc | apply Kept.drewN | apply Kept.drew) | exact HK.out)) (fun k_ e_ => .inl ((Kd.S_R HO.out).1 k_ e_))); replace HO := Aside0.mk (show Kd.S k75 75 wm3 w0.heap.size P0_ (.slice (some ⟨go, 0, none⟩) x0_1.length co) (x0_1.set (x5_1 : Int).toNat (⟨x1_1, s1, t1, ((rd_T75 x0_1 x5_1).f3), ((rd_T75 x0_1 x5_1).f4)⟩ : S75)) from (by rw [hw]; exact hs_.1)); clear hg hw hs_; obtain ⟨oki4, ce4, hM4, hcc4, hfr4, hoki4, hin4, hput4⟩ := S_hand HO.out c4 c3; obtain ⟨PA4, ve4_1, ve4_4, rfl, ge4_1, ge4_4⟩ := k75_openA hM4; have hx4_0 : wm3.cell? ⟨go, (x5_1 : Int).toNat * 5, none⟩ = some (.int .i64 x1_1) := hcc4 0 _ rfl; have hf4_0 : wm3.frozen? ⟨go, (x5_1 : Int).toNat * 5, none⟩ = false := hfr4 0; have hx4_1 : wm3.cell? ⟨go, (x5_1 : Int).toNat * 5 + 1, none⟩ = some (ve4_1) := hcc4 1 _ rfl; have hf4_1 : wm3.frozen? ⟨go, (x5_1 : Int).toNat * 5 + 1, none⟩ = false := hfr4 1; have hx4_2 : wm3.cell? ⟨go, (x5_1 : Int).toNat * 5 + 2, none⟩ = some (.int .i64 t1) := hcc4 2 _ rfl; have hf4_2 : wm3.frozen? ⟨go, (x5_1 : Int).toNat * 5 + 2, none⟩ = false := hfr4 2; have hx4_3 : wm3.cell? ⟨go, (x5_1 : Int).toNat * 5 + 3, none⟩ = some (.int .i64 ((rd_T75 x0_1 x5_1).f3)) := hcc4 3 _ rfl; have hf4_3 : wm3.frozen? ⟨go, (x5_1 : Int).toNat * 5 + 3, none⟩ = false := hfr4 3; have hx4_4 : wm3.cell? ⟨go, (x5_1 : Int).toNat * 5 + 4, none⟩ = some (ve4_4) := hcc4 4 _ rfl; have hf4_4 : wm3.frozen? ⟨go, (x5_1 : Int).toNat * 5 + 4, none⟩ = false := hfr4 4; clear hcc4 hfr4 hM4) | ((with_reducible refine gate_store (t := 3) (p := 37) rfl ?_); refine store_event (t := 3) (p := 37) (v := ?vo_wm4) (w1 := (wm3.setCell ⟨go, (x5_1 : Int).toNat * 5 + 3, none⟩ (.int .i64 (wrap64 (t1 + 1))))) ?hg ?ho ?hn ?hr ?_; (case ho => rfl); (case hg => rfl); (case hn => rfl); (case hr => first | (go_simp; done) | (go_simp; rfl)); intro wm4 hw; have hs_ := hput4 (.int .i64 (wrap64 (t1 + 1))) 3 (⟨x1_1, s1, t1, wrap64 (t1 + 1), ((rd_T75 x0_1 x5_1).f4)⟩ : S75) rfl (by decide) (k75_mkM _ _ _ (P := PA4) (⟨x1_1, s1, t1, wrap64 (t1 + 1), ((rd_T75 x0_1 x5_1).f4)⟩ : S75) ge4_1 ge4_4); have hg : wm3.grownBy wm4 (some go) := (by rw [hw]; exact hs_.2); replace HB := Aside0.mk (show Below w0.heap.size w0 wm4 from (by rw [hw]; exact below_set (HB.out) GB.out)); replace HK := Aside0.mk (Kept.of_grown (S := (fun k_ => P0_ k_)) hg (by repeat (first | (with_reducible first | exact HK.out | apply Kept.alloc | apply Kept.drewN | apply Kept.drew) | exact HK.out)) (fun k_ e_ => .inl ((Kd.S_R HO.out).1 k_ e_))); replace HO := Aside0.mk (show Kd.S k75 75 wm4 w0.heap.size P0_ (.slice (some ⟨go, 0, none⟩) x0_1.length co) (x0_1.set (x5_1 : Int).toNat (⟨x1_1, s1, t1, wrap64 (t1 + 1), ((rd_T75 x0_1 x5_1).f4)⟩ : S75)) from (by rw [hw]; exact hs_.1)); clear hg hw hs_; obtain ⟨oki5, ce5, hM5, hcc5, hfr5, hoki5, hin5, hput5⟩ := S_hand HO.out c4 c3; obtain ⟨PA5, ve5_1, ve5_4, rfl, ge5_1, ge5_4⟩ := k75_openA hM5; have hx5_0 : wm4.cell? ⟨go, (x5_1 : Int).toNat * 5, none⟩ = some (.int .i64 x1_1) := hcc5 0 _ rfl; have hf5_0 : wm4.frozen? ⟨go, (x5_1 : Int).toNat * 5, none⟩ = false := hfr5 0; have hx5_1 : wm4.cell? ⟨go, (x5_1 : Int).toNat * 5 + 1, none⟩ = some (ve5_1) := hcc5 1 _ rfl; have hf5_1 : wm4.frozen? ⟨go, (x5_1 : Int).toNat * 5 + 1, none⟩ = false := hfr5 1; have hx5_2 : wm4.cell? ⟨go, (x5_1 : Int).toNat * 5 + 2, none⟩ = some (.int .i64 t1) := hcc5 2 _ rfl; have hf5_2 : wm4.frozen? ⟨go, (x5_1 : Int).toNat * 5 + 2, none⟩ = false := hfr5 2; have hx5_3 : wm4.cell? ⟨go, (x5_1 : Int).toNat * 5 + 3, none⟩ = some (.int .i64 (wrap64 (t1 + 1))) := hcc5 3 _ rfl; have hf5_3 : wm4.frozen? ⟨go, (x5_1 : Int).toNat * 5 + 3, none⟩ = false := hfr5 3; have hx5_4 : wm4.cell? ⟨go, (x5_1 : Int).toNat * 5 + 4, none⟩ = some (ve5_4) := hcc5 4 _ rfl; have hf5_4 : wm4.frozen? ⟨go, (x5_1 : Int).toNat * 5 + 4, none⟩ = false := hfr5 4; clear hcc5 hfr5 hM5) | ((with_reducible refine gate_callee (f := 39) rfl ?_); refine goesL_ (some 46) rfl rfl Try.func39 (by kernel_rfl) rfl #[ve5_4, .int .i64 (wrap64 ((wrap64 (t1 + 1)) + 1))] rfl (by (try simp only [mp_]); first | done | rfl | (simp only [List.length_drop, List.length_take]; rfl)) ?_; (with_reducible refine (laws_markAlarmS.calls k1 (fun k_ => oki5 k_ ∧ ¬ PA5 k_) ve5_4 ((rd_T75 x0_1 x5_1).f4) (wrap64 ((wrap64 (t1 + 1)) + 1)) t4 s4 w0 _ (hb_ HB.out) ge5_4 A4.out).mono ?_); rintro e wm5 ⟨rfl, hy, hb, hkp⟩; refine ⟨_, rfl, ?_⟩; replace HO := Aside0.mk (hin5 wm5 (⟨x1_1, s1, t1, wrap64 (t1 + 1), s4⟩ : S75) ⟨hkp.1, fun k_ hl_ hn_ => hkp.2 k_ hl_ (fun h_ => hn_ h_.1)⟩ (k75_mkM _ _ _ (P := PA5) (⟨x1_1, s1, t1, wrap64 (t1 + 1), s4⟩ : S75) (Kd.R_step ge5_1 (fun k_ ho_ hl_ => hkp.2 k_ hl_ (fun h_ => h_.2 ho_.2))) hy)); replace HK := Aside0.mk (Kept.then_ (S := (fun k_ => P0_ k_)) (by repeat (first | (with_reducible first | exact HK.out | apply Kept.alloc | apply Kept.drewN | apply Kept.drew) | exact HK.out)) hkp (fun k_ h_ => .inl (hoki5 k_ h_.1).1)); replace HB := Aside0.mk hb))
     go_roundg k1
     case measure => have := HK1.out; omega
     case rel => exact ⟨x0_1.set (x5_1 : Int).toNat (⟨x1_1, s1, t1, wrap64 (t1 + 1), s4⟩ : S75), t4, wrap64 (x5_1 + 1), (by first | rfl | (simp; done) | (simp [*]; done)), (by first | rfl | (simp; done) | (simp [*]; done)), H', ⟨by have := HK1.out; omega⟩, ⟨(sp_ HO.out)⟩, ⟨(by repeat (first | (with_reducible first | exact HK.out | apply Kept.alloc | apply Kept.drewN | apply Kept.drew) | exact HK.out))⟩, ⟨(hb_ HB.out)⟩⟩
    rw [if_neg c4] at H
    exact absurd H (by simp)
   rw [if_neg c3] at H
   have c3b0 : decide (x5_1 < (x0_1.length : Int)) = false := decide_eq_false c3
   simp only [Option.some.injEq, Prod.mk.injEq] at H
   obtain ⟨rfl, rfl⟩ := H
   obtain ⟨Ao, co, eo⟩ := Kd.S_slice HO.out
   subst eo
   go_wp2
   go_ret
   exact ⟨by first | rfl | (simp [*] <;> rfl), (sp_ HO.out), (hb_ HB.out), (by repeat (first | (with_reducible first | exact HK.out | apply Kept.alloc | apply Kept.drewN | apply Kept.drew) | exact HK.out))⟩
def laws_markStringS.l0 : Nat → List ByteArray → Int → Int → Option (Int × List ByteArray)
 | 0, _, _, _ => none
 | k + 1, x0, x1, x5 => if x5 < (x0.length : Int) then ((laws_markText.f k x1).bind fun t1494 => (if 0 ≤ x5 then (laws_markStringS.l0 k (x0.set (x5 : Int).toNat t1494) (wrap64 (x1 + 1)) (wrap64 (x5 + 1))) else (none))) else (some (x1, x0))
def laws_markStringS.f (k : Nat) (l0 : List ByteArray) (a1 : Int) : Option (Int × List ByteArray) := laws_markStringS.l0 k l0 a1 0
theorem laws_markStringS.mono_l : ∀ k, (∀ y0 y1 y2, LeO (laws_markStringS.l0 k y0 y1 y2) (laws_markStringS.l0 (k + 1) y0 y1 y2))
 | 0 => fun _ _ _ r h => by simp [laws_markStringS.l0] at h
 | k + 1 => by
  have ih0 := laws_markStringS.mono_l k
  intro y0 y1 y2
  unfold laws_markStringS.l0
  repeat' first
  | (with_reducible exact ih0 _ _ _)
  | (with_reducible exact laws_markText.mono _ _)
  | (with_reducible exact LeO.refl _)
  | (with_reducible exact LeO.none _)
  | (with_reducible refine LeO.ite ?_ ?_)
  | (with_reducible refine LeO.bind ?_ (fun _ => ?_))
  | exact ih0 _ _ _
  | exact laws_markText.mono _ _
theorem laws_markStringS.mono : ∀ a0 a1 k, LeO (laws_markStringS.f k a0 a1) (laws_markStringS.f (k + 1) a0 a1) := by
 intro a0 a1 k
 have ih0 := laws_markStringS.mono_l k
 unfold laws_markStringS.f
 repeat' first
   | (with_reducible exact ih0 _ _ _)
   | (with_reducible exact laws_markText.mono _ _)
   | (with_reducible exact LeO.refl _)
   | (with_reducible exact LeO.none _)
   | (with_reducible refine LeO.ite ?_ ?_)
   | (with_reducible refine LeO.bind ?_ (fun _ => ?_))
   | exact ih0 _ _ _
   | exact laws_markText.mono _ _
theorem laws_markStringS.calls (k : Nat) (P0_ : Nat → Prop) (u9000_ : Value) (l0 : List ByteArray) (a1 : Int) (r1 : Int) (r2 : List ByteArray) (w0 w : World) (hB : Below w0.heap.size w0 w) (ho0 : Kd.R Kd.string 9 w w0.heap.size P0_ u9000_ l0) (h : laws_markStringS.f k l0 a1 = some (r1, r2)) :
  Calls Try.prog 73 #[u9000_, .int .i64 a1] w fun e w' => e = .returned (.int .i64 r1) ∧ Kd.R Kd.string 9 w' w0.heap.size (fun k_ => (P0_ k_ ∨ w.heap.size ≤ k_)) u9000_ r2 ∧ Below w0.heap.size w0 w' ∧ Kept w w' (fun k_ => P0_ k_) := by
 have HO0 := Aside0.mk (show Kd.R Kd.string 9 w w0.heap.size (fun k_ => (P0_ k_ ∨ w.heap.size ≤ k_)) u9000_ l0 from Kd.R_mono ho0 (fun k_ hk => (.inl hk)))
 have HK := Aside0.mk (Kept.refl w (fun k_ => P0_ k_))
 have HW0 := Aside0.mk hB.size
 have HB := Aside0.mk hB
 clear hB
 have H : (laws_markStringS.l0 k l0 a1 0) = some (r1, r2) := h
 clear h
 have H' := Aside0.mk H
 clear H
 go_enter Try.func73, Try.ntmps73
 go_wp2
 go_loopg [1, 5] k (fun kq v1 v5 w' => ∃ (x0_1 : List ByteArray) (x1_1 : Int) (x5_1 : Int), v1 = .int .i64 x1_1 ∧ v5 = .int .i64 x5_1 ∧ Aside0 (laws_markStringS.l0 kq x0_1 x1_1 x5_1 = some (r1, r2)) ∧ Aside0 (kq ≤ k) ∧ Aside0 (Kd.R Kd.string 9 w' w0.heap.size (fun k_ => (P0_ k_ ∨ w.heap.size ≤ k_)) u9000_ x0_1) ∧ Aside0 (Kept w w' (fun k_ => P0_ k_)) ∧ Aside0 (Below w0.heap.size w0 w'))
 case atStart => exact ⟨(l0), (a1), (0), (by first | rfl | (simp; done) | (simp [*]; done)), (by first | rfl | (simp; done) | (simp [*]; done)), H', ⟨Nat.le_refl _⟩, ⟨by (with_reducible repeat (first | apply Kd.R_alloc | apply Kd.R_drewN | apply Kd.R_drew)); exact HO0.out⟩, ⟨by repeat (first | (with_reducible first | exact HK.out | apply Kept.alloc | apply Kept.drewN | apply Kept.drew) | exact HK.out)⟩, ⟨by exact hb_ HB.out⟩⟩
 case round =>
  clear H'
  try clear p2
  obtain ⟨x0_1, x1_1, x5_1, rfl, rfl, HA, HK1, HO_0, HK, HB⟩ := hrel
  cases gk with
  | zero => exact absurd HA.out (by simp [laws_markStringS.l0])
  | succ k1 =>
   have H := HA.out
   clear HA
   simp only [laws_markStringS.l0] at H
   by_cases c3 : x5_1 < (x0_1.length : Int)
   ·
    rw [if_pos c3] at H
    have c3b0 := decide_eq_true c3
    clear c3
    replace H := Option.bind_eq_some_iff.mp H
    obtain ⟨t1494, A40, H⟩ := H
    have A4 := Aside0.mk A40
    clear A40
    by_cases c5 : 0 ≤ x5_1
    ·
     rw [if_pos c5] at H
     have c5b0 := decide_eq_true c5
     clear c5
     obtain ⟨y1495, hy1495⟩ : ∃ y_ : List ByteArray, y_ = (x0_1.set (x5_1 : Int).toNat t1494) := ⟨_, rfl⟩
     replace H : (laws_markStringS.l0 k1 y1495 (wrap64 (x1_1 + 1)) (wrap64 (x5_1 + 1))) = some (r1, r2) := by first | (rw [hy1495]; with_reducible exact H) | (have H2_ := (Option.bind_some _ _).symm.trans H; rw [hy1495]; with_reducible exact H2_) | (have H2_ := (Option.bind_some _ _).symm.trans H; with_reducible exact H2_) | with_reducible exact H | (rw [hy1495]; exact H) | exact H
     have Ny1495 := Aside0.mk hy1495
     clear hy1495
     have H' := Aside0.mk H
     clear H
     obtain ⟨Ao7, co7, eo7⟩ := Kd.R_slice HO_0.out
     subst eo7
     go_wp2_with (first | ((with_reducible refine gate_callee (f := 103) rfl ?_); refine goesL_ (some 15) rfl rfl Try.func103 (by kernel_rfl) rfl #[.int .i64 x1_1] rfl (by (try simp only [mp_]); first | done | rfl | (simp only [List.length_drop, List.length_take]; rfl)) ?_; (with_reducible refine (laws_markText.calls k1 x1_1 t1494 _ A4.out).mono ?_); rintro e w8 ⟨rfl, hb⟩; refine ⟨_, rfl, ?_⟩; replace HO_0 := Aside0.mk (Kd.R_below (rp_ HO_0.out) hb); replace HK := Aside0.mk (Kept.below (S := (fun k_ => P0_ k_)) (by repeat (first | (with_reducible first | exact HK.out | apply Kept.alloc | apply Kept.drewN | apply Kept.drew) | exact HK.out)) hb); replace HB := Aside0.mk (below_step (hb_ HB.out) hb); (try clear hb); (try clear hb2); (try clear hk); (try clear hi); have p6 : 0 ≤ (x5_1 : Int) := of_decide_eq_true (by with_reducible assumption); have q6 : (x5_1 : Int) < ((x0_1.length : Int) : Int) := of_decide_eq_true (by with_reducible assumption); obtain ⟨go6, co6, eo6, gb6, gl6, cl6, HG6⟩ := Kd.R_form HO_0.out (by omega); (first | cases eo6 | (injection eo6 with ea_ en_ ec_; (first | subst ea_ | (injection ea_ with ea_; subst ea_)); subst ec_; clear en_)); have GB6 := Aside0.mk gb6; have GG6 := Aside0.mk HG6; clear gb6 gl6 HG6; have HMgo6 := Aside0.mk (show (P0_ go6 ∨ w.heap.size ≤ go6) from (HO_0.out.1 _ rfl)); obtain ⟨hx6_0, hf6_0⟩ := Kd.R_celln (⟨#[]⟩ : ByteArray) HO_0.out (x5_1 : Int) p6 q6; replace p6 := eq_true p6; replace q6 := eq_true q6; obtain ⟨hy9_, hz9_⟩ := Kd.R_celln (⟨#[]⟩ : ByteArray) HO_0.out (x5_1 : Int) (of_decide_eq_true (by with_reducible assumption)) (of_decide_eq_true (by with_reducible assumption)); have HP9 := Kd.R_putg HO_0.out (x5_1 : Int) t1494) | ((with_reducible refine gate_store (t := 9) (p := 16) rfl ?_); refine store_event (t := 9) (p := 16) (v := ?vo_w10) (w1 := (w8.setCell ⟨go6, (x5_1 : Int).toNat, none⟩ (.string t1494))) ?hg ?ho ?hn ?hr ?_; (case ho => rfl); (case hg => rfl); (case hn => rfl); (case hr => first | (go_simp; done) | (go_simp; rfl)); intro w10 hw; have hg : w8.grownBy w10 (some go6) := (by rw [hw]; exact HP9.2); have hp_ : Kd.R Kd.string 9 w10 w0.heap.size (fun k_ => (P0_ k_ ∨ w.heap.size ≤ k_)) (.slice (some ⟨go6, 0, none⟩) x0_1.length co7) y1495 := (by rw [hw, Ny1495.out]; exact HP9.1); clear HP9; replace HB := Aside0.mk ((by rw [hw]; exact below_set (HB.out) GB6.out : Below w0.heap.size w0 w10)); replace HK := Aside0.mk (Kept.of_grown (S := (fun k_ => P0_ k_)) hg (by repeat (first | (with_reducible first | exact HK.out | apply Kept.alloc | apply Kept.drewN | apply Kept.drew) | exact HK.out)) (fun k_ e_ => (HO_0.out.1 k_ e_))); replace HO_0 := Aside0.mk (hp_); clear hg hw hp_))
     go_roundg k1
     case measure => have := HK1.out; omega
     case rel => exact ⟨(y1495), (wrap64 (x1_1 + 1)), (wrap64 (x5_1 + 1)), (by first | rfl | (simp; done) | (simp [*]; done)), (by first | rfl | (simp; done) | (simp [*]; done)), H', ⟨by have := HK1.out; omega⟩, ⟨by (with_reducible repeat (first | apply Kd.R_alloc | apply Kd.R_drewN | apply Kd.R_drew)); exact HO_0.out⟩, ⟨by repeat (first | (with_reducible first | exact HK.out | apply Kept.alloc | apply Kept.drewN | apply Kept.drew) | exact HK.out)⟩, ⟨by exact hb_ HB.out⟩⟩
    rw [if_neg c5] at H
    exact absurd H (by simp)
   rw [if_neg c3] at H
   have c3b0 : decide (x5_1 < (x0_1.length : Int)) = false := decide_eq_false c3
   clear c3
   simp only [Option.some.injEq, Prod.mk.injEq] at H
   obtain ⟨rfl, rfl⟩ := H
   obtain ⟨Ao11, co11, eo11⟩ := Kd.R_slice HO_0.out
   subst eo11
   go_wp2
   go_ret
   exact ⟨by first | rfl | (simp [errW_none, errW_some] <;> rfl) | (simp [*, errW_none, errW_some] <;> rfl), by (with_reducible repeat (first | apply Kd.R_alloc | apply Kd.R_drewN | apply Kd.R_drew)); exact HO_0.out, by exact hb_ HB.out, by repeat (first | (with_reducible first | exact HK.out | apply Kept.alloc | apply Kept.drewN | apply Kept.drew) | exact HK.out)⟩
def laws_heldLabelS.l0 : Nat → List (S164) → Int → Int → Option (Int)
 | 0, _, _, _ => none
 | k + 1, x0, x1, x5 => if x5 < (x0.length : Int) then (if 0 ≤ x5 then ((laws_markText.f k x1).bind fun t325 => (if ((rd_T164 x0 x5).f0).toList = t325.toList then ((laws_markText.f k (wrap64 (x1 + 1))).bind fun t327 => (if ((rd_T164 x0 x5).f1).toList = t327.toList then (laws_heldLabelS.l0 k x0 (wrap64 ((wrap64 (x1 + 1)) + 1)) (wrap64 (x5 + 1))) else (none))) else (none))) else (none)) else (some x1)
def laws_heldLabelS.f (k : Nat) (l0 : List (S164)) (a1 : Int) : Option (Int) := laws_heldLabelS.l0 k l0 a1 0
theorem laws_heldLabelS.mono_l : ∀ k, (∀ y0 y1 y2, LeO (laws_heldLabelS.l0 k y0 y1 y2) (laws_heldLabelS.l0 (k + 1) y0 y1 y2))
 | 0 => fun _ _ _ r h => by simp [laws_heldLabelS.l0] at h
 | k + 1 => by
  have ih0 := laws_heldLabelS.mono_l k
  intro y0 y1 y2
  unfold laws_heldLabelS.l0
  repeat' first
  | (with_reducible exact ih0 _ _ _)
  | (with_reducible exact laws_markText.mono _ _)
  | (with_reducible exact LeO.refl _)
  | (with_reducible exact LeO.none _)
  | (with_reducible refine LeO.ite ?_ ?_)
  | (with_reducible refine LeO.bind ?_ (fun _ => ?_))
  | exact ih0 _ _ _
  | exact laws_markText.mono _ _
theorem laws_heldLabelS.mono : ∀ a0 a1 k, LeO (laws_heldLabelS.f k a0 a1) (laws_heldLabelS.f (k + 1) a0 a1) := by
 intro a0 a1 k
 have ih0 := laws_heldLabelS.mono_l k
 unfold laws_heldLabelS.f
 repeat' first
   | (with_reducible exact ih0 _ _ _)
   | (with_reducible exact laws_markText.mono _ _)
   | (with_reducible exact LeO.refl _)
   | (with_reducible exact LeO.none _)
   | (with_reducible refine LeO.ite ?_ ?_)
   | (with_reducible refine LeO.bind ?_ (fun _ => ?_))
   | exact ih0 _ _ _
   | exact laws_markText.mono _ _
def laws_heldLabelS.T4 : Bool × List (List Nat × List Nat) := (true, [([], []), ([], []), ([0, 1], [0, 1]), ([2], [2]), ([3], [3]), ([], []), ([5], [5]), ([4, 6], [4, 6])])
def laws_heldLabelS.B4 : List Nat := [0, 0, 3, 7, 15, 0, 32, 127]
theorem laws_heldLabelS.tab4 : rtab .any (opsOf Try.f102 4) = laws_heldLabelS.T4 := by kernel_rfl
theorem laws_heldLabelS.bits4 : waitsOk laws_heldLabelS.T4.2 laws_heldLabelS.B4 = true := by kernel_rfl
def laws_heldLabelS.T7 : Bool × List (List Nat × List Nat) := (true, [([], []), ([], []), ([0, 1], [0, 1]), ([2], [2]), ([3], [3]), ([], []), ([5], [5]), ([4, 6], [4, 6])])
def laws_heldLabelS.B7 : List Nat := [0, 0, 3, 7, 15, 0, 32, 127]
theorem laws_heldLabelS.tab7 : rtab .any (opsOf Try.f102 7) = laws_heldLabelS.T7 := by kernel_rfl
theorem laws_heldLabelS.bits7 : waitsOk laws_heldLabelS.T7.2 laws_heldLabelS.B7 = true := by kernel_rfl
theorem laws_heldLabelS.calls (k : Nat) (A0 : Option Addr) (c0 : Nat) (l0 : List (S164)) (a1 : Int) (r : Int) (w : World) (hr0 : Kd.C k164 w A0 l0.length l0) (hc0 : l0.length ≤ c0) (h : laws_heldLabelS.f k l0 a1 = some r) :
  Calls Try.prog 102 #[.slice A0 l0.length c0, .int .i64 a1] w fun e w' => e = .returned (.int .i64 r) ∧ Below w.heap.size w w' := by
 have HR0 := Aside0.mk hr0
 have HC0 := Aside0.mk hc0
 clear hr0 hc0
 have HB := Aside0.mk (Below.refl w.heap.size w)
 have H : (laws_heldLabelS.l0 k l0 a1 0) = some r := h
 clear h
 have H' := Aside0.mk H
 clear H
 go_enter Try.func102, Try.ntmps102
 go_wp2
 go_loopg [1, 5] k (fun kq v1 v5 w' => ∃ (x1_1 : Int) (x5_1 : Int), v1 = .int .i64 x1_1 ∧ v5 = .int .i64 x5_1 ∧ Aside0 (laws_heldLabelS.l0 kq l0 x1_1 x5_1 = some r) ∧ Aside0 (kq ≤ k) ∧ Aside0 (Below w.heap.size w w'))
 case atStart => exact ⟨(a1), (0), (by first | rfl | (simp; done) | (simp [*]; done)), (by first | rfl | (simp; done) | (simp [*]; done)), H', ⟨Nat.le_refl _⟩, ⟨by exact hb_ HB.out⟩⟩
 case round =>
  clear H'
  try clear c1
  try clear p2
  obtain ⟨x1_1, x5_1, rfl, rfl, HA, HK1, HB⟩ := hrel
  cases gk with
  | zero => exact absurd HA.out (by simp [laws_heldLabelS.l0])
  | succ k1 =>
   have H := HA.out
   clear HA
   simp only [laws_heldLabelS.l0] at H
   by_cases c3 : x5_1 < (l0.length : Int)
   ·
    rw [if_pos c3] at H
    have c3b0 := decide_eq_true c3
    clear c3
    by_cases c4 : 0 ≤ x5_1
    ·
     rw [if_pos c4] at H
     have c4b0 := decide_eq_true c4
     clear c4
     replace H := Option.bind_eq_some_iff.mp H
     obtain ⟨t325, A50, H⟩ := H
     have A5 := Aside0.mk A50
     clear A50
     by_cases c6 : ((rd_T164 l0 x5_1).f0).toList = t325.toList
     ·
      rw [if_pos c6] at H
      have c6b0 : (((rd_T164 l0 x5_1).f0).toList == t325.toList) = true := beq_iff_eq.mpr c6
      have c6b1 : (((rd_T164 l0 x5_1).f0).toList != t325.toList) = false := bne_eq_false_iff_eq.mpr c6
      clear c6
      replace H := Option.bind_eq_some_iff.mp H
      obtain ⟨t327, A70, H⟩ := H
      have A7 := Aside0.mk A70
      clear A70
      by_cases c8 : ((rd_T164 l0 x5_1).f1).toList = t327.toList
      ·
       rw [if_pos c8] at H
       have c8b0 : (((rd_T164 l0 x5_1).f1).toList == t327.toList) = true := beq_iff_eq.mpr c8
       have c8b1 : (((rd_T164 l0 x5_1).f1).toList != t327.toList) = false := bne_eq_false_iff_eq.mpr c8
       clear c8
       have H' := Aside0.mk H
       clear H
       try go_wp2
       replace HB := Aside0.mk (bd_ HB.out)
       have p324 : 0 ≤ (x5_1 : Int) := of_decide_eq_true (by with_reducible assumption)
       have q324 : x5_1 < (l0.length : Int) := of_decide_eq_true (by with_reducible assumption)
       obtain ⟨ad324, e324, hx324_0, hx324_1⟩ := at_T164 HR0.out x5_1 p324 q324
       have hw324_1 := hx324_1
       have hw324_0 := hx324_0
       cases e324
       replace hx324_0 := cl_ HB.out hx324_0
       replace hx324_1 := cl_ HB.out hx324_1
       replace p324 := eq_true p324
       replace q324 := eq_true q324
       refine start_ (n := 8) (S := fun w' => w'.cell? (ad324.add ((x5_1).toNat * 2)) = some (.string ((rd_T164 l0 x5_1).f0)) ∧ w'.cell? ⟨(ad324.add ((x5_1).toNat * 2)).block, (ad324.add ((x5_1).toNat * 2)).off + 1, none⟩ = some (.string ((rd_T164 l0 x5_1).f1))) (ds := []) #[f_,f_,f_,f_,f_,f_,f_,f_] (by kernel_rfl) rfl rfl ⟨((HB.out.cell (World.block_lt_of_cell? w _ hw324_0)).trans hw324_0), ((HB.out.cell (World.block_lt_of_cell? w _ hw324_1)).trans hw324_1)⟩ (fun hHeld => ?_); refine with_tabW laws_heldLabelS.tab4 laws_heldLabelS.bits4 (fun HT_ HW_ => ?_)
       generalize wr.drew = w9 at HB hx324_0 hx324_1 hHeld ⊢
       refine pu_ 0 12 ?_ (b_ 1 7) rfl rfl HT_.out ?_ ?_ ?_ ?_; rotate_left; intro w'; go_simp; with_reducible rfl; rotate_left; simp only [fr_]; rfl
       refine pu_ 1 13 ?_ (b_ 2 6) rfl rfl HT_.out ?_ ?_ ?_ ?_; rotate_left; intro w'; go_simp; with_reducible rfl; rotate_left; simp only [fr_]; rfl
       refine pu_ 2 14 ?_ (b_ 3 5) rfl rfl HT_.out ?_ ?_ ?_ ?_; rotate_left; intro w'; go_simp; with_reducible rfl; rotate_left; simp only [fr_]; rfl
       refine pu_ 3 15 ?_ (b_ 4 4) rfl rfl HT_.out ?_ ?_ ?_ ?_; rotate_left; intro w'; go_simp; with_reducible rfl; rotate_left; simp only [fr_]; rfl
       refine pu_ 5 17 ?_ #[t_,t_,t_,t_,f_,t_,f_,f_] rfl rfl HT_.out ?_ ?_ ?_ ?_; rotate_left; intro w'; go_simp; with_reducible rfl; rotate_left; simp only [fr_]; rfl
       refine take_ (i := 4) (N := some 16) (v := ?_) (a' := ?_) #[t_,t_,t_,t_,t_,t_,f_,f_] rfl rfl (take_ofW HT_.out HW_.out (by kernel_rfl)) (fun _ _ _ h => h) (Or.inl ⟨by rfl, ?_⟩) hHeld ?_ ?_
       rotate_left
       ·
        rintro w' ⟨s0, s1⟩
        go_simp
        with_reducible rfl
       rotate_left
       ·
        simp only [fr_]
        rfl
       refine one_ (i := 6) (N := some 18) #[t_,t_,t_,t_,t_,t_,t_,f_] rfl rfl (one_of HT_.out (by kernel_rfl)) (by decide) (fun K hK => ?_)
       refine goes_ Try.func103 (by kernel_rfl) rfl #[.int .i64 x1_1] (by rfl) rfl rfl (by (try simp only [mp_]); first | done | rfl | (simp only [List.length_drop, List.length_take]; rfl)) ?_
       with_reducible refine (laws_markText.calls k1 x1_1 t325 _ A5.out).mono ?_
       rintro e w10 ⟨rfl, hb⟩
       refine ⟨_, rfl, ?_⟩
       replace HB := Aside0.mk (below_step (hb_ HB.out) hb)
       (try clear hb)
       (try clear hb2)
       (try clear hk)
       (try clear hi)
       refine hK.out _ _ ⟨((HB.out.cell (World.block_lt_of_cell? w _ hw324_0)).trans hw324_0), ((HB.out.cell (World.block_lt_of_cell? w _ hw324_1)).trans hw324_1)⟩ (fun hHeld => ?_)
       clear hK K
       refine norm_ (a' := ?_) ?_ ?_
       rotate_left
       ·
        show Act.put _ (some 18) _ = _
        simp only [fr_]
        rfl
       refine pu_ 7 19 ?_ (b_ 8 0) rfl rfl HT_.out ?_ ?_ ?_ ?_; rotate_left; intro w'; go_simp; with_reducible rfl; rotate_left; simp only [fr_]; rfl
       refine done_ (done_of HT_.out (by kernel_rfl)) ?_
       try go_wp2
       replace HB := Aside0.mk (bd_ HB.out)
       have p326 : 0 ≤ (x5_1 : Int) := of_decide_eq_true (by with_reducible assumption)
       have q326 : x5_1 < (l0.length : Int) := of_decide_eq_true (by with_reducible assumption)
       obtain ⟨ad326, e326, hx326_0, hx326_1⟩ := at_T164 HR0.out x5_1 p326 q326
       have hw326_1 := hx326_1
       have hw326_0 := hx326_0
       obtain rfl : ad324 = ad326 := (by injection e326)
       replace hx326_0 := cl_ HB.out hx326_0
       replace hx326_1 := cl_ HB.out hx326_1
       replace p326 := eq_true p326
       replace q326 := eq_true q326
       refine start_ (n := 8) (S := fun w' => w'.cell? (ad324.add ((x5_1).toNat * 2)) = some (.string ((rd_T164 l0 x5_1).f0)) ∧ w'.cell? ⟨(ad324.add ((x5_1).toNat * 2)).block, (ad324.add ((x5_1).toNat * 2)).off + 1, none⟩ = some (.string ((rd_T164 l0 x5_1).f1))) (ds := []) #[f_,f_,f_,f_,f_,f_,f_,f_] (by kernel_rfl) rfl rfl ⟨((HB.out.cell (World.block_lt_of_cell? w _ hw326_0)).trans hw326_0), ((HB.out.cell (World.block_lt_of_cell? w _ hw326_1)).trans hw326_1)⟩ (fun hHeld => ?_); refine with_tabW laws_heldLabelS.tab7 laws_heldLabelS.bits7 (fun HT_ HW_ => ?_)
       generalize w10.drew = w11 at HB hx326_0 hx326_1 hHeld ⊢
       refine pu_ 0 22 ?_ (b_ 1 7) rfl rfl HT_.out ?_ ?_ ?_ ?_; rotate_left; intro w'; go_simp; with_reducible rfl; rotate_left; simp only [fr_]; rfl
       refine pu_ 1 23 ?_ (b_ 2 6) rfl rfl HT_.out ?_ ?_ ?_ ?_; rotate_left; intro w'; go_simp; with_reducible rfl; rotate_left; simp only [fr_]; rfl
       refine pu_ 2 24 ?_ (b_ 3 5) rfl rfl HT_.out ?_ ?_ ?_ ?_; rotate_left; intro w'; go_simp; with_reducible rfl; rotate_left; simp only [fr_]; rfl
       refine pu_ 3 25 ?_ (b_ 4 4) rfl rfl HT_.out ?_ ?_ ?_ ?_; rotate_left; intro w'; go_simp; with_reducible rfl; rotate_left; simp only [fr_]; rfl
       refine pu_ 5 27 ?_ #[t_,t_,t_,t_,f_,t_,f_,f_] rfl rfl HT_.out ?_ ?_ ?_ ?_; rotate_left; intro w'; go_simp; with_reducible rfl; rotate_left; simp only [fr_]; rfl
       refine take_ (i := 4) (N := some 26) (v := ?_) (a' := ?_) #[t_,t_,t_,t_,t_,t_,f_,f_] rfl rfl (take_ofW HT_.out HW_.out (by kernel_rfl)) (fun _ _ _ h => h) (Or.inl ⟨by rfl, ?_⟩) hHeld ?_ ?_
       rotate_left
       ·
        rintro w' ⟨s0, s1⟩
        go_simp
        with_reducible rfl
       rotate_left
       ·
        simp only [fr_]
        rfl
       refine one_ (i := 6) (N := some 28) #[t_,t_,t_,t_,t_,t_,t_,f_] rfl rfl (one_of HT_.out (by kernel_rfl)) (by decide) (fun K hK => ?_)
       refine goes_ Try.func103 (by kernel_rfl) rfl #[.int .i64 (wrap64 (x1_1 + 1))] (by rfl) rfl rfl (by (try simp only [mp_]); first | done | rfl | (simp only [List.length_drop, List.length_take]; rfl)) ?_
       with_reducible refine (laws_markText.calls k1 (wrap64 (x1_1 + 1)) t327 _ A7.out).mono ?_
       rintro e w12 ⟨rfl, hb⟩
       refine ⟨_, rfl, ?_⟩
       replace HB := Aside0.mk (below_step (hb_ HB.out) hb)
       (try clear hb)
       (try clear hb2)
       (try clear hk)
       (try clear hi)
       refine hK.out _ _ ⟨((HB.out.cell (World.block_lt_of_cell? w _ hw326_0)).trans hw326_0), ((HB.out.cell (World.block_lt_of_cell? w _ hw326_1)).trans hw326_1)⟩ (fun hHeld => ?_)
       clear hK K
       refine norm_ (a' := ?_) ?_ ?_
       rotate_left
       ·
        show Act.put _ (some 28) _ = _
        simp only [fr_]
        rfl
       refine pu_ 7 29 ?_ (b_ 8 0) rfl rfl HT_.out ?_ ?_ ?_ ?_; rotate_left; intro w'; go_simp; with_reducible rfl; rotate_left; simp only [fr_]; rfl
       refine done_ (done_of HT_.out (by kernel_rfl)) ?_
       try go_wp2
       go_roundg k1
       case measure => have := HK1.out; omega
       case rel => exact ⟨(wrap64 ((wrap64 (x1_1 + 1)) + 1)), (wrap64 (x5_1 + 1)), (by first | rfl | (simp; done) | (simp [*]; done)), (by first | rfl | (simp; done) | (simp [*]; done)), H', ⟨by have := HK1.out; omega⟩, ⟨by exact hb_ HB.out⟩⟩
      rw [if_neg c8] at H
      exact absurd H (by simp)
     rw [if_neg c6] at H
     exact absurd H (by simp)
    rw [if_neg c4] at H
    exact absurd H (by simp)
   rw [if_neg c3] at H
   have c3b0 : decide (x5_1 < (l0.length : Int)) = false := decide_eq_false c3
   clear c3
   obtain rfl := Option.some.inj H
   go_wp2
   go_ret
   exact ⟨by first | rfl | (simp [errW_none, errW_some] <;> rfl) | (simp [*, errW_none, errW_some] <;> rfl), by exact hb_ HB.out⟩
def laws_heldAlarmS.l0 : Nat → List (S44) → Int → Int → Option (Int)
 | 0, _, _, _ => none
 | k + 1, x0, x1, x5 => if x5 < (x0.length : Int) then (if 0 ≤ x5 then ((laws_heldLabelS.f k ((rd_T44 x0 x5).f0) x1).bind fun t329 => (if t329 < 0 then (none) else (if ((rd_T44 x0 x5).f1) = t329 then (if ((rd_T44 x0 x5).f2) = (wrap64 (t329 + 1)) then ((laws_markText.f k (wrap64 ((wrap64 (t329 + 1)) + 1))).bind fun t333 => (if ((rd_T44 x0 x5).f3).toList = t333.toList then (laws_heldAlarmS.l0 k x0 (wrap64 ((wrap64 ((wrap64 (t329 + 1)) + 1)) + 1)) (wrap64 (x5 + 1))) else (none))) else (none)) else (none)))) else (none)) else (some x1)
def laws_heldAlarmS.f (k : Nat) (l0 : List (S44)) (a1 : Int) : Option (Int) := laws_heldAlarmS.l0 k l0 a1 0
theorem laws_heldAlarmS.mono_l : ∀ k, (∀ y0 y1 y2, LeO (laws_heldAlarmS.l0 k y0 y1 y2) (laws_heldAlarmS.l0 (k + 1) y0 y1 y2))
 | 0 => fun _ _ _ r h => by simp [laws_heldAlarmS.l0] at h
 | k + 1 => by
  have ih0 := laws_heldAlarmS.mono_l k
  intro y0 y1 y2
  unfold laws_heldAlarmS.l0
  repeat' first
  | (with_reducible exact ih0 _ _ _)
  | (with_reducible exact laws_heldLabelS.mono _ _ _)
  | (with_reducible exact laws_markText.mono _ _)
  | (with_reducible exact LeO.refl _)
  | (with_reducible exact LeO.none _)
  | (with_reducible refine LeO.ite ?_ ?_)
  | (with_reducible refine LeO.bind ?_ (fun _ => ?_))
  | exact ih0 _ _ _
  | exact laws_heldLabelS.mono _ _ _
  | exact laws_markText.mono _ _
theorem laws_heldAlarmS.mono : ∀ a0 a1 k, LeO (laws_heldAlarmS.f k a0 a1) (laws_heldAlarmS.f (k + 1) a0 a1) := by
 intro a0 a1 k
 have ih0 := laws_heldAlarmS.mono_l k
 unfold laws_heldAlarmS.f
 repeat' first
   | (with_reducible exact ih0 _ _ _)
   | (with_reducible exact laws_heldLabelS.mono _ _ _)
   | (with_reducible exact laws_markText.mono _ _)
   | (with_reducible exact LeO.refl _)
   | (with_reducible exact LeO.none _)
   | (with_reducible refine LeO.ite ?_ ?_)
   | (with_reducible refine LeO.bind ?_ (fun _ => ?_))
   | exact ih0 _ _ _
   | exact laws_heldLabelS.mono _ _ _
   | exact laws_markText.mono _ _
def laws_heldAlarmS.T13 : Bool × List (List Nat × List Nat) := (true, [([], []), ([], []), ([0, 1], [0, 1]), ([2], [2]), ([3], [3]), ([], []), ([5], [5]), ([4, 6], [4, 6])])
def laws_heldAlarmS.B13 : List Nat := [0, 0, 3, 7, 15, 0, 32, 127]
theorem laws_heldAlarmS.tab13 : rtab .any (opsOf Try.f40 13) = laws_heldAlarmS.T13 := by kernel_rfl
theorem laws_heldAlarmS.bits13 : waitsOk laws_heldAlarmS.T13.2 laws_heldAlarmS.B13 = true := by kernel_rfl
theorem laws_heldAlarmS.calls (k : Nat) (A0 : Option Addr) (c0 : Nat) (l0 : List (S44)) (a1 : Int) (r : Int) (w : World) (hr0 : Kd.C k44 w A0 l0.length l0) (hc0 : l0.length ≤ c0) (h : laws_heldAlarmS.f k l0 a1 = some r) :
  Calls Try.prog 40 #[.slice A0 l0.length c0, .int .i64 a1] w fun e w' => e = .returned (.int .i64 r) ∧ Below w.heap.size w w' := by
 have HR0 := Aside0.mk hr0
 have HC0 := Aside0.mk hc0
 clear hr0 hc0
 have HB := Aside0.mk (Below.refl w.heap.size w)
 have H : (laws_heldAlarmS.l0 k l0 a1 0) = some r := h
 clear h
 have H' := Aside0.mk H
 clear H
 go_enter Try.func40, Try.ntmps40
 go_wp2
 go_loopg [1, 5] k (fun kq v1 v5 w' => ∃ (x1_1 : Int) (x5_1 : Int), v1 = .int .i64 x1_1 ∧ v5 = .int .i64 x5_1 ∧ Aside0 (laws_heldAlarmS.l0 kq l0 x1_1 x5_1 = some r) ∧ Aside0 (kq ≤ k) ∧ Aside0 (Below w.heap.size w w'))
 case atStart => exact ⟨(a1), (0), (by first | rfl | (simp; done) | (simp [*]; done)), (by first | rfl | (simp; done) | (simp [*]; done)), H', ⟨Nat.le_refl _⟩, ⟨by exact hb_ HB.out⟩⟩
 case round =>
  clear H'
  try clear p2
  obtain ⟨x1_1, x5_1, rfl, rfl, HA, HK1, HB⟩ := hrel
  cases gk with
  | zero => exact absurd HA.out (by simp [laws_heldAlarmS.l0])
  | succ k1 =>
   have H := HA.out
   clear HA
   simp only [laws_heldAlarmS.l0] at H
   by_cases c3 : x5_1 < (l0.length : Int)
   ·
    rw [if_pos c3] at H
    have c3b0 := decide_eq_true c3
    clear c3
    by_cases c4 : 0 ≤ x5_1
    ·
     rw [if_pos c4] at H
     have c4b0 := decide_eq_true c4
     clear c4
     replace H := Option.bind_eq_some_iff.mp H
     obtain ⟨t329, A50, H⟩ := H
     have A5 := Aside0.mk A50
     clear A50
     by_cases c6 : t329 < 0
     ·
      rw [if_pos c6] at H
      exact absurd H (by simp)
     rw [if_neg c6] at H
     have c6b0 : decide (t329 < 0) = false := decide_eq_false c6
     clear c6
     by_cases c7 : ((rd_T44 l0 x5_1).f1) = t329
     ·
      rw [if_pos c7] at H
      have c7b0 : (((rd_T44 l0 x5_1).f1) == t329) = true := beq_iff_eq.mpr c7
      have c7b1 : (((rd_T44 l0 x5_1).f1) != t329) = false := bne_eq_false_iff_eq.mpr c7
      clear c7
      by_cases c8 : ((rd_T44 l0 x5_1).f2) = (wrap64 (t329 + 1))
      ·
       rw [if_pos c8] at H
       have c8b0 : (((rd_T44 l0 x5_1).f2) == (wrap64 (t329 + 1))) = true := beq_iff_eq.mpr c8
       have c8b1 : (((rd_T44 l0 x5_1).f2) != (wrap64 (t329 + 1))) = false := bne_eq_false_iff_eq.mpr c8
       clear c8
       replace H := Option.bind_eq_some_iff.mp H
       obtain ⟨t333, A90, H⟩ := H
       have A9 := Aside0.mk A90
       clear A90
       by_cases c10 : ((rd_T44 l0 x5_1).f3).toList = t333.toList
       ·
        rw [if_pos c10] at H
        have c10b0 : (((rd_T44 l0 x5_1).f3).toList == t333.toList) = true := beq_iff_eq.mpr c10
        have c10b1 : (((rd_T44 l0 x5_1).f3).toList != t333.toList) = false := bne_eq_false_iff_eq.mpr c10
        clear c10
        have H' := Aside0.mk H
        clear H
        have p328 : 0 ≤ (x5_1 : Int) := of_decide_eq_true (by with_reducible assumption)
        have q328 : x5_1 < (l0.length : Int) := of_decide_eq_true (by with_reducible assumption)
        obtain ⟨ad328, A328_0, c328_0, e328, hx328_0, hx328_1, hx328_2, hx328_3, hl328_0, hi328_0⟩ := at_T44 HR0.out x5_1 p328 q328
        cases e328
        replace hx328_0 := cl_ HB.out hx328_0
        replace hx328_1 := cl_ HB.out hx328_1
        replace hx328_2 := cl_ HB.out hx328_2
        replace hx328_3 := cl_ HB.out hx328_3
        have HR328_0 := Aside0.mk hi328_0
        have HC328_0 := Aside0.mk hl328_0
        clear hi328_0 hl328_0
        replace p328 := eq_true p328
        replace q328 := eq_true q328
        try go_wp2_with (first | ((with_reducible refine gate_callee (f := 102) rfl ?_); refine goesL_ (some 18) rfl rfl Try.func102 (by kernel_rfl) rfl #[.slice A328_0 ((rd_T44 l0 x5_1).f0).length c328_0, .int .i64 x1_1] rfl (by (try simp only [mp_]); first | done | rfl | (simp only [List.length_drop, List.length_take]; rfl)) ?_; (with_reducible refine (laws_heldLabelS.calls k1 _ _ ((rd_T44 l0 x5_1).f0) x1_1 t329 _ ?side1 ?side2 A5.out).mono ?_); (case side1 => exact cp_ ((Kd.C_below HR328_0.out HB.out))); (case side2 => exact HC328_0.out); rintro e w11 ⟨rfl, hb⟩; refine ⟨_, rfl, ?_⟩; replace HB := Aside0.mk (below_step (hb_ HB.out) hb); (try clear hb); (try clear hb2); (try clear hk); (try clear hi); have p330 : 0 ≤ (x5_1 : Int) := of_decide_eq_true (by with_reducible assumption); have q330 : x5_1 < (l0.length : Int) := of_decide_eq_true (by with_reducible assumption); obtain ⟨ad330, A330_0, c330_0, e330, hx330_0, hx330_1, hx330_2, hx330_3, hl330_0, hi330_0⟩ := at_T44 HR0.out x5_1 p330 q330; obtain rfl : ad328 = ad330 := (by injection e330); replace hx330_0 := cl_ HB.out hx330_0; replace hx330_1 := cl_ HB.out hx330_1; replace hx330_2 := cl_ HB.out hx330_2; replace hx330_3 := cl_ HB.out hx330_3; have HR330_0 := Aside0.mk hi330_0; have HC330_0 := Aside0.mk hl330_0; clear hi330_0 hl330_0; replace p330 := eq_true p330; replace q330 := eq_true q330; have p331 : 0 ≤ (x5_1 : Int) := of_decide_eq_true (by with_reducible assumption); have q331 : x5_1 < (l0.length : Int) := of_decide_eq_true (by with_reducible assumption); obtain ⟨ad331, A331_0, c331_0, e331, hx331_0, hx331_1, hx331_2, hx331_3, hl331_0, hi331_0⟩ := at_T44 HR0.out x5_1 p331 q331; obtain rfl : ad328 = ad331 := (by injection e331); replace hx331_0 := cl_ HB.out hx331_0; replace hx331_1 := cl_ HB.out hx331_1; replace hx331_2 := cl_ HB.out hx331_2; replace hx331_3 := cl_ HB.out hx331_3; have HR331_0 := Aside0.mk hi331_0; have HC331_0 := Aside0.mk hl331_0; clear hi331_0 hl331_0; replace p331 := eq_true p331; replace q331 := eq_true q331; have ea_ := Option.some.inj (hx330_0.symm.trans hx331_0); injection ea_ with ea_ en_ ec_; subst ea_; subst ec_; clear en_))
        replace HB := Aside0.mk (bd_ HB.out)
        have p332 : 0 ≤ (x5_1 : Int) := of_decide_eq_true (by with_reducible assumption)
        have q332 : x5_1 < (l0.length : Int) := of_decide_eq_true (by with_reducible assumption)
        obtain ⟨ad332, A332_0, c332_0, e332, hx332_0, hx332_1, hx332_2, hx332_3, hl332_0, hi332_0⟩ := at_T44 HR0.out x5_1 p332 q332
        have hw332_3 := hx332_3
        have hw332_2 := hx332_2
        have hw332_1 := hx332_1
        have hw332_0 := hx332_0
        obtain rfl : ad328 = ad332 := (by injection e332)
        replace hx332_0 := cl_ HB.out hx332_0
        replace hx332_1 := cl_ HB.out hx332_1
        replace hx332_2 := cl_ HB.out hx332_2
        replace hx332_3 := cl_ HB.out hx332_3
        have HR332_0 := Aside0.mk hi332_0
        have HC332_0 := Aside0.mk hl332_0
        clear hi332_0 hl332_0
        replace p332 := eq_true p332
        replace q332 := eq_true q332
        refine start_ (n := 8) (S := fun w' => w'.cell? (ad328.add ((x5_1).toNat * 4)) = some (.slice A332_0 ((rd_T44 l0 x5_1).f0).length c332_0) ∧ w'.cell? ⟨(ad328.add ((x5_1).toNat * 4)).block, (ad328.add ((x5_1).toNat * 4)).off + 1, none⟩ = some (.int .i64 ((rd_T44 l0 x5_1).f1)) ∧ w'.cell? ⟨(ad328.add ((x5_1).toNat * 4)).block, (ad328.add ((x5_1).toNat * 4)).off + 2, none⟩ = some (.int .i64 ((rd_T44 l0 x5_1).f2)) ∧ w'.cell? ⟨(ad328.add ((x5_1).toNat * 4)).block, (ad328.add ((x5_1).toNat * 4)).off + 3, none⟩ = some (.string ((rd_T44 l0 x5_1).f3))) (ds := []) #[f_,f_,f_,f_,f_,f_,f_,f_] (by kernel_rfl) rfl rfl ⟨((HB.out.cell (World.block_lt_of_cell? w _ hw332_0)).trans hw332_0), ((HB.out.cell (World.block_lt_of_cell? w _ hw332_1)).trans hw332_1), ((HB.out.cell (World.block_lt_of_cell? w _ hw332_2)).trans hw332_2), ((HB.out.cell (World.block_lt_of_cell? w _ hw332_3)).trans hw332_3)⟩ (fun hHeld => ?_); refine with_tabW laws_heldAlarmS.tab13 laws_heldAlarmS.bits13 (fun HT_ HW_ => ?_)
        generalize w11.drew = w12 at HB HR332_0 hx332_0 hx332_1 hx332_2 hx332_3 hHeld ⊢
        refine pu_ 0 39 ?_ (b_ 1 7) rfl rfl HT_.out ?_ ?_ ?_ ?_; rotate_left; intro w'; go_simp; with_reducible rfl; rotate_left; simp only [fr_]; rfl
        refine pu_ 1 40 ?_ (b_ 2 6) rfl rfl HT_.out ?_ ?_ ?_ ?_; rotate_left; intro w'; go_simp; with_reducible rfl; rotate_left; simp only [fr_]; rfl
        refine pu_ 2 41 ?_ (b_ 3 5) rfl rfl HT_.out ?_ ?_ ?_ ?_; rotate_left; intro w'; go_simp; with_reducible rfl; rotate_left; simp only [fr_]; rfl
        refine pu_ 3 42 ?_ (b_ 4 4) rfl rfl HT_.out ?_ ?_ ?_ ?_; rotate_left; intro w'; go_simp; with_reducible rfl; rotate_left; simp only [fr_]; rfl
        refine pu_ 5 44 ?_ #[t_,t_,t_,t_,f_,t_,f_,f_] rfl rfl HT_.out ?_ ?_ ?_ ?_; rotate_left; intro w'; go_simp; with_reducible rfl; rotate_left; simp only [fr_]; rfl
        refine take_ (i := 4) (N := some 43) (v := ?_) (a' := ?_) #[t_,t_,t_,t_,t_,t_,f_,f_] rfl rfl (take_ofW HT_.out HW_.out (by kernel_rfl)) (fun _ _ _ h => h) (Or.inl ⟨by rfl, ?_⟩) hHeld ?_ ?_
        rotate_left
        ·
         rintro w' ⟨s0, s1, s2, s3⟩
         go_simp
         with_reducible rfl
        rotate_left
        ·
         simp only [fr_]
         rfl
        refine one_ (i := 6) (N := some 45) #[t_,t_,t_,t_,t_,t_,t_,f_] rfl rfl (one_of HT_.out (by kernel_rfl)) (by decide) (fun K hK => ?_)
        refine goes_ Try.func103 (by kernel_rfl) rfl #[.int .i64 (wrap64 ((wrap64 (t329 + 1)) + 1))] (by rfl) rfl rfl (by (try simp only [mp_]); first | done | rfl | (simp only [List.length_drop, List.length_take]; rfl)) ?_
        with_reducible refine (laws_markText.calls k1 (wrap64 ((wrap64 (t329 + 1)) + 1)) t333 _ A9.out).mono ?_
        rintro e w13 ⟨rfl, hb⟩
        refine ⟨_, rfl, ?_⟩
        replace HB := Aside0.mk (below_step (hb_ HB.out) hb)
        (try clear hb)
        (try clear hb2)
        (try clear hk)
        (try clear hi)
        refine hK.out _ _ ⟨((HB.out.cell (World.block_lt_of_cell? w _ hw332_0)).trans hw332_0), ((HB.out.cell (World.block_lt_of_cell? w _ hw332_1)).trans hw332_1), ((HB.out.cell (World.block_lt_of_cell? w _ hw332_2)).trans hw332_2), ((HB.out.cell (World.block_lt_of_cell? w _ hw332_3)).trans hw332_3)⟩ (fun hHeld => ?_)
        clear hK K
        refine norm_ (a' := ?_) ?_ ?_
        rotate_left
        ·
         show Act.put _ (some 45) _ = _
         simp only [fr_]
         rfl
        refine pu_ 7 46 ?_ (b_ 8 0) rfl rfl HT_.out ?_ ?_ ?_ ?_; rotate_left; intro w'; go_simp; with_reducible rfl; rotate_left; simp only [fr_]; rfl
        refine done_ (done_of HT_.out (by kernel_rfl)) ?_
        try go_wp2
        go_roundg k1
        case measure => have := HK1.out; omega
        case rel => exact ⟨(wrap64 ((wrap64 ((wrap64 (t329 + 1)) + 1)) + 1)), (wrap64 (x5_1 + 1)), (by first | rfl | (simp; done) | (simp [*]; done)), (by first | rfl | (simp; done) | (simp [*]; done)), H', ⟨by have := HK1.out; omega⟩, ⟨by exact hb_ HB.out⟩⟩
       rw [if_neg c10] at H
       exact absurd H (by simp)
      rw [if_neg c8] at H
      exact absurd H (by simp)
     rw [if_neg c7] at H
     exact absurd H (by simp)
    rw [if_neg c4] at H
    exact absurd H (by simp)
   rw [if_neg c3] at H
   have c3b0 : decide (x5_1 < (l0.length : Int)) = false := decide_eq_false c3
   clear c3
   obtain rfl := Option.some.inj H
   go_wp2
   go_ret
   exact ⟨by first | rfl | (simp [errW_none, errW_some] <;> rfl) | (simp [*, errW_none, errW_some] <;> rfl), by exact hb_ HB.out⟩
def laws_heldGroupS.l0 : Nat → List (S75) → Int → Int → Option (Int)
 | 0, _, _, _ => none
 | k + 1, x0, x1, x5 => if x5 < (x0.length : Int) then (if 0 ≤ x5 then (if ((rd_T75 x0 x5).f0) = x1 then ((laws_heldLabelS.f k ((rd_T75 x0 x5).f1) (wrap64 (x1 + 1))).bind fun t1498 => (if t1498 < 0 then (none) else (if ((rd_T75 x0 x5).f2) = t1498 then (if ((rd_T75 x0 x5).f3) = (wrap64 (t1498 + 1)) then ((laws_heldAlarmS.f k ((rd_T75 x0 x5).f4) (wrap64 ((wrap64 (t1498 + 1)) + 1))).bind fun t1502 => (if t1502 < 0 then (none) else (laws_heldGroupS.l0 k x0 t1502 (wrap64 (x5 + 1))))) else (none)) else (none)))) else (none)) else (none)) else (some x1)
def laws_heldGroupS.f (k : Nat) (l0 : List (S75)) (a1 : Int) : Option (Int) := laws_heldGroupS.l0 k l0 a1 0
theorem laws_heldGroupS.mono_l : ∀ k, (∀ y0 y1 y2, LeO (laws_heldGroupS.l0 k y0 y1 y2) (laws_heldGroupS.l0 (k + 1) y0 y1 y2))
 | 0 => fun _ _ _ r h => by simp [laws_heldGroupS.l0] at h
 | k + 1 => by
  have ih0 := laws_heldGroupS.mono_l k
  intro y0 y1 y2
  unfold laws_heldGroupS.l0
  repeat' first
  | (with_reducible exact ih0 _ _ _)
  | (with_reducible exact laws_heldAlarmS.mono _ _ _)
  | (with_reducible exact laws_heldLabelS.mono _ _ _)
  | (with_reducible exact LeO.refl _)
  | (with_reducible exact LeO.none _)
  | (with_reducible refine LeO.ite ?_ ?_)
  | (with_reducible refine LeO.bind ?_ (fun _ => ?_))
  | exact ih0 _ _ _
  | exact laws_heldAlarmS.mono _ _ _
  | exact laws_heldLabelS.mono _ _ _
theorem laws_heldGroupS.mono : ∀ a0 a1 k, LeO (laws_heldGroupS.f k a0 a1) (laws_heldGroupS.f (k + 1) a0 a1) := by
 intro a0 a1 k
 have ih0 := laws_heldGroupS.mono_l k
 unfold laws_heldGroupS.f
 repeat' first
   | (with_reducible exact ih0 _ _ _)
   | (with_reducible exact laws_heldAlarmS.mono _ _ _)
   | (with_reducible exact laws_heldLabelS.mono _ _ _)
   | (with_reducible exact LeO.refl _)
   | (with_reducible exact LeO.none _)
   | (with_reducible refine LeO.ite ?_ ?_)
   | (with_reducible refine LeO.bind ?_ (fun _ => ?_))
   | exact ih0 _ _ _
   | exact laws_heldAlarmS.mono _ _ _
   | exact laws_heldLabelS.mono _ _ _
theorem laws_heldGroupS.calls (k : Nat) (A0 : Option Addr) (c0 : Nat) (l0 : List (S75)) (a1 : Int) (r : Int) (w : World) (hr0 : Kd.C k75 w A0 l0.length l0) (hc0 : l0.length ≤ c0) (h : laws_heldGroupS.f k l0 a1 = some r) :
  Calls Try.prog 74 #[.slice A0 l0.length c0, .int .i64 a1] w fun e w' => e = .returned (.int .i64 r) ∧ Below w.heap.size w w' := by
 have HR0 := Aside0.mk hr0
 have HC0 := Aside0.mk hc0
 clear hr0 hc0
 have HB := Aside0.mk (Below.refl w.heap.size w)
 have H : (laws_heldGroupS.l0 k l0 a1 0) = some r := h
 clear h
 have H' := Aside0.mk H
 clear H
 go_enter Try.func74, Try.ntmps74
 go_wp2
 go_loopg [1, 5] k (fun kq v1 v5 w' => ∃ (x1_1 : Int) (x5_1 : Int), v1 = .int .i64 x1_1 ∧ v5 = .int .i64 x5_1 ∧ Aside0 (laws_heldGroupS.l0 kq l0 x1_1 x5_1 = some r) ∧ Aside0 (kq ≤ k) ∧ Aside0 (Below w.heap.size w w'))
 case atStart => exact ⟨(a1), (0), (by first | rfl | (simp; done) | (simp [*]; done)), (by first | rfl | (simp; done) | (simp [*]; done)), H', ⟨Nat.le_refl _⟩, ⟨by exact hb_ HB.out⟩⟩
 case round =>
  clear H'
  try clear p2
  obtain ⟨x1_1, x5_1, rfl, rfl, HA, HK1, HB⟩ := hrel
  cases gk with
  | zero => exact absurd HA.out (by simp [laws_heldGroupS.l0])
  | succ k1 =>
   have H := HA.out
   clear HA
   simp only [laws_heldGroupS.l0] at H
   by_cases c3 : x5_1 < (l0.length : Int)
   ·
    rw [if_pos c3] at H
    have c3b0 := decide_eq_true c3
    clear c3
    by_cases c4 : 0 ≤ x5_1
    ·
     rw [if_pos c4] at H
     have c4b0 := decide_eq_true c4
     clear c4
     by_cases c5 : ((rd_T75 l0 x5_1).f0) = x1_1
     ·
      rw [if_pos c5] at H
      have c5b0 : (((rd_T75 l0 x5_1).f0) == x1_1) = true := beq_iff_eq.mpr c5
      have c5b1 : (((rd_T75 l0 x5_1).f0) != x1_1) = false := bne_eq_false_iff_eq.mpr c5
      clear c5
      replace H := Option.bind_eq_some_iff.mp H
      obtain ⟨t1498, A60, H⟩ := H
      have A6 := Aside0.mk A60
      clear A60
      by_cases c7 : t1498 < 0
      ·
       rw [if_pos c7] at H
       exact absurd H (by simp)
      rw [if_neg c7] at H
      have c7b0 : decide (t1498 < 0) = false := decide_eq_false c7
      clear c7
      by_cases c8 : ((rd_T75 l0 x5_1).f2) = t1498
      ·
       rw [if_pos c8] at H
       have c8b0 : (((rd_T75 l0 x5_1).f2) == t1498) = true := beq_iff_eq.mpr c8
       have c8b1 : (((rd_T75 l0 x5_1).f2) != t1498) = false := bne_eq_false_iff_eq.mpr c8
       clear c8
       by_cases c9 : ((rd_T75 l0 x5_1).f3) = (wrap64 (t1498 + 1))
       ·
        rw [if_pos c9] at H
        have c9b0 : (((rd_T75 l0 x5_1).f3) == (wrap64 (t1498 + 1))) = true := beq_iff_eq.mpr c9
        have c9b1 : (((rd_T75 l0 x5_1).f3) != (wrap64 (t1498 + 1))) = false := bne_eq_false_iff_eq.mpr c9
        clear c9
        replace H := Option.bind_eq_some_iff.mp H
        obtain ⟨t1502, A100, H⟩ := H
        have A10 := Aside0.mk A100
        clear A100
        by_cases c11 : t1502 < 0
        ·
         rw [if_pos c11] at H
         exact absurd H (by simp)
        rw [if_neg c11] at H
        have c11b0 : decide (t1502 < 0) = false := decide_eq_false c11
        clear c11
        have H' := Aside0.mk H
        clear H
        have p1496 : 0 ≤ (x5_1 : Int) := of_decide_eq_true (by with_reducible assumption)
        have q1496 : x5_1 < (l0.length : Int) := of_decide_eq_true (by with_reducible assumption)
        obtain ⟨ad1496, A1496_1, c1496_1, A1496_4, c1496_4, e1496, hx1496_0, hx1496_1, hx1496_2, hx1496_3, hx1496_4, hl1496_1, hi1496_1, hl1496_4, hi1496_4⟩ := at_T75 HR0.out x5_1 p1496 q1496
        cases e1496
        replace hx1496_0 := cl_ HB.out hx1496_0
        replace hx1496_1 := cl_ HB.out hx1496_1
        replace hx1496_2 := cl_ HB.out hx1496_2
        replace hx1496_3 := cl_ HB.out hx1496_3
        replace hx1496_4 := cl_ HB.out hx1496_4
        have HR1496_1 := Aside0.mk hi1496_1
        have HC1496_1 := Aside0.mk hl1496_1
        clear hi1496_1 hl1496_1
        have HR1496_4 := Aside0.mk hi1496_4
        have HC1496_4 := Aside0.mk hl1496_4
        clear hi1496_4 hl1496_4
        replace p1496 := eq_true p1496
        replace q1496 := eq_true q1496
        have p1497 : 0 ≤ (x5_1 : Int) := of_decide_eq_true (by with_reducible assumption)
        have q1497 : x5_1 < (l0.length : Int) := of_decide_eq_true (by with_reducible assumption)
        obtain ⟨ad1497, A1497_1, c1497_1, A1497_4, c1497_4, e1497, hx1497_0, hx1497_1, hx1497_2, hx1497_3, hx1497_4, hl1497_1, hi1497_1, hl1497_4, hi1497_4⟩ := at_T75 HR0.out x5_1 p1497 q1497
        obtain rfl : ad1496 = ad1497 := (by injection e1497)
        replace hx1497_0 := cl_ HB.out hx1497_0
        replace hx1497_1 := cl_ HB.out hx1497_1
        replace hx1497_2 := cl_ HB.out hx1497_2
        replace hx1497_3 := cl_ HB.out hx1497_3
        replace hx1497_4 := cl_ HB.out hx1497_4
        have HR1497_1 := Aside0.mk hi1497_1
        have HC1497_1 := Aside0.mk hl1497_1
        clear hi1497_1 hl1497_1
        have HR1497_4 := Aside0.mk hi1497_4
        have HC1497_4 := Aside0.mk hl1497_4
        clear hi1497_4 hl1497_4
        replace p1497 := eq_true p1497
        replace q1497 := eq_true q1497
        have ea_ := Option.some.inj (hx1496_1.symm.trans hx1497_1)
        injection ea_ with ea_ en_ ec_
        subst ea_
        subst ec_
        clear en_
        have ea_ := Option.some.inj (hx1496_4.symm.trans hx1497_4)
        injection ea_ with ea_ en_ ec_
        subst ea_
        subst ec_
        clear en_
        go_wp2_with (first | ((with_reducible refine gate_callee (f := 102) rfl ?_); refine goesL_ (some 27) rfl rfl Try.func102 (by kernel_rfl) rfl #[.slice A1496_1 ((rd_T75 l0 x5_1).f1).length c1496_1, .int .i64 (wrap64 (x1_1 + 1))] rfl (by (try simp only [mp_]); first | done | rfl | (simp only [List.length_drop, List.length_take]; rfl)) ?_; (with_reducible refine (laws_heldLabelS.calls k1 _ _ ((rd_T75 l0 x5_1).f1) (wrap64 (x1_1 + 1)) t1498 _ ?side1 ?side2 A6.out).mono ?_); (case side1 => exact cp_ ((Kd.C_below HR1497_1.out HB.out))); (case side2 => exact HC1497_1.out); rintro e w12 ⟨rfl, hb⟩; refine ⟨_, rfl, ?_⟩; replace HB := Aside0.mk (below_step (hb_ HB.out) hb); (try clear hb); (try clear hb2); (try clear hk); (try clear hi); have p1499 : 0 ≤ (x5_1 : Int) := of_decide_eq_true (by with_reducible assumption); have q1499 : x5_1 < (l0.length : Int) := of_decide_eq_true (by with_reducible assumption); obtain ⟨ad1499, A1499_1, c1499_1, A1499_4, c1499_4, e1499, hx1499_0, hx1499_1, hx1499_2, hx1499_3, hx1499_4, hl1499_1, hi1499_1, hl1499_4, hi1499_4⟩ := at_T75 HR0.out x5_1 p1499 q1499; obtain rfl : ad1496 = ad1499 := (by injection e1499); replace hx1499_0 := cl_ HB.out hx1499_0; replace hx1499_1 := cl_ HB.out hx1499_1; replace hx1499_2 := cl_ HB.out hx1499_2; replace hx1499_3 := cl_ HB.out hx1499_3; replace hx1499_4 := cl_ HB.out hx1499_4; have HR1499_1 := Aside0.mk hi1499_1; have HC1499_1 := Aside0.mk hl1499_1; clear hi1499_1 hl1499_1; have HR1499_4 := Aside0.mk hi1499_4; have HC1499_4 := Aside0.mk hl1499_4; clear hi1499_4 hl1499_4; replace p1499 := eq_true p1499; replace q1499 := eq_true q1499; have p1500 : 0 ≤ (x5_1 : Int) := of_decide_eq_true (by with_reducible assumption); have q1500 : x5_1 < (l0.length : Int) := of_decide_eq_true (by with_reducible assumption); obtain ⟨ad1500, A1500_1, c1500_1, A1500_4, c1500_4, e1500, hx1500_0, hx1500_1, hx1500_2, hx1500_3, hx1500_4, hl1500_1, hi1500_1, hl1500_4, hi1500_4⟩ := at_T75 HR0.out x5_1 p1500 q1500; obtain rfl : ad1496 = ad1500 := (by injection e1500); replace hx1500_0 := cl_ HB.out hx1500_0; replace hx1500_1 := cl_ HB.out hx1500_1; replace hx1500_2 := cl_ HB.out hx1500_2; replace hx1500_3 := cl_ HB.out hx1500_3; replace hx1500_4 := cl_ HB.out hx1500_4; have HR1500_1 := Aside0.mk hi1500_1; have HC1500_1 := Aside0.mk hl1500_1; clear hi1500_1 hl1500_1; have HR1500_4 := Aside0.mk hi1500_4; have HC1500_4 := Aside0.mk hl1500_4; clear hi1500_4 hl1500_4; replace p1500 := eq_true p1500; replace q1500 := eq_true q1500; have ea_ := Option.some.inj (hx1499_1.symm.trans hx1500_1); injection ea_ with ea_ en_ ec_; subst ea_; subst ec_; clear en_; have ea_ := Option.some.inj (hx1499_4.symm.trans hx1500_4); injection ea_ with ea_ en_ ec_; subst ea_; subst ec_; clear en_; have p1501 : 0 ≤ (x5_1 : Int) := of_decide_eq_true (by with_reducible assumption); have q1501 : x5_1 < (l0.length : Int) := of_decide_eq_true (by with_reducible assumption); obtain ⟨ad1501, A1501_1, c1501_1, A1501_4, c1501_4, e1501, hx1501_0, hx1501_1, hx1501_2, hx1501_3, hx1501_4, hl1501_1, hi1501_1, hl1501_4, hi1501_4⟩ := at_T75 HR0.out x5_1 p1501 q1501; obtain rfl : ad1496 = ad1501 := (by injection e1501); replace hx1501_0 := cl_ HB.out hx1501_0; replace hx1501_1 := cl_ HB.out hx1501_1; replace hx1501_2 := cl_ HB.out hx1501_2; replace hx1501_3 := cl_ HB.out hx1501_3; replace hx1501_4 := cl_ HB.out hx1501_4; have HR1501_1 := Aside0.mk hi1501_1; have HC1501_1 := Aside0.mk hl1501_1; clear hi1501_1 hl1501_1; have HR1501_4 := Aside0.mk hi1501_4; have HC1501_4 := Aside0.mk hl1501_4; clear hi1501_4 hl1501_4; replace p1501 := eq_true p1501; replace q1501 := eq_true q1501; have ea_ := Option.some.inj (hx1499_1.symm.trans hx1501_1); injection ea_ with ea_ en_ ec_; subst ea_; subst ec_; clear en_; have ea_ := Option.some.inj (hx1499_4.symm.trans hx1501_4); injection ea_ with ea_ en_ ec_; subst ea_; subst ec_; clear en_) | ((with_reducible refine gate_callee (f := 40) rfl ?_); refine goesL_ (some 54) rfl rfl Try.func40 (by kernel_rfl) rfl #[.slice A1499_4 ((rd_T75 l0 x5_1).f4).length c1499_4, .int .i64 (wrap64 ((wrap64 (t1498 + 1)) + 1))] rfl (by (try simp only [mp_]); first | done | rfl | (simp only [List.length_drop, List.length_take]; rfl)) ?_; (with_reducible refine (laws_heldAlarmS.calls k1 _ _ ((rd_T75 l0 x5_1).f4) (wrap64 ((wrap64 (t1498 + 1)) + 1)) t1502 _ ?side1 ?side2 A10.out).mono ?_); (case side1 => exact cp_ ((Kd.C_below HR1501_4.out HB.out))); (case side2 => exact HC1501_4.out); rintro e w13 ⟨rfl, hb⟩; refine ⟨_, rfl, ?_⟩; replace HB := Aside0.mk (below_step (hb_ HB.out) hb); (try clear hb); (try clear hb2); (try clear hk); (try clear hi)))
        go_roundg k1
        case measure => have := HK1.out; omega
        case rel => exact ⟨(t1502), (wrap64 (x5_1 + 1)), (by first | rfl | (simp; done) | (simp [*]; done)), (by first | rfl | (simp; done) | (simp [*]; done)), H', ⟨by have := HK1.out; omega⟩, ⟨by exact hb_ HB.out⟩⟩
       rw [if_neg c9] at H
       exact absurd H (by simp)
      rw [if_neg c8] at H
      exact absurd H (by simp)
     rw [if_neg c5] at H
     exact absurd H (by simp)
    rw [if_neg c4] at H
    exact absurd H (by simp)
   rw [if_neg c3] at H
   have c3b0 : decide (x5_1 < (l0.length : Int)) = false := decide_eq_false c3
   clear c3
   obtain rfl := Option.some.inj H
   go_wp2
   go_ret
   exact ⟨by first | rfl | (simp [errW_none, errW_some] <;> rfl) | (simp [*, errW_none, errW_some] <;> rfl), by exact hb_ HB.out⟩
end Go.Proofs.Ytfholjcelnkleaa.Print
end
