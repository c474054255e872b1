import Derived.Test.YtfholjcelnkleaaMFnHeards1
section
namespace Go.Proofs.Ytfholjcelnkleaa.Print
open Go.RowKit Go.Proofs.YtfholjcelnkleaaV.PrintWords Go.Proofs.YtfholjcelnkleaaV.PrintLast Go.Proofs.YtfholjcelnkleaaV.PrintMore
attribute [local go_sem] max2_int min2_int max_two min_two max_three min_three max_four min_four
set_option linter.unusedVariables false
set_option linter.unusedSimpArgs false
set_option maxHeartbeats 8000000
set_option maxRecDepth 100000
def impl_Tell.f (k : Nat) (l0_0 : List (S44)) (a0_1 : Bool) (l1_0 : List (S164)) (a1_1 : Int) (a1_2 : Int) (a1_3 : ByteArray) : Option ((List (S44)) × Bool) := (impl_copySub.f k l0_0 a0_1).bind fun bt297 => (if a0_1 = true then (some (bt297.1, bt297.2)) else (if (l0_0.length : Int) ≥ 3 then (some (([] : List (S44)), true)) else ((impl_copyAlarm.f l1_0 a1_1 a1_2 a1_3).bind fun bt302 => (if bt297.1.length < 2513169434916 then (some ((bt297.1 ++ [(⟨bt302.1, bt302.2.1, bt302.2.2.1, bt302.2.2.2⟩ : S44)]), bt297.2)) else (none)))))
theorem impl_Tell.mono : ∀ a0 a1 a2 a3 a4 a5 k, LeO (impl_Tell.f k a0 a1 a2 a3 a4 a5) (impl_Tell.f (k + 1) a0 a1 a2 a3 a4 a5) := by
 intro a0 a1 a2 a3 a4 a5 k
 unfold impl_Tell.f
 repeat' first
   | (with_reducible exact impl_copySub.mono _ _ _)
   | (with_reducible exact LeO.refl _)
   | (with_reducible exact LeO.none _)
   | (with_reducible refine LeO.ite ?_ ?_)
   | (with_reducible refine LeO.bind ?_ (fun _ => ?_))
   | exact impl_copySub.mono _ _ _
def impl_Tell.T2 : Bool × List (List Nat × List Nat) := (true, [([], []), ([0], [0]), ([], []), ([2], [2]), ([3], [3]), ([1, 4, 3], [1, 4]), ([0, 1, 2, 3, 4, 5], []), ([6, 5, 5, 0, 1, 2, 3, 4, 5], [5, 6])])
def impl_Tell.B2 : List Nat := [0, 1, 0, 4, 12, 31, 63, 127]
theorem impl_Tell.tab2 : rtab .any (opsOf Try.f25 2) = impl_Tell.T2 := by kernel_rfl
theorem impl_Tell.bits2 : waitsOk impl_Tell.T2.2 impl_Tell.B2 = true := by kernel_rfl
theorem impl_Tell.calls (k : Nat) (A0_0 : Option Addr) (c0_0 : Nat) (l0_0 : List (S44)) (a0_1 : Bool) (A1_0 : Option Addr) (c1_0 : Nat) (l1_0 : List (S164)) (a1_1 : Int) (a1_2 : Int) (a1_3 : ByteArray) (r1 : List (S44)) (r2 : Bool) (w : World) (hr0_0 : Kd.C k44 w A0_0 l0_0.length l0_0) (hc0_0 : l0_0.length ≤ c0_0) (hr1_0 : Kd.C k164 w A1_0 l1_0.length l1_0) (hc1_0 : l1_0.length ≤ c1_0) (h : impl_Tell.f k l0_0 a0_1 l1_0 a1_1 a1_2 a1_3 = some (r1, r2)) :
  Calls Try.prog 25 #[.agg #[.slice A0_0 l0_0.length c0_0, .bool a0_1], .agg #[.slice A1_0 l1_0.length c1_0, .int .i64 a1_1, .int .i64 a1_2, .string a1_3]] w fun e w' => ∃ v0_ : Value, e = .returned (.agg #[v0_, .bool r2]) ∧ Kd.S k44 44 w' w.heap.size (fun _ => True) v0_ r1 ∧ Below w.heap.size w w' := by
 have hu39 := Try.underlying39
 have hu44 := Try.underlying44
 have HR0_0 := Aside0.mk hr0_0
 have HC0_0 := Aside0.mk hc0_0
 clear hr0_0 hc0_0
 have HR1_0 := Aside0.mk hr1_0
 have HC1_0 := Aside0.mk hc1_0
 clear hr1_0 hc1_0
 have HB := Aside0.mk (Below.refl w.heap.size w)
 have H : ((impl_copySub.f k l0_0 a0_1).bind fun bt297 => (if a0_1 = true then (some (bt297.1, bt297.2)) else (if (l0_0.length : Int) ≥ 3 then (some (([] : List (S44)), true)) else ((impl_copyAlarm.f l1_0 a1_1 a1_2 a1_3).bind fun bt302 => (if bt297.1.length < 2513169434916 then (some ((bt297.1 ++ [(⟨bt302.1, bt302.2.1, bt302.2.2.1, bt302.2.2.2⟩ : S44)]), bt297.2)) else (none)))))) = some (r1, r2) := h
 clear h
 replace H := Option.bind_eq_some_iff.mp H
 obtain ⟨⟨t297, t300⟩, A30, H⟩ := H
 have A3 := Aside0.mk A30
 clear A30
 by_cases c4 : a0_1 = true
 ·
  subst c4
  rw [if_pos rfl] at H
  simp only [Option.some.injEq, Prod.mk.injEq] at H
  obtain ⟨rfl, rfl⟩ := H
  go_enter Try.func25, Try.ntmps25
  go_wp2_with (first | ((with_reducible refine gate_dst (N := 2) rfl ?_); refine box_event ?hg (N := 2) ?hd (cs := #[.slice A0_0 l0_0.length c0_0, .bool true]) (t := 39) ?hr ?_; (case hd => rfl); (case hg => rfl); (case hr => first | (go_simp; done) | (go_simp; rfl)); intro gb294 hg w5 hbox hb; have n0_ := Aside0.mk (below_step (by repeat (first | (with_reducible first | exact HB.out | apply ba_ | apply bn_ | apply bd_) | exact HB.out)) hb); have BK294 := Aside0.mk (hbox); have GW294 := Aside0.mk ((by rw [hg]; exact (below_size (by repeat (first | (with_reducible first | exact HB.out | apply ba_ | apply bn_ | apply bd_) | exact HB.out))) : w.heap.size ≤ gb294)); have GE294 := GW294; clear HB; have HB := n0_; clear n0_; clear hb hbox hg) | ((with_reducible refine gate_dst (N := 3) rfl ?_); refine box_event ?hg (N := 3) ?hd (cs := #[.slice A1_0 l1_0.length c1_0, .int .i64 a1_1, .int .i64 a1_2, .string a1_3]) (t := 44) ?hr ?_; (case hd => rfl); (case hg => rfl); (case hr => first | (go_simp; done) | (go_simp; rfl)); intro gb295 hg w6 hbox hb; have n0_ := Aside0.mk (bb_ BK294.out hb); have n1_ := Aside0.mk (below_step (by repeat (first | (with_reducible first | exact HB.out | apply ba_ | apply bn_ | apply bd_ | refine below_set ?_ GE294.out) | exact HB.out)) hb); have n2_ := Aside0.mk (hbox); have n3_ := Aside0.mk ((by rw [hg]; exact (below_size (by repeat (first | (with_reducible first | exact HB.out | apply ba_ | apply bn_ | apply bd_ | refine below_set ?_ GE294.out) | exact HB.out))) : w.heap.size ≤ gb295)); have n4_ := n3_; have n5_ := Aside0.mk (nl_ BK294.out hg); have n6_ := Aside0.mk (ng_ BK294.out hg); clear BK294; clear HB; have BK294 := n0_; have HB := n1_; have BK295 := n2_; have GW295 := n3_; have GE295 := n4_; have NB294_295 := n5_; have NB295_294 := n6_; clear n0_ n1_ n2_ n3_ n4_ n5_ n6_; clear hb hbox hg) | ((with_reducible refine gate_dst (N := 4) rfl ?_); refine box_event ?hg (N := 4) ?hd (cs := #[.slice none 0 0, .bool false]) (t := 39) ?hr ?_; (case hd => rfl); (case hg => rfl); (case hr => first | (go_simp; done) | (go_simp; rfl)); intro gb296 hg w7 hbox hb; have n0_ := Aside0.mk (bb_ BK294.out hb); have n1_ := Aside0.mk (bb_ BK295.out hb); have n2_ := Aside0.mk (below_step (by repeat (first | (with_reducible first | exact HB.out | apply ba_ | apply bn_ | apply bd_ | refine below_set ?_ GE294.out | refine below_set ?_ GE295.out) | exact HB.out)) hb); have n3_ := Aside0.mk (hbox); have n4_ := Aside0.mk ((by rw [hg]; exact (below_size (by repeat (first | (with_reducible first | exact HB.out | apply ba_ | apply bn_ | apply bd_ | refine below_set ?_ GE294.out | refine below_set ?_ GE295.out) | exact HB.out))) : w.heap.size ≤ gb296)); have n5_ := n4_; have n6_ := Aside0.mk (nl_ BK294.out hg); have n7_ := Aside0.mk (ng_ BK294.out hg); have n8_ := Aside0.mk (nl_ BK295.out hg); have n9_ := Aside0.mk (ng_ BK295.out hg); clear BK294; clear BK295; clear HB; have BK294 := n0_; have BK295 := n1_; have HB := n2_; have BK296 := n3_; have GW296 := n4_; have GE296 := n5_; have NB294_296 := n6_; have NB296_294 := n7_; have NB295_296 := n8_; have NB296_295 := n9_; clear n0_ n1_ n2_ n3_ n4_ n5_ n6_ n7_ n8_ n9_; clear hb hbox hg; have hnb8 := NB294_295.out; have hnc8 := NB295_294.out; have hnb9 := NB294_296.out; have hnc9 := NB296_294.out; have hcz10_0 : w7.cell? ⟨gb294, 0, none⟩ = some (.slice A0_0 l0_0.length c0_0) := (blk_cell BK294.out 0).trans rfl; have hcz10_1 : w7.cell? ⟨gb294, 1, none⟩ = some (.bool true) := (blk_cell BK294.out 1).trans rfl; have hfz10_0 := blk_frozen BK294.out 0; have hfz10_1 := blk_frozen BK294.out 1) | ((with_reducible refine gate_callee (f := 96) rfl ?_); refine goesL_ (some 7) rfl rfl Try.func96 (by kernel_rfl) rfl #[.agg #[.slice A0_0 l0_0.length c0_0, .bool true]] rfl (by (try simp only [mp_]); first | done | rfl | (simp only [List.length_drop, List.length_take]; rfl)) ?_; (with_reducible refine (impl_copySub.calls k _ _ l0_0 true t297 t300 _ ?side1 ?side2 A3.out).mono ?_); (case side1 => repeat (first | exact (Kd.C_below HR0_0.out HB.out) | (with_reducible first | refine ca_ ?_ _ | refine cn_ ?_ _ | refine cd_ ?_))); (case side2 => exact HC0_0.out); rintro e w11 ⟨v298, rfl, ho0, hb⟩; refine ⟨_, rfl, ?_⟩; have n0_ := Aside0.mk (Kd.S_lower (Kd.S_newB ho0 (g := gb295) (o := .cells #[.slice A1_0 l1_0.length c1_0, .int .i64 a1_1, .int .i64 a1_2, .string a1_3] 44 (0, 0)) (pb_ BK295.out)) (below_size (by repeat (first | (with_reducible first | exact HB.out | apply ba_ | apply bn_ | apply bd_ | refine below_set ?_ GE294.out | refine below_set ?_ GE295.out | refine below_set ?_ GE296.out) | exact HB.out)))); have n1_ := Aside0.mk (bb_ BK294.out hb); have n2_ := Aside0.mk (bb_ BK295.out hb); have n3_ := Aside0.mk (bb_ BK296.out hb); have n4_ := Aside0.mk (below_step (by repeat (first | (with_reducible first | exact HB.out | apply ba_ | apply bn_ | apply bd_ | refine below_set ?_ GE294.out | refine below_set ?_ GE295.out | refine below_set ?_ GE296.out) | exact HB.out)) hb); clear BK294; clear BK295; clear BK296; clear HB; have HO299 := n0_; have BK294 := n1_; have BK295 := n2_; have BK296 := n3_; have HB := n4_; clear n0_ n1_ n2_ n3_ n4_; (try clear hb); (try clear hb2); (try clear hk); (try clear hi); (try clear ho0)) | ((with_reducible refine gate_dst (N := 5) rfl ?_); refine box_event ?hg (N := 5) ?hd (cs := #[.slice none 0 0, .bool false]) (t := 39) ?hr ?_; (case hd => rfl); (case hg => rfl); (case hr => first | (go_simp; done) | (go_simp; rfl)); intro gb301 hg w12 hbox hb; have n0_ := Aside0.mk (Kd.S_below (sp_ HO299.out) hb); have n1_ := Aside0.mk (bb_ BK294.out hb); have n2_ := Aside0.mk (bb_ BK295.out hb); have n3_ := Aside0.mk (bb_ BK296.out hb); have n4_ := Aside0.mk (below_step (by repeat (first | (with_reducible first | exact HB.out | apply ba_ | apply bn_ | apply bd_ | refine below_set ?_ GE294.out | refine below_set ?_ GE295.out | refine below_set ?_ GE296.out) | exact HB.out)) hb); have n5_ := Aside0.mk (hbox); have n6_ := Aside0.mk ((by rw [hg]; exact (below_size (by repeat (first | (with_reducible first | exact HB.out | apply ba_ | apply bn_ | apply bd_ | refine below_set ?_ GE294.out | refine below_set ?_ GE295.out | refine below_set ?_ GE296.out) | exact HB.out))) : w.heap.size ≤ gb301)); have n7_ := n6_; have n8_ := Aside0.mk (nl_ BK294.out hg); have n9_ := Aside0.mk (ng_ BK294.out hg); have n10_ := Aside0.mk (nl_ BK295.out hg); have n11_ := Aside0.mk (ng_ BK295.out hg); have n12_ := Aside0.mk (nl_ BK296.out hg); have n13_ := Aside0.mk (ng_ BK296.out hg); clear HO299; clear BK294; clear BK295; clear BK296; clear HB; have HO299 := n0_; have BK294 := n1_; have BK295 := n2_; have BK296 := n3_; have HB := n4_; have BK301 := n5_; have GW301 := n6_; have GE301 := n7_; have NB294_301 := n8_; have NB301_294 := n9_; have NB295_301 := n10_; have NB301_295 := n11_; have NB296_301 := n12_; have NB301_296 := n13_; clear n0_ n1_ n2_ n3_ n4_ n5_ n6_ n7_ n8_ n9_ n10_ n11_ n12_ n13_; clear hb hbox hg; obtain ⟨Ao13, co13, eo13⟩ := Kd.S_slice HO299.out; subst eo13; have hnb14 := NB301_294.out; have hnc14 := NB294_301.out; have hnb15 := NB301_295.out; have hnc15 := NB295_301.out; have hnb16 := NB301_296.out; have hnc16 := NB296_301.out; have hcz17_0 : w12.cell? ⟨gb301, 0, none⟩ = some (.slice none 0 0) := (blk_cell BK301.out 0).trans rfl; have hcz17_1 : w12.cell? ⟨gb301, 1, none⟩ = some (.bool false) := (blk_cell BK301.out 1).trans rfl; have hfz17_0 := blk_frozen BK301.out 0; have hfz17_1 := blk_frozen BK301.out 1; have hcz18_0 : w12.cell? ⟨gb294, 0, none⟩ = some (.slice A0_0 l0_0.length c0_0) := (blk_cell BK294.out 0).trans rfl; have hcz18_1 : w12.cell? ⟨gb294, 1, none⟩ = some (.bool true) := (blk_cell BK294.out 1).trans rfl; have hfz18_0 := blk_frozen BK294.out 0; have hfz18_1 := blk_frozen BK294.out 1; have hnb19 := NB296_295.out; have hnc19 := NB295_296.out; have hcz20_0 : w12.cell? ⟨gb296, 0, none⟩ = some (.slice none 0 0) := (blk_cell BK296.out 0).trans rfl; have hcz20_1 : w12.cell? ⟨gb296, 1, none⟩ = some (.bool false) := (blk_cell BK296.out 1).trans rfl; have hfz20_0 := blk_frozen BK296.out 0; have hfz20_1 := blk_frozen BK296.out 1))
  refine bodyPost_ret (results_cell_row rfl _ _ gb296 39 #[.slice Ao13 t297.length co13, .bool t300] (0, 0) _ rfl (by (with_reducible repeat (first | refine kn_ ?_ _ | refine kd_ ?_ | refine ka_ ?_ _)); refine blk_put (cs := #[.slice Ao13 t297.length co13, .bool false]) ?_ 1 _ rfl; (with_reducible repeat (first | refine kn_ ?_ _ | refine kd_ ?_ | refine ka_ ?_ _)); refine blk_put (cs := #[.slice none 0 0, .bool false]) ?_ 0 _ rfl; (with_reducible repeat (first | refine kn_ ?_ _ | refine kd_ ?_ | refine ka_ ?_ _)); refine blk_far ?_ NB296_301.out _; (with_reducible repeat (first | refine kn_ ?_ _ | refine kd_ ?_ | refine ka_ ?_ _)); refine blk_far ?_ NB296_301.out _; (with_reducible repeat (first | refine kn_ ?_ _ | refine kd_ ?_ | refine ka_ ?_ _)); exact BK296.out) Try.underlying39 rfl (by kernel_rfl)) rfl ?_
  exact ⟨_, by first | rfl | (simp [errW_none, errW_some] <;> rfl) | (simp [*, errW_none, errW_some] <;> rfl), by (with_reducible repeat (first | apply Kd.S_alloc | apply Kd.S_drewN | apply Kd.S_drew)); exact Kd.S_mono (Kd.S_far (p := ⟨gb296, 1, none⟩) (Kd.S_far (p := ⟨gb296, 0, none⟩) (Kd.S_far (p := ⟨gb301, 1, none⟩) (Kd.S_far (p := ⟨gb301, 0, none⟩) (Kd.S_types (Kd.S_types HO299.out BK301.out (by decide)) BK296.out (by decide)) (fun _ hk => hk.1.2) (.slice Ao13 t297.length co13)) (fun _ hk => hk.1.2) (.bool t300)) (fun _ hk => hk.2) (.slice Ao13 t297.length co13)) (fun _ hk => hk.2) (.bool t300)) (fun _ hk => trivial), by repeat (first | (with_reducible first | exact HB.out | apply ba_ | apply bn_ | apply bd_ | refine below_set ?_ GE294.out | refine below_set ?_ GE295.out | refine below_set ?_ GE296.out | refine below_set ?_ GE301.out) | exact HB.out)⟩
 replace c4 := Bool.eq_false_iff.mpr c4
 subst c4
 rw [if_neg (show ¬ (false = true) by decide)] at H
 by_cases c21 : (l0_0.length : Int) ≥ 3
 ·
  rw [if_pos c21] at H
  have c21b0 : decide (3 ≤ (l0_0.length : Int)) = true := decide_eq_true c21
  have c21b1 : decide (3 ≤ l0_0.length) = true := decide_eq_true (by omega)
  clear c21
  simp only [Option.some.injEq, Prod.mk.injEq] at H
  obtain ⟨rfl, rfl⟩ := H
  go_enter Try.func25, Try.ntmps25
  go_wp2_with (first | ((with_reducible refine gate_dst (N := 2) rfl ?_); refine box_event ?hg (N := 2) ?hd (cs := #[.slice A0_0 l0_0.length c0_0, .bool false]) (t := 39) ?hr ?_; (case hd => rfl); (case hg => rfl); (case hr => first | (go_simp; done) | (go_simp; rfl)); intro gb294 hg w22 hbox hb; have n0_ := Aside0.mk (below_step (by repeat (first | (with_reducible first | exact HB.out | apply ba_ | apply bn_ | apply bd_) | exact HB.out)) hb); have BK294 := Aside0.mk (hbox); have GW294 := Aside0.mk ((by rw [hg]; exact (below_size (by repeat (first | (with_reducible first | exact HB.out | apply ba_ | apply bn_ | apply bd_) | exact HB.out))) : w.heap.size ≤ gb294)); have GE294 := GW294; clear HB; have HB := n0_; clear n0_; clear hb hbox hg) | ((with_reducible refine gate_dst (N := 3) rfl ?_); refine box_event ?hg (N := 3) ?hd (cs := #[.slice A1_0 l1_0.length c1_0, .int .i64 a1_1, .int .i64 a1_2, .string a1_3]) (t := 44) ?hr ?_; (case hd => rfl); (case hg => rfl); (case hr => first | (go_simp; done) | (go_simp; rfl)); intro gb295 hg w23 hbox hb; have n0_ := Aside0.mk (bb_ BK294.out hb); have n1_ := Aside0.mk (below_step (by repeat (first | (with_reducible first | exact HB.out | apply ba_ | apply bn_ | apply bd_ | refine below_set ?_ GE294.out) | exact HB.out)) hb); have n2_ := Aside0.mk (hbox); have n3_ := Aside0.mk ((by rw [hg]; exact (below_size (by repeat (first | (with_reducible first | exact HB.out | apply ba_ | apply bn_ | apply bd_ | refine below_set ?_ GE294.out) | exact HB.out))) : w.heap.size ≤ gb295)); have n4_ := n3_; have n5_ := Aside0.mk (nl_ BK294.out hg); have n6_ := Aside0.mk (ng_ BK294.out hg); clear BK294; clear HB; have BK294 := n0_; have HB := n1_; have BK295 := n2_; have GW295 := n3_; have GE295 := n4_; have NB294_295 := n5_; have NB295_294 := n6_; clear n0_ n1_ n2_ n3_ n4_ n5_ n6_; clear hb hbox hg) | ((with_reducible refine gate_dst (N := 4) rfl ?_); refine box_event ?hg (N := 4) ?hd (cs := #[.slice none 0 0, .bool false]) (t := 39) ?hr ?_; (case hd => rfl); (case hg => rfl); (case hr => first | (go_simp; done) | (go_simp; rfl)); intro gb296 hg w24 hbox hb; have n0_ := Aside0.mk (bb_ BK294.out hb); have n1_ := Aside0.mk (bb_ BK295.out hb); have n2_ := Aside0.mk (below_step (by repeat (first | (with_reducible first | exact HB.out | apply ba_ | apply bn_ | apply bd_ | refine below_set ?_ GE294.out | refine below_set ?_ GE295.out) | exact HB.out)) hb); have n3_ := Aside0.mk (hbox); have n4_ := Aside0.mk ((by rw [hg]; exact (below_size (by repeat (first | (with_reducible first | exact HB.out | apply ba_ | apply bn_ | apply bd_ | refine below_set ?_ GE294.out | refine below_set ?_ GE295.out) | exact HB.out))) : w.heap.size ≤ gb296)); have n5_ := n4_; have n6_ := Aside0.mk (nl_ BK294.out hg); have n7_ := Aside0.mk (ng_ BK294.out hg); have n8_ := Aside0.mk (nl_ BK295.out hg); have n9_ := Aside0.mk (ng_ BK295.out hg); clear BK294; clear BK295; clear HB; have BK294 := n0_; have BK295 := n1_; have HB := n2_; have BK296 := n3_; have GW296 := n4_; have GE296 := n5_; have NB294_296 := n6_; have NB296_294 := n7_; have NB295_296 := n8_; have NB296_295 := n9_; clear n0_ n1_ n2_ n3_ n4_ n5_ n6_ n7_ n8_ n9_; clear hb hbox hg; have hnb25 := NB294_295.out; have hnc25 := NB295_294.out; have hnb26 := NB294_296.out; have hnc26 := NB296_294.out; have hcz27_0 : w24.cell? ⟨gb294, 0, none⟩ = some (.slice A0_0 l0_0.length c0_0) := (blk_cell BK294.out 0).trans rfl; have hcz27_1 : w24.cell? ⟨gb294, 1, none⟩ = some (.bool false) := (blk_cell BK294.out 1).trans rfl; have hfz27_0 := blk_frozen BK294.out 0; have hfz27_1 := blk_frozen BK294.out 1) | ((with_reducible refine gate_callee (f := 96) rfl ?_); refine goesL_ (some 7) rfl rfl Try.func96 (by kernel_rfl) rfl #[.agg #[.slice A0_0 l0_0.length c0_0, .bool false]] rfl (by (try simp only [mp_]); first | done | rfl | (simp only [List.length_drop, List.length_take]; rfl)) ?_; (with_reducible refine (impl_copySub.calls k _ _ l0_0 false t297 t300 _ ?side1 ?side2 A3.out).mono ?_); (case side1 => repeat (first | exact (Kd.C_below HR0_0.out HB.out) | (with_reducible first | refine ca_ ?_ _ | refine cn_ ?_ _ | refine cd_ ?_))); (case side2 => exact HC0_0.out); rintro e w28 ⟨v298, rfl, ho0, hb⟩; refine ⟨_, rfl, ?_⟩; have n0_ := Aside0.mk (Kd.S_lower (Kd.S_newB ho0 (g := gb295) (o := .cells #[.slice A1_0 l1_0.length c1_0, .int .i64 a1_1, .int .i64 a1_2, .string a1_3] 44 (0, 0)) (pb_ BK295.out)) (below_size (by repeat (first | (with_reducible first | exact HB.out | apply ba_ | apply bn_ | apply bd_ | refine below_set ?_ GE294.out | refine below_set ?_ GE295.out | refine below_set ?_ GE296.out) | exact HB.out)))); have n1_ := Aside0.mk (bb_ BK294.out hb); have n2_ := Aside0.mk (bb_ BK295.out hb); have n3_ := Aside0.mk (bb_ BK296.out hb); have n4_ := Aside0.mk (below_step (by repeat (first | (with_reducible first | exact HB.out | apply ba_ | apply bn_ | apply bd_ | refine below_set ?_ GE294.out | refine below_set ?_ GE295.out | refine below_set ?_ GE296.out) | exact HB.out)) hb); clear BK294; clear BK295; clear BK296; clear HB; have HO299 := n0_; have BK294 := n1_; have BK295 := n2_; have BK296 := n3_; have HB := n4_; clear n0_ n1_ n2_ n3_ n4_; (try clear hb); (try clear hb2); (try clear hk); (try clear hi); (try clear ho0)) | ((with_reducible refine gate_dst (N := 5) rfl ?_); refine box_event ?hg (N := 5) ?hd (cs := #[.slice none 0 0, .bool false]) (t := 39) ?hr ?_; (case hd => rfl); (case hg => rfl); (case hr => first | (go_simp; done) | (go_simp; rfl)); intro gb301 hg w29 hbox hb; have n0_ := Aside0.mk (Kd.S_below (sp_ HO299.out) hb); have n1_ := Aside0.mk (bb_ BK294.out hb); have n2_ := Aside0.mk (bb_ BK295.out hb); have n3_ := Aside0.mk (bb_ BK296.out hb); have n4_ := Aside0.mk (below_step (by repeat (first | (with_reducible first | exact HB.out | apply ba_ | apply bn_ | apply bd_ | refine below_set ?_ GE294.out | refine below_set ?_ GE295.out | refine below_set ?_ GE296.out) | exact HB.out)) hb); have n5_ := Aside0.mk (hbox); have n6_ := Aside0.mk ((by rw [hg]; exact (below_size (by repeat (first | (with_reducible first | exact HB.out | apply ba_ | apply bn_ | apply bd_ | refine below_set ?_ GE294.out | refine below_set ?_ GE295.out | refine below_set ?_ GE296.out) | exact HB.out))) : w.heap.size ≤ gb301)); have n7_ := n6_; have n8_ := Aside0.mk (nl_ BK294.out hg); have n9_ := Aside0.mk (ng_ BK294.out hg); have n10_ := Aside0.mk (nl_ BK295.out hg); have n11_ := Aside0.mk (ng_ BK295.out hg); have n12_ := Aside0.mk (nl_ BK296.out hg); have n13_ := Aside0.mk (ng_ BK296.out hg); clear HO299; clear BK294; clear BK295; clear BK296; clear HB; have HO299 := n0_; have BK294 := n1_; have BK295 := n2_; have BK296 := n3_; have HB := n4_; have BK301 := n5_; have GW301 := n6_; have GE301 := n7_; have NB294_301 := n8_; have NB301_294 := n9_; have NB295_301 := n10_; have NB301_295 := n11_; have NB296_301 := n12_; have NB301_296 := n13_; clear n0_ n1_ n2_ n3_ n4_ n5_ n6_ n7_ n8_ n9_ n10_ n11_ n12_ n13_; clear hb hbox hg; obtain ⟨Ao30, co30, eo30⟩ := Kd.S_slice HO299.out; subst eo30; have hnb31 := NB301_294.out; have hnc31 := NB294_301.out; have hnb32 := NB301_295.out; have hnc32 := NB295_301.out; have hnb33 := NB301_296.out; have hnc33 := NB296_301.out; have hcz34_0 : w29.cell? ⟨gb301, 0, none⟩ = some (.slice none 0 0) := (blk_cell BK301.out 0).trans rfl; have hcz34_1 : w29.cell? ⟨gb301, 1, none⟩ = some (.bool false) := (blk_cell BK301.out 1).trans rfl; have hfz34_0 := blk_frozen BK301.out 0; have hfz34_1 := blk_frozen BK301.out 1; have hcz35_0 : w29.cell? ⟨gb294, 0, none⟩ = some (.slice A0_0 l0_0.length c0_0) := (blk_cell BK294.out 0).trans rfl; have hcz35_1 : w29.cell? ⟨gb294, 1, none⟩ = some (.bool false) := (blk_cell BK294.out 1).trans rfl; have hfz35_0 := blk_frozen BK294.out 0; have hfz35_1 := blk_frozen BK294.out 1; have hnb36 := NB296_295.out; have hnc36 := NB295_296.out; have hcz37_0 : w29.cell? ⟨gb296, 0, none⟩ = some (.slice none 0 0) := (blk_cell BK296.out 0).trans rfl; have hcz37_1 : w29.cell? ⟨gb296, 1, none⟩ = some (.bool false) := (blk_cell BK296.out 1).trans rfl; have hfz37_0 := blk_frozen BK296.out 0; have hfz37_1 := blk_frozen BK296.out 1))
  refine bodyPost_ret (results_cell_row rfl _ _ gb296 39 #[.slice none 0 0, .bool true] (0, 0) _ rfl (by (with_reducible repeat (first | refine kn_ ?_ _ | refine kd_ ?_ | refine ka_ ?_ _)); refine blk_put (cs := #[.slice none 0 0, .bool false]) ?_ 1 _ rfl; (with_reducible repeat (first | refine kn_ ?_ _ | refine kd_ ?_ | refine ka_ ?_ _)); refine blk_put (cs := #[.slice none 0 0, .bool false]) ?_ 0 _ rfl; (with_reducible repeat (first | refine kn_ ?_ _ | refine kd_ ?_ | refine ka_ ?_ _)); refine blk_far ?_ NB296_301.out _; (with_reducible repeat (first | refine kn_ ?_ _ | refine kd_ ?_ | refine ka_ ?_ _)); refine blk_far ?_ NB296_301.out _; (with_reducible repeat (first | refine kn_ ?_ _ | refine kd_ ?_ | refine ka_ ?_ _)); exact BK296.out) Try.underlying39 rfl (by kernel_rfl)) rfl ?_
  exact ⟨_, by first | rfl | (simp [errW_none, errW_some] <;> rfl) | (simp [*, errW_none, errW_some] <;> rfl), by first | exact Kd.S_nil _ _ _ _ _ | exact Kd.N_nil _ _ _ _ _ | exact Kd.V_nil _ _ _ _ _ | exact Kd.Q_nil _ _ _ _ _ | exact Kd.R_nil _ _ _ _ _, by repeat (first | (with_reducible first | exact HB.out | apply ba_ | apply bn_ | apply bd_ | refine below_set ?_ GE294.out | refine below_set ?_ GE295.out | refine below_set ?_ GE296.out | refine below_set ?_ GE301.out) | exact HB.out)⟩
 rw [if_neg c21] at H
 have c21b0 : decide (3 ≤ (l0_0.length : Int)) = false := decide_eq_false c21
 have c21b1 : decide (3 ≤ l0_0.length) = false := decide_eq_false (by omega)
 clear c21
 replace H := Option.bind_eq_some_iff.mp H
 obtain ⟨⟨t302, t305, t306, t307⟩, A380, H⟩ := H
 have A38 := Aside0.mk A380
 clear A380
 by_cases c39 : t297.length < 2513169434916
 ·
  rw [if_pos c39] at H
  have LMc39 := Aside0.mk c39
  clear c39
  obtain ⟨y308, hy308⟩ : ∃ y_ : List (S44), y_ = (t297 ++ [(⟨t302, t305, t306, t307⟩ : S44)]) := ⟨_, rfl⟩
  replace H : (some (y308, t300)) = some (r1, r2) := by first | (rw [hy308]; with_reducible exact H) | (have H2_ := (Option.bind_some _ _).symm.trans H; rw [hy308]; with_reducible exact H2_) | (have H2_ := (Option.bind_some _ _).symm.trans H; with_reducible exact H2_) | with_reducible exact H | (rw [hy308]; exact H) | exact H
  have Ny308 := Aside0.mk hy308
  clear hy308
  simp only [Option.some.injEq, Prod.mk.injEq] at H
  obtain ⟨rfl, rfl⟩ := H
  go_enter Try.func25, Try.ntmps25
  try go_wp2_with (first | ((with_reducible refine gate_dst (N := 2) rfl ?_); refine box_event ?hg (N := 2) ?hd (cs := #[.slice A0_0 l0_0.length c0_0, .bool false]) (t := 39) ?hr ?_; (case hd => rfl); (case hg => rfl); (case hr => first | (go_simp; done) | (go_simp; rfl)); intro gb294 hg w40 hbox hb; have n0_ := Aside0.mk (below_step (by repeat (first | (with_reducible first | exact HB.out | apply ba_ | apply bn_ | apply bd_) | exact HB.out)) hb); have BK294 := Aside0.mk (hbox); have GW294 := Aside0.mk ((by rw [hg]; exact (below_size (by repeat (first | (with_reducible first | exact HB.out | apply ba_ | apply bn_ | apply bd_) | exact HB.out))) : w.heap.size ≤ gb294)); have GE294 := GW294; clear HB; have HB := n0_; clear n0_; clear hb hbox hg) | ((with_reducible refine gate_dst (N := 3) rfl ?_); refine box_event ?hg (N := 3) ?hd (cs := #[.slice A1_0 l1_0.length c1_0, .int .i64 a1_1, .int .i64 a1_2, .string a1_3]) (t := 44) ?hr ?_; (case hd => rfl); (case hg => rfl); (case hr => first | (go_simp; done) | (go_simp; rfl)); intro gb295 hg w41 hbox hb; have n0_ := Aside0.mk (bb_ BK294.out hb); have n1_ := Aside0.mk (below_step (by repeat (first | (with_reducible first | exact HB.out | apply ba_ | apply bn_ | apply bd_ | refine below_set ?_ GE294.out) | exact HB.out)) hb); have n2_ := Aside0.mk (hbox); have n3_ := Aside0.mk ((by rw [hg]; exact (below_size (by repeat (first | (with_reducible first | exact HB.out | apply ba_ | apply bn_ | apply bd_ | refine below_set ?_ GE294.out) | exact HB.out))) : w.heap.size ≤ gb295)); have n4_ := n3_; have n5_ := Aside0.mk (nl_ BK294.out hg); have n6_ := Aside0.mk (ng_ BK294.out hg); clear BK294; clear HB; have BK294 := n0_; have HB := n1_; have BK295 := n2_; have GW295 := n3_; have GE295 := n4_; have NB294_295 := n5_; have NB295_294 := n6_; clear n0_ n1_ n2_ n3_ n4_ n5_ n6_; clear hb hbox hg) | ((with_reducible refine gate_dst (N := 4) rfl ?_); refine box_event ?hg (N := 4) ?hd (cs := #[.slice none 0 0, .bool false]) (t := 39) ?hr ?_; (case hd => rfl); (case hg => rfl); (case hr => first | (go_simp; done) | (go_simp; rfl)); intro gb296 hg w42 hbox hb; have n0_ := Aside0.mk (bb_ BK294.out hb); have n1_ := Aside0.mk (bb_ BK295.out hb); have n2_ := Aside0.mk (below_step (by repeat (first | (with_reducible first | exact HB.out | apply ba_ | apply bn_ | apply bd_ | refine below_set ?_ GE294.out | refine below_set ?_ GE295.out) | exact HB.out)) hb); have n3_ := Aside0.mk (hbox); have n4_ := Aside0.mk ((by rw [hg]; exact (below_size (by repeat (first | (with_reducible first | exact HB.out | apply ba_ | apply bn_ | apply bd_ | refine below_set ?_ GE294.out | refine below_set ?_ GE295.out) | exact HB.out))) : w.heap.size ≤ gb296)); have n5_ := n4_; have n6_ := Aside0.mk (nl_ BK294.out hg); have n7_ := Aside0.mk (ng_ BK294.out hg); have n8_ := Aside0.mk (nl_ BK295.out hg); have n9_ := Aside0.mk (ng_ BK295.out hg); clear BK294; clear BK295; clear HB; have BK294 := n0_; have BK295 := n1_; have HB := n2_; have BK296 := n3_; have GW296 := n4_; have GE296 := n5_; have NB294_296 := n6_; have NB296_294 := n7_; have NB295_296 := n8_; have NB296_295 := n9_; clear n0_ n1_ n2_ n3_ n4_ n5_ n6_ n7_ n8_ n9_; clear hb hbox hg; have hnb43 := NB294_295.out; have hnc43 := NB295_294.out; have hnb44 := NB294_296.out; have hnc44 := NB296_294.out; have hcz45_0 : w42.cell? ⟨gb294, 0, none⟩ = some (.slice A0_0 l0_0.length c0_0) := (blk_cell BK294.out 0).trans rfl; have hcz45_1 : w42.cell? ⟨gb294, 1, none⟩ = some (.bool false) := (blk_cell BK294.out 1).trans rfl; have hfz45_0 := blk_frozen BK294.out 0; have hfz45_1 := blk_frozen BK294.out 1) | ((with_reducible refine gate_callee (f := 96) rfl ?_); refine goesL_ (some 7) rfl rfl Try.func96 (by kernel_rfl) rfl #[.agg #[.slice A0_0 l0_0.length c0_0, .bool false]] rfl (by (try simp only [mp_]); first | done | rfl | (simp only [List.length_drop, List.length_take]; rfl)) ?_; (with_reducible refine (impl_copySub.calls k _ _ l0_0 false t297 t300 _ ?side1 ?side2 A3.out).mono ?_); (case side1 => repeat (first | exact (Kd.C_below HR0_0.out HB.out) | (with_reducible first | refine ca_ ?_ _ | refine cn_ ?_ _ | refine cd_ ?_))); (case side2 => exact HC0_0.out); rintro e w46 ⟨v298, rfl, ho0, hb⟩; refine ⟨_, rfl, ?_⟩; have n0_ := Aside0.mk (Kd.S_lower (Kd.S_newB ho0 (g := gb295) (o := .cells #[.slice A1_0 l1_0.length c1_0, .int .i64 a1_1, .int .i64 a1_2, .string a1_3] 44 (0, 0)) (pb_ BK295.out)) (below_size (by repeat (first | (with_reducible first | exact HB.out | apply ba_ | apply bn_ | apply bd_ | refine below_set ?_ GE294.out | refine below_set ?_ GE295.out | refine below_set ?_ GE296.out) | exact HB.out)))); have n1_ := Aside0.mk (bb_ BK294.out hb); have n2_ := Aside0.mk (bb_ BK295.out hb); have n3_ := Aside0.mk (bb_ BK296.out hb); have n4_ := Aside0.mk (below_step (by repeat (first | (with_reducible first | exact HB.out | apply ba_ | apply bn_ | apply bd_ | refine below_set ?_ GE294.out | refine below_set ?_ GE295.out | refine below_set ?_ GE296.out) | exact HB.out)) hb); clear BK294; clear BK295; clear BK296; clear HB; have HO299 := n0_; have BK294 := n1_; have BK295 := n2_; have BK296 := n3_; have HB := n4_; clear n0_ n1_ n2_ n3_ n4_; (try clear hb); (try clear hb2); (try clear hk); (try clear hi); (try clear ho0)) | ((with_reducible refine gate_dst (N := 5) rfl ?_); refine box_event ?hg (N := 5) ?hd (cs := #[.slice none 0 0, .bool false]) (t := 39) ?hr ?_; (case hd => rfl); (case hg => rfl); (case hr => first | (go_simp; done) | (go_simp; rfl)); intro gb301 hg w47 hbox hb; have n0_ := Aside0.mk (Kd.S_below (sp_ HO299.out) hb); have n1_ := Aside0.mk (bb_ BK294.out hb); have n2_ := Aside0.mk (bb_ BK295.out hb); have n3_ := Aside0.mk (bb_ BK296.out hb); have n4_ := Aside0.mk (below_step (by repeat (first | (with_reducible first | exact HB.out | apply ba_ | apply bn_ | apply bd_ | refine below_set ?_ GE294.out | refine below_set ?_ GE295.out | refine below_set ?_ GE296.out) | exact HB.out)) hb); have n5_ := Aside0.mk (hbox); have n6_ := Aside0.mk ((by rw [hg]; exact (below_size (by repeat (first | (with_reducible first | exact HB.out | apply ba_ | apply bn_ | apply bd_ | refine below_set ?_ GE294.out | refine below_set ?_ GE295.out | refine below_set ?_ GE296.out) | exact HB.out))) : w.heap.size ≤ gb301)); have n7_ := n6_; have n8_ := Aside0.mk (nl_ BK294.out hg); have n9_ := Aside0.mk (ng_ BK294.out hg); have n10_ := Aside0.mk (nl_ BK295.out hg); have n11_ := Aside0.mk (ng_ BK295.out hg); have n12_ := Aside0.mk (nl_ BK296.out hg); have n13_ := Aside0.mk (ng_ BK296.out hg); clear HO299; clear BK294; clear BK295; clear BK296; clear HB; have HO299 := n0_; have BK294 := n1_; have BK295 := n2_; have BK296 := n3_; have HB := n4_; have BK301 := n5_; have GW301 := n6_; have GE301 := n7_; have NB294_301 := n8_; have NB301_294 := n9_; have NB295_301 := n10_; have NB301_295 := n11_; have NB296_301 := n12_; have NB301_296 := n13_; clear n0_ n1_ n2_ n3_ n4_ n5_ n6_ n7_ n8_ n9_ n10_ n11_ n12_ n13_; clear hb hbox hg; obtain ⟨Ao48, co48, eo48⟩ := Kd.S_slice HO299.out; subst eo48; have hnb49 := NB301_294.out; have hnc49 := NB294_301.out; have hnb50 := NB301_295.out; have hnc50 := NB295_301.out; have hnb51 := NB301_296.out; have hnc51 := NB296_301.out; have hcz52_0 : w47.cell? ⟨gb301, 0, none⟩ = some (.slice none 0 0) := (blk_cell BK301.out 0).trans rfl; have hcz52_1 : w47.cell? ⟨gb301, 1, none⟩ = some (.bool false) := (blk_cell BK301.out 1).trans rfl; have hfz52_0 := blk_frozen BK301.out 0; have hfz52_1 := blk_frozen BK301.out 1; have hcz53_0 : w47.cell? ⟨gb294, 0, none⟩ = some (.slice A0_0 l0_0.length c0_0) := (blk_cell BK294.out 0).trans rfl; have hcz53_1 : w47.cell? ⟨gb294, 1, none⟩ = some (.bool false) := (blk_cell BK294.out 1).trans rfl; have hfz53_0 := blk_frozen BK294.out 0; have hfz53_1 := blk_frozen BK294.out 1))
  have n0_ : Aside0 (Kd.S k44 44 ((w47.setCell ⟨gb301, 0, none⟩ (.slice Ao48 t297.length co48)).setCell ⟨gb301, 1, none⟩ (.bool t300)) w.heap.size (fun k_ => k_ ≠ gb295) (.slice Ao48 t297.length co48) t297) := ⟨by (with_reducible repeat (first | apply Kd.S_alloc | apply Kd.S_drewN | apply Kd.S_drew)); exact Kd.S_mono (Kd.S_far (p := ⟨gb301, 1, none⟩) (Kd.S_far (p := ⟨gb301, 0, none⟩) (Kd.S_types HO299.out BK301.out (by decide)) (fun _ hk => hk.2) (.slice Ao48 t297.length co48)) (fun _ hk => hk.2) (.bool t300)) (fun _ hk => hk.1.2)⟩
  have n1_ : Aside0 (((w47.setCell ⟨gb301, 0, none⟩ (.slice Ao48 t297.length co48)).setCell ⟨gb301, 1, none⟩ (.bool t300)).heap[gb294]? = some (.cells #[.slice A0_0 l0_0.length c0_0, .bool false] 39 (0, 0))) := ⟨by (with_reducible repeat (first | refine kn_ ?_ _ | refine kd_ ?_ | refine ka_ ?_ _)); refine blk_far ?_ NB294_301.out _; (with_reducible repeat (first | refine kn_ ?_ _ | refine kd_ ?_ | refine ka_ ?_ _)); refine blk_far ?_ NB294_301.out _; (with_reducible repeat (first | refine kn_ ?_ _ | refine kd_ ?_ | refine ka_ ?_ _)); exact BK294.out⟩
  have n2_ : Aside0 (((w47.setCell ⟨gb301, 0, none⟩ (.slice Ao48 t297.length co48)).setCell ⟨gb301, 1, none⟩ (.bool t300)).heap[gb295]? = some (.cells #[.slice A1_0 l1_0.length c1_0, .int .i64 a1_1, .int .i64 a1_2, .string a1_3] 44 (0, 0))) := ⟨by (with_reducible repeat (first | refine kn_ ?_ _ | refine kd_ ?_ | refine ka_ ?_ _)); refine blk_far ?_ NB295_301.out _; (with_reducible repeat (first | refine kn_ ?_ _ | refine kd_ ?_ | refine ka_ ?_ _)); refine blk_far ?_ NB295_301.out _; (with_reducible repeat (first | refine kn_ ?_ _ | refine kd_ ?_ | refine ka_ ?_ _)); exact BK295.out⟩
  have n3_ : Aside0 (((w47.setCell ⟨gb301, 0, none⟩ (.slice Ao48 t297.length co48)).setCell ⟨gb301, 1, none⟩ (.bool t300)).heap[gb296]? = some (.cells #[.slice none 0 0, .bool false] 39 (0, 0))) := ⟨by (with_reducible repeat (first | refine kn_ ?_ _ | refine kd_ ?_ | refine ka_ ?_ _)); refine blk_far ?_ NB296_301.out _; (with_reducible repeat (first | refine kn_ ?_ _ | refine kd_ ?_ | refine ka_ ?_ _)); refine blk_far ?_ NB296_301.out _; (with_reducible repeat (first | refine kn_ ?_ _ | refine kd_ ?_ | refine ka_ ?_ _)); exact BK296.out⟩
  have n4_ : Aside0 (((w47.setCell ⟨gb301, 0, none⟩ (.slice Ao48 t297.length co48)).setCell ⟨gb301, 1, none⟩ (.bool t300)).heap[gb301]? = some (.cells #[.slice Ao48 t297.length co48, .bool t300] 39 (0, 0))) := ⟨by (with_reducible repeat (first | refine kn_ ?_ _ | refine kd_ ?_ | refine ka_ ?_ _)); refine blk_put (cs := #[.slice Ao48 t297.length co48, .bool false]) ?_ 1 _ rfl; (with_reducible repeat (first | refine kn_ ?_ _ | refine kd_ ?_ | refine ka_ ?_ _)); refine blk_put (cs := #[.slice none 0 0, .bool false]) ?_ 0 _ rfl; (with_reducible repeat (first | refine kn_ ?_ _ | refine kd_ ?_ | refine ka_ ?_ _)); exact BK301.out⟩
  have n5_ : Aside0 (Below w.heap.size w ((w47.setCell ⟨gb301, 0, none⟩ (.slice Ao48 t297.length co48)).setCell ⟨gb301, 1, none⟩ (.bool t300))) := ⟨by repeat (first | (with_reducible first | exact HB.out | apply ba_ | apply bn_ | apply bd_ | refine below_set ?_ GE294.out | refine below_set ?_ GE295.out | refine below_set ?_ GE296.out | refine below_set ?_ GE301.out) | exact HB.out)⟩
  (try clear HO299)
  (try clear BK294)
  (try clear BK295)
  (try clear BK296)
  (try clear BK301)
  (try clear HB)
  generalize ((w47.setCell ⟨gb301, 0, none⟩ (.slice Ao48 t297.length co48)).setCell ⟨gb301, 1, none⟩ (.bool t300)) = w54 at n0_ n1_ n2_ n3_ n4_ n5_ ⊢
  have HO299 := n0_
  have BK294 := n1_
  have BK295 := n2_
  have BK296 := n3_
  have BK301 := n4_
  have HB := n5_
  clear n0_ n1_ n2_ n3_ n4_ n5_
  have n0_ := Aside0.mk (Kd.S_drew HO299.out)
  have n1_ := Aside0.mk (blk_drew BK294.out)
  have n2_ := Aside0.mk (blk_drew BK295.out)
  have n3_ := Aside0.mk (blk_drew BK296.out)
  have n4_ := Aside0.mk (blk_drew BK301.out)
  have n5_ := Aside0.mk (bd_ HB.out)
  clear HO299
  clear BK294
  clear BK295
  clear BK296
  clear BK301
  clear HB
  have HO299 := n0_
  have BK294 := n1_
  have BK295 := n2_
  have BK296 := n3_
  have BK301 := n4_
  have HB := n5_
  clear n0_ n1_ n2_ n3_ n4_ n5_
  refine start_ (n := 8) (S := fun w' => w'.cell? ⟨gb301, 0, none⟩ = some (.slice Ao48 t297.length co48) ∧ w'.cell? ⟨gb301, 1, none⟩ = some (.bool t300) ∧ w'.cell? ⟨gb295, 0, none⟩ = some (.slice A1_0 l1_0.length c1_0) ∧ w'.cell? ⟨gb295, 1, none⟩ = some (.int .i64 a1_1) ∧ w'.cell? ⟨gb295, 2, none⟩ = some (.int .i64 a1_2) ∧ w'.cell? ⟨gb295, 3, none⟩ = some (.string a1_3)) (ds := [7]) #[f_,f_,f_,f_,f_,f_,f_,f_] (by kernel_rfl) rfl rfl ⟨(blk_cell BK301.out 0).trans rfl, (blk_cell BK301.out 1).trans rfl, (blk_cell BK295.out 0).trans rfl, (blk_cell BK295.out 1).trans rfl, (blk_cell BK295.out 2).trans rfl, (blk_cell BK295.out 3).trans rfl⟩ (fun hHeld => ?_); refine with_tabW impl_Tell.tab2 impl_Tell.bits2 (fun HT_ HW_ => ?_)
  generalize w54.drew = w55 at HO299 BK294 BK295 BK296 BK301 HB hHeld ⊢
  refine pu_ 0 8 ?_ (b_ 1 7) rfl rfl HT_.out ?_ ?_ ?_ ?_; rotate_left; intro w'; go_simp; with_reducible rfl; rotate_left; simp only [fr_]; rfl
  refine take_ (i := 1) (N := some 9) (v := ?_) (a' := ?_) #[t_,t_,f_,f_,f_,f_,f_,f_] rfl rfl (take_ofW HT_.out HW_.out (by kernel_rfl)) (fun _ _ _ h => h) (Or.inl ⟨by rfl, ?_⟩) hHeld ?_ ?_
  rotate_left
  ·
   rintro w' ⟨s0, s1, s2, s3, s4, s5⟩
   go_simp
   with_reducible rfl
  rotate_left
  ·
   simp only [fr_]
   rfl
  refine take_ (i := 2) (N := some 10) (v := ?_) (a' := ?_) #[t_,t_,t_,f_,f_,f_,f_,f_] rfl rfl (take_ofW HT_.out HW_.out (by kernel_rfl)) (fun _ _ _ h => h) (Or.inl ⟨by rfl, ?_⟩) hHeld ?_ ?_
  rotate_left
  ·
   rintro w' ⟨s0, s1, s2, s3, s4, s5⟩
   go_simp
   with_reducible rfl
  rotate_left
  ·
   simp only [fr_]
   rfl
  refine one_ (i := 3) (N := some 11) #[t_,t_,t_,t_,f_,f_,f_,f_] rfl rfl (one_of HT_.out (by kernel_rfl)) (by decide) (fun K hK => ?_)
  refine goes_ Try.func97 (by kernel_rfl) rfl #[.agg #[.slice A1_0 l1_0.length c1_0, .int .i64 a1_1, .int .i64 a1_2, .string a1_3]] (by rfl) rfl rfl (by (try simp only [mp_]); first | done | rfl | (simp only [List.length_drop, List.length_take]; rfl)) ?_
  with_reducible refine (impl_copyAlarm.calls _ _ l1_0 a1_1 a1_2 a1_3 t302 t305 t306 t307 _ ?side1 ?side2 A38.out).mono ?_
  (case side1 => repeat (first | exact (Kd.C_below HR1_0.out HB.out) | (with_reducible first | refine ca_ ?_ _ | refine cn_ ?_ _ | refine cd_ ?_)))
  (case side2 => exact HC1_0.out)
  rintro e w56 ⟨v303, rfl, ho0, hb⟩
  refine ⟨_, rfl, ?_⟩
  have n0_ := Aside0.mk (Kd.S_elder' (sp_ HO299.out) (Kd.R_base ho0) hb)
  have n1_ := Aside0.mk (Kd.R_lower ho0 (below_size (by repeat (first | (with_reducible first | exact HB.out | apply ba_ | apply bn_ | apply bd_ | refine below_set ?_ GE294.out | refine below_set ?_ GE295.out | refine below_set ?_ GE296.out | refine below_set ?_ GE301.out) | exact HB.out))))
  have n2_ := Aside0.mk (bb_ BK294.out hb)
  have n3_ := Aside0.mk (bb_ BK295.out hb)
  have n4_ := Aside0.mk (bb_ BK296.out hb)
  have n5_ := Aside0.mk (bb_ BK301.out hb)
  have n6_ := Aside0.mk (below_step (by repeat (first | (with_reducible first | exact HB.out | apply ba_ | apply bn_ | apply bd_ | refine below_set ?_ GE294.out | refine below_set ?_ GE295.out | refine below_set ?_ GE296.out | refine below_set ?_ GE301.out) | exact HB.out)) hb)
  clear HO299
  clear BK294
  clear BK295
  clear BK296
  clear BK301
  clear HB
  have HO299 := n0_
  have HO304 := n1_
  have BK294 := n2_
  have BK295 := n3_
  have BK296 := n4_
  have BK301 := n5_
  have HB := n6_
  clear n0_ n1_ n2_ n3_ n4_ n5_ n6_
  (try clear hb)
  (try clear hb2)
  (try clear hk)
  (try clear hi)
  (try clear ho0)
  obtain ⟨Ao58, co58, eo58⟩ := Kd.R_slice HO304.out
  (first | subst eo58 | (injection eo58 with f1_ f2_ f3_; have f4_ := f1_.symm; have f5_ := f3_.symm; clear f1_ f2_ f3_; subst f4_; subst f5_))
  refine hK.out _ _ ⟨(blk_cell BK301.out 0).trans rfl, (blk_cell BK301.out 1).trans rfl, (blk_cell BK295.out 0).trans rfl, (blk_cell BK295.out 1).trans rfl, (blk_cell BK295.out 2).trans rfl, (blk_cell BK295.out 3).trans rfl⟩ (fun hHeld => ?_)
  clear hK K
  refine norm_ (a' := ?_) ?_ ?_
  rotate_left
  ·
   show Act.put _ (some 11) _ = _
   simp only [fr_]
   rfl
  refine one_ (i := 4) (N := some 12) #[t_,t_,t_,t_,t_,f_,f_,f_] rfl rfl (one_of HT_.out (by kernel_rfl)) (by decide) (fun K hK => ?_)
  refine value_ (w1 := ?_) (v := ?_) (by rfl) rfl ?_ ?_
  rotate_left 2
  ·
   go_simp
   constructor
   ·
    rfl
   rfl
  refine hK.out _ _ ⟨(blk_cell (blk_alloc BK301.out _) 0).trans rfl, (blk_cell (blk_alloc BK301.out _) 1).trans rfl, (blk_cell (blk_alloc BK295.out _) 0).trans rfl, (blk_cell (blk_alloc BK295.out _) 1).trans rfl, (blk_cell (blk_alloc BK295.out _) 2).trans rfl, (blk_cell (blk_alloc BK295.out _) 3).trans rfl⟩ (fun hHeld => ?_)
  clear hK K
  refine norm_ (a' := ?_) ?_ ?_
  rotate_left
  ·
   show Act.put _ (some 12) _ = _
   simp only [fr_]
   rfl
  refine one_ (i := 5) (N := some 13) #[t_,t_,t_,t_,t_,t_,f_,f_] rfl rfl (one_of HT_.out (by kernel_rfl)) (by decide) (fun K hK => ?_)
  refine Kd.S_append_step k44 (w0 := w) w.heap.size (by rfl) (.tmp 9) (.tmp 12) 37 44 (.agg #[(.slice none 0 0), (.int .i64 0), (.int .i64 0), (.string ⟨#[]⟩)]) 56 rfl Try.underlying37 info44 rfl (by decide) (by omega) (.slice Ao48 t297.length co48) t297 (⟨t302, t305, t306, t307⟩ : S44) [.slice Ao58 t302.length co58, .int .i64 t305, .int .i64 t306, .string t307] (fun k_ => k_ ≠ gb295) (fun k_ => some k_ = (.slice Ao58 t302.length co58 : Value).ownBlock) rfl rfl ?aP (fun k_ hk_ => ((Kd.R_mono (ok' := fun k_ => ((fun k_ => k_ ≠ gb295)) k_ ∧ some k_ ≠ (.slice Ao48 t297.length co48 : Value).ownBlock) (Kd.R_types (Kd.R_apart' (HO304.out) (Kd.S_typed HO299.out) (by decide)) BK295.out (by decide)) (fun k_ hk => ⟨hk.2, hk.1.2⟩))).1 k_ hk_.symm) ?aF ?aO ?aB ?aS ?aL ?_
  (case aP => exact k44_mkM _ _ _ (⟨t302, t305, t306, t307⟩ : S44) (Kd.R_mono (Kd.R_tight rfl (Kd.R_mono (ok' := fun k_ => ((fun k_ => k_ ≠ gb295)) k_ ∧ some k_ ≠ (.slice Ao48 t297.length co48 : Value).ownBlock) (Kd.R_types (Kd.R_apart' (HO304.out) (Kd.S_typed HO299.out) (by decide)) BK295.out (by decide)) (fun k_ hk => ⟨hk.2, hk.1.2⟩))) (fun _ h_ => h_)))
  (case aB => exact (by repeat (first | (with_reducible first | exact HB.out | apply ba_ | apply bn_ | apply bd_ | refine below_set ?_ GE294.out | refine below_set ?_ GE295.out | refine below_set ?_ GE296.out | refine below_set ?_ GE301.out) | exact HB.out)))
  (case aF => exact (fun k_ hk => Kd.freshB (g := gb295) (o := .cells #[.slice A1_0 l1_0.length c1_0, .int .i64 a1_1, .int .i64 a1_2, .string a1_3] 44 (0, 0)) (pb_ BK295.out) k_ hk))
  (case aO => exact (by (with_reducible repeat (first | apply Kd.S_alloc | apply Kd.S_drewN | apply Kd.S_drew)); exact Kd.S_mono HO299.out (fun k_ hk => ⟨hk.1, fun e_ => hk.2 e_⟩)))
  (case aS => exact (below_size (by repeat (first | (with_reducible first | exact HB.out | apply ba_ | apply bn_ | apply bd_ | refine below_set ?_ GE294.out | refine below_set ?_ GE295.out | refine below_set ?_ GE296.out | refine below_set ?_ GE301.out) | exact HB.out))))
  (case aL => have := LMc39.out; omega)
  intro v309 w57 ho hb hg hat
  rw [← Ny308.out] at ho
  have n0_ := Aside0.mk (blk_grown (g := gb294) (o := .cells #[.slice A0_0 l0_0.length c0_0, .bool false] 39 (0, 0)) (pb_ BK294.out) hg (Kd.S_ne HO299.out BK294.out (by decide)))
  have n1_ := Aside0.mk (blk_grown (g := gb295) (o := .cells #[.slice A1_0 l1_0.length c1_0, .int .i64 a1_1, .int .i64 a1_2, .string a1_3] 44 (0, 0)) (pb_ BK295.out) hg (Kd.S_away HO299.out (fun _ hk => hk.1)))
  have n2_ := Aside0.mk (blk_grown (g := gb296) (o := .cells #[.slice none 0 0, .bool false] 39 (0, 0)) (pb_ BK296.out) hg (Kd.S_ne HO299.out BK296.out (by decide)))
  have n3_ := Aside0.mk (blk_grown (g := gb301) (o := .cells #[.slice Ao48 t297.length co48, .bool t300] 39 (0, 0)) (pb_ BK301.out) hg (Kd.S_ne HO299.out BK301.out (by decide)))
  have n4_ := Aside0.mk (hb)
  have n5_ := Aside0.mk (ho)
  clear BK294
  clear BK295
  clear BK296
  clear BK301
  clear HB
  clear HO299
  clear HO304
  have BK294 := n0_
  have BK295 := n1_
  have BK296 := n2_
  have BK301 := n3_
  have HB := n4_
  have HO310 := n5_
  clear n0_ n1_ n2_ n3_ n4_ n5_
  clear ho hb hg hat
  obtain ⟨Ao59, co59, eo59⟩ := Kd.S_slice HO310.out
  (first | subst eo59 | (injection eo59 with f1_ f2_ f3_; have f4_ := f1_.symm; have f5_ := f3_.symm; clear f1_ f2_ f3_; subst f4_; subst f5_))
  refine hK.out _ _ ⟨(blk_cell BK301.out 0).trans rfl, (blk_cell BK301.out 1).trans rfl, (blk_cell BK295.out 0).trans rfl, (blk_cell BK295.out 1).trans rfl, (blk_cell BK295.out 2).trans rfl, (blk_cell BK295.out 3).trans rfl⟩ (fun hHeld => ?_)
  clear hK K
  refine norm_ (a' := ?_) ?_ ?_
  rotate_left
  ·
   show Act.put _ (some 13) _ = _
   simp only [fr_]
   rfl
  refine pu_ 6 14 ?_ (b_ 7 1) rfl rfl HT_.out ?_ ?_ ?_ ?_; rotate_left; intro w'; go_simp; with_reducible rfl; rotate_left; simp only [fr_]; rfl
  refine last_ (i := 7) (N := none) #[t_,t_,t_,t_,t_,t_,t_,t_] rfl rfl (one_of HT_.out (by kernel_rfl)) (by decide) (fun K hK => ?_)
  have hs60 : w57.cell? ⟨gb301, 0, none⟩ = some (.slice Ao48 t297.length co48) := (blk_cell BK301.out 0).trans rfl
  have hfs60 := blk_frozen BK301.out 0
  have hns60_0 := NB294_301.out
  have hns60_1 := NB295_301.out
  have hns60_2 := NB296_301.out
  have hms60_0 := NB301_294.out
  have hms60_1 := NB301_295.out
  have hms60_2 := NB301_296.out
  refine skip_ (w1 := ?_) (by rfl) rfl ?_ ?_
  rotate_left
  ·
   go_simp
   rfl
  refine hK.out _ _ ?_
  clear hK K
  refine done_ (done_of HT_.out (by kernel_rfl)) ?_
  have hcz61_0 : w57.cell? ⟨gb301, 0, none⟩ = some (.slice Ao48 t297.length co48) := (blk_cell BK301.out 0).trans rfl
  have hcz61_1 : w57.cell? ⟨gb301, 1, none⟩ = some (.bool t300) := (blk_cell BK301.out 1).trans rfl
  have hfz61_0 := blk_frozen BK301.out 0
  have hfz61_1 := blk_frozen BK301.out 1
  have hnb62 := NB296_295.out
  have hnc62 := NB295_296.out
  have hcz63_0 : w57.cell? ⟨gb296, 0, none⟩ = some (.slice none 0 0) := (blk_cell BK296.out 0).trans rfl
  have hcz63_1 : w57.cell? ⟨gb296, 1, none⟩ = some (.bool false) := (blk_cell BK296.out 1).trans rfl
  have hfz63_0 := blk_frozen BK296.out 0
  have hfz63_1 := blk_frozen BK296.out 1
  try go_wp2
  refine bodyPost_ret (results_cell_row rfl _ _ gb296 39 #[.slice Ao59 y308.length co59, .bool t300] (0, 0) _ rfl (by (with_reducible repeat (first | refine kn_ ?_ _ | refine kd_ ?_ | refine ka_ ?_ _)); refine blk_put (cs := #[.slice Ao59 y308.length co59, .bool false]) ?_ 1 _ rfl; (with_reducible repeat (first | refine kn_ ?_ _ | refine kd_ ?_ | refine ka_ ?_ _)); refine blk_put (cs := #[.slice none 0 0, .bool false]) ?_ 0 _ rfl; (with_reducible repeat (first | refine kn_ ?_ _ | refine kd_ ?_ | refine ka_ ?_ _)); refine blk_far ?_ NB296_301.out _; (with_reducible repeat (first | refine kn_ ?_ _ | refine kd_ ?_ | refine ka_ ?_ _)); exact BK296.out) Try.underlying39 rfl (by kernel_rfl)) rfl ?_
  exact ⟨_, by first | rfl | (simp [errW_none, errW_some] <;> rfl) | (simp [*, errW_none, errW_some] <;> rfl), by (with_reducible repeat (first | apply Kd.S_alloc | apply Kd.S_drewN | apply Kd.S_drew)); exact Kd.S_mono (Kd.S_far (p := ⟨gb296, 1, none⟩) (Kd.S_far (p := ⟨gb296, 0, none⟩) (Kd.S_far (p := ⟨gb301, 0, none⟩) (Kd.S_types (Kd.S_types HO310.out BK301.out (by decide)) BK296.out (by decide)) (fun _ hk => hk.1.2) (.slice Ao59 y308.length co59)) (fun _ hk => hk.2) (.slice Ao59 y308.length co59)) (fun _ hk => hk.2) (.bool t300)) (fun _ hk => trivial), by repeat (first | (with_reducible first | exact HB.out | apply ba_ | apply bn_ | apply bd_ | refine below_set ?_ GE294.out | refine below_set ?_ GE295.out | refine below_set ?_ GE296.out | refine below_set ?_ GE301.out) | exact HB.out)⟩
 rw [if_neg c39] at H
 exact absurd H (by simp)
def impl_Heard.l0 : Nat → List (S44) → Int → Int → List (S44) → Bool → Option ((List (S44)))
 | 0, _, _, _, _, _ => none
 | k + 1, x10, x11, x12, x549000, x549001 => if x12 < x11 then (if 0 ≤ x12 then (if x12 < (x10.length : Int) then ((impl_Tell.f k x549000 x549001 ((rd_T44 x10 x12).f0) ((rd_T44 x10 x12).f1) ((rd_T44 x10 x12).f2) ((rd_T44 x10 x12).f3)).bind fun bt551 => (impl_Heard.l0 k x10 x11 (wrap64 (x12 + 1)) bt551.1 bt551.2)) else (none)) else (none)) else (if x549001 = true then (some ([] : List (S44))) else (some x549000))
def impl_Heard.f (k : Nat) (l0 : List (S44)) (l1_0 : List (S44)) (a1_1 : Bool) : Option ((List (S44))) := (impl_copySub.f k l1_0 a1_1).bind fun bt544 => (impl_Heard.l0 k l0 (l0.length : Int) 0 bt544.1 bt544.2)
theorem impl_Heard.mono_l : ∀ k, (∀ y0 y1 y2 y3 y4, LeO (impl_Heard.l0 k y0 y1 y2 y3 y4) (impl_Heard.l0 (k + 1) y0 y1 y2 y3 y4))
 | 0 => fun _ _ _ _ _ r h => by simp [impl_Heard.l0] at h
 | k + 1 => by
  have ih0 := impl_Heard.mono_l k
  intro y0 y1 y2 y3 y4
  unfold impl_Heard.l0
  repeat' first
  | (with_reducible exact ih0 _ _ _ _ _)
  | (with_reducible exact impl_Tell.mono _ _ _ _ _ _ _)
  | (with_reducible exact impl_copySub.mono _ _ _)
  | (with_reducible exact LeO.refl _)
  | (with_reducible exact LeO.none _)
  | (with_reducible refine LeO.ite ?_ ?_)
  | (with_reducible refine LeO.bind ?_ (fun _ => ?_))
  | exact ih0 _ _ _ _ _
  | exact impl_Tell.mono _ _ _ _ _ _ _
  | exact impl_copySub.mono _ _ _
theorem impl_Heard.mono : ∀ a0 a1 a2 k, LeO (impl_Heard.f k a0 a1 a2) (impl_Heard.f (k + 1) a0 a1 a2) := by
 intro a0 a1 a2 k
 have ih0 := impl_Heard.mono_l k
 unfold impl_Heard.f
 repeat' first
   | (with_reducible exact ih0 _ _ _ _ _)
   | (with_reducible exact impl_Tell.mono _ _ _ _ _ _ _)
   | (with_reducible exact impl_copySub.mono _ _ _)
   | (with_reducible exact LeO.refl _)
   | (with_reducible exact LeO.none _)
   | (with_reducible refine LeO.ite ?_ ?_)
   | (with_reducible refine LeO.bind ?_ (fun _ => ?_))
   | exact ih0 _ _ _ _ _
   | exact impl_Tell.mono _ _ _ _ _ _ _
   | exact impl_copySub.mono _ _ _
theorem impl_Heard.calls (k : Nat) (A0 : Option Addr) (c0 : Nat) (l0 : List (S44)) (A1_0 : Option Addr) (c1_0 : Nat) (l1_0 : List (S44)) (a1_1 : Bool) (r : List (S44)) (w : World) (hr0 : Kd.C k44 w A0 l0.length l0) (hc0 : l0.length ≤ c0) (hr1_0 : Kd.C k44 w A1_0 l1_0.length l1_0) (hc1_0 : l1_0.length ≤ c1_0) (h : impl_Heard.f k l0 l1_0 a1_1 = some r) :
  Calls Try.prog 37 #[.slice A0 l0.length c0, .agg #[.slice A1_0 l1_0.length c1_0, .bool a1_1]] w fun e w' => ∃ v0_ : Value, e = .returned (v0_) ∧ Kd.S k44 44 w' w.heap.size (fun _ => True) v0_ r ∧ Below w.heap.size w w' := by
 have hu39 := Try.underlying39
 have hu44 := Try.underlying44
 have HR0 := Aside0.mk hr0
 have HC0 := Aside0.mk hc0
 clear hr0 hc0
 have HR1_0 := Aside0.mk hr1_0
 have HC1_0 := Aside0.mk hc1_0
 clear hr1_0 hc1_0
 have HB := Aside0.mk (Below.refl w.heap.size w)
 have H : ((impl_copySub.f k l1_0 a1_1).bind fun bt544 => (impl_Heard.l0 k l0 (l0.length : Int) 0 bt544.1 bt544.2)) = some r := h
 clear h
 replace H := Option.bind_eq_some_iff.mp H
 obtain ⟨⟨t544, t547⟩, A30, H⟩ := H
 have A3 := Aside0.mk A30
 clear A30
 have H' := Aside0.mk H
 clear H
 go_enter Try.func37, Try.ntmps37
 go_wp2_with (first | ((with_reducible refine gate_dst (N := 3) rfl ?_); refine box_event ?hg (N := 3) ?hd (cs := #[.slice A1_0 l1_0.length c1_0, .bool a1_1]) (t := 39) ?hr ?_; (case hd => rfl); (case hg => rfl); (case hr => first | (go_simp; done) | (go_simp; rfl)); intro gb543 hg w4 hbox hb; have n0_ := Aside0.mk (below_step (by repeat (first | (with_reducible first | exact HB.out | apply ba_ | apply bn_ | apply bd_) | exact HB.out)) hb); have BK543 := Aside0.mk (hbox); have GW543 := Aside0.mk ((by rw [hg]; exact (below_size (by repeat (first | (with_reducible first | exact HB.out | apply ba_ | apply bn_ | apply bd_) | exact HB.out))) : w.heap.size ≤ gb543)); have GE543 := GW543; clear HB; have HB := n0_; clear n0_; clear hb hbox hg; have hcz5_0 : w4.cell? ⟨gb543, 0, none⟩ = some (.slice A1_0 l1_0.length c1_0) := (blk_cell BK543.out 0).trans rfl; have hcz5_1 : w4.cell? ⟨gb543, 1, none⟩ = some (.bool a1_1) := (blk_cell BK543.out 1).trans rfl; have hfz5_0 := blk_frozen BK543.out 0; have hfz5_1 := blk_frozen BK543.out 1) | ((with_reducible refine gate_callee (f := 96) rfl ?_); refine goesL_ (some 9) rfl rfl Try.func96 (by kernel_rfl) rfl #[.agg #[.slice A1_0 l1_0.length c1_0, .bool a1_1]] rfl (by (try simp only [mp_]); first | done | rfl | (simp only [List.length_drop, List.length_take]; rfl)) ?_; (with_reducible refine (impl_copySub.calls k _ _ l1_0 a1_1 t544 t547 _ ?side1 ?side2 A3.out).mono ?_); (case side1 => repeat (first | exact (Kd.C_below HR1_0.out HB.out) | (with_reducible first | refine ca_ ?_ _ | refine cn_ ?_ _ | refine cd_ ?_))); (case side2 => exact HC1_0.out); rintro e w6 ⟨v545, rfl, ho0, hb⟩; refine ⟨_, rfl, ?_⟩; have n0_ := Aside0.mk (Kd.S_lower ho0 (below_size (by repeat (first | (with_reducible first | exact HB.out | apply ba_ | apply bn_ | apply bd_ | refine below_set ?_ GE543.out) | exact HB.out)))); have n1_ := Aside0.mk (bb_ BK543.out hb); have n2_ := Aside0.mk (below_step (by repeat (first | (with_reducible first | exact HB.out | apply ba_ | apply bn_ | apply bd_ | refine below_set ?_ GE543.out) | exact HB.out)) hb); clear BK543; clear HB; have HO546 := n0_; have BK543 := n1_; have HB := n2_; clear n0_ n1_ n2_; (try clear hb); (try clear hb2); (try clear hk); (try clear hi); (try clear ho0)) | ((with_reducible refine gate_dst (N := 5) rfl ?_); refine box_event ?hg (N := 5) ?hd (cs := #[.slice none 0 0, .bool false]) (t := 39) ?hr ?_; (case hd => rfl); (case hg => rfl); (case hr => first | (go_simp; done) | (go_simp; rfl)); intro gb548 hg w7 hbox hb; have n0_ := Aside0.mk (Kd.S_below (sp_ HO546.out) hb); have n1_ := Aside0.mk (bb_ BK543.out hb); have n2_ := Aside0.mk (below_step (by repeat (first | (with_reducible first | exact HB.out | apply ba_ | apply bn_ | apply bd_ | refine below_set ?_ GE543.out) | exact HB.out)) hb); have n3_ := Aside0.mk (hbox); have n4_ := Aside0.mk ((by rw [hg]; exact (below_size (by repeat (first | (with_reducible first | exact HB.out | apply ba_ | apply bn_ | apply bd_ | refine below_set ?_ GE543.out) | exact HB.out))) : w.heap.size ≤ gb548)); have n5_ := n4_; have n6_ := Aside0.mk (nl_ BK543.out hg); have n7_ := Aside0.mk (ng_ BK543.out hg); clear HO546; clear BK543; clear HB; have HO546 := n0_; have BK543 := n1_; have HB := n2_; have BK548 := n3_; have GW548 := n4_; have GE548 := n5_; have NB543_548 := n6_; have NB548_543 := n7_; clear n0_ n1_ n2_ n3_ n4_ n5_ n6_ n7_; clear hb hbox hg; obtain ⟨Ao8, co8, eo8⟩ := Kd.S_slice HO546.out; subst eo8; have hnb9 := NB548_543.out; have hnc9 := NB543_548.out; have hcz10_0 : w7.cell? ⟨gb548, 0, none⟩ = some (.slice none 0 0) := (blk_cell BK548.out 0).trans rfl; have hcz10_1 : w7.cell? ⟨gb548, 1, none⟩ = some (.bool false) := (blk_cell BK548.out 1).trans rfl; have hfz10_0 := blk_frozen BK548.out 0; have hfz10_1 := blk_frozen BK548.out 1))
 go_loopg [12] k (fun kq v12 w' => ∃ (x12_1 : Int) (x549000_1 : List (S44)) (x549001_1 : Bool) (u549000 : Value), v12 = .int .i64 x12_1 ∧ Aside0 (impl_Heard.l0 kq l0 (l0.length : Int) x12_1 x549000_1 x549001_1 = some r) ∧ Aside0 (kq ≤ k) ∧ Aside0 (Kd.S k44 44 w' w.heap.size (fun _ => True) u549000 x549000_1) ∧ Aside0 (w'.heap[gb543]? = some (.cells #[(.slice A1_0 l1_0.length c1_0), .bool a1_1] 39 (0, 0))) ∧ Aside0 (w'.heap[gb548]? = some (.cells #[u549000, .bool x549001_1] 39 (0, 0))) ∧ Aside0 (Below w.heap.size w w'))
 case atStart => exact ⟨(0), (t544), (t547), (.slice Ao8 t544.length co8), (by first | rfl | (simp; done) | (simp [*]; done)), H', ⟨Nat.le_refl _⟩, ⟨by (with_reducible repeat (first | apply Kd.S_alloc | apply Kd.S_drewN | apply Kd.S_drew)); exact Kd.S_mono (Kd.S_far (p := ⟨gb548, 1, none⟩) (Kd.S_far (p := ⟨gb548, 0, none⟩) (Kd.S_types HO546.out BK548.out (by decide)) (fun _ hk => hk.2) (.slice Ao8 t544.length co8)) (fun _ hk => hk.2) (.bool t547)) (fun _ hk => trivial)⟩, ⟨by (with_reducible repeat (first | refine kn_ ?_ _ | refine kd_ ?_ | refine ka_ ?_ _)); refine blk_far ?_ NB543_548.out _; (with_reducible repeat (first | refine kn_ ?_ _ | refine kd_ ?_ | refine ka_ ?_ _)); refine blk_far ?_ NB543_548.out _; (with_reducible repeat (first | refine kn_ ?_ _ | refine kd_ ?_ | refine ka_ ?_ _)); exact BK543.out⟩, ⟨by (with_reducible repeat (first | refine kn_ ?_ _ | refine kd_ ?_ | refine ka_ ?_ _)); refine blk_put (cs := #[.slice Ao8 t544.length co8, .bool false]) ?_ 1 _ rfl; (with_reducible repeat (first | refine kn_ ?_ _ | refine kd_ ?_ | refine ka_ ?_ _)); refine blk_put (cs := #[.slice none 0 0, .bool false]) ?_ 0 _ rfl; (with_reducible repeat (first | refine kn_ ?_ _ | refine kd_ ?_ | refine ka_ ?_ _)); exact BK548.out⟩, ⟨by repeat (first | (with_reducible first | exact HB.out | apply ba_ | apply bn_ | apply bd_ | refine below_set ?_ GE543.out | refine below_set ?_ GE548.out) | exact HB.out)⟩⟩
 case round =>
  clear H'
  try clear c1
  try clear p2
  try clear c3
  try clear c9
  try clear hcz10_0
  try clear hcz10_1
  try clear hcz5_0
  try clear hcz5_1
  try clear hfz10_0
  try clear hfz10_1
  try clear hfz5_0
  try clear hfz5_1
  obtain ⟨x12_1, x549000_1, x549001_1, u549000, rfl, HA, HK1, HO_549000, BK543, BK548, HB⟩ := hrel
  cases gk with
  | zero => exact absurd HA.out (by simp [impl_Heard.l0])
  | succ k1 =>
   have H := HA.out
   clear HA
   simp only [impl_Heard.l0] at H
   by_cases c11 : x12_1 < (l0.length : Int)
   ·
    rw [if_pos c11] at H
    have c11b0 := decide_eq_true c11
    clear c11
    by_cases c12 : 0 ≤ x12_1
    ·
     rw [if_pos c12] at H
     have c12b0 := decide_eq_true c12
     clear c12
     by_cases c13 : x12_1 < (l0.length : Int)
     ·
      rw [if_pos c13] at H
      have c13b0 := decide_eq_true c13
      clear c13
      replace H := Option.bind_eq_some_iff.mp H
      obtain ⟨⟨t551, t554⟩, A140, H⟩ := H
      have A14 := Aside0.mk A140
      clear A140
      have H' := Aside0.mk H
      clear H
      have p549 : 0 ≤ (x12_1 : Int) := of_decide_eq_true (by with_reducible assumption)
      have q549 : x12_1 < (l0.length : Int) := of_decide_eq_true (by with_reducible assumption)
      obtain ⟨ad549, A549_0, c549_0, e549, hx549_0, hx549_1, hx549_2, hx549_3, hl549_0, hi549_0⟩ := at_T44 HR0.out x12_1 p549 q549
      cases e549
      replace hx549_0 := cl_ HB.out hx549_0
      replace hx549_1 := cl_ HB.out hx549_1
      replace hx549_2 := cl_ HB.out hx549_2
      replace hx549_3 := cl_ HB.out hx549_3
      have HR549_0 := Aside0.mk hi549_0
      have HC549_0 := Aside0.mk hl549_0
      clear hi549_0 hl549_0
      replace p549 := eq_true p549
      replace q549 := eq_true q549
      go_wp2_with (first | ((with_reducible refine gate_dst (N := 7) rfl ?_); refine box_event ?hg (N := 7) ?hd (cs := #[.slice none 0 0, .int .i64 0, .int .i64 0, .string (⟨#[]⟩ : ByteArray)]) (t := 44) ?hr ?_; (case hd => rfl); (case hg => rfl); (case hr => first | (go_simp; done) | (go_simp; rfl)); intro gb550 hg w15 hbox hb; have n0_ := Aside0.mk (Kd.S_below (Kd.S_elderB (sp_ HO_549000.out) gb550 (Nat.le_of_eq hg.symm)) hb); have n1_ := Aside0.mk (bb_ BK543.out hb); have n2_ := Aside0.mk (bb_ BK548.out hb); have n3_ := Aside0.mk (below_step (by repeat (first | (with_reducible first | exact HB.out | apply ba_ | apply bn_ | apply bd_ | refine below_set ?_ GE543.out | refine below_set ?_ GE548.out) | exact HB.out)) hb); have n4_ := Aside0.mk (hbox); have n5_ := Aside0.mk ((by rw [hg]; exact (below_size (by repeat (first | (with_reducible first | exact HB.out | apply ba_ | apply bn_ | apply bd_ | refine below_set ?_ GE543.out | refine below_set ?_ GE548.out) | exact HB.out))) : w.heap.size ≤ gb550)); have n6_ := n5_; have n7_ := Aside0.mk (nl_ BK543.out hg); have n8_ := Aside0.mk (ng_ BK543.out hg); have n9_ := Aside0.mk (nl_ BK548.out hg); have n10_ := Aside0.mk (ng_ BK548.out hg); clear HO_549000; clear BK543; clear BK548; clear HB; have HO_549000 := n0_; have BK543 := n1_; have BK548 := n2_; have HB := n3_; have BK550 := n4_; have GW550 := n5_; have GE550 := n6_; have NB543_550 := n7_; have NB550_543 := n8_; have NB548_550 := n9_; have NB550_548 := n10_; clear n0_ n1_ n2_ n3_ n4_ n5_ n6_ n7_ n8_ n9_ n10_; clear hb hbox hg; have hnb16 := NB550_543.out; have hnc16 := NB543_550.out; have hnb17 := NB550_548.out; have hnc17 := NB548_550.out; have hcz18_0 : w15.cell? ⟨gb550, 0, none⟩ = some (.slice none 0 0) := (blk_cell BK550.out 0).trans rfl; have hcz18_1 : w15.cell? ⟨gb550, 1, none⟩ = some (.int .i64 0) := (blk_cell BK550.out 1).trans rfl; have hcz18_2 : w15.cell? ⟨gb550, 2, none⟩ = some (.int .i64 0) := (blk_cell BK550.out 2).trans rfl; have hcz18_3 : w15.cell? ⟨gb550, 3, none⟩ = some (.string (⟨#[]⟩ : ByteArray)) := (blk_cell BK550.out 3).trans rfl; have hfz18_0 := blk_frozen BK550.out 0; have hfz18_1 := blk_frozen BK550.out 1; have hfz18_2 := blk_frozen BK550.out 2; have hfz18_3 := blk_frozen BK550.out 3; have hnb19 := NB548_543.out; have hnc19 := NB543_548.out; have hcz20_0 : w15.cell? ⟨gb548, 0, none⟩ = some (u549000) := (blk_cell BK548.out 0).trans rfl; have hcz20_1 : w15.cell? ⟨gb548, 1, none⟩ = some (.bool x549001_1) := (blk_cell BK548.out 1).trans rfl; have hfz20_0 := blk_frozen BK548.out 0; have hfz20_1 := blk_frozen BK548.out 1; obtain ⟨Ao21, co21, eo21⟩ := Kd.S_slice HO_549000.out; subst eo21) | ((with_reducible refine gate_callee (f := 25) rfl ?_); refine goesL_ (some 18) rfl rfl Try.func25 (by kernel_rfl) rfl #[.agg #[.slice Ao21 x549000_1.length co21, .bool x549001_1], .agg #[.slice A549_0 ((rd_T44 l0 x12_1).f0).length c549_0, .int .i64 ((rd_T44 l0 x12_1).f1), .int .i64 ((rd_T44 l0 x12_1).f2), .string ((rd_T44 l0 x12_1).f3)]] rfl (by (try simp only [mp_]); first | done | rfl | (simp only [List.length_drop, List.length_take]; rfl)) ?_; (with_reducible refine (impl_Tell.calls k1 _ _ x549000_1 x549001_1 _ _ ((rd_T44 l0 x12_1).f0) ((rd_T44 l0 x12_1).f1) ((rd_T44 l0 x12_1).f2) ((rd_T44 l0 x12_1).f3) t551 t554 _ ?side1 ?side2 ?side3 ?side4 A14.out).mono ?_); (case side1 => refine (Kd.S_reads' (e := 44) (base := w.heap.size) (ok := fun k_ => (True ∧ k_ ≠ gb550)) (n := x549000_1.length) (c := co21) ?_).2.2; exact (by (with_reducible repeat (first | apply Kd.S_alloc | apply Kd.S_drewN | apply Kd.S_drew)); exact (Kd.S_mono (Kd.S_far (p := ⟨gb550, 3, none⟩) (Kd.S_far (p := ⟨gb550, 2, none⟩) (Kd.S_far (p := ⟨gb550, 1, none⟩) (Kd.S_far (p := ⟨gb550, 0, none⟩) (Kd.S_mono HO_549000.out (fun k_ hk => (⟨hk, hk.2⟩ : _ ∧ k_ ≠ gb550))) (fun _ hk => hk.2) (.slice A549_0 ((rd_T44 l0 x12_1).f0).length c549_0)) (fun _ hk => hk.2) (.int .i64 ((rd_T44 l0 x12_1).f1))) (fun _ hk => hk.2) (.int .i64 ((rd_T44 l0 x12_1).f2))) (fun _ hk => hk.2) (.string ((rd_T44 l0 x12_1).f3))) (fun _ h_ => h_.1)))); (case side2 => exact (Kd.S_reads' HO_549000.out).2.1); (case side3 => exact Kd.C_below HR549_0.out (by repeat (first | (with_reducible first | exact HB.out | apply ba_ | apply bn_ | apply bd_ | refine below_set ?_ GE543.out | refine below_set ?_ GE548.out | refine below_set ?_ GE550.out) | exact HB.out))); (case side4 => exact HC549_0.out); rintro e w22 ⟨v552, rfl, ho0, hb⟩; refine ⟨_, rfl, ?_⟩; have n0_ := Aside0.mk (Kd.S_elder' (by (with_reducible repeat (first | apply Kd.S_alloc | apply Kd.S_drewN | apply Kd.S_drew)); exact (Kd.S_mono (Kd.S_far (p := ⟨gb550, 3, none⟩) (Kd.S_far (p := ⟨gb550, 2, none⟩) (Kd.S_far (p := ⟨gb550, 1, none⟩) (Kd.S_far (p := ⟨gb550, 0, none⟩) (Kd.S_mono HO_549000.out (fun k_ hk => (⟨hk, hk.2⟩ : _ ∧ k_ ≠ gb550))) (fun _ hk => hk.2) (.slice A549_0 ((rd_T44 l0 x12_1).f0).length c549_0)) (fun _ hk => hk.2) (.int .i64 ((rd_T44 l0 x12_1).f1))) (fun _ hk => hk.2) (.int .i64 ((rd_T44 l0 x12_1).f2))) (fun _ hk => hk.2) (.string ((rd_T44 l0 x12_1).f3))) (fun _ h_ => h_.1))) (Kd.S_base ho0) hb); have n1_ := Aside0.mk (Kd.S_lower (Kd.S_newB (Kd.S_new' ho0 (Kd.S_lt (by (with_reducible repeat (first | apply Kd.S_alloc | apply Kd.S_drewN | apply Kd.S_drew)); exact (Kd.S_mono (Kd.S_far (p := ⟨gb550, 3, none⟩) (Kd.S_far (p := ⟨gb550, 2, none⟩) (Kd.S_far (p := ⟨gb550, 1, none⟩) (Kd.S_far (p := ⟨gb550, 0, none⟩) (Kd.S_mono HO_549000.out (fun k_ hk => (⟨hk, hk.2⟩ : _ ∧ k_ ≠ gb550))) (fun _ hk => hk.2) (.slice A549_0 ((rd_T44 l0 x12_1).f0).length c549_0)) (fun _ hk => hk.2) (.int .i64 ((rd_T44 l0 x12_1).f1))) (fun _ hk => hk.2) (.int .i64 ((rd_T44 l0 x12_1).f2))) (fun _ hk => hk.2) (.string ((rd_T44 l0 x12_1).f3))) (fun _ h_ => h_.1))))) (g := gb550) (o := .cells #[.slice A549_0 ((rd_T44 l0 x12_1).f0).length c549_0, .int .i64 ((rd_T44 l0 x12_1).f1), .int .i64 ((rd_T44 l0 x12_1).f2), .string ((rd_T44 l0 x12_1).f3)] 44 (0, 0)) (by (with_reducible repeat (first | refine kn_ ?_ _ | refine kd_ ?_ | refine ka_ ?_ _)); refine blk_put (cs := #[.slice A549_0 ((rd_T44 l0 x12_1).f0).length c549_0, .int .i64 ((rd_T44 l0 x12_1).f1), .int .i64 ((rd_T44 l0 x12_1).f2), .string (⟨#[]⟩ : ByteArray)]) ?_ 3 _ rfl; (with_reducible repeat (first | refine kn_ ?_ _ | refine kd_ ?_ | refine ka_ ?_ _)); refine blk_put (cs := #[.slice A549_0 ((rd_T44 l0 x12_1).f0).length c549_0, .int .i64 ((rd_T44 l0 x12_1).f1), .int .i64 0, .string (⟨#[]⟩ : ByteArray)]) ?_ 2 _ rfl; (with_reducible repeat (first | refine kn_ ?_ _ | refine kd_ ?_ | refine ka_ ?_ _)); refine blk_put (cs := #[.slice A549_0 ((rd_T44 l0 x12_1).f0).length c549_0, .int .i64 0, .int .i64 0, .string (⟨#[]⟩ : ByteArray)]) ?_ 1 _ rfl; (with_reducible repeat (first | refine kn_ ?_ _ | refine kd_ ?_ | refine ka_ ?_ _)); refine blk_put (cs := #[.slice none 0 0, .int .i64 0, .int .i64 0, .string (⟨#[]⟩ : ByteArray)]) ?_ 0 _ rfl; (with_reducible repeat (first | refine kn_ ?_ _ | refine kd_ ?_ | refine ka_ ?_ _)); exact BK550.out)) (below_size (by repeat (first | (with_reducible first | exact HB.out | apply ba_ | apply bn_ | apply bd_ | refine below_set ?_ GE543.out | refine below_set ?_ GE548.out | refine below_set ?_ GE550.out) | exact HB.out)))); have n2_ := Aside0.mk (blk_below (g := gb543) (o := .cells #[.slice A1_0 l1_0.length c1_0, .bool a1_1] 39 (0, 0)) (by (with_reducible repeat (first | refine kn_ ?_ _ | refine kd_ ?_ | refine ka_ ?_ _)); refine blk_far ?_ NB543_550.out _; (with_reducible repeat (first | refine kn_ ?_ _ | refine kd_ ?_ | refine ka_ ?_ _)); refine blk_far ?_ NB543_550.out _; (with_reducible repeat (first | refine kn_ ?_ _ | refine kd_ ?_ | refine ka_ ?_ _)); refine blk_far ?_ NB543_550.out _; (with_reducible repeat (first | refine kn_ ?_ _ | refine kd_ ?_ | refine ka_ ?_ _)); refine blk_far ?_ NB543_550.out _; (with_reducible repeat (first | refine kn_ ?_ _ | refine kd_ ?_ | refine ka_ ?_ _)); exact BK543.out) hb); have n3_ := Aside0.mk (blk_below (g := gb548) (o := .cells #[.slice Ao21 x549000_1.length co21, .bool x549001_1] 39 (0, 0)) (by (with_reducible repeat (first | refine kn_ ?_ _ | refine kd_ ?_ | refine ka_ ?_ _)); refine blk_far ?_ NB548_550.out _; (with_reducible repeat (first | refine kn_ ?_ _ | refine kd_ ?_ | refine ka_ ?_ _)); refine blk_far ?_ NB548_550.out _; (with_reducible repeat (first | refine kn_ ?_ _ | refine kd_ ?_ | refine ka_ ?_ _)); refine blk_far ?_ NB548_550.out _; (with_reducible repeat (first | refine kn_ ?_ _ | refine kd_ ?_ | refine ka_ ?_ _)); refine blk_far ?_ NB548_550.out _; (with_reducible repeat (first | refine kn_ ?_ _ | refine kd_ ?_ | refine ka_ ?_ _)); exact BK548.out) hb); have n4_ := Aside0.mk (blk_below (g := gb550) (o := .cells #[.slice A549_0 ((rd_T44 l0 x12_1).f0).length c549_0, .int .i64 ((rd_T44 l0 x12_1).f1), .int .i64 ((rd_T44 l0 x12_1).f2), .string ((rd_T44 l0 x12_1).f3)] 44 (0, 0)) (by (with_reducible repeat (first | refine kn_ ?_ _ | refine kd_ ?_ | refine ka_ ?_ _)); refine blk_put (cs := #[.slice A549_0 ((rd_T44 l0 x12_1).f0).length c549_0, .int .i64 ((rd_T44 l0 x12_1).f1), .int .i64 ((rd_T44 l0 x12_1).f2), .string (⟨#[]⟩ : ByteArray)]) ?_ 3 _ rfl; (with_reducible repeat (first | refine kn_ ?_ _ | refine kd_ ?_ | refine ka_ ?_ _)); refine blk_put (cs := #[.slice A549_0 ((rd_T44 l0 x12_1).f0).length c549_0, .int .i64 ((rd_T44 l0 x12_1).f1), .int .i64 0, .string (⟨#[]⟩ : ByteArray)]) ?_ 2 _ rfl; (with_reducible repeat (first | refine kn_ ?_ _ | refine kd_ ?_ | refine ka_ ?_ _)); refine blk_put (cs := #[.slice A549_0 ((rd_T44 l0 x12_1).f0).length c549_0, .int .i64 0, .int .i64 0, .string (⟨#[]⟩ : ByteArray)]) ?_ 1 _ rfl; (with_reducible repeat (first | refine kn_ ?_ _ | refine kd_ ?_ | refine ka_ ?_ _)); refine blk_put (cs := #[.slice none 0 0, .int .i64 0, .int .i64 0, .string (⟨#[]⟩ : ByteArray)]) ?_ 0 _ rfl; (with_reducible repeat (first | refine kn_ ?_ _ | refine kd_ ?_ | refine ka_ ?_ _)); exact BK550.out) hb); have n5_ := Aside0.mk (below_step (by repeat (first | (with_reducible first | exact HB.out | apply ba_ | apply bn_ | apply bd_ | refine below_set ?_ GE543.out | refine below_set ?_ GE548.out | refine below_set ?_ GE550.out) | exact HB.out)) hb); clear HO_549000; clear BK543; clear BK548; clear BK550; clear HB; have HO_549000 := n0_; have HO553 := n1_; have BK543 := n2_; have BK548 := n3_; have BK550 := n4_; have HB := n5_; clear n0_ n1_ n2_ n3_ n4_ n5_; (try clear hb); (try clear hb2); (try clear hk); (try clear hi); (try clear ho0); obtain ⟨Ao23, co23, eo23⟩ := Kd.S_slice HO553.out; subst eo23; have hcz24_0 : w22.cell? ⟨gb548, 0, none⟩ = some (.slice Ao21 x549000_1.length co21) := (blk_cell BK548.out 0).trans rfl; have hcz24_1 : w22.cell? ⟨gb548, 1, none⟩ = some (.bool x549001_1) := (blk_cell BK548.out 1).trans rfl; have hfz24_0 := blk_frozen BK548.out 0; have hfz24_1 := blk_frozen BK548.out 1))
      go_roundg k1
      case measure => have := HK1.out; omega
      case rel => exact ⟨(wrap64 (x12_1 + 1)), (t551), (t554), (.slice Ao23 t551.length co23), (by first | rfl | (simp; done) | (simp [*]; done)), H', ⟨by have := HK1.out; omega⟩, ⟨by (with_reducible repeat (first | apply Kd.S_alloc | apply Kd.S_drewN | apply Kd.S_drew)); exact Kd.S_mono (Kd.S_far (p := ⟨gb548, 1, none⟩) (Kd.S_far (p := ⟨gb548, 0, none⟩) (Kd.S_types HO553.out BK548.out (by decide)) (fun _ hk => hk.2) (.slice Ao23 t551.length co23)) (fun _ hk => hk.2) (.bool t554)) (fun _ hk => trivial)⟩, ⟨by (with_reducible repeat (first | refine kn_ ?_ _ | refine kd_ ?_ | refine ka_ ?_ _)); refine blk_far ?_ NB543_548.out _; (with_reducible repeat (first | refine kn_ ?_ _ | refine kd_ ?_ | refine ka_ ?_ _)); refine blk_far ?_ NB543_548.out _; (with_reducible repeat (first | refine kn_ ?_ _ | refine kd_ ?_ | refine ka_ ?_ _)); exact BK543.out⟩, ⟨by (with_reducible repeat (first | refine kn_ ?_ _ | refine kd_ ?_ | refine ka_ ?_ _)); refine blk_put (cs := #[.slice Ao23 t551.length co23, .bool x549001_1]) ?_ 1 _ rfl; (with_reducible repeat (first | refine kn_ ?_ _ | refine kd_ ?_ | refine ka_ ?_ _)); refine blk_put (cs := #[.slice Ao21 x549000_1.length co21, .bool x549001_1]) ?_ 0 _ rfl; (with_reducible repeat (first | refine kn_ ?_ _ | refine kd_ ?_ | refine ka_ ?_ _)); exact BK548.out⟩, ⟨by repeat (first | (with_reducible first | exact HB.out | apply ba_ | apply bn_ | apply bd_ | refine below_set ?_ GE543.out | refine below_set ?_ GE548.out | refine below_set ?_ GE550.out) | exact HB.out)⟩⟩
     rw [if_neg c13] at H
     exact absurd H (by simp)
    rw [if_neg c12] at H
    exact absurd H (by simp)
   rw [if_neg c11] at H
   have c11b0 : decide (x12_1 < (l0.length : Int)) = false := decide_eq_false c11
   clear c11
   by_cases c25 : x549001_1 = true
   ·
    subst c25
    rw [if_pos rfl] at H
    obtain rfl := Option.some.inj H
    have hnb26 := NB548_543.out
    have hnc26 := NB543_548.out
    have hcz27_0 : wr.cell? ⟨gb548, 0, none⟩ = some (u549000) := (blk_cell BK548.out 0).trans rfl
    have hcz27_1 : wr.cell? ⟨gb548, 1, none⟩ = some (.bool true) := (blk_cell BK548.out 1).trans rfl
    have hfz27_0 := blk_frozen BK548.out 0
    have hfz27_1 := blk_frozen BK548.out 1
    go_wp2
    go_ret
    exact ⟨_, by first | rfl | (simp [errW_none, errW_some] <;> rfl) | (simp [*, errW_none, errW_some] <;> rfl), by first | exact Kd.S_nil _ _ _ _ _ | exact Kd.N_nil _ _ _ _ _ | exact Kd.V_nil _ _ _ _ _ | exact Kd.Q_nil _ _ _ _ _ | exact Kd.R_nil _ _ _ _ _, by repeat (first | (with_reducible first | exact HB.out | apply ba_ | apply bn_ | apply bd_ | refine below_set ?_ GE543.out | refine below_set ?_ GE548.out) | exact HB.out)⟩
   replace c25 := Bool.eq_false_iff.mpr c25
   subst c25
   rw [if_neg (show ¬ (false = true) by decide)] at H
   obtain rfl := Option.some.inj H
   have hnb28 := NB548_543.out
   have hnc28 := NB543_548.out
   have hcz29_0 : wr.cell? ⟨gb548, 0, none⟩ = some (u549000) := (blk_cell BK548.out 0).trans rfl
   have hcz29_1 : wr.cell? ⟨gb548, 1, none⟩ = some (.bool false) := (blk_cell BK548.out 1).trans rfl
   have hfz29_0 := blk_frozen BK548.out 0
   have hfz29_1 := blk_frozen BK548.out 1
   go_wp2
   go_ret
   exact ⟨_, by first | rfl | (simp [errW_none, errW_some] <;> rfl) | (simp [*, errW_none, errW_some] <;> rfl), by (with_reducible repeat (first | apply Kd.S_alloc | apply Kd.S_drewN | apply Kd.S_drew)); exact HO_549000.out, by repeat (first | (with_reducible first | exact HB.out | apply ba_ | apply bn_ | apply bd_ | refine below_set ?_ GE543.out | refine below_set ?_ GE548.out) | exact HB.out)⟩
def laws_big.f (l0 : List Int) : Option (Bool) := some (decide ((l0.length : Int) > 1048576))
theorem laws_big.calls (A0 : Option Addr) (c0 : Nat) (l0 : List Int) (r : Bool) (w : World) (hr0 : Kd.C (Kd.int .u8) w A0 l0.length l0) (hc0 : l0.length ≤ c0) (h : laws_big.f l0 = some r) :
  Calls Try.prog 75 #[.slice A0 l0.length c0] w fun e w' => e = .returned (.bool r) ∧ Drawn0 w w' := by
 have HR0 := Aside0.mk hr0
 have HC0 := Aside0.mk hc0
 clear hr0 hc0
 have H : (some (decide ((l0.length : Int) > 1048576))) = some r := h
 clear h
 obtain rfl := Option.some.inj H
 go_enter Try.func75, Try.ntmps75
 go_wp2
 go_ret
 exact ⟨by first | rfl | (simp; done) | (simp [*]; done), by repeat (first | exact Drawn0.refl _ | apply Drawn0.step)⟩
/-- A state of type 173 at block g of W; what its slices lead to came in by w0. -/
def IsS173 (w0 W : World) (g : Nat) (f0 : List Int) (f1 : Int) (f2 : Int) : Prop := ∃ A0 c0, W.heap[g]? = some (.cells #[.slice A0 f0.length c0, .int .i64 f1, .int .i64 f2] 173 (0, 0)) ∧ w0.heap.size ≤ g ∧ Kd.C (Kd.int .u8) w0 A0 f0.length f0
theorem IsS173.grown {w0 W : World} {g : Nat} {f0 : List Int} {f1 : Int} {f2 : Int} {W1 : World} {row : Option Nat} (h : IsS173 w0 W g f0 f1 f2) (hw : W.grownBy W1 row) (hne : some g ≠ row) : IsS173 w0 W1 g f0 f1 f2 := by
 obtain ⟨A0, c0, hb, hg, hr0⟩ := h
 exact ⟨A0, c0, blk_grown hb hw hne, hg, hr0⟩
theorem IsS173.own_neN {w0 W : World} {g : Nat} {f0 : List Int} {f1 : Int} {f2 : Int} {α : Type} {d : Kd α} {e : Nat} {base : Nat} {ok : Nat → Prop} {v : Value} {xs : List α} (h : IsS173 w0 W g f0 f1 f2) (ho : Kd.N d e W base ok v xs) (ht : e ≠ 173) : some g ≠ v.ownBlock := by
 obtain ⟨A0, c0, hb, hg, hr0⟩ := h
 exact Kd.N_ne ho hb ht
theorem IsS173.fresh {w0 W : World} {g : Nat} {f0 : List Int} {f1 : Int} {f2 : Int} (h : IsS173 w0 W g f0 f1 f2) : ∀ k, W.heap.size ≤ k → k ≠ g := by
 obtain ⟨A0, c0, hb, hg, hr0⟩ := h
 exact Kd.freshB hb
theorem IsS173.kept {w0 W : World} {g : Nat} {f0 : List Int} {f1 : Int} {f2 : Int} {W1 : World} {S : Nat → Prop} (h : IsS173 w0 W g f0 f1 f2) (hk : Kept W W1 S) (hne : ¬ S g) : IsS173 w0 W1 g f0 f1 f2 := by
 obtain ⟨A0, c0, hb, hg, hr0⟩ := h
 exact ⟨A0, c0, blk_kept hb hk hne, hg, hr0⟩
theorem IsS173.below {w0 W : World} {g : Nat} {f0 : List Int} {f1 : Int} {f2 : Int} {W1 : World} (h : IsS173 w0 W g f0 f1 f2) (hw : Below W.heap.size W W1) : IsS173 w0 W1 g f0 f1 f2 := h.grown (grown_of_below hw none) (by simp)
theorem IsS173.alloc {w0 W : World} {g : Nat} {f0 : List Int} {f1 : Int} {f2 : Int} (h : IsS173 w0 W g f0 f1 f2) (o : Obj) : IsS173 w0 (W.alloc o) g f0 f1 f2 := h.below (ba_ (Below.refl _ _) o)
theorem IsS173.drewN {w0 W : World} {g : Nat} {f0 : List Int} {f1 : Int} {f2 : Int} (h : IsS173 w0 W g f0 f1 f2) (m : Nat) : IsS173 w0 (W.drewN m) g f0 f1 f2 := h
theorem IsS173.drew {w0 W : World} {g : Nat} {f0 : List Int} {f1 : Int} {f2 : Int} (h : IsS173 w0 W g f0 f1 f2) : IsS173 w0 W.drew g f0 f1 f2 := h
theorem IsS173.at_ {w0 W : World} {g : Nat} {f0 : List Int} {f1 : Int} {f2 : Int} {w' : World} {m : Nat} (hq : W.drewN m = w') (h : IsS173 w0 W g f0 f1 f2) : IsS173 w0 w' g f0 f1 f2 := by subst hq; exact IsS173.drewN h m
theorem IsS173.apart {w0 W : World} {g : Nat} {f0 : List Int} {f1 : Int} {f2 : Int} {α : Type} {d : Kd α} {e : Nat} {base : Nat} {ok : Nat → Prop} {v : Value} {xs : List α} (h : IsS173 w0 W g f0 f1 f2) (ho : d.R e W base ok v xs) (ht : ∀ q, q ∈ e :: d.E → q ≠ 173) : d.R e W base (fun k => ok k ∧ k ≠ g) v xs := by
 obtain ⟨A0, c0, hb, hg, hr0⟩ := h
 exact Kd.R_types ho hb ht
theorem IsS173.own_ne {w0 W : World} {g : Nat} {f0 : List Int} {f1 : Int} {f2 : Int} {α : Type} {d : Kd α} {e : Nat} {base : Nat} {ok : Nat → Prop} {v : Value} {xs : List α} (h : IsS173 w0 W g f0 f1 f2) (ho : d.R e W base ok v xs) (ht : e ≠ 173) : some g ≠ v.ownBlock := by
 obtain ⟨A0, c0, hb, hg, hr0⟩ := h
 exact Kd.R_ne ho hb ht
theorem IsS173.apartQ {w0 W : World} {g : Nat} {f0 : List Int} {f1 : Int} {f2 : Int} {α : Type} {d : Kd α} {e : Nat} {base : Nat} {ok : Nat → Prop} {v : Value} {xs : List α} (h : IsS173 w0 W g f0 f1 f2) (ho : d.Q e W base ok v xs) (ht : ∀ q, q ∈ e :: d.E → q ≠ 173) : d.Q e W base (fun k => ok k ∧ k ≠ g) v xs := by
 obtain ⟨A0, c0, hb, hg, hr0⟩ := h
 exact Kd.Q_types ho hb ht
theorem IsS173.own_neQ {w0 W : World} {g : Nat} {f0 : List Int} {f1 : Int} {f2 : Int} {α : Type} {d : Kd α} {e : Nat} {base : Nat} {ok : Nat → Prop} {v : Value} {xs : List α} (h : IsS173 w0 W g f0 f1 f2) (ho : d.Q e W base ok v xs) (ht : e ≠ 173) : some g ≠ v.ownBlock := by
 obtain ⟨A0, c0, hb, hg, hr0⟩ := h
 exact Kd.Q_ne ho hb ht
theorem IsS173.apartS {w0 W : World} {g : Nat} {f0 : List Int} {f1 : Int} {f2 : Int} {α : Type} {d : Kd α} {e : Nat} {base : Nat} {ok : Nat → Prop} {v : Value} {xs : List α} (h : IsS173 w0 W g f0 f1 f2) (ho : d.S e W base ok v xs) (ht : ∀ q, q ∈ e :: d.E → q ≠ 173) : d.S e W base (fun k => ok k ∧ k ≠ g) v xs := by
 obtain ⟨A0, c0, hb, hg, hr0⟩ := h
 exact Kd.S_types ho hb ht
theorem IsS173.own_neS {w0 W : World} {g : Nat} {f0 : List Int} {f1 : Int} {f2 : Int} {α : Type} {d : Kd α} {e : Nat} {base : Nat} {ok : Nat → Prop} {v : Value} {xs : List α} (h : IsS173 w0 W g f0 f1 f2) (ho : d.S e W base ok v xs) (ht : e ≠ 173) : some g ≠ v.ownBlock := by
 obtain ⟨A0, c0, hb, hg, hr0⟩ := h
 exact Kd.S_ne ho hb ht
theorem IsS173.lt {w0 W : World} {g : Nat} {f0 : List Int} {f1 : Int} {f2 : Int} (h : IsS173 w0 W g f0 f1 f2) : g < W.heap.size := by
 obtain ⟨A0, c0, hb, hg, hr0⟩ := h
 exact blk_lt hb
theorem IsS173.ge {w0 W : World} {g : Nat} {f0 : List Int} {f1 : Int} {f2 : Int} (h : IsS173 w0 W g f0 f1 f2) : w0.heap.size ≤ g := by
 obtain ⟨A0, c0, hb, hg, hr0⟩ := h
 exact hg
theorem IsS173.ne_blk {w0 W : World} {g : Nat} {f0 : List Int} {f1 : Int} {f2 : Int} {a : Nat} {cs : Array Value} {t : TypeId} {fr : Nat × Nat} (h : IsS173 w0 W g f0 f1 f2) (hb2 : W.heap[a]? = some (.cells cs t fr)) (ht : t ≠ 173) : g ≠ a := by
 obtain ⟨A0, c0, hb, hg, hr0⟩ := h
 rintro rfl
 rw [hb] at hb2
 injection hb2 with hb2
 injection hb2 with _ ht2
 exact ht ht2.symm
theorem IsS173.far {w0 W : World} {g : Nat} {f0 : List Int} {f1 : Int} {f2 : Int} {p : Addr} (h : IsS173 w0 W g f0 f1 f2) (hne : g ≠ p.block) (u : Value) : IsS173 w0 (W.setCell p u) g f0 f1 f2 := by
 obtain ⟨A0, c0, hb, hg, hr0⟩ := h
 exact ⟨A0, c0, blk_far hb hne u, hg, hr0⟩
theorem cellS173_0 {W : World} {g : Nat} {A0 : Option Addr} {c0 : Nat} {f0 : List Int} {f1 : Int} {f2 : Int} (h : W.heap[g]? = some (.cells #[.slice A0 f0.length c0, .int .i64 f1, .int .i64 f2] 173 (0, 0))) : W.cell? ⟨g, 0, none⟩ = some (.slice A0 f0.length c0) := (blk_cell h 0).trans rfl
theorem cellS173_1 {W : World} {g : Nat} {A0 : Option Addr} {c0 : Nat} {f0 : List Int} {f1 : Int} {f2 : Int} (h : W.heap[g]? = some (.cells #[.slice A0 f0.length c0, .int .i64 f1, .int .i64 f2] 173 (0, 0))) : W.cell? ⟨g, 1, none⟩ = some (.int .i64 f1) := (blk_cell h 1).trans rfl
theorem IsS173.set_1 {w0 W : World} {g : Nat} {f0 : List Int} {f1 : Int} {f2 : Int} (h : IsS173 w0 W g f0 f1 f2) (x : Int) : IsS173 w0 (W.setCell ⟨g, 1, none⟩ (.int .i64 x)) g f0 x f2 := by
 obtain ⟨A0, c0, hb, hg, hr0⟩ := h
 exact ⟨A0, c0, by simpa using blk_set hb 1 (.int .i64 x), hg, hr0⟩
theorem cellS173_2 {W : World} {g : Nat} {A0 : Option Addr} {c0 : Nat} {f0 : List Int} {f1 : Int} {f2 : Int} (h : W.heap[g]? = some (.cells #[.slice A0 f0.length c0, .int .i64 f1, .int .i64 f2] 173 (0, 0))) : W.cell? ⟨g, 2, none⟩ = some (.int .i64 f2) := (blk_cell h 2).trans rfl
theorem IsS173.set_2 {w0 W : World} {g : Nat} {f0 : List Int} {f1 : Int} {f2 : Int} (h : IsS173 w0 W g f0 f1 f2) (x : Int) : IsS173 w0 (W.setCell ⟨g, 2, none⟩ (.int .i64 x)) g f0 f1 x := by
 obtain ⟨A0, c0, hb, hg, hr0⟩ := h
 exact ⟨A0, c0, by simpa using blk_set hb 2 (.int .i64 x), hg, hr0⟩
theorem IsS173.new (w0 W : World) (A0 : Option Addr) (c0 : Nat) (f0 : List Int) (f1 : Int) (f2 : Int) (hB : Below w0.heap.size w0 W) (hr0 : Kd.C (Kd.int .u8) w0 A0 f0.length f0) : IsS173 w0 (W.alloc (.cells #[.slice A0 f0.length c0, .int .i64 f1, .int .i64 f2] 173)) W.heap.size f0 f1 f2 := ⟨A0, c0, by simpa using heap_alloc_new W _, hB.size, hr0⟩

def spec_l1New.l0 : Nat → List Int → Int → Int → Option (List Int × Int × Int)
 | 0, _, _, _ => none
 | k + 1, x0, x3, x4 => if x4 < (x0.length : Int) then (if x4 < 4000 then (if 0 ≤ x4 then (spec_l1New.l0 k x0 (Go.bits .and .i64 (wrap64 ((wrap64 ((wrap64 (x3 * 137)) + (wrap64 (rd x0 x4)))) + 11)) 1073741823) (wrap64 (x4 + 1))) else (none)) else (some (x0, 0, x3))) else (some (x0, 0, x3))
def spec_l1New.f (k : Nat) (l0 : List Int) : Option (List Int × Int × Int) := spec_l1New.l0 k l0 (wrap64 (140873 + (l0.length : Int))) 0
theorem spec_l1New.mono_l : ∀ k, (∀ y0 y1 y2, LeO (spec_l1New.l0 k y0 y1 y2) (spec_l1New.l0 (k + 1) y0 y1 y2))
 | 0 => fun _ _ _ r h => by simp [spec_l1New.l0] at h
 | k + 1 => by
  have ih0 := spec_l1New.mono_l k
  intro y0 y1 y2
  unfold spec_l1New.l0
  repeat' first
  | (with_reducible exact ih0 _ _ _)
  | (with_reducible exact LeO.refl _)
  | (with_reducible exact LeO.none _)
  | (with_reducible refine LeO.ite ?_ ?_)
  | (with_reducible refine LeO.bind ?_ (fun _ => ?_))
  | exact ih0 _ _ _
theorem spec_l1New.mono : ∀ a0 k, LeO (spec_l1New.f k a0) (spec_l1New.f (k + 1) a0) := by
 intro a0 k
 have ih0 := spec_l1New.mono_l k
 unfold spec_l1New.f
 repeat' first
   | (with_reducible exact ih0 _ _ _)
   | (with_reducible exact LeO.refl _)
   | (with_reducible exact LeO.none _)
   | (with_reducible refine LeO.ite ?_ ?_)
   | (with_reducible refine LeO.bind ?_ (fun _ => ?_))
   | exact ih0 _ _ _
theorem spec_l1New.calls (k : Nat) (A0 : Option Addr) (c0 : Nat) (l0 : List Int) (r1 : List Int) (r2 : Int) (r3 : Int) (w0 w : World) (hB : Below w0.heap.size w0 w) (hr0 : Kd.C (Kd.int .u8) w0 A0 l0.length l0) (hc0 : l0.length ≤ c0) (h : spec_l1New.f k l0 = some (r1, r2, r3)) :
  Calls Try.prog 131 #[.slice A0 l0.length c0] w fun e w' => ∃ g_ : Nat, e = .returned (.pointer (some ⟨g_, 0, none⟩)) ∧ IsS173 w0 w' g_ r1 r2 r3 ∧ Below w0.heap.size w0 w' ∧ Below w.heap.size w w' := by
 have hu173 := Try.underlying173
 have HR0 := Aside0.mk hr0
 have HC0 := Aside0.mk hc0
 clear hr0 hc0
 have HBW := Aside0.mk (Below.refl w.heap.size w)
 have HW0 := Aside0.mk hB.size
 have HB := Aside0.mk hB
 clear hB
 have H : (spec_l1New.l0 k l0 (wrap64 (140873 + (l0.length : Int))) 0) = some (r1, r2, r3) := h
 clear h
 have H' := Aside0.mk H
 clear H
 go_enter Try.func131, Try.ntmps131
 go_wp2
 go_loopg [3, 4] k (fun kq v3 v4 w' => ∃ (x3_1 : Int) (x4_1 : Int), v3 = .int .i64 x3_1 ∧ v4 = .int .i64 x4_1 ∧ Aside0 (spec_l1New.l0 kq l0 x3_1 x4_1 = some (r1, r2, r3)) ∧ Aside0 (kq ≤ k) ∧ Aside0 (Below w.heap.size w w') ∧ Aside0 (Below w0.heap.size w0 w'))
 case atStart => exact ⟨(wrap64 (140873 + (l0.length : Int))), (0), (by first | rfl | (simp; done) | (simp [*]; done)), (by first | rfl | (simp; done) | (simp [*]; done)), H', ⟨Nat.le_refl _⟩, ⟨by repeat (first | (with_reducible first | exact HBW.out | apply ba_ | apply bn_ | apply bd_) | exact HBW.out)⟩, ⟨by repeat (first | (with_reducible first | exact HB.out | apply ba_ | apply bn_ | apply bd_) | exact HB.out)⟩⟩
 case round =>
  clear H'
  try clear c1
  obtain ⟨x3_1, x4_1, rfl, rfl, HA, HK1, HBW, HB⟩ := hrel
  cases gk with
  | zero => exact absurd HA.out (by simp [spec_l1New.l0])
  | succ k1 =>
   have H := HA.out
   clear HA
   simp only [spec_l1New.l0] at H
   by_cases c2 : x4_1 < (l0.length : Int)
   ·
    rw [if_pos c2] at H
    have c2b0 := decide_eq_true c2
    clear c2
    by_cases c3 : x4_1 < 4000
    ·
     rw [if_pos c3] at H
     have c3b0 := decide_eq_true c3
     clear c3
     by_cases c4 : 0 ≤ x4_1
     ·
      rw [if_pos c4] at H
      have c4b0 := decide_eq_true c4
      clear c4
      have H' := Aside0.mk H
      clear H
      have p1523 : 0 ≤ (x4_1 : Int) := of_decide_eq_true (by with_reducible assumption)
      have q1523 : x4_1 < (l0.length : Int) := of_decide_eq_true (by with_reducible assumption)
      obtain ⟨ad1523, e1523, hx1523_0⟩ := Kd.at_int HR0.out x4_1 p1523 q1523
      cases e1523
      replace hx1523_0 := pw_cell_below HB.out hx1523_0
      replace p1523 := eq_true p1523
      replace q1523 := eq_true q1523
      go_wp2
      go_roundg k1
      case measure => have := HK1.out; omega
      case rel => exact ⟨(Go.bits .and .i64 (wrap64 ((wrap64 ((wrap64 (x3_1 * 137)) + (wrap64 (rd l0 x4_1)))) + 11)) 1073741823), (wrap64 (x4_1 + 1)), (by first | rfl | (simp; done) | (simp [*]; done)), (by first | rfl | (simp; done) | (simp [*]; done)), H', ⟨by have := HK1.out; omega⟩, ⟨by repeat (first | (with_reducible first | exact HBW.out | apply ba_ | apply bn_ | apply bd_) | exact HBW.out)⟩, ⟨by repeat (first | (with_reducible first | exact HB.out | apply ba_ | apply bn_ | apply bd_) | exact HB.out)⟩⟩
     rw [if_neg c4] at H
     exact absurd H (by simp)
    rw [if_neg c3] at H
    have c3b0 : decide (x4_1 < 4000) = false := decide_eq_false c3
    clear c3
    simp only [Option.some.injEq, Prod.mk.injEq] at H
    obtain ⟨rfl, rfl, rfl⟩ := H
    go_wp2_with (first | ((with_reducible refine gate_dst (N := 31) rfl ?_); refine box_event ?hg (N := 31) ?hd (cs := #[.slice A0 l0.length c0, .int .i64 0, .int .i64 x3_1]) (t := 173) ?hr ?_; (case hd => rfl); (case hg => rfl); (case hr => first | (go_simp; done) | (go_simp; rfl)); intro gb1524 hg w5 hbox hb; have n0_ := Aside0.mk (below_step HBW.out hb); have n1_ := Aside0.mk (below_step (by repeat (first | (with_reducible first | exact HB.out | apply ba_ | apply bn_ | apply bd_) | exact HB.out)) hb); have n2_ := Aside0.mk (hbox); have n3_ := Aside0.mk ((by rw [hg]; exact (below_size (by repeat (first | (with_reducible first | exact HBW.out | apply ba_ | apply bn_ | apply bd_) | exact HBW.out))) : w.heap.size ≤ gb1524)); have n4_ := Aside0.mk ((Nat.le_trans HW0.out (by rw [hg]; exact (below_size (by repeat (first | (with_reducible first | exact HBW.out | apply ba_ | apply bn_ | apply bd_) | exact HBW.out))) : w.heap.size ≤ gb1524) : w0.heap.size ≤ gb1524)); clear HBW; clear HB; have HBW := n0_; have HB := n1_; have BK1524 := n2_; have GW1524 := n3_; have GE1524 := n4_; clear n0_ n1_ n2_ n3_ n4_; clear hb hbox hg))
    go_ret
    exact ⟨_, rfl, (show IsS173 w0 _ gb1524 l0 0 x3_1 from ⟨_, _, by (with_reducible repeat (first | refine kn_ ?_ _ | refine kd_ ?_ | refine ka_ ?_ _)); exact BK1524.out, GE1524.out, HR0.out⟩), by repeat (first | (with_reducible first | exact HB.out | apply ba_ | apply bn_ | apply bd_ | refine below_set ?_ GE1524.out) | exact HB.out), by repeat (first | (with_reducible first | exact HBW.out | apply ba_ | apply bn_ | apply bd_ | refine below_set ?_ GW1524.out) | exact HBW.out)⟩
   rw [if_neg c2] at H
   have c2b0 : decide (x4_1 < (l0.length : Int)) = false := decide_eq_false c2
   clear c2
   simp only [Option.some.injEq, Prod.mk.injEq] at H
   obtain ⟨rfl, rfl, rfl⟩ := H
   go_wp2_with (first | ((with_reducible refine gate_dst (N := 31) rfl ?_); refine box_event ?hg (N := 31) ?hd (cs := #[.slice A0 l0.length c0, .int .i64 0, .int .i64 x3_1]) (t := 173) ?hr ?_; (case hd => rfl); (case hg => rfl); (case hr => first | (go_simp; done) | (go_simp; rfl)); intro gb1525 hg w6 hbox hb; have n0_ := Aside0.mk (below_step HBW.out hb); have n1_ := Aside0.mk (below_step (by repeat (first | (with_reducible first | exact HB.out | apply ba_ | apply bn_ | apply bd_) | exact HB.out)) hb); have n2_ := Aside0.mk (hbox); have n3_ := Aside0.mk ((by rw [hg]; exact (below_size (by repeat (first | (with_reducible first | exact HBW.out | apply ba_ | apply bn_ | apply bd_) | exact HBW.out))) : w.heap.size ≤ gb1525)); have n4_ := Aside0.mk ((Nat.le_trans HW0.out (by rw [hg]; exact (below_size (by repeat (first | (with_reducible first | exact HBW.out | apply ba_ | apply bn_ | apply bd_) | exact HBW.out))) : w.heap.size ≤ gb1525) : w0.heap.size ≤ gb1525)); clear HBW; clear HB; have HBW := n0_; have HB := n1_; have BK1525 := n2_; have GW1525 := n3_; have GE1525 := n4_; clear n0_ n1_ n2_ n3_ n4_; clear hb hbox hg))
   go_ret
   exact ⟨_, rfl, (show IsS173 w0 _ gb1525 l0 0 x3_1 from ⟨_, _, by (with_reducible repeat (first | refine kn_ ?_ _ | refine kd_ ?_ | refine ka_ ?_ _)); exact BK1525.out, GE1525.out, HR0.out⟩), by repeat (first | (with_reducible first | exact HB.out | apply ba_ | apply bn_ | apply bd_ | refine below_set ?_ GE1525.out) | exact HB.out), by repeat (first | (with_reducible first | exact HBW.out | apply ba_ | apply bn_ | apply bd_ | refine below_set ?_ GW1525.out) | exact HBW.out)⟩
def spec_l1Byte.f (s0_0 : List Int) (s0_1 : Int) (s0_2 : Int) : Option (Int × Int × Int) := if s0_1 < (s0_0.length : Int) then (if 0 ≤ s0_1 then (some (Go.bits .and .i64 (wrap64 ((Go.bits .and .i64 (Go.bits .xor .i64 ((wrap64 ((wrap64 (s0_2 * 6364136223846793005)) + 1442695040888963407)) / 8589934592) ((wrap64 ((wrap64 (s0_2 * 6364136223846793005)) + 1442695040888963407)) / 140737488355328)) 255) + (wrap64 (rd s0_0 s0_1)))) 255, wrap64 (s0_1 + 1), wrap64 ((wrap64 (s0_2 * 6364136223846793005)) + 1442695040888963407))) else (none)) else (some (Go.bits .and .i64 (Go.bits .xor .i64 ((wrap64 ((wrap64 (s0_2 * 6364136223846793005)) + 1442695040888963407)) / 8589934592) ((wrap64 ((wrap64 (s0_2 * 6364136223846793005)) + 1442695040888963407)) / 140737488355328)) 255, s0_1, wrap64 ((wrap64 (s0_2 * 6364136223846793005)) + 1442695040888963407)))
theorem spec_l1Byte.calls (g : Nat) (s0_0 : List Int) (s0_1 : Int) (s0_2 : Int) (r1 : Int) (r2 : Int) (r3 : Int) (w0 w : World) (hI : IsS173 w0 w g s0_0 s0_1 s0_2) (hB : Below w0.heap.size w0 w) (h : spec_l1Byte.f s0_0 s0_1 s0_2 = some (r1, r2, r3)) :
  Calls Try.prog 163 #[.pointer (some ⟨g, 0, none⟩)] w fun e w' => e = .returned (.int .i64 r1) ∧ IsS173 w0 w' g s0_0 r2 r3 ∧ Below w0.heap.size w0 w' ∧ KeepBut w w' g none := by
 have HI0 := Aside0.mk hI
 have HK := Aside0.mk (KeepBut.refl w g none)
 have HL := Aside0.mk hB.size
 clear hI
 have HW0 := Aside0.mk hB.size
 have HB := Aside0.mk hB
 clear hB
 have H : (if s0_1 < (s0_0.length : Int) then (if 0 ≤ s0_1 then (some (Go.bits .and .i64 (wrap64 ((Go.bits .and .i64 (Go.bits .xor .i64 ((wrap64 ((wrap64 (s0_2 * 6364136223846793005)) + 1442695040888963407)) / 8589934592) ((wrap64 ((wrap64 (s0_2 * 6364136223846793005)) + 1442695040888963407)) / 140737488355328)) 255) + (wrap64 (rd s0_0 s0_1)))) 255, wrap64 (s0_1 + 1), wrap64 ((wrap64 (s0_2 * 6364136223846793005)) + 1442695040888963407))) else (none)) else (some (Go.bits .and .i64 (Go.bits .xor .i64 ((wrap64 ((wrap64 (s0_2 * 6364136223846793005)) + 1442695040888963407)) / 8589934592) ((wrap64 ((wrap64 (s0_2 * 6364136223846793005)) + 1442695040888963407)) / 140737488355328)) 255, s0_1, wrap64 ((wrap64 (s0_2 * 6364136223846793005)) + 1442695040888963407)))) = some (r1, r2, r3) := h
 clear h
 by_cases c2 : s0_1 < (s0_0.length : Int)
 ·
  rw [if_pos c2] at H
  have c2b0 := decide_eq_true c2
  clear c2
  by_cases c3 : 0 ≤ s0_1
  ·
   rw [if_pos c3] at H
   have c3b0 := decide_eq_true c3
   clear c3
   simp only [Option.some.injEq, Prod.mk.injEq] at H
   obtain ⟨rfl, rfl, rfl⟩ := H
   obtain ⟨ASz4_0, cSz4_0, HGz4, hgz4, HSz4_0⟩ := HI0.out
   have hcz4_0 := cellS173_0 HGz4
   have hcz4_1 := cellS173_1 HGz4
   have hcz4_2 := cellS173_2 HGz4
   have hfz4_1 := blk_frozen HGz4 1
   have hfz4_2 := blk_frozen HGz4 2
   clear HGz4 hgz4
   have p1526 : 0 ≤ (s0_1 : Int) := of_decide_eq_true (by with_reducible assumption)
   have q1526 : s0_1 < (s0_0.length : Int) := of_decide_eq_true (by with_reducible assumption)
   obtain ⟨ad1526, e1526, hx1526_0⟩ := Kd.at_int HSz4_0 s0_1 p1526 q1526
   cases e1526
   have hn1526_0 : ad1526.block ≠ g := Nat.ne_of_lt (Nat.lt_of_lt_of_le (by have := World.block_lt_of_cell? _ _ hx1526_0; first | rwa [add_block] at this | exact this) (IsS173.ge HI0.out))
   replace hx1526_0 := pw_cell_below HB.out hx1526_0
   replace hx1526_0 := (cell_far (p := ⟨g, 2, none⟩) (by first | (rw [add_block]; exact hn1526_0) | (show (Addr.add _ _).block ≠ _; rw [add_block]; exact hn1526_0) | exact hn1526_0) (.int .i64 (wrap64 ((wrap64 (s0_2 * 6364136223846793005)) + 1442695040888963407)))).trans hx1526_0
   (try have hy1526_0 := fun (n_ : Nat) => (show (((w.drewN n_).setCell ⟨g, 2, none⟩ (.int .i64 (wrap64 ((wrap64 (s0_2 * 6364136223846793005)) + 1442695040888963407))))).cell? _ = some _ from hx1526_0))
   clear hn1526_0
   replace p1526 := eq_true p1526
   replace q1526 := eq_true q1526
   go_enter Try.func163, Try.ntmps163
   go_wp2
   repeat (go_quiet (fail); try go_wp2)
   go_ret
   exact ⟨by first | rfl | (simp [errW_none, errW_some] <;> rfl) | (simp [*, errW_none, errW_some] <;> rfl), by repeat (first | (with_reducible first | exact HI0.out | apply IsS173.alloc | apply IsS173.drewN | apply IsS173.drew | apply IsS173.set_1 | apply IsS173.set_2) | exact HI0.out), by repeat (first | (with_reducible first | exact HB.out | apply ba_ | apply bn_ | apply bd_ | refine below_set ?_ (IsS173.ge HI0.out)) | exact HB.out), by repeat (first | (with_reducible first | exact HK.out | apply KeepBut.set_ | apply keep_drewN | apply keep_drew | apply keep_alloc) | exact HK.out)⟩
  rw [if_neg c3] at H
  exact absurd H (by simp)
 rw [if_neg c2] at H
 have c2b0 : decide (s0_1 < (s0_0.length : Int)) = false := decide_eq_false c2
 clear c2
 simp only [Option.some.injEq, Prod.mk.injEq] at H
 obtain ⟨rfl, rfl, rfl⟩ := H
 obtain ⟨ASz5_0, cSz5_0, HGz5, hgz5, HSz5_0⟩ := HI0.out
 have hcz5_0 := cellS173_0 HGz5
 have hcz5_1 := cellS173_1 HGz5
 have hcz5_2 := cellS173_2 HGz5
 have hfz5_1 := blk_frozen HGz5 1
 have hfz5_2 := blk_frozen HGz5 2
 clear HGz5 hgz5
 go_enter Try.func163, Try.ntmps163
 go_wp2
 repeat (go_quiet (fail); try go_wp2)
 go_ret
 exact ⟨by first | rfl | (simp [errW_none, errW_some] <;> rfl) | (simp [*, errW_none, errW_some] <;> rfl), by repeat (first | (with_reducible first | exact HI0.out | apply IsS173.alloc | apply IsS173.drewN | apply IsS173.drew | apply IsS173.set_1 | apply IsS173.set_2) | exact HI0.out), by repeat (first | (with_reducible first | exact HB.out | apply ba_ | apply bn_ | apply bd_ | refine below_set ?_ (IsS173.ge HI0.out)) | exact HB.out), by repeat (first | (with_reducible first | exact HK.out | apply KeepBut.set_ | apply keep_drewN | apply keep_drew | apply keep_alloc) | exact HK.out)⟩
def spec_l1Below.f (s0_0 : List Int) (s0_1 : Int) (s0_2 : Int) (a1 : Int) : Option (Int × Int × Int) := if a1 ≤ 0 then (some (0, s0_1, s0_2)) else (if a1 ≤ 256 then ((spec_l1Byte.f s0_0 s0_1 s0_2).bind fun bt1527 => (if a1 = 0 then (none) else (some (Int.tmod bt1527.1 a1, bt1527.2.1, bt1527.2.2)))) else ((spec_l1Byte.f s0_0 s0_1 s0_2).bind fun bt1530 => ((spec_l1Byte.f s0_0 bt1530.2.1 bt1530.2.2).bind fun bt1533 => ((spec_l1Byte.f s0_0 bt1533.2.1 bt1533.2.2).bind fun bt1536 => (if a1 = 0 then (none) else (some (Int.tmod (wrap64 ((wrap64 ((wrap64 (bt1530.1 * 65536)) + (wrap64 (bt1533.1 * 256)))) + bt1536.1)) a1, bt1536.2.1, bt1536.2.2)))))))
theorem spec_l1Below.calls (g : Nat) (s0_0 : List Int) (s0_1 : Int) (s0_2 : Int) (a1 : Int) (r1 : Int) (r2 : Int) (r3 : Int) (w0 w : World) (hI : IsS173 w0 w g s0_0 s0_1 s0_2) (hB : Below w0.heap.size w0 w) (h : spec_l1Below.f s0_0 s0_1 s0_2 a1 = some (r1, r2, r3)) :
  Calls Try.prog 137 #[.pointer (some ⟨g, 0, none⟩), .int .i64 a1] w fun e w' => e = .returned (.int .i64 r1) ∧ IsS173 w0 w' g s0_0 r2 r3 ∧ Below w0.heap.size w0 w' ∧ KeepBut w w' g none := by
 have HI0 := Aside0.mk hI
 have HK := Aside0.mk (KeepBut.refl w g none)
 have HL := Aside0.mk hB.size
 clear hI
 have HW0 := Aside0.mk hB.size
 have HB := Aside0.mk hB
 clear hB
 have H : (if a1 ≤ 0 then (some (0, s0_1, s0_2)) else (if a1 ≤ 256 then ((spec_l1Byte.f s0_0 s0_1 s0_2).bind fun bt1527 => (if a1 = 0 then (none) else (some (Int.tmod bt1527.1 a1, bt1527.2.1, bt1527.2.2)))) else ((spec_l1Byte.f s0_0 s0_1 s0_2).bind fun bt1530 => ((spec_l1Byte.f s0_0 bt1530.2.1 bt1530.2.2).bind fun bt1533 => ((spec_l1Byte.f s0_0 bt1533.2.1 bt1533.2.2).bind fun bt1536 => (if a1 = 0 then (none) else (some (Int.tmod (wrap64 ((wrap64 ((wrap64 (bt1530.1 * 65536)) + (wrap64 (bt1533.1 * 256)))) + bt1536.1)) a1, bt1536.2.1, bt1536.2.2)))))))) = some (r1, r2, r3) := h
 clear h
 by_cases c3 : a1 ≤ 0
 ·
  rw [if_pos c3] at H
  have c3b0 := decide_eq_true c3
  clear c3
  simp only [Option.some.injEq, Prod.mk.injEq] at H
  obtain ⟨rfl, rfl, rfl⟩ := H
  go_enter Try.func137, Try.ntmps137
  go_wp2
  go_ret
  exact ⟨by first | rfl | (simp [errW_none, errW_some] <;> rfl) | (simp [*, errW_none, errW_some] <;> rfl), by repeat (first | (with_reducible first | exact HI0.out | apply IsS173.alloc | apply IsS173.drewN | apply IsS173.drew | apply IsS173.set_1 | apply IsS173.set_2) | exact HI0.out), by repeat (first | (with_reducible first | exact HB.out | apply ba_ | apply bn_ | apply bd_ | refine below_set ?_ (IsS173.ge HI0.out)) | exact HB.out), by repeat (first | (with_reducible first | exact HK.out | apply KeepBut.set_ | apply keep_drewN | apply keep_drew | apply keep_alloc) | exact HK.out)⟩
 rw [if_neg c3] at H
 have c3b0 : decide (a1 ≤ 0) = false := decide_eq_false c3
 clear c3
 by_cases c4 : a1 ≤ 256
 ·
  rw [if_pos c4] at H
  have c4b0 := decide_eq_true c4
  clear c4
  replace H := Option.bind_eq_some_iff.mp H
  obtain ⟨⟨t1527, t1528, t1529⟩, A50, H⟩ := H
  have A5 := Aside0.mk A50
  clear A50
  by_cases c6 : a1 = 0
  ·
   rw [if_pos c6] at H
   exact absurd H (by simp)
  rw [if_neg c6] at H
  have c6b0 : (a1 == 0) = false := beq_eq_false_iff_ne.mpr c6
  have c6b1 : (a1 != 0) = true := bne_iff_ne.mpr c6
  simp only [Option.some.injEq, Prod.mk.injEq] at H
  obtain ⟨rfl, rfl, rfl⟩ := H
  go_enter Try.func137, Try.ntmps137
  go_wp2_with (first | ((with_reducible refine gate_callee (f := 163) rfl ?_); refine goesL_ (some 13) rfl rfl Try.func163 (by kernel_rfl) rfl #[.pointer (some ⟨g, 0, none⟩)] rfl (by (try simp only [mp_]); first | done | rfl | (simp only [List.length_drop, List.length_take]; rfl)) ?_; (with_reducible refine (spec_l1Byte.calls g s0_0 s0_1 s0_2 t1527 t1528 t1529 w0 _ ?side1 ?side2 A5.out).mono ?_); (case side1 => repeat (first | (with_reducible first | exact HI0.out | apply IsS173.alloc | apply IsS173.drewN | apply IsS173.drew | apply IsS173.set_1 | apply IsS173.set_2) | exact HI0.out)); (case side2 => repeat (first | (with_reducible first | exact HB.out | apply ba_ | apply bn_ | apply bd_ | refine below_set ?_ (IsS173.ge HI0.out)) | exact HB.out)); rintro e w7 ⟨rfl, hi, hb, hk⟩; refine ⟨_, rfl, ?_⟩; have n0_ := Aside0.mk (KeepBut.trans (by repeat (first | (with_reducible first | exact HK.out | apply KeepBut.set_ | apply keep_drewN | apply keep_drew | apply keep_alloc) | exact HK.out)) hk (.inl rfl)); have n1_ := Aside0.mk (hb); have n2_ := Aside0.mk (hi); clear HK; clear HB; clear HI0; have HK := n0_; have HB := n1_; have HI0 := n2_; clear n0_ n1_ n2_; (try clear hb); (try clear hb2); (try clear hk); (try clear hi)))
  go_ret
  exact ⟨by first | rfl | (simp [errW_none, errW_some] <;> rfl) | (simp [*, errW_none, errW_some] <;> rfl), by repeat (first | (with_reducible first | exact HI0.out | apply IsS173.alloc | apply IsS173.drewN | apply IsS173.drew | apply IsS173.set_1 | apply IsS173.set_2) | exact HI0.out), by repeat (first | (with_reducible first | exact HB.out | apply ba_ | apply bn_ | apply bd_ | refine below_set ?_ (IsS173.ge HI0.out)) | exact HB.out), by repeat (first | (with_reducible first | exact HK.out | apply KeepBut.set_ | apply keep_drewN | apply keep_drew | apply keep_alloc) | exact HK.out)⟩
 rw [if_neg c4] at H
 have c4b0 : decide (a1 ≤ 256) = false := decide_eq_false c4
 clear c4
 replace H := Option.bind_eq_some_iff.mp H
 obtain ⟨⟨t1530, t1531, t1532⟩, A80, H⟩ := H
 have A8 := Aside0.mk A80
 clear A80
 replace H := Option.bind_eq_some_iff.mp H
 obtain ⟨⟨t1533, t1534, t1535⟩, A90, H⟩ := H
 have A9 := Aside0.mk A90
 clear A90
 replace H := Option.bind_eq_some_iff.mp H
 obtain ⟨⟨t1536, t1537, t1538⟩, A100, H⟩ := H
 have A10 := Aside0.mk A100
 clear A100
 by_cases c11 : a1 = 0
 ·
  rw [if_pos c11] at H
  exact absurd H (by simp)
 rw [if_neg c11] at H
 have c11b0 : (a1 == 0) = false := beq_eq_false_iff_ne.mpr c11
 have c11b1 : (a1 != 0) = true := bne_iff_ne.mpr c11
 simp only [Option.some.injEq, Prod.mk.injEq] at H
 obtain ⟨rfl, rfl, rfl⟩ := H
 go_enter Try.func137, Try.ntmps137
 go_wp2_with (first | ((with_reducible refine gate_callee (f := 163) rfl ?_); refine goesL_ (some 17) rfl rfl Try.func163 (by kernel_rfl) rfl #[.pointer (some ⟨g, 0, none⟩)] rfl (by (try simp only [mp_]); first | done | rfl | (simp only [List.length_drop, List.length_take]; rfl)) ?_; (with_reducible refine (spec_l1Byte.calls g s0_0 s0_1 s0_2 t1530 t1531 t1532 w0 _ ?side1 ?side2 A8.out).mono ?_); (case side1 => repeat (first | (with_reducible first | exact HI0.out | apply IsS173.alloc | apply IsS173.drewN | apply IsS173.drew | apply IsS173.set_1 | apply IsS173.set_2) | exact HI0.out)); (case side2 => repeat (first | (with_reducible first | exact HB.out | apply ba_ | apply bn_ | apply bd_ | refine below_set ?_ (IsS173.ge HI0.out)) | exact HB.out)); rintro e w12 ⟨rfl, hi, hb, hk⟩; refine ⟨_, rfl, ?_⟩; have n0_ := Aside0.mk (KeepBut.trans (by repeat (first | (with_reducible first | exact HK.out | apply KeepBut.set_ | apply keep_drewN | apply keep_drew | apply keep_alloc) | exact HK.out)) hk (.inl rfl)); have n1_ := Aside0.mk (hb); have n2_ := Aside0.mk (hi); clear HK; clear HB; clear HI0; have HK := n0_; have HB := n1_; have HI0 := n2_; clear n0_ n1_ n2_; (try clear hb); (try clear hb2); (try clear hk); (try clear hi)) | ((with_reducible refine gate_callee (f := 163) rfl ?_); refine goesL_ (some 19) rfl rfl Try.func163 (by kernel_rfl) rfl #[.pointer (some ⟨g, 0, none⟩)] rfl (by (try simp only [mp_]); first | done | rfl | (simp only [List.length_drop, List.length_take]; rfl)) ?_; (with_reducible refine (spec_l1Byte.calls g s0_0 t1531 t1532 t1533 t1534 t1535 w0 _ ?side1 ?side2 A9.out).mono ?_); (case side1 => repeat (first | (with_reducible first | exact HI0.out | apply IsS173.alloc | apply IsS173.drewN | apply IsS173.drew | apply IsS173.set_1 | apply IsS173.set_2) | exact HI0.out)); (case side2 => repeat (first | (with_reducible first | exact HB.out | apply ba_ | apply bn_ | apply bd_ | refine below_set ?_ (IsS173.ge HI0.out)) | exact HB.out)); rintro e w13 ⟨rfl, hi, hb, hk⟩; refine ⟨_, rfl, ?_⟩; have n0_ := Aside0.mk (KeepBut.trans (by repeat (first | (with_reducible first | exact HK.out | apply KeepBut.set_ | apply keep_drewN | apply keep_drew | apply keep_alloc) | exact HK.out)) hk (.inl rfl)); have n1_ := Aside0.mk (hb); have n2_ := Aside0.mk (hi); clear HK; clear HB; clear HI0; have HK := n0_; have HB := n1_; have HI0 := n2_; clear n0_ n1_ n2_; (try clear hb); (try clear hb2); (try clear hk); (try clear hi)) | ((with_reducible refine gate_callee (f := 163) rfl ?_); refine goesL_ (some 21) rfl rfl Try.func163 (by kernel_rfl) rfl #[.pointer (some ⟨g, 0, none⟩)] rfl (by (try simp only [mp_]); first | done | rfl | (simp only [List.length_drop, List.length_take]; rfl)) ?_; (with_reducible refine (spec_l1Byte.calls g s0_0 t1534 t1535 t1536 t1537 t1538 w0 _ ?side1 ?side2 A10.out).mono ?_); (case side1 => repeat (first | (with_reducible first | exact HI0.out | apply IsS173.alloc | apply IsS173.drewN | apply IsS173.drew | apply IsS173.set_1 | apply IsS173.set_2) | exact HI0.out)); (case side2 => repeat (first | (with_reducible first | exact HB.out | apply ba_ | apply bn_ | apply bd_ | refine below_set ?_ (IsS173.ge HI0.out)) | exact HB.out)); rintro e w14 ⟨rfl, hi, hb, hk⟩; refine ⟨_, rfl, ?_⟩; have n0_ := Aside0.mk (KeepBut.trans (by repeat (first | (with_reducible first | exact HK.out | apply KeepBut.set_ | apply keep_drewN | apply keep_drew | apply keep_alloc) | exact HK.out)) hk (.inl rfl)); have n1_ := Aside0.mk (hb); have n2_ := Aside0.mk (hi); clear HK; clear HB; clear HI0; have HK := n0_; have HB := n1_; have HI0 := n2_; clear n0_ n1_ n2_; (try clear hb); (try clear hb2); (try clear hk); (try clear hi)))
 go_ret
 exact ⟨by first | rfl | (simp [errW_none, errW_some] <;> rfl) | (simp [*, errW_none, errW_some] <;> rfl), by repeat (first | (with_reducible first | exact HI0.out | apply IsS173.alloc | apply IsS173.drewN | apply IsS173.drew | apply IsS173.set_1 | apply IsS173.set_2) | exact HI0.out), by repeat (first | (with_reducible first | exact HB.out | apply ba_ | apply bn_ | apply bd_ | refine below_set ?_ (IsS173.ge HI0.out)) | exact HB.out), by repeat (first | (with_reducible first | exact HK.out | apply KeepBut.set_ | apply keep_drewN | apply keep_drew | apply keep_alloc) | exact HK.out)⟩
def spec_l1Once.f (s0_0 : List Int) (s0_1 : Int) (s0_2 : Int) (a1 : Int) : Option (Bool × Int × Int) := (spec_l1Below.f s0_0 s0_1 s0_2 a1).bind fun bt1539 => (some ((bt1539.1 == 0), bt1539.2.1, bt1539.2.2))
theorem spec_l1Once.calls (g : Nat) (s0_0 : List Int) (s0_1 : Int) (s0_2 : Int) (a1 : Int) (r1 : Bool) (r2 : Int) (r3 : Int) (w0 w : World) (hI : IsS173 w0 w g s0_0 s0_1 s0_2) (hB : Below w0.heap.size w0 w) (h : spec_l1Once.f s0_0 s0_1 s0_2 a1 = some (r1, r2, r3)) :
  Calls Try.prog 136 #[.pointer (some ⟨g, 0, none⟩), .int .i64 a1] w fun e w' => e = .returned (.bool r1) ∧ IsS173 w0 w' g s0_0 r2 r3 ∧ Below w0.heap.size w0 w' ∧ KeepBut w w' g none := by
 have HI0 := Aside0.mk hI
 have HK := Aside0.mk (KeepBut.refl w g none)
 have HL := Aside0.mk hB.size
 clear hI
 have HW0 := Aside0.mk hB.size
 have HB := Aside0.mk hB
 clear hB
 have H : ((spec_l1Below.f s0_0 s0_1 s0_2 a1).bind fun bt1539 => (some ((bt1539.1 == 0), bt1539.2.1, bt1539.2.2))) = some (r1, r2, r3) := h
 clear h
 replace H := Option.bind_eq_some_iff.mp H
 obtain ⟨⟨t1539, t1540, t1541⟩, A30, H⟩ := H
 have A3 := Aside0.mk A30
 clear A30
 simp only [Option.some.injEq, Prod.mk.injEq] at H
 obtain ⟨rfl, rfl, rfl⟩ := H
 go_enter Try.func136, Try.ntmps136
 go_wp2_with (first | ((with_reducible refine gate_callee (f := 137) rfl ?_); refine goesL_ (some 7) rfl rfl Try.func137 (by kernel_rfl) rfl #[.pointer (some ⟨g, 0, none⟩), .int .i64 a1] rfl (by (try simp only [mp_]); first | done | rfl | (simp only [List.length_drop, List.length_take]; rfl)) ?_; (with_reducible refine (spec_l1Below.calls g s0_0 s0_1 s0_2 a1 t1539 t1540 t1541 w0 _ ?side1 ?side2 A3.out).mono ?_); (case side1 => repeat (first | (with_reducible first | exact HI0.out | apply IsS173.alloc | apply IsS173.drewN | apply IsS173.drew | apply IsS173.set_1 | apply IsS173.set_2) | exact HI0.out)); (case side2 => repeat (first | (with_reducible first | exact HB.out | apply ba_ | apply bn_ | apply bd_ | refine below_set ?_ (IsS173.ge HI0.out)) | exact HB.out)); rintro e w4 ⟨rfl, hi, hb, hk⟩; refine ⟨_, rfl, ?_⟩; have n0_ := Aside0.mk (KeepBut.trans (by repeat (first | (with_reducible first | exact HK.out | apply KeepBut.set_ | apply keep_drewN | apply keep_drew | apply keep_alloc) | exact HK.out)) hk (.inl rfl)); have n1_ := Aside0.mk (hb); have n2_ := Aside0.mk (hi); clear HK; clear HB; clear HI0; have HK := n0_; have HB := n1_; have HI0 := n2_; clear n0_ n1_ n2_; (try clear hb); (try clear hb2); (try clear hk); (try clear hi)))
 go_ret
 exact ⟨by first | rfl | (simp [errW_none, errW_some] <;> rfl) | (simp [*, errW_none, errW_some] <;> rfl), by repeat (first | (with_reducible first | exact HI0.out | apply IsS173.alloc | apply IsS173.drewN | apply IsS173.drew | apply IsS173.set_1 | apply IsS173.set_2) | exact HI0.out), by repeat (first | (with_reducible first | exact HB.out | apply ba_ | apply bn_ | apply bd_ | refine below_set ?_ (IsS173.ge HI0.out)) | exact HB.out), by repeat (first | (with_reducible first | exact HK.out | apply KeepBut.set_ | apply keep_drewN | apply keep_drew | apply keep_alloc) | exact HK.out)⟩
def spec_l1Str.f (s0_0 : List Int) (s0_1 : Int) (s0_2 : Int) (l1 : List ByteArray) : Option (ByteArray × Int × Int) := (spec_l1Below.f s0_0 s0_1 s0_2 (l1.length : Int)).bind fun bt1542 => (if 0 ≤ bt1542.1 then (if bt1542.1 < (l1.length : Int) then (some (rdOf ByteArray.empty l1 bt1542.1, bt1542.2.1, bt1542.2.2)) else (none)) else (none))
theorem spec_l1Str.calls (g : Nat) (s0_0 : List Int) (s0_1 : Int) (s0_2 : Int) (A1 : Option Addr) (c1 : Nat) (l1 : List ByteArray) (r1 : ByteArray) (r2 : Int) (r3 : Int) (w0 w : World) (hI : IsS173 w0 w g s0_0 s0_1 s0_2) (hB : Below w0.heap.size w0 w) (hr1 : Kd.C Kd.string w A1 l1.length l1) (hc1 : l1.length ≤ c1) (hf1 : ∀ ad, A1 = some ad → 0 < l1.length → ad.block ≠ g) (h : spec_l1Str.f s0_0 s0_1 s0_2 l1 = some (r1, r2, r3)) :
  Calls Try.prog 174 #[.pointer (some ⟨g, 0, none⟩), .slice A1 l1.length c1] w fun e w' => e = .returned (.string r1) ∧ IsS173 w0 w' g s0_0 r2 r3 ∧ Below w0.heap.size w0 w' ∧ KeepBut w w' g none := by
 have HR1 := Aside0.mk hr1
 have HC1 := Aside0.mk hc1
 clear hr1 hc1
 have HI0 := Aside0.mk hI
 have HK := Aside0.mk (KeepBut.refl w g none)
 have HL := Aside0.mk hB.size
 clear hI
 have HW0 := Aside0.mk hB.size
 have HB := Aside0.mk hB
 clear hB
 have H : ((spec_l1Below.f s0_0 s0_1 s0_2 (l1.length : Int)).bind fun bt1542 => (if 0 ≤ bt1542.1 then (if bt1542.1 < (l1.length : Int) then (some (rdOf ByteArray.empty l1 bt1542.1, bt1542.2.1, bt1542.2.2)) else (none)) else (none))) = some (r1, r2, r3) := h
 clear h
 replace H := Option.bind_eq_some_iff.mp H
 obtain ⟨⟨t1542, t1543, t1544⟩, A30, H⟩ := H
 have A3 := Aside0.mk A30
 clear A30
 by_cases c4 : 0 ≤ t1542
 ·
  rw [if_pos c4] at H
  have c4b0 := decide_eq_true c4
  clear c4
  by_cases c5 : t1542 < (l1.length : Int)
  ·
   rw [if_pos c5] at H
   have c5b0 := decide_eq_true c5
   clear c5
   simp only [Option.some.injEq, Prod.mk.injEq] at H
   obtain ⟨rfl, rfl, rfl⟩ := H
   go_enter Try.func174, Try.ntmps174
   go_wp2_with (first | ((with_reducible refine gate_callee (f := 137) rfl ?_); refine goesL_ (some 9) rfl rfl Try.func137 (by kernel_rfl) rfl #[.pointer (some ⟨g, 0, none⟩), .int .i64 (l1.length : Int)] rfl (by (try simp only [mp_]); first | done | rfl | (simp only [List.length_drop, List.length_take]; rfl)) ?_; (with_reducible refine (spec_l1Below.calls g s0_0 s0_1 s0_2 (l1.length : Int) t1542 t1543 t1544 w0 _ ?side1 ?side2 A3.out).mono ?_); (case side1 => repeat (first | (with_reducible first | exact HI0.out | apply IsS173.alloc | apply IsS173.drewN | apply IsS173.drew | apply IsS173.set_1 | apply IsS173.set_2) | exact HI0.out)); (case side2 => repeat (first | (with_reducible first | exact HB.out | apply ba_ | apply bn_ | apply bd_ | refine below_set ?_ (IsS173.ge HI0.out)) | exact HB.out)); rintro e w6 ⟨rfl, hi, hb, hk⟩; refine ⟨_, rfl, ?_⟩; have n0_ := Aside0.mk (KeepBut.trans (by repeat (first | (with_reducible first | exact HK.out | apply KeepBut.set_ | apply keep_drewN | apply keep_drew | apply keep_alloc) | exact HK.out)) hk (.inl rfl)); have n1_ := Aside0.mk (hb); have n2_ := Aside0.mk (hi); clear HK; clear HB; clear HI0; have HK := n0_; have HB := n1_; have HI0 := n2_; clear n0_ n1_ n2_; (try clear hb); (try clear hb2); (try clear hk); (try clear hi); have p1545 : 0 ≤ (t1542 : Int) := of_decide_eq_true (by with_reducible assumption); have q1545 : t1542 < (l1.length : Int) := of_decide_eq_true (by with_reducible assumption); obtain ⟨ad1545, e1545, hx1545_0⟩ := Kd.at_string HR1.out t1542 p1545 q1545; cases e1545; replace hx1545_0 := keep_cell HK.out hx1545_0 (by first | (rw [add_block]; exact hf1 _ rfl (by omega)) | exact hf1 _ rfl (by omega) | exact hf1 ad1545 rfl (by omega)); replace p1545 := eq_true p1545; replace q1545 := eq_true q1545))
   go_ret
   exact ⟨by first | rfl | (simp [errW_none, errW_some] <;> rfl) | (simp [*, errW_none, errW_some] <;> rfl), by repeat (first | (with_reducible first | exact HI0.out | apply IsS173.alloc | apply IsS173.drewN | apply IsS173.drew | apply IsS173.set_1 | apply IsS173.set_2) | exact HI0.out), by repeat (first | (with_reducible first | exact HB.out | apply ba_ | apply bn_ | apply bd_ | refine below_set ?_ (IsS173.ge HI0.out)) | exact HB.out), by repeat (first | (with_reducible first | exact HK.out | apply KeepBut.set_ | apply keep_drewN | apply keep_drew | apply keep_alloc) | exact HK.out)⟩
  rw [if_neg c5] at H
  exact absurd H (by simp)
 rw [if_neg c4] at H
 exact absurd H (by simp)
def spec_l2Draw.l0 : Nat → List (S164) → List ByteArray → Int → Int → List Int → Int → Int → Option ((List (S164)) × Int × Int)
 | 0, _, _, _, _, _, _, _ => none
 | k + 1, x3, x11, x12, x13, x1000, x1001, x1002 => if x13 < x12 then (if 0 ≤ x13 then (if x13 < (x11.length : Int) then ((spec_l1Once.f x1000 x1001 x1002 4).bind fun bt1559 => (if bt1559.1 = true then ((spec_l1Str.f x1000 bt1559.2.1 bt1559.2.2 (([(⟨#[49]⟩ : ByteArray), (⟨#[50]⟩ : ByteArray)] : List ByteArray))).bind fun bt1565 => (if x3.length < 4398046511104 then (spec_l2Draw.l0 k (x3 ++ [(⟨rdOf ByteArray.empty x11 x13, bt1565.1⟩ : S164)]) x11 x12 (wrap64 (x13 + 1)) x1000 bt1565.2.1 bt1565.2.2) else (none))) else (spec_l2Draw.l0 k x3 x11 x12 (wrap64 (x13 + 1)) x1000 bt1559.2.1 bt1559.2.2))) else (none)) else (none)) else (some (x3, x1001, x1002))
def spec_l2Draw.f (k : Nat) (s0_0 : List Int) (s0_1 : Int) (s0_2 : Int) : Option ((List (S164)) × Int × Int) := (spec_l1Str.f s0_0 s0_1 s0_2 (([(⟨#[97]⟩ : ByteArray), (⟨#[98]⟩ : ByteArray), (⟨#[99]⟩ : ByteArray)] : List ByteArray))).bind fun bt1549 => ((some (([(⟨#[104, 111, 115, 116]⟩ : ByteArray), (⟨#[115, 101, 118]⟩ : ByteArray), (⟨#[122, 111, 110, 101]⟩ : ByteArray)] : List ByteArray) : List ByteArray)).bind fun y1555 => (spec_l2Draw.l0 k (([(⟨(⟨#[97, 112, 112]⟩ : ByteArray), bt1549.1⟩ : S164)] : List (S164))) y1555 (y1555.length : Int) 0 s0_0 bt1549.2.1 bt1549.2.2))
theorem spec_l2Draw.mono_l : ∀ k, (∀ y0 y1 y2 y3 y4 y5 y6, LeO (spec_l2Draw.l0 k y0 y1 y2 y3 y4 y5 y6) (spec_l2Draw.l0 (k + 1) y0 y1 y2 y3 y4 y5 y6))
 | 0 => fun _ _ _ _ _ _ _ r h => by simp [spec_l2Draw.l0] at h
 | k + 1 => by
  have ih0 := spec_l2Draw.mono_l k
  intro y0 y1 y2 y3 y4 y5 y6
  unfold spec_l2Draw.l0
  repeat' first
  | (with_reducible exact ih0 _ _ _ _ _ _ _)
  | (with_reducible exact LeO.refl _)
  | (with_reducible exact LeO.none _)
  | (with_reducible refine LeO.ite ?_ ?_)
  | (with_reducible refine LeO.bind ?_ (fun _ => ?_))
  | exact ih0 _ _ _ _ _ _ _
theorem spec_l2Draw.mono : ∀ a0 a1 a2 k, LeO (spec_l2Draw.f k a0 a1 a2) (spec_l2Draw.f (k + 1) a0 a1 a2) := by
 intro a0 a1 a2 k
 have ih0 := spec_l2Draw.mono_l k
 unfold spec_l2Draw.f
 repeat' first
   | (with_reducible exact ih0 _ _ _ _ _ _ _)
   | (with_reducible exact LeO.refl _)
   | (with_reducible exact LeO.none _)
   | (with_reducible refine LeO.ite ?_ ?_)
   | (with_reducible refine LeO.bind ?_ (fun _ => ?_))
   | exact ih0 _ _ _ _ _ _ _
theorem spec_l2Draw.calls (k : Nat) (g : Nat) (s0_0 : List Int) (s0_1 : Int) (s0_2 : Int) (r1 : List (S164)) (r2 : Int) (r3 : Int) (w0 w : World) (hI : IsS173 w0 w g s0_0 s0_1 s0_2) (hB : Below w0.heap.size w0 w) (h : spec_l2Draw.f k s0_0 s0_1 s0_2 = some (r1, r2, r3)) :
  Calls Try.prog 160 #[.pointer (some ⟨g, 0, none⟩)] w fun e w' => ∃ v0_ : Value, e = .returned (v0_) ∧ Kd.R k164 164 w' w.heap.size (fun _ => True) v0_ r1 ∧ IsS173 w0 w' g s0_0 r2 r3 ∧ Below w0.heap.size w0 w' ∧ KeepBut w w' g none := by
 have hu164 := Try.underlying164
 have HI0 := Aside0.mk hI
 have HK := Aside0.mk (KeepBut.refl w g none)
 have HL := Aside0.mk hB.size
 clear hI
 have HW0 := Aside0.mk hB.size
 have HB := Aside0.mk hB
 clear hB
 have H : ((spec_l1Str.f s0_0 s0_1 s0_2 (([(⟨#[97]⟩ : ByteArray), (⟨#[98]⟩ : ByteArray), (⟨#[99]⟩ : ByteArray)] : List ByteArray))).bind fun bt1549 => ((some (([(⟨#[104, 111, 115, 116]⟩ : ByteArray), (⟨#[115, 101, 118]⟩ : ByteArray), (⟨#[122, 111, 110, 101]⟩ : ByteArray)] : List ByteArray) : List ByteArray)).bind fun y1555 => (spec_l2Draw.l0 k (([(⟨(⟨#[97, 112, 112]⟩ : ByteArray), bt1549.1⟩ : S164)] : List (S164))) y1555 (y1555.length : Int) 0 s0_0 bt1549.2.1 bt1549.2.2))) = some (r1, r2, r3) := h
 clear h
 obtain ⟨y1546, hy1546⟩ : ∃ y_ : List ByteArray, y_ = (([(⟨#[97]⟩ : ByteArray), (⟨#[98]⟩ : ByteArray), (⟨#[99]⟩ : ByteArray)] : List ByteArray)) := ⟨_, rfl⟩
 replace H : ((spec_l1Str.f s0_0 s0_1 s0_2 y1546).bind fun bt1549 => ((some (([(⟨#[104, 111, 115, 116]⟩ : ByteArray), (⟨#[115, 101, 118]⟩ : ByteArray), (⟨#[122, 111, 110, 101]⟩ : ByteArray)] : List ByteArray) : List ByteArray)).bind fun y1555 => (spec_l2Draw.l0 k (([(⟨(⟨#[97, 112, 112]⟩ : ByteArray), bt1549.1⟩ : S164)] : List (S164))) y1555 (y1555.length : Int) 0 s0_0 bt1549.2.1 bt1549.2.2))) = some (r1, r2, r3) := by first | (rw [hy1546]; with_reducible exact H) | (have H2_ := (Option.bind_some _ _).symm.trans H; rw [hy1546]; with_reducible exact H2_) | (have H2_ := (Option.bind_some _ _).symm.trans H; with_reducible exact H2_) | with_reducible exact H | (rw [hy1546]; exact H) | exact H
 have Ny1546 := Aside0.mk hy1546
 clear hy1546
 replace H := Option.bind_eq_some_iff.mp H
 obtain ⟨⟨t1549, t1550, t1551⟩, A20, H⟩ := H
 have A2 := Aside0.mk A20
 clear A20
 obtain ⟨y1552, hy1552⟩ : ∃ y_ : List (S164), y_ = (([(⟨(⟨#[97, 112, 112]⟩ : ByteArray), t1549⟩ : S164)] : List (S164))) := ⟨_, rfl⟩
 replace H : ((some (([(⟨#[104, 111, 115, 116]⟩ : ByteArray), (⟨#[115, 101, 118]⟩ : ByteArray), (⟨#[122, 111, 110, 101]⟩ : ByteArray)] : List ByteArray) : List ByteArray)).bind fun y1555 => (spec_l2Draw.l0 k y1552 y1555 (y1555.length : Int) 0 s0_0 t1550 t1551)) = some (r1, r2, r3) := by first | (rw [hy1552]; with_reducible exact H) | (have H2_ := (Option.bind_some _ _).symm.trans H; rw [hy1552]; with_reducible exact H2_) | (have H2_ := (Option.bind_some _ _).symm.trans H; with_reducible exact H2_) | with_reducible exact H | (rw [hy1552]; exact H) | exact H
 have Ny1552 := Aside0.mk hy1552
 clear hy1552
 obtain ⟨y1555, hy1555⟩ : ∃ y_ : List ByteArray, y_ = (([(⟨#[104, 111, 115, 116]⟩ : ByteArray), (⟨#[115, 101, 118]⟩ : ByteArray), (⟨#[122, 111, 110, 101]⟩ : ByteArray)] : List ByteArray)) := ⟨_, rfl⟩
 replace H : (spec_l2Draw.l0 k y1552 y1555 (y1555.length : Int) 0 s0_0 t1550 t1551) = some (r1, r2, r3) := by first | (rw [hy1555]; with_reducible exact H) | (have H2_ := (Option.bind_some _ _).symm.trans H; rw [hy1555]; with_reducible exact H2_) | (have H2_ := (Option.bind_some _ _).symm.trans H; with_reducible exact H2_) | with_reducible exact H | (rw [hy1555]; exact H) | exact H
 have Ny1555 := Aside0.mk hy1555
 clear hy1555
 have H' := Aside0.mk H
 clear H
 go_enter Try.func160, Try.ntmps160
 go_wp2_with (first | ((with_reducible refine gate_dst (N := 7) rfl ?_); refine Kd.R_lit Kd.string _ 9 ?hg (N := 7) ?hd (xs := ([(⟨#[97]⟩ : ByteArray), (⟨#[98]⟩ : ByteArray), (⟨#[99]⟩ : ByteArray)] : List ByteArray)) (inner := [.string (⟨#[97]⟩ : ByteArray), .string (⟨#[98]⟩ : ByteArray), .string (⟨#[99]⟩ : ByteArray)]) (ok := fun _ => True) (okp := fun _ => True) ?hr ?hp (fun _ hk => hk) trivial (Below.refl _ _) (Nat.le_refl _) (by simp) ?_; (case hd => rfl); (case hg => rfl); (case hr => first | (go_simp; done) | (go_simp; rfl)); (case hp => exact (Reps.one (show Kd.M Kd.string _ _ _ (⟨#[97]⟩ : ByteArray) [.string (⟨#[97]⟩ : ByteArray)] from rfl) (Reps.one (show Kd.M Kd.string _ _ _ (⟨#[98]⟩ : ByteArray) [.string (⟨#[98]⟩ : ByteArray)] from rfl) (Reps.one (show Kd.M Kd.string _ _ _ (⟨#[99]⟩ : ByteArray) [.string (⟨#[99]⟩ : ByteArray)] from rfl) (Reps.none _ _))))); intro v1547 w3 ho4 hb hg_ hnew_; clear hg_ hnew_; (first | rw [← Ny1546.out] at ho4 | (simp only [Int.reduceToNat] at ho4; rw [← Ny1546.out] at ho4)); have n0_ := Aside0.mk (Kd.R_lower ho4 (keep_size (w := w) (g := g) (row := none) (by repeat (first | (with_reducible first | exact HK.out | apply KeepBut.set_ | apply keep_drewN | apply keep_drew | apply keep_alloc) | exact HK.out)))); have n1_ := Aside0.mk (IsS173.below (by repeat (first | (with_reducible first | exact HI0.out | apply IsS173.alloc | apply IsS173.drewN | apply IsS173.drew | apply IsS173.set_1 | apply IsS173.set_2) | exact HI0.out)) hb); have n2_ := Aside0.mk (KeepBut.trans (by repeat (first | (with_reducible first | exact HK.out | apply KeepBut.set_ | apply keep_drewN | apply keep_drew | apply keep_alloc) | exact HK.out)) (KeepBut.of_below hb g none) (.inl rfl)); have n3_ := Aside0.mk (below_step (by repeat (first | (with_reducible first | exact HB.out | apply ba_ | apply bn_ | apply bd_ | refine below_set ?_ (IsS173.ge HI0.out)) | exact HB.out)) hb); clear HI0; clear HK; clear HB; have HO1548 := n0_; have HI0 := n1_; have HK := n2_; have HB := n3_; clear n0_ n1_ n2_ n3_; clear hb ho4; obtain ⟨Ao5, co5, eo5⟩ := Kd.R_slice HO1548.out; subst eo5) | ((with_reducible refine gate_callee (f := 174) rfl ?_); refine goesL_ (some 8) rfl rfl Try.func174 (by kernel_rfl) rfl #[.pointer (some ⟨g, 0, none⟩), .slice Ao5 y1546.length co5] rfl (by (try simp only [mp_]); first | done | rfl | (simp only [List.length_drop, List.length_take]; rfl)) ?_; (with_reducible refine (spec_l1Str.calls g s0_0 s0_1 s0_2 _ _ y1546 t1549 t1550 t1551 w0 _ ?side1 ?side2 ?side3 ?side4 ?side5 A2.out).mono ?_); (case side1 => repeat (first | (with_reducible first | exact HI0.out | apply IsS173.alloc | apply IsS173.drewN | apply IsS173.drew | apply IsS173.set_1 | apply IsS173.set_2) | exact HI0.out)); (case side2 => repeat (first | (with_reducible first | exact HB.out | apply ba_ | apply bn_ | apply bd_ | refine below_set ?_ (IsS173.ge HI0.out)) | exact HB.out)); (case side3 => repeat (first | exact (Kd.R_reads' HO1548.out).2.2 | (with_reducible first | refine ca_ ?_ _ | refine cn_ ?_ _ | refine cd_ ?_))); (case side4 => exact (Kd.R_reads' HO1548.out).2.1); (case side5 => exact far_slice (IsS173.own_ne HI0.out HO1548.out (by decide))); rintro e w6 ⟨rfl, hi, hb, hk⟩; refine ⟨_, rfl, ?_⟩; have n0_ := Aside0.mk (Kd.R_mono (Kd.R_keep (IsS173.apart (show IsS173 w0 _ g s0_0 s0_1 s0_2 from by repeat (first | (with_reducible first | exact HI0.out | apply IsS173.alloc | apply IsS173.drewN | apply IsS173.drew | apply IsS173.set_1 | apply IsS173.set_2) | exact HI0.out)) (rp_ HO1548.out) (by decide)) hk (fun _ h => h.2)) (fun _ h => h.1)); have n1_ := Aside0.mk (KeepBut.trans (by repeat (first | (with_reducible first | exact HK.out | apply KeepBut.set_ | apply keep_drewN | apply keep_drew | apply keep_alloc) | exact HK.out)) hk (.inl rfl)); have n2_ := Aside0.mk (hb); have n3_ := Aside0.mk (hi); clear HO1548; clear HK; clear HB; clear HI0; have HO1548 := n0_; have HK := n1_; have HB := n2_; have HI0 := n3_; clear n0_ n1_ n2_ n3_; (try clear hb); (try clear hb2); (try clear hk); (try clear hi)) | ((with_reducible refine gate_dst (N := 10) rfl ?_); refine Kd.R_lit k164 _ 164 ?hg (N := 10) ?hd (xs := ([(⟨(⟨#[97, 112, 112]⟩ : ByteArray), t1549⟩ : S164)] : List (S164))) (inner := [.string (⟨#[97, 112, 112]⟩ : ByteArray), .string t1549]) (ok := fun _ => True) (okp := fun _ => True) ?hr ?hp (fun _ hk => hk) trivial (Below.refl _ _) (Nat.le_refl _) (by simp) ?_; (case hd => rfl); (case hg => rfl); (case hr => first | (go_simp; done) | (go_simp; rfl)); (case hp => exact (Reps.c2 (show Kd.M k164 _ _ _ (⟨(⟨#[97, 112, 112]⟩ : ByteArray), t1549⟩ : S164) [.string (⟨#[97, 112, 112]⟩ : ByteArray), .string t1549] from (k164_mkM _ _ _ (⟨(⟨#[97, 112, 112]⟩ : ByteArray), t1549⟩ : S164) )) (Reps.none _ _))); intro v1553 w7 ho8 hb hg_ hnew_; clear hg_ hnew_; (first | rw [← Ny1552.out] at ho8 | (simp only [Int.reduceToNat] at ho8; rw [← Ny1552.out] at ho8)); have n0_ := Aside0.mk (Kd.R_below (rp_ HO1548.out) hb); have n1_ := Aside0.mk (Kd.R_lower ho8 (keep_size (w := w) (g := g) (row := none) (by repeat (first | (with_reducible first | exact HK.out | apply KeepBut.set_ | apply keep_drewN | apply keep_drew | apply keep_alloc) | exact HK.out)))); have n2_ := Aside0.mk (IsS173.below (by repeat (first | (with_reducible first | exact HI0.out | apply IsS173.alloc | apply IsS173.drewN | apply IsS173.drew | apply IsS173.set_1 | apply IsS173.set_2) | exact HI0.out)) hb); have n3_ := Aside0.mk (KeepBut.trans (by repeat (first | (with_reducible first | exact HK.out | apply KeepBut.set_ | apply keep_drewN | apply keep_drew | apply keep_alloc) | exact HK.out)) (KeepBut.of_below hb g none) (.inl rfl)); have n4_ := Aside0.mk (below_step (by repeat (first | (with_reducible first | exact HB.out | apply ba_ | apply bn_ | apply bd_ | refine below_set ?_ (IsS173.ge HI0.out)) | exact HB.out)) hb); clear HO1548; clear HI0; clear HK; clear HB; have HO1548 := n0_; have HO1554 := n1_; have HI0 := n2_; have HK := n3_; have HB := n4_; clear n0_ n1_ n2_ n3_ n4_; clear hb ho8) | ((with_reducible refine gate_dst (N := 11) rfl ?_); refine Kd.R_lit Kd.string _ 9 ?hg (N := 11) ?hd (xs := ([(⟨#[104, 111, 115, 116]⟩ : ByteArray), (⟨#[115, 101, 118]⟩ : ByteArray), (⟨#[122, 111, 110, 101]⟩ : ByteArray)] : List ByteArray)) (inner := [.string (⟨#[104, 111, 115, 116]⟩ : ByteArray), .string (⟨#[115, 101, 118]⟩ : ByteArray), .string (⟨#[122, 111, 110, 101]⟩ : ByteArray)]) (ok := fun _ => True) (okp := fun _ => True) ?hr ?hp (fun _ hk => hk) trivial (Below.refl _ _) (Nat.le_refl _) (by simp) ?_; (case hd => rfl); (case hg => rfl); (case hr => first | (go_simp; done) | (go_simp; rfl)); (case hp => exact (Reps.one (show Kd.M Kd.string _ _ _ (⟨#[104, 111, 115, 116]⟩ : ByteArray) [.string (⟨#[104, 111, 115, 116]⟩ : ByteArray)] from rfl) (Reps.one (show Kd.M Kd.string _ _ _ (⟨#[115, 101, 118]⟩ : ByteArray) [.string (⟨#[115, 101, 118]⟩ : ByteArray)] from rfl) (Reps.one (show Kd.M Kd.string _ _ _ (⟨#[122, 111, 110, 101]⟩ : ByteArray) [.string (⟨#[122, 111, 110, 101]⟩ : ByteArray)] from rfl) (Reps.none _ _))))); intro v1556 w9 ho10 hb hg_ hnew_; clear hg_ hnew_; (first | rw [← Ny1555.out] at ho10 | (simp only [Int.reduceToNat] at ho10; rw [← Ny1555.out] at ho10)); have n0_ := Aside0.mk (Kd.R_elder' (rp_ HO1548.out) (Kd.R_base ho10) hb); have n1_ := Aside0.mk (Kd.R_below (rp_ HO1554.out) hb); have n2_ := Aside0.mk (Kd.R_lower (Kd.R_new' ho10 (Kd.R_lt (rp_ HO1548.out))) (keep_size (w := w) (g := g) (row := none) (by repeat (first | (with_reducible first | exact HK.out | apply KeepBut.set_ | apply keep_drewN | apply keep_drew | apply keep_alloc) | exact HK.out)))); have n3_ := Aside0.mk (IsS173.below (by repeat (first | (with_reducible first | exact HI0.out | apply IsS173.alloc | apply IsS173.drewN | apply IsS173.drew | apply IsS173.set_1 | apply IsS173.set_2) | exact HI0.out)) hb); have n4_ := Aside0.mk (KeepBut.trans (by repeat (first | (with_reducible first | exact HK.out | apply KeepBut.set_ | apply keep_drewN | apply keep_drew | apply keep_alloc) | exact HK.out)) (KeepBut.of_below hb g none) (.inl rfl)); have n5_ := Aside0.mk (below_step (by repeat (first | (with_reducible first | exact HB.out | apply ba_ | apply bn_ | apply bd_ | refine below_set ?_ (IsS173.ge HI0.out)) | exact HB.out)) hb); clear HO1548; clear HO1554; clear HI0; clear HK; clear HB; have HO1548 := n0_; have HO1554 := n1_; have HO1557 := n2_; have HI0 := n3_; have HK := n4_; have HB := n5_; clear n0_ n1_ n2_ n3_ n4_ n5_; clear hb ho10; obtain ⟨Ao11, co11, eo11⟩ := Kd.R_slice HO1557.out; subst eo11))
 go_loopg [3, 13] k (fun kq v3 v13 w' => ∃ (x3_1 : List (S164)) (x13_1 : Int) (x1001_1 : Int) (x1002_1 : Int), v13 = .int .i64 x13_1 ∧ Aside0 (spec_l2Draw.l0 kq x3_1 y1555 (y1555.length : Int) x13_1 s0_0 x1001_1 x1002_1 = some (r1, r2, r3)) ∧ Aside0 (kq ≤ k) ∧ Aside0 (Kd.R k164 164 w' w.heap.size (fun _ => True) v3 x3_1) ∧ Aside0 (Kd.R Kd.string 9 w' w.heap.size (fun _ => True) (.slice Ao11 y1555.length co11) y1555) ∧ Aside0 (IsS173 w0 w' g s0_0 x1001_1 x1002_1) ∧ Aside0 (KeepBut w w' g none) ∧ Aside0 (Below w0.heap.size w0 w'))
 case atStart => exact ⟨(y1552), (0), (t1550), (t1551), (by first | rfl | (simp; done) | (simp [*]; done)), H', ⟨Nat.le_refl _⟩, ⟨by (with_reducible repeat (first | apply Kd.R_alloc | apply Kd.R_drewN | apply Kd.R_drew)); exact HO1554.out⟩, ⟨by (with_reducible repeat (first | apply Kd.R_alloc | apply Kd.R_drewN | apply Kd.R_drew)); exact Kd.R_mono HO1557.out (fun _ hk => trivial)⟩, ⟨by repeat (first | (with_reducible first | exact HI0.out | apply IsS173.alloc | apply IsS173.drewN | apply IsS173.drew | apply IsS173.set_1 | apply IsS173.set_2) | exact HI0.out)⟩, ⟨by repeat (first | (with_reducible first | exact HK.out | apply KeepBut.set_ | apply keep_drewN | apply keep_drew | apply keep_alloc) | exact HK.out)⟩, ⟨by repeat (first | (with_reducible first | exact HB.out | apply ba_ | apply bn_ | apply bd_ | refine below_set ?_ (IsS173.ge HI0.out)) | exact HB.out)⟩⟩
 case round =>
  clear H'
  try clear c1
  try clear c2
  try clear p2
  obtain ⟨x3_1, x13_1, x1001_1, x1002_1, rfl, HA, HK1, HO_3, HO_11, HI0, HK, HB⟩ := hrel
  cases gk with
  | zero => exact absurd HA.out (by simp [spec_l2Draw.l0])
  | succ k1 =>
   have H := HA.out
   clear HA
   simp only [spec_l2Draw.l0] at H
   by_cases c12 : x13_1 < (y1555.length : Int)
   ·
    rw [if_pos c12] at H
    have c12b0 := decide_eq_true c12
    clear c12
    by_cases c13 : 0 ≤ x13_1
    ·
     rw [if_pos c13] at H
     have c13b0 := decide_eq_true c13
     clear c13
     by_cases c14 : x13_1 < (y1555.length : Int)
     ·
      rw [if_pos c14] at H
      have c14b0 := decide_eq_true c14
      clear c14
      replace H := Option.bind_eq_some_iff.mp H
      obtain ⟨⟨t1559, t1560, t1561⟩, A150, H⟩ := H
      have A15 := Aside0.mk A150
      clear A150
      by_cases c16 : t1559 = true
      ·
       subst c16
       rw [if_pos rfl] at H
       obtain ⟨y1562, hy1562⟩ : ∃ y_ : List ByteArray, y_ = (([(⟨#[49]⟩ : ByteArray), (⟨#[50]⟩ : ByteArray)] : List ByteArray)) := ⟨_, rfl⟩
       replace H : ((spec_l1Str.f s0_0 t1560 t1561 y1562).bind fun bt1565 => (if x3_1.length < 4398046511104 then (spec_l2Draw.l0 k1 (x3_1 ++ [(⟨rdOf ByteArray.empty y1555 x13_1, bt1565.1⟩ : S164)]) y1555 (y1555.length : Int) (wrap64 (x13_1 + 1)) s0_0 bt1565.2.1 bt1565.2.2) else (none))) = some (r1, r2, r3) := by first | (rw [hy1562]; with_reducible exact H) | (have H2_ := (Option.bind_some _ _).symm.trans H; rw [hy1562]; with_reducible exact H2_) | (have H2_ := (Option.bind_some _ _).symm.trans H; with_reducible exact H2_) | with_reducible exact H | (rw [hy1562]; exact H) | exact H
       have Ny1562 := Aside0.mk hy1562
       clear hy1562
       replace H := Option.bind_eq_some_iff.mp H
       obtain ⟨⟨t1565, t1566, t1567⟩, A170, H⟩ := H
       have A17 := Aside0.mk A170
       clear A170
       by_cases c18 : x3_1.length < 4398046511104
       ·
        rw [if_pos c18] at H
        have LMc18 := Aside0.mk c18
        clear c18
        obtain ⟨y1568, hy1568⟩ : ∃ y_ : List (S164), y_ = (x3_1 ++ [(⟨rdOf ByteArray.empty y1555 x13_1, t1565⟩ : S164)]) := ⟨_, rfl⟩
        replace H : (spec_l2Draw.l0 k1 y1568 y1555 (y1555.length : Int) (wrap64 (x13_1 + 1)) s0_0 t1566 t1567) = some (r1, r2, r3) := by first | (rw [hy1568]; with_reducible exact H) | (have H2_ := (Option.bind_some _ _).symm.trans H; rw [hy1568]; with_reducible exact H2_) | (have H2_ := (Option.bind_some _ _).symm.trans H; with_reducible exact H2_) | with_reducible exact H | (rw [hy1568]; exact H) | exact H
        have Ny1568 := Aside0.mk hy1568
        clear hy1568
        have H' := Aside0.mk H
        clear H
        have p1558 : 0 ≤ (x13_1 : Int) := of_decide_eq_true (by with_reducible assumption)
        have q1558 : x13_1 < (y1555.length : Int) := of_decide_eq_true (by with_reducible assumption)
        obtain ⟨ad1558, e1558, hx1558_0⟩ := Kd.at_string (Kd.R_reads' HO_11.out).2.2 x13_1 p1558 q1558
        cases e1558
        replace p1558 := eq_true p1558
        replace q1558 := eq_true q1558
        go_wp2_with (first | ((with_reducible refine gate_callee (f := 136) rfl ?_); refine goesL_ (some 18) rfl rfl Try.func136 (by kernel_rfl) rfl #[.pointer (some ⟨g, 0, none⟩), .int .i64 4] rfl (by (try simp only [mp_]); first | done | rfl | (simp only [List.length_drop, List.length_take]; rfl)) ?_; (with_reducible refine (spec_l1Once.calls g s0_0 x1001_1 x1002_1 4 true t1560 t1561 w0 _ ?side1 ?side2 A15.out).mono ?_); (case side1 => repeat (first | (with_reducible first | exact HI0.out | apply IsS173.alloc | apply IsS173.drewN | apply IsS173.drew | apply IsS173.set_1 | apply IsS173.set_2) | exact HI0.out)); (case side2 => repeat (first | (with_reducible first | exact HB.out | apply ba_ | apply bn_ | apply bd_ | refine below_set ?_ (IsS173.ge HI0.out)) | exact HB.out)); rintro e w19 ⟨rfl, hi, hb, hk⟩; refine ⟨_, rfl, ?_⟩; have n0_ := Aside0.mk (Kd.R_mono (Kd.R_keep (IsS173.apart (show IsS173 w0 _ g s0_0 x1001_1 x1002_1 from by repeat (first | (with_reducible first | exact HI0.out | apply IsS173.alloc | apply IsS173.drewN | apply IsS173.drew | apply IsS173.set_1 | apply IsS173.set_2) | exact HI0.out)) (rp_ HO_3.out) (by decide)) hk (fun _ h => h.2)) (fun _ h => h.1)); have n1_ := Aside0.mk (Kd.R_mono (Kd.R_keep (IsS173.apart (show IsS173 w0 _ g s0_0 x1001_1 x1002_1 from by repeat (first | (with_reducible first | exact HI0.out | apply IsS173.alloc | apply IsS173.drewN | apply IsS173.drew | apply IsS173.set_1 | apply IsS173.set_2) | exact HI0.out)) (rp_ HO_11.out) (by decide)) hk (fun _ h => h.2)) (fun _ h => h.1)); have n2_ := Aside0.mk (KeepBut.trans (by repeat (first | (with_reducible first | exact HK.out | apply KeepBut.set_ | apply keep_drewN | apply keep_drew | apply keep_alloc) | exact HK.out)) hk (.inl rfl)); have n3_ := Aside0.mk (hb); have n4_ := Aside0.mk (hi); clear HO_3; clear HO_11; clear HK; clear HB; clear HI0; have HO_3 := n0_; have HO_11 := n1_; have HK := n2_; have HB := n3_; have HI0 := n4_; clear n0_ n1_ n2_ n3_ n4_; (try clear hb); (try clear hb2); (try clear hk); (try clear hi)) | ((with_reducible refine gate_dst (N := 22) rfl ?_); refine Kd.R_lit Kd.string _ 9 ?hg (N := 22) ?hd (xs := ([(⟨#[49]⟩ : ByteArray), (⟨#[50]⟩ : ByteArray)] : List ByteArray)) (inner := [.string (⟨#[49]⟩ : ByteArray), .string (⟨#[50]⟩ : ByteArray)]) (ok := fun _ => True) (okp := fun _ => True) ?hr ?hp (fun _ hk => hk) trivial (Below.refl _ _) (Nat.le_refl _) (by simp) ?_; (case hd => rfl); (case hg => rfl); (case hr => first | (go_simp; done) | (go_simp; rfl)); (case hp => exact (Reps.one (show Kd.M Kd.string _ _ _ (⟨#[49]⟩ : ByteArray) [.string (⟨#[49]⟩ : ByteArray)] from rfl) (Reps.one (show Kd.M Kd.string _ _ _ (⟨#[50]⟩ : ByteArray) [.string (⟨#[50]⟩ : ByteArray)] from rfl) (Reps.none _ _)))); intro v1563 w20 ho21 hb hg_ hnew_; clear hg_ hnew_; (first | rw [← Ny1562.out] at ho21 | (simp only [Int.reduceToNat] at ho21; rw [← Ny1562.out] at ho21)); have n0_ := Aside0.mk (Kd.R_below (rp_ HO_3.out) hb); have n1_ := Aside0.mk (Kd.R_elder' (rp_ HO_11.out) (Kd.R_base ho21) hb); have n2_ := Aside0.mk (Kd.R_lower (Kd.R_new' ho21 (Kd.R_lt (rp_ HO_11.out))) (keep_size (w := w) (g := g) (row := none) (by repeat (first | (with_reducible first | exact HK.out | apply KeepBut.set_ | apply keep_drewN | apply keep_drew | apply keep_alloc) | exact HK.out)))); have n3_ := Aside0.mk (IsS173.below (by repeat (first | (with_reducible first | exact HI0.out | apply IsS173.alloc | apply IsS173.drewN | apply IsS173.drew | apply IsS173.set_1 | apply IsS173.set_2) | exact HI0.out)) hb); have n4_ := Aside0.mk (KeepBut.trans (by repeat (first | (with_reducible first | exact HK.out | apply KeepBut.set_ | apply keep_drewN | apply keep_drew | apply keep_alloc) | exact HK.out)) (KeepBut.of_below hb g none) (.inl rfl)); have n5_ := Aside0.mk (below_step (by repeat (first | (with_reducible first | exact HB.out | apply ba_ | apply bn_ | apply bd_ | refine below_set ?_ (IsS173.ge HI0.out)) | exact HB.out)) hb); clear HO_3; clear HO_11; clear HI0; clear HK; clear HB; have HO_3 := n0_; have HO_11 := n1_; have HO1564 := n2_; have HI0 := n3_; have HK := n4_; have HB := n5_; clear n0_ n1_ n2_ n3_ n4_ n5_; clear hb ho21; obtain ⟨Ao22, co22, eo22⟩ := Kd.R_slice HO1564.out; subst eo22) | ((with_reducible refine gate_callee (f := 174) rfl ?_); refine goesL_ (some 23) rfl rfl Try.func174 (by kernel_rfl) rfl #[.pointer (some ⟨g, 0, none⟩), .slice Ao22 y1562.length co22] rfl (by (try simp only [mp_]); first | done | rfl | (simp only [List.length_drop, List.length_take]; rfl)) ?_; (with_reducible refine (spec_l1Str.calls g s0_0 t1560 t1561 _ _ y1562 t1565 t1566 t1567 w0 _ ?side1 ?side2 ?side3 ?side4 ?side5 A17.out).mono ?_); (case side1 => repeat (first | (with_reducible first | exact HI0.out | apply IsS173.alloc | apply IsS173.drewN | apply IsS173.drew | apply IsS173.set_1 | apply IsS173.set_2) | exact HI0.out)); (case side2 => repeat (first | (with_reducible first | exact HB.out | apply ba_ | apply bn_ | apply bd_ | refine below_set ?_ (IsS173.ge HI0.out)) | exact HB.out)); (case side3 => repeat (first | exact (Kd.R_reads' HO1564.out).2.2 | (with_reducible first | refine ca_ ?_ _ | refine cn_ ?_ _ | refine cd_ ?_))); (case side4 => exact (Kd.R_reads' HO1564.out).2.1); (case side5 => exact far_slice (IsS173.own_ne HI0.out HO1564.out (by decide))); rintro e w23 ⟨rfl, hi, hb, hk⟩; refine ⟨_, rfl, ?_⟩; have n0_ := Aside0.mk (Kd.R_mono (Kd.R_keep (IsS173.apart (show IsS173 w0 _ g s0_0 t1560 t1561 from by repeat (first | (with_reducible first | exact HI0.out | apply IsS173.alloc | apply IsS173.drewN | apply IsS173.drew | apply IsS173.set_1 | apply IsS173.set_2) | exact HI0.out)) (rp_ HO_3.out) (by decide)) hk (fun _ h => h.2)) (fun _ h => h.1)); have n1_ := Aside0.mk (Kd.R_mono (Kd.R_keep (IsS173.apart (show IsS173 w0 _ g s0_0 t1560 t1561 from by repeat (first | (with_reducible first | exact HI0.out | apply IsS173.alloc | apply IsS173.drewN | apply IsS173.drew | apply IsS173.set_1 | apply IsS173.set_2) | exact HI0.out)) (rp_ HO_11.out) (by decide)) hk (fun _ h => h.2)) (fun _ h => h.1)); have n2_ := Aside0.mk (Kd.R_mono (Kd.R_keep (IsS173.apart (show IsS173 w0 _ g s0_0 t1560 t1561 from by repeat (first | (with_reducible first | exact HI0.out | apply IsS173.alloc | apply IsS173.drewN | apply IsS173.drew | apply IsS173.set_1 | apply IsS173.set_2) | exact HI0.out)) (rp_ HO1564.out) (by decide)) hk (fun _ h => h.2)) (fun _ h => h.1)); have n3_ := Aside0.mk (KeepBut.trans (by repeat (first | (with_reducible first | exact HK.out | apply KeepBut.set_ | apply keep_drewN | apply keep_drew | apply keep_alloc) | exact HK.out)) hk (.inl rfl)); have n4_ := Aside0.mk (hb); have n5_ := Aside0.mk (hi); clear HO_3; clear HO_11; clear HO1564; clear HK; clear HB; clear HI0; have HO_3 := n0_; have HO_11 := n1_; have HO1564 := n2_; have HK := n3_; have HB := n4_; have HI0 := n5_; clear n0_ n1_ n2_ n3_ n4_ n5_; (try clear hb); (try clear hb2); (try clear hk); (try clear hi)) | ((with_reducible refine gate_builtin (b := .append) (xs := #[.tmp 19, .tmp 25]) rfl ?_); at_builtin; refine Kd.R_append k164 w.heap.size rfl (.tmp 19) (.tmp 25) 42 164 (.agg #[(.string ⟨#[]⟩), (.string ⟨#[]⟩)]) 32 rfl Try.underlying42 info164 rfl (by decide) (by omega) u3 x3_1 (⟨rdOf ByteArray.empty y1555 x13_1, t1565⟩ : S164) [.string (rdOf ByteArray.empty y1555 x13_1), .string t1565] (fun _ => True) (fun _ => False) rfl rfl ?aP (fun _ hk => hk.elim) ?aF ?aO (Below.refl _ _) ?aS ?aL ?_; (case aP => exact k164_mkM _ _ _ (⟨rdOf ByteArray.empty y1555 x13_1, t1565⟩ : S164)); (case aF => exact (fun _ _ => trivial)); (case aO => exact (rp_ HO_3.out)); (case aS => exact (keep_size (w := w) (g := g) (row := none) (by repeat (first | (with_reducible first | exact HK.out | apply KeepBut.set_ | apply keep_drewN | apply keep_drew | apply keep_alloc) | exact HK.out)))); (case aL => have := LMc18.out; omega); intro v1569 w24 ho hb hg hat; rw [← Ny1568.out] at ho; have n0_ := Aside0.mk (Kd.R_over' (rp_ HO_11.out) (Kd.R_typed (rp_ HO_3.out)) (by decide) hg); have n1_ := Aside0.mk (IsS173.grown (by repeat (first | (with_reducible first | exact HI0.out | apply IsS173.alloc | apply IsS173.drewN | apply IsS173.drew | apply IsS173.set_1 | apply IsS173.set_2) | exact HI0.out)) hg (IsS173.own_ne HI0.out HO_3.out (by decide))); have n2_ := Aside0.mk (Kd.R_over' (rp_ HO1564.out) (Kd.R_typed (rp_ HO_3.out)) (by decide) hg); have n3_ := Aside0.mk (below_weaken (by repeat (first | (with_reducible first | exact HB.out | apply ba_ | apply bn_ | apply bd_ | refine below_set ?_ (IsS173.ge HI0.out)) | exact HB.out)) HL.out hb); have n4_ := Aside0.mk (KeepBut.trans (by repeat (first | (with_reducible first | exact HK.out | apply KeepBut.set_ | apply keep_drewN | apply keep_drew | apply keep_alloc) | exact HK.out)) (KeepBut.of_grown hg g) (Kd.R_base2 HO_3.out)); have n5_ := Aside0.mk (ho); clear HO_11; clear HI0; clear HO1564; clear HB; clear HK; clear HO_3; have HO_11 := n0_; have HI0 := n1_; have HO1564 := n2_; have HB := n3_; have HK := n4_; have HO1570 := n5_; clear n0_ n1_ n2_ n3_ n4_ n5_; clear ho hb hg hat))
        go_roundg k1
        case measure => have := HK1.out; omega
        case rel => exact ⟨(y1568), (wrap64 (x13_1 + 1)), (t1566), (t1567), (by first | rfl | (simp; done) | (simp [*]; done)), H', ⟨by have := HK1.out; omega⟩, ⟨by (with_reducible repeat (first | apply Kd.R_alloc | apply Kd.R_drewN | apply Kd.R_drew)); exact HO1570.out⟩, ⟨by (with_reducible repeat (first | apply Kd.R_alloc | apply Kd.R_drewN | apply Kd.R_drew)); exact Kd.R_mono HO_11.out (fun _ hk => trivial)⟩, ⟨by repeat (first | (with_reducible first | exact HI0.out | apply IsS173.alloc | apply IsS173.drewN | apply IsS173.drew | apply IsS173.set_1 | apply IsS173.set_2) | exact HI0.out)⟩, ⟨by repeat (first | (with_reducible first | exact HK.out | apply KeepBut.set_ | apply keep_drewN | apply keep_drew | apply keep_alloc) | exact HK.out)⟩, ⟨by repeat (first | (with_reducible first | exact HB.out | apply ba_ | apply bn_ | apply bd_ | refine below_set ?_ (IsS173.ge HI0.out)) | exact HB.out)⟩⟩
       rw [if_neg c18] at H
       exact absurd H (by simp)
      replace c16 := Bool.eq_false_iff.mpr c16
      subst c16
      rw [if_neg (show ¬ (false = true) by decide)] at H
      have H' := Aside0.mk H
      clear H
      have p1558 : 0 ≤ (x13_1 : Int) := of_decide_eq_true (by with_reducible assumption)
      have q1558 : x13_1 < (y1555.length : Int) := of_decide_eq_true (by with_reducible assumption)
      obtain ⟨ad1558, e1558, hx1558_0⟩ := Kd.at_string (Kd.R_reads' HO_11.out).2.2 x13_1 p1558 q1558
      cases e1558
      replace p1558 := eq_true p1558
      replace q1558 := eq_true q1558
      go_wp2_with (first | ((with_reducible refine gate_callee (f := 136) rfl ?_); refine goesL_ (some 18) rfl rfl Try.func136 (by kernel_rfl) rfl #[.pointer (some ⟨g, 0, none⟩), .int .i64 4] rfl (by (try simp only [mp_]); first | done | rfl | (simp only [List.length_drop, List.length_take]; rfl)) ?_; (with_reducible refine (spec_l1Once.calls g s0_0 x1001_1 x1002_1 4 false t1560 t1561 w0 _ ?side1 ?side2 A15.out).mono ?_); (case side1 => repeat (first | (with_reducible first | exact HI0.out | apply IsS173.alloc | apply IsS173.drewN | apply IsS173.drew | apply IsS173.set_1 | apply IsS173.set_2) | exact HI0.out)); (case side2 => repeat (first | (with_reducible first | exact HB.out | apply ba_ | apply bn_ | apply bd_ | refine below_set ?_ (IsS173.ge HI0.out)) | exact HB.out)); rintro e w25 ⟨rfl, hi, hb, hk⟩; refine ⟨_, rfl, ?_⟩; have n0_ := Aside0.mk (Kd.R_mono (Kd.R_keep (IsS173.apart (show IsS173 w0 _ g s0_0 x1001_1 x1002_1 from by repeat (first | (with_reducible first | exact HI0.out | apply IsS173.alloc | apply IsS173.drewN | apply IsS173.drew | apply IsS173.set_1 | apply IsS173.set_2) | exact HI0.out)) (rp_ HO_3.out) (by decide)) hk (fun _ h => h.2)) (fun _ h => h.1)); have n1_ := Aside0.mk (Kd.R_mono (Kd.R_keep (IsS173.apart (show IsS173 w0 _ g s0_0 x1001_1 x1002_1 from by repeat (first | (with_reducible first | exact HI0.out | apply IsS173.alloc | apply IsS173.drewN | apply IsS173.drew | apply IsS173.set_1 | apply IsS173.set_2) | exact HI0.out)) (rp_ HO_11.out) (by decide)) hk (fun _ h => h.2)) (fun _ h => h.1)); have n2_ := Aside0.mk (KeepBut.trans (by repeat (first | (with_reducible first | exact HK.out | apply KeepBut.set_ | apply keep_drewN | apply keep_drew | apply keep_alloc) | exact HK.out)) hk (.inl rfl)); have n3_ := Aside0.mk (hb); have n4_ := Aside0.mk (hi); clear HO_3; clear HO_11; clear HK; clear HB; clear HI0; have HO_3 := n0_; have HO_11 := n1_; have HK := n2_; have HB := n3_; have HI0 := n4_; clear n0_ n1_ n2_ n3_ n4_; (try clear hb); (try clear hb2); (try clear hk); (try clear hi)))
      go_roundg k1
      case measure => have := HK1.out; omega
      case rel => exact ⟨(x3_1), (wrap64 (x13_1 + 1)), (t1560), (t1561), (by first | rfl | (simp; done) | (simp [*]; done)), H', ⟨by have := HK1.out; omega⟩, ⟨by (with_reducible repeat (first | apply Kd.R_alloc | apply Kd.R_drewN | apply Kd.R_drew)); exact HO_3.out⟩, ⟨by (with_reducible repeat (first | apply Kd.R_alloc | apply Kd.R_drewN | apply Kd.R_drew)); exact HO_11.out⟩, ⟨by repeat (first | (with_reducible first | exact HI0.out | apply IsS173.alloc | apply IsS173.drewN | apply IsS173.drew | apply IsS173.set_1 | apply IsS173.set_2) | exact HI0.out)⟩, ⟨by repeat (first | (with_reducible first | exact HK.out | apply KeepBut.set_ | apply keep_drewN | apply keep_drew | apply keep_alloc) | exact HK.out)⟩, ⟨by repeat (first | (with_reducible first | exact HB.out | apply ba_ | apply bn_ | apply bd_ | refine below_set ?_ (IsS173.ge HI0.out)) | exact HB.out)⟩⟩
     rw [if_neg c14] at H
     exact absurd H (by simp)
    rw [if_neg c13] at H
    exact absurd H (by simp)
   rw [if_neg c12] at H
   have c12b0 : decide (x13_1 < (y1555.length : Int)) = false := decide_eq_false c12
   clear c12
   simp only [Option.some.injEq, Prod.mk.injEq] at H
   obtain ⟨rfl, rfl, rfl⟩ := H
   go_wp2
   go_ret
   exact ⟨_, by first | rfl | (simp [errW_none, errW_some] <;> rfl) | (simp [*, errW_none, errW_some] <;> rfl), by (with_reducible repeat (first | apply Kd.R_alloc | apply Kd.R_drewN | apply Kd.R_drew)); exact HO_3.out, by repeat (first | (with_reducible first | exact HI0.out | apply IsS173.alloc | apply IsS173.drewN | apply IsS173.drew | apply IsS173.set_1 | apply IsS173.set_2) | exact HI0.out), by repeat (first | (with_reducible first | exact HB.out | apply ba_ | apply bn_ | apply bd_ | refine below_set ?_ (IsS173.ge HI0.out)) | exact HB.out), by repeat (first | (with_reducible first | exact HK.out | apply KeepBut.set_ | apply keep_drewN | apply keep_drew | apply keep_alloc) | exact HK.out)⟩
def spec_l1Plain.f (s0_0 : List Int) (s0_1 : Int) (s0_2 : Int) : Option (ByteArray × Int × Int) := (spec_l1Str.f s0_0 s0_1 s0_2 (([(⟨#[97]⟩ : ByteArray), (⟨#[98]⟩ : ByteArray), (⟨#[120, 32, 121]⟩ : ByteArray), (⟨#[]⟩ : ByteArray), (⟨#[99, 114, 105, 116]⟩ : ByteArray), (⟨#[125, 45]⟩ : ByteArray)] : List ByteArray))).bind fun bt1574 => (some (bt1574.1, bt1574.2.1, bt1574.2.2))
theorem spec_l1Plain.calls (g : Nat) (s0_0 : List Int) (s0_1 : Int) (s0_2 : Int) (r1 : ByteArray) (r2 : Int) (r3 : Int) (w0 w : World) (hI : IsS173 w0 w g s0_0 s0_1 s0_2) (hB : Below w0.heap.size w0 w) (h : spec_l1Plain.f s0_0 s0_1 s0_2 = some (r1, r2, r3)) :
  Calls Try.prog 161 #[.pointer (some ⟨g, 0, none⟩)] w fun e w' => e = .returned (.string r1) ∧ IsS173 w0 w' g s0_0 r2 r3 ∧ Below w0.heap.size w0 w' ∧ KeepBut w w' g none := by
 have HI0 := Aside0.mk hI
 have HK := Aside0.mk (KeepBut.refl w g none)
 have HL := Aside0.mk hB.size
 clear hI
 have HW0 := Aside0.mk hB.size
 have HB := Aside0.mk hB
 clear hB
 have H : ((spec_l1Str.f s0_0 s0_1 s0_2 (([(⟨#[97]⟩ : ByteArray), (⟨#[98]⟩ : ByteArray), (⟨#[120, 32, 121]⟩ : ByteArray), (⟨#[]⟩ : ByteArray), (⟨#[99, 114, 105, 116]⟩ : ByteArray), (⟨#[125, 45]⟩ : ByteArray)] : List ByteArray))).bind fun bt1574 => (some (bt1574.1, bt1574.2.1, bt1574.2.2))) = some (r1, r2, r3) := h
 clear h
 obtain ⟨y1571, hy1571⟩ : ∃ y_ : List ByteArray, y_ = (([(⟨#[97]⟩ : ByteArray), (⟨#[98]⟩ : ByteArray), (⟨#[120, 32, 121]⟩ : ByteArray), (⟨#[]⟩ : ByteArray), (⟨#[99, 114, 105, 116]⟩ : ByteArray), (⟨#[125, 45]⟩ : ByteArray)] : List ByteArray)) := ⟨_, rfl⟩
 replace H : ((spec_l1Str.f s0_0 s0_1 s0_2 y1571).bind fun bt1574 => (some (bt1574.1, bt1574.2.1, bt1574.2.2))) = some (r1, r2, r3) := by first | (rw [hy1571]; with_reducible exact H) | (have H2_ := (Option.bind_some _ _).symm.trans H; rw [hy1571]; with_reducible exact H2_) | (have H2_ := (Option.bind_some _ _).symm.trans H; with_reducible exact H2_) | with_reducible exact H | (rw [hy1571]; exact H) | exact H
 have Ny1571 := Aside0.mk hy1571
 clear hy1571
 replace H := Option.bind_eq_some_iff.mp H
 obtain ⟨⟨t1574, t1575, t1576⟩, A20, H⟩ := H
 have A2 := Aside0.mk A20
 clear A20
 simp only [Option.some.injEq, Prod.mk.injEq] at H
 obtain ⟨rfl, rfl, rfl⟩ := H
 go_enter Try.func161, Try.ntmps161
 go_wp2_with (first | ((with_reducible refine gate_dst (N := 4) rfl ?_); refine Kd.R_lit Kd.string _ 9 ?hg (N := 4) ?hd (xs := ([(⟨#[97]⟩ : ByteArray), (⟨#[98]⟩ : ByteArray), (⟨#[120, 32, 121]⟩ : ByteArray), (⟨#[]⟩ : ByteArray), (⟨#[99, 114, 105, 116]⟩ : ByteArray), (⟨#[125, 45]⟩ : ByteArray)] : List ByteArray)) (inner := [.string (⟨#[97]⟩ : ByteArray), .string (⟨#[98]⟩ : ByteArray), .string (⟨#[120, 32, 121]⟩ : ByteArray), .string (⟨#[]⟩ : ByteArray), .string (⟨#[99, 114, 105, 116]⟩ : ByteArray), .string (⟨#[125, 45]⟩ : ByteArray)]) (ok := fun _ => True) (okp := fun _ => True) ?hr ?hp (fun _ hk => hk) trivial (Below.refl _ _) (Nat.le_refl _) (by simp) ?_; (case hd => rfl); (case hg => rfl); (case hr => first | (go_simp; done) | (go_simp; rfl)); (case hp => exact (Reps.one (show Kd.M Kd.string _ _ _ (⟨#[97]⟩ : ByteArray) [.string (⟨#[97]⟩ : ByteArray)] from rfl) (Reps.one (show Kd.M Kd.string _ _ _ (⟨#[98]⟩ : ByteArray) [.string (⟨#[98]⟩ : ByteArray)] from rfl) (Reps.one (show Kd.M Kd.string _ _ _ (⟨#[120, 32, 121]⟩ : ByteArray) [.string (⟨#[120, 32, 121]⟩ : ByteArray)] from rfl) (Reps.one (show Kd.M Kd.string _ _ _ (⟨#[]⟩ : ByteArray) [.string (⟨#[]⟩ : ByteArray)] from rfl) (Reps.one (show Kd.M Kd.string _ _ _ (⟨#[99, 114, 105, 116]⟩ : ByteArray) [.string (⟨#[99, 114, 105, 116]⟩ : ByteArray)] from rfl) (Reps.one (show Kd.M Kd.string _ _ _ (⟨#[125, 45]⟩ : ByteArray) [.string (⟨#[125, 45]⟩ : ByteArray)] from rfl) (Reps.none _ _)))))))); intro v1572 w3 ho4 hb hg_ hnew_; clear hg_ hnew_; (first | rw [← Ny1571.out] at ho4 | (simp only [Int.reduceToNat] at ho4; rw [← Ny1571.out] at ho4)); have n0_ := Aside0.mk (Kd.R_lower ho4 (keep_size (w := w) (g := g) (row := none) (by repeat (first | (with_reducible first | exact HK.out | apply KeepBut.set_ | apply keep_drewN | apply keep_drew | apply keep_alloc) | exact HK.out)))); have n1_ := Aside0.mk (IsS173.below (by repeat (first | (with_reducible first | exact HI0.out | apply IsS173.alloc | apply IsS173.drewN | apply IsS173.drew | apply IsS173.set_1 | apply IsS173.set_2) | exact HI0.out)) hb); have n2_ := Aside0.mk (KeepBut.trans (by repeat (first | (with_reducible first | exact HK.out | apply KeepBut.set_ | apply keep_drewN | apply keep_drew | apply keep_alloc) | exact HK.out)) (KeepBut.of_below hb g none) (.inl rfl)); have n3_ := Aside0.mk (below_step (by repeat (first | (with_reducible first | exact HB.out | apply ba_ | apply bn_ | apply bd_ | refine below_set ?_ (IsS173.ge HI0.out)) | exact HB.out)) hb); clear HI0; clear HK; clear HB; have HO1573 := n0_; have HI0 := n1_; have HK := n2_; have HB := n3_; clear n0_ n1_ n2_ n3_; clear hb ho4; obtain ⟨Ao5, co5, eo5⟩ := Kd.R_slice HO1573.out; subst eo5) | ((with_reducible refine gate_callee (f := 174) rfl ?_); refine goesL_ (some 5) rfl rfl Try.func174 (by kernel_rfl) rfl #[.pointer (some ⟨g, 0, none⟩), .slice Ao5 y1571.length co5] rfl (by (try simp only [mp_]); first | done | rfl | (simp only [List.length_drop, List.length_take]; rfl)) ?_; (with_reducible refine (spec_l1Str.calls g s0_0 s0_1 s0_2 _ _ y1571 t1574 t1575 t1576 w0 _ ?side1 ?side2 ?side3 ?side4 ?side5 A2.out).mono ?_); (case side1 => repeat (first | (with_reducible first | exact HI0.out | apply IsS173.alloc | apply IsS173.drewN | apply IsS173.drew | apply IsS173.set_1 | apply IsS173.set_2) | exact HI0.out)); (case side2 => repeat (first | (with_reducible first | exact HB.out | apply ba_ | apply bn_ | apply bd_ | refine below_set ?_ (IsS173.ge HI0.out)) | exact HB.out)); (case side3 => repeat (first | exact (Kd.R_reads' HO1573.out).2.2 | (with_reducible first | refine ca_ ?_ _ | refine cn_ ?_ _ | refine cd_ ?_))); (case side4 => exact (Kd.R_reads' HO1573.out).2.1); (case side5 => exact far_slice (IsS173.own_ne HI0.out HO1573.out (by decide))); rintro e w6 ⟨rfl, hi, hb, hk⟩; refine ⟨_, rfl, ?_⟩; have n0_ := Aside0.mk (Kd.R_mono (Kd.R_keep (IsS173.apart (show IsS173 w0 _ g s0_0 s0_1 s0_2 from by repeat (first | (with_reducible first | exact HI0.out | apply IsS173.alloc | apply IsS173.drewN | apply IsS173.drew | apply IsS173.set_1 | apply IsS173.set_2) | exact HI0.out)) (rp_ HO1573.out) (by decide)) hk (fun _ h => h.2)) (fun _ h => h.1)); have n1_ := Aside0.mk (KeepBut.trans (by repeat (first | (with_reducible first | exact HK.out | apply KeepBut.set_ | apply keep_drewN | apply keep_drew | apply keep_alloc) | exact HK.out)) hk (.inl rfl)); have n2_ := Aside0.mk (hb); have n3_ := Aside0.mk (hi); clear HO1573; clear HK; clear HB; clear HI0; have HO1573 := n0_; have HK := n1_; have HB := n2_; have HI0 := n3_; clear n0_ n1_ n2_ n3_; (try clear hb); (try clear hb2); (try clear hk); (try clear hi)))
 go_ret
 exact ⟨by first | rfl | (simp [errW_none, errW_some] <;> rfl) | (simp [*, errW_none, errW_some] <;> rfl), by repeat (first | (with_reducible first | exact HI0.out | apply IsS173.alloc | apply IsS173.drewN | apply IsS173.drew | apply IsS173.set_1 | apply IsS173.set_2) | exact HI0.out), by repeat (first | (with_reducible first | exact HB.out | apply ba_ | apply bn_ | apply bd_ | refine below_set ?_ (IsS173.ge HI0.out)) | exact HB.out), by repeat (first | (with_reducible first | exact HK.out | apply KeepBut.set_ | apply keep_drewN | apply keep_drew | apply keep_alloc) | exact HK.out)⟩
def spec_l1Int.f (s0_0 : List Int) (s0_1 : Int) (s0_2 : Int) (l1 : List Int) : Option (Int × Int × Int) := (spec_l1Below.f s0_0 s0_1 s0_2 (l1.length : Int)).bind fun bt1577 => (if 0 ≤ bt1577.1 then (if bt1577.1 < (l1.length : Int) then (some (rd l1 bt1577.1, bt1577.2.1, bt1577.2.2)) else (none)) else (none))
theorem spec_l1Int.calls (g : Nat) (s0_0 : List Int) (s0_1 : Int) (s0_2 : Int) (A1 : Option Addr) (c1 : Nat) (l1 : List Int) (r1 : Int) (r2 : Int) (r3 : Int) (w0 w : World) (hI : IsS173 w0 w g s0_0 s0_1 s0_2) (hB : Below w0.heap.size w0 w) (hr1 : Kd.C (Kd.int .i64) w A1 l1.length l1) (hc1 : l1.length ≤ c1) (hf1 : ∀ ad, A1 = some ad → 0 < l1.length → ad.block ≠ g) (h : spec_l1Int.f s0_0 s0_1 s0_2 l1 = some (r1, r2, r3)) :
  Calls Try.prog 162 #[.pointer (some ⟨g, 0, none⟩), .slice A1 l1.length c1] w fun e w' => e = .returned (.int .i64 r1) ∧ IsS173 w0 w' g s0_0 r2 r3 ∧ Below w0.heap.size w0 w' ∧ KeepBut w w' g none := by
 have HR1 := Aside0.mk hr1
 have HC1 := Aside0.mk hc1
 clear hr1 hc1
 have HI0 := Aside0.mk hI
 have HK := Aside0.mk (KeepBut.refl w g none)
 have HL := Aside0.mk hB.size
 clear hI
 have HW0 := Aside0.mk hB.size
 have HB := Aside0.mk hB
 clear hB
 have H : ((spec_l1Below.f s0_0 s0_1 s0_2 (l1.length : Int)).bind fun bt1577 => (if 0 ≤ bt1577.1 then (if bt1577.1 < (l1.length : Int) then (some (rd l1 bt1577.1, bt1577.2.1, bt1577.2.2)) else (none)) else (none))) = some (r1, r2, r3) := h
 clear h
 replace H := Option.bind_eq_some_iff.mp H
 obtain ⟨⟨t1577, t1578, t1579⟩, A30, H⟩ := H
 have A3 := Aside0.mk A30
 clear A30
 by_cases c4 : 0 ≤ t1577
 ·
  rw [if_pos c4] at H
  have c4b0 := decide_eq_true c4
  clear c4
  by_cases c5 : t1577 < (l1.length : Int)
  ·
   rw [if_pos c5] at H
   have c5b0 := decide_eq_true c5
   clear c5
   simp only [Option.some.injEq, Prod.mk.injEq] at H
   obtain ⟨rfl, rfl, rfl⟩ := H
   go_enter Try.func162, Try.ntmps162
   go_wp2_with (first | ((with_reducible refine gate_callee (f := 137) rfl ?_); refine goesL_ (some 9) rfl rfl Try.func137 (by kernel_rfl) rfl #[.pointer (some ⟨g, 0, none⟩), .int .i64 (l1.length : Int)] rfl (by (try simp only [mp_]); first | done | rfl | (simp only [List.length_drop, List.length_take]; rfl)) ?_; (with_reducible refine (spec_l1Below.calls g s0_0 s0_1 s0_2 (l1.length : Int) t1577 t1578 t1579 w0 _ ?side1 ?side2 A3.out).mono ?_); (case side1 => repeat (first | (with_reducible first | exact HI0.out | apply IsS173.alloc | apply IsS173.drewN | apply IsS173.drew | apply IsS173.set_1 | apply IsS173.set_2) | exact HI0.out)); (case side2 => repeat (first | (with_reducible first | exact HB.out | apply ba_ | apply bn_ | apply bd_ | refine below_set ?_ (IsS173.ge HI0.out)) | exact HB.out)); rintro e w6 ⟨rfl, hi, hb, hk⟩; refine ⟨_, rfl, ?_⟩; have n0_ := Aside0.mk (KeepBut.trans (by repeat (first | (with_reducible first | exact HK.out | apply KeepBut.set_ | apply keep_drewN | apply keep_drew | apply keep_alloc) | exact HK.out)) hk (.inl rfl)); have n1_ := Aside0.mk (hb); have n2_ := Aside0.mk (hi); clear HK; clear HB; clear HI0; have HK := n0_; have HB := n1_; have HI0 := n2_; clear n0_ n1_ n2_; (try clear hb); (try clear hb2); (try clear hk); (try clear hi); have p1580 : 0 ≤ (t1577 : Int) := of_decide_eq_true (by with_reducible assumption); have q1580 : t1577 < (l1.length : Int) := of_decide_eq_true (by with_reducible assumption); obtain ⟨ad1580, e1580, hx1580_0⟩ := Kd.at_int HR1.out t1577 p1580 q1580; cases e1580; replace hx1580_0 := keep_cell HK.out hx1580_0 (by first | (rw [add_block]; exact hf1 _ rfl (by omega)) | exact hf1 _ rfl (by omega) | exact hf1 ad1580 rfl (by omega)); replace p1580 := eq_true p1580; replace q1580 := eq_true q1580))
   go_ret
   exact ⟨by first | rfl | (simp [errW_none, errW_some] <;> rfl) | (simp [*, errW_none, errW_some] <;> rfl), by repeat (first | (with_reducible first | exact HI0.out | apply IsS173.alloc | apply IsS173.drewN | apply IsS173.drew | apply IsS173.set_1 | apply IsS173.set_2) | exact HI0.out), by repeat (first | (with_reducible first | exact HB.out | apply ba_ | apply bn_ | apply bd_ | refine below_set ?_ (IsS173.ge HI0.out)) | exact HB.out), by repeat (first | (with_reducible first | exact HK.out | apply KeepBut.set_ | apply keep_drewN | apply keep_drew | apply keep_alloc) | exact HK.out)⟩
  rw [if_neg c5] at H
  exact absurd H (by simp)
 rw [if_neg c4] at H
 exact absurd H (by simp)
def spec_l4Draw.f (k : Nat) (s0_0 : List Int) (s0_1 : Int) (s0_2 : Int) : Option ((List (S164)) × Int × Int × ByteArray × Int × Int) := (spec_l2Draw.f k s0_0 s0_1 s0_2).bind fun bt1582 => ((spec_l1Below.f s0_0 bt1582.2.1 bt1582.2.2 8).bind fun bt1587 => ((spec_l1Plain.f s0_0 bt1587.2.1 bt1587.2.2).bind fun bt1590 => ((spec_l1Int.f s0_0 bt1590.2.1 bt1590.2.2 (([0, 2, 5, 20, 60] : List Int))).bind fun bt1597 => (some (bt1582.1, bt1587.1, wrap64 (bt1587.1 + bt1597.1), bt1590.1, bt1597.2.1, bt1597.2.2)))))
theorem spec_l4Draw.mono : ∀ a0 a1 a2 k, LeO (spec_l4Draw.f k a0 a1 a2) (spec_l4Draw.f (k + 1) a0 a1 a2) := by
 intro a0 a1 a2 k
 unfold spec_l4Draw.f
 repeat' first
   | (with_reducible exact spec_l2Draw.mono _ _ _ _)
   | (with_reducible exact LeO.refl _)
   | (with_reducible exact LeO.none _)
   | (with_reducible refine LeO.ite ?_ ?_)
   | (with_reducible refine LeO.bind ?_ (fun _ => ?_))
   | exact spec_l2Draw.mono _ _ _ _
def spec_l4Draw.T2 : Bool × List (List Nat × List Nat) := (true, [([], []), ([0], [0]), ([], []), ([], []), ([2, 3], [2, 3]), ([1, 4], [1, 4]), ([0, 1, 2, 3, 4, 5], []), ([6, 5, 4, 0, 1, 2, 3, 4, 5], [5, 6])])
def spec_l4Draw.B2 : List Nat := [0, 1, 0, 0, 12, 31, 63, 127]
theorem spec_l4Draw.tab2 : rtab .any (opsOf Try.f135 2) = spec_l4Draw.T2 := by kernel_rfl
theorem spec_l4Draw.bits2 : waitsOk spec_l4Draw.T2.2 spec_l4Draw.B2 = true := by kernel_rfl
theorem spec_l4Draw.calls (k : Nat) (g : Nat) (s0_0 : List Int) (s0_1 : Int) (s0_2 : Int) (r1 : List (S164)) (r2 : Int) (r3 : Int) (r4 : ByteArray) (r5 : Int) (r6 : Int) (w0 w : World) (hI : IsS173 w0 w g s0_0 s0_1 s0_2) (hB : Below w0.heap.size w0 w) (h : spec_l4Draw.f k s0_0 s0_1 s0_2 = some (r1, r2, r3, r4, r5, r6)) :
  Calls Try.prog 135 #[.pointer (some ⟨g, 0, none⟩)] w fun e w' => ∃ v0_ : Value, e = .returned (.agg #[v0_, .int .i64 r2, .int .i64 r3, .string r4]) ∧ Kd.R k164 164 w' w.heap.size (fun _ => True) v0_ r1 ∧ IsS173 w0 w' g s0_0 r5 r6 ∧ Below w0.heap.size w0 w' ∧ KeepBut w w' g none := by
 have hu44 := Try.underlying44
 have HI0 := Aside0.mk hI
 have HK := Aside0.mk (KeepBut.refl w g none)
 have HL := Aside0.mk hB.size
 clear hI
 have HW0 := Aside0.mk hB.size
 have HB := Aside0.mk hB
 clear hB
 have H : ((spec_l2Draw.f k s0_0 s0_1 s0_2).bind fun bt1582 => ((spec_l1Below.f s0_0 bt1582.2.1 bt1582.2.2 8).bind fun bt1587 => ((spec_l1Plain.f s0_0 bt1587.2.1 bt1587.2.2).bind fun bt1590 => ((spec_l1Int.f s0_0 bt1590.2.1 bt1590.2.2 (([0, 2, 5, 20, 60] : List Int))).bind fun bt1597 => (some (bt1582.1, bt1587.1, wrap64 (bt1587.1 + bt1597.1), bt1590.1, bt1597.2.1, bt1597.2.2)))))) = some (r1, r2, r3, r4, r5, r6) := h
 clear h
 replace H := Option.bind_eq_some_iff.mp H
 obtain ⟨⟨t1582, t1585, t1586⟩, A20, H⟩ := H
 have A2 := Aside0.mk A20
 clear A20
 replace H := Option.bind_eq_some_iff.mp H
 obtain ⟨⟨t1587, t1588, t1589⟩, A30, H⟩ := H
 have A3 := Aside0.mk A30
 clear A30
 replace H := Option.bind_eq_some_iff.mp H
 obtain ⟨⟨t1590, t1591, t1592⟩, A40, H⟩ := H
 have A4 := Aside0.mk A40
 clear A40
 obtain ⟨y1594, hy1594⟩ : ∃ y_ : List Int, y_ = (([0, 2, 5, 20, 60] : List Int)) := ⟨_, rfl⟩
 replace H : ((spec_l1Int.f s0_0 t1591 t1592 y1594).bind fun bt1597 => (some (t1582, t1587, wrap64 (t1587 + bt1597.1), t1590, bt1597.2.1, bt1597.2.2))) = some (r1, r2, r3, r4, r5, r6) := by first | (rw [hy1594]; with_reducible exact H) | (have H2_ := (Option.bind_some _ _).symm.trans H; rw [hy1594]; with_reducible exact H2_) | (have H2_ := (Option.bind_some _ _).symm.trans H; with_reducible exact H2_) | with_reducible exact H | (rw [hy1594]; exact H) | exact H
 have Ny1594 := Aside0.mk hy1594
 clear hy1594
 replace H := Option.bind_eq_some_iff.mp H
 obtain ⟨⟨t1597, t1598, t1599⟩, A50, H⟩ := H
 have A5 := Aside0.mk A50
 clear A50
 simp only [Option.some.injEq, Prod.mk.injEq] at H
 obtain ⟨rfl, rfl, rfl, rfl, rfl, rfl⟩ := H
 go_enter Try.func135, Try.ntmps135
 try go_wp2_with (first | ((with_reducible refine gate_dst (N := 2) rfl ?_); refine box_event ?hg (N := 2) ?hd (cs := #[.slice none 0 0, .int .i64 0, .int .i64 0, .string (⟨#[]⟩ : ByteArray)]) (t := 44) ?hr ?_; (case hd => rfl); (case hg => rfl); (case hr => first | (go_simp; done) | (go_simp; rfl)); intro gb1581 hg w6 hbox hb; have n0_ := Aside0.mk (IsS173.below (by repeat (first | (with_reducible first | exact HI0.out | apply IsS173.alloc | apply IsS173.drewN | apply IsS173.drew | apply IsS173.set_1 | apply IsS173.set_2) | exact HI0.out)) hb); have n1_ := Aside0.mk (KeepBut.trans (by repeat (first | (with_reducible first | exact HK.out | apply KeepBut.set_ | apply keep_drewN | apply keep_drew | apply keep_alloc) | exact HK.out)) (KeepBut.of_below hb g none) (.inl rfl)); have n2_ := Aside0.mk (below_step (by repeat (first | (with_reducible first | exact HB.out | apply ba_ | apply bn_ | apply bd_ | refine below_set ?_ (IsS173.ge HI0.out)) | exact HB.out)) hb); have n3_ := Aside0.mk (hbox); have n4_ := Aside0.mk ((by rw [hg]; exact (keep_size (w := w) (g := g) (row := none) (by repeat (first | (with_reducible first | exact HK.out | apply KeepBut.set_ | apply keep_drewN | apply keep_drew | apply keep_alloc) | exact HK.out))) : w.heap.size ≤ gb1581)); have n5_ := Aside0.mk ((Nat.le_trans HW0.out (by rw [hg]; exact (keep_size (w := w) (g := g) (row := none) (by repeat (first | (with_reducible first | exact HK.out | apply KeepBut.set_ | apply keep_drewN | apply keep_drew | apply keep_alloc) | exact HK.out))) : w.heap.size ≤ gb1581) : w0.heap.size ≤ gb1581)); have n6_ := Aside0.mk ((by rw [hg]; exact Nat.ne_of_lt (IsS173.lt (show IsS173 w0 _ g s0_0 s0_1 s0_2 from by repeat (first | (with_reducible first | exact HI0.out | apply IsS173.alloc | apply IsS173.drewN | apply IsS173.drew | apply IsS173.set_1 | apply IsS173.set_2) | exact HI0.out))) : g ≠ gb1581)); have n7_ := Aside0.mk ((by rw [hg]; exact Nat.ne_of_gt (IsS173.lt (show IsS173 w0 _ g s0_0 s0_1 s0_2 from by repeat (first | (with_reducible first | exact HI0.out | apply IsS173.alloc | apply IsS173.drewN | apply IsS173.drew | apply IsS173.set_1 | apply IsS173.set_2) | exact HI0.out))) : gb1581 ≠ g)); clear HI0; clear HK; clear HB; have HI0 := n0_; have HK := n1_; have HB := n2_; have BK1581 := n3_; have GW1581 := n4_; have GE1581 := n5_; have NB0_1581 := n6_; have NB1581_0 := n7_; clear n0_ n1_ n2_ n3_ n4_ n5_ n6_ n7_; clear hb hbox hg) | ((with_reducible refine gate_callee (f := 160) rfl ?_); refine goesL_ (some 5) rfl rfl Try.func160 (by kernel_rfl) rfl #[.pointer (some ⟨g, 0, none⟩)] rfl (by (try simp only [mp_]); first | done | rfl | (simp only [List.length_drop, List.length_take]; rfl)) ?_; (with_reducible refine (spec_l2Draw.calls k g s0_0 s0_1 s0_2 t1582 t1585 t1586 w0 _ ?side1 ?side2 A2.out).mono ?_); (case side1 => repeat (first | (with_reducible first | exact HI0.out | apply IsS173.alloc | apply IsS173.drewN | apply IsS173.drew | apply IsS173.set_1 | apply IsS173.set_2 | refine IsS173.far ?_ NB0_1581.out _) | exact HI0.out)); (case side2 => repeat (first | (with_reducible first | exact HB.out | apply ba_ | apply bn_ | apply bd_ | refine below_set ?_ (IsS173.ge HI0.out) | refine below_set ?_ GE1581.out) | exact HB.out)); rintro e w7 ⟨v1583, rfl, ho0, hi, hb, hk⟩; refine ⟨_, rfl, ?_⟩; have n0_ := Aside0.mk (KeepBut.blk hk (g' := gb1581) (o := .cells #[.slice none 0 0, .int .i64 0, .int .i64 0, .string (⟨#[]⟩ : ByteArray)] 44 (0, 0)) (pb_ BK1581.out) NB1581_0.out (by simp)); have n1_ := Aside0.mk (Kd.R_lower ho0 (keep_size (w := w) (g := g) (row := none) (by repeat (first | (with_reducible first | exact HK.out | apply KeepBut.set_ | apply keep_drewN | apply keep_drew | apply keep_alloc | refine keep_far ?_ GW1581.out _) | exact HK.out)))); have n2_ := Aside0.mk (KeepBut.trans (by repeat (first | (with_reducible first | exact HK.out | apply KeepBut.set_ | apply keep_drewN | apply keep_drew | apply keep_alloc | refine keep_far ?_ GW1581.out _) | exact HK.out)) hk (.inl rfl)); have n3_ := Aside0.mk (hb); have n4_ := Aside0.mk (hi); clear BK1581; clear HK; clear HB; clear HI0; have BK1581 := n0_; have HO1584 := n1_; have HK := n2_; have HB := n3_; have HI0 := n4_; clear n0_ n1_ n2_ n3_ n4_; (try clear hb); (try clear hb2); (try clear hk); (try clear hi); (try clear ho0)) | ((with_reducible refine gate_callee (f := 137) rfl ?_); refine goesL_ (some 7) rfl rfl Try.func137 (by kernel_rfl) rfl #[.pointer (some ⟨g, 0, none⟩), .int .i64 8] rfl (by (try simp only [mp_]); first | done | rfl | (simp only [List.length_drop, List.length_take]; rfl)) ?_; (with_reducible refine (spec_l1Below.calls g s0_0 t1585 t1586 8 t1587 t1588 t1589 w0 _ ?side1 ?side2 A3.out).mono ?_); (case side1 => repeat (first | (with_reducible first | exact HI0.out | apply IsS173.alloc | apply IsS173.drewN | apply IsS173.drew | apply IsS173.set_1 | apply IsS173.set_2 | refine IsS173.far ?_ NB0_1581.out _) | exact HI0.out)); (case side2 => repeat (first | (with_reducible first | exact HB.out | apply ba_ | apply bn_ | apply bd_ | refine below_set ?_ (IsS173.ge HI0.out) | refine below_set ?_ GE1581.out) | exact HB.out)); rintro e w8 ⟨rfl, hi, hb, hk⟩; refine ⟨_, rfl, ?_⟩; have n0_ := Aside0.mk (KeepBut.blk hk (g' := gb1581) (o := .cells #[.slice none 0 0, .int .i64 0, .int .i64 0, .string (⟨#[]⟩ : ByteArray)] 44 (0, 0)) (pb_ BK1581.out) NB1581_0.out (by simp)); have n1_ := Aside0.mk (Kd.R_mono (Kd.R_keep (IsS173.apart (show IsS173 w0 _ g s0_0 t1585 t1586 from by repeat (first | (with_reducible first | exact HI0.out | apply IsS173.alloc | apply IsS173.drewN | apply IsS173.drew | apply IsS173.set_1 | apply IsS173.set_2 | refine IsS173.far ?_ NB0_1581.out _) | exact HI0.out)) (rp_ HO1584.out) (by decide)) hk (fun _ h => h.2)) (fun _ h => h.1)); have n2_ := Aside0.mk (KeepBut.trans (by repeat (first | (with_reducible first | exact HK.out | apply KeepBut.set_ | apply keep_drewN | apply keep_drew | apply keep_alloc | refine keep_far ?_ GW1581.out _) | exact HK.out)) hk (.inl rfl)); have n3_ := Aside0.mk (hb); have n4_ := Aside0.mk (hi); clear BK1581; clear HO1584; clear HK; clear HB; clear HI0; have BK1581 := n0_; have HO1584 := n1_; have HK := n2_; have HB := n3_; have HI0 := n4_; clear n0_ n1_ n2_ n3_ n4_; (try clear hb); (try clear hb2); (try clear hk); (try clear hi)) | ((with_reducible refine gate_callee (f := 161) rfl ?_); refine goesL_ (some 9) rfl rfl Try.func161 (by kernel_rfl) rfl #[.pointer (some ⟨g, 0, none⟩)] rfl (by (try simp only [mp_]); first | done | rfl | (simp only [List.length_drop, List.length_take]; rfl)) ?_; (with_reducible refine (spec_l1Plain.calls g s0_0 t1588 t1589 t1590 t1591 t1592 w0 _ ?side1 ?side2 A4.out).mono ?_); (case side1 => repeat (first | (with_reducible first | exact HI0.out | apply IsS173.alloc | apply IsS173.drewN | apply IsS173.drew | apply IsS173.set_1 | apply IsS173.set_2 | refine IsS173.far ?_ NB0_1581.out _) | exact HI0.out)); (case side2 => repeat (first | (with_reducible first | exact HB.out | apply ba_ | apply bn_ | apply bd_ | refine below_set ?_ (IsS173.ge HI0.out) | refine below_set ?_ GE1581.out) | exact HB.out)); rintro e w9 ⟨rfl, hi, hb, hk⟩; refine ⟨_, rfl, ?_⟩; have n0_ := Aside0.mk (KeepBut.blk hk (g' := gb1581) (o := .cells #[.slice none 0 0, .int .i64 0, .int .i64 0, .string (⟨#[]⟩ : ByteArray)] 44 (0, 0)) (pb_ BK1581.out) NB1581_0.out (by simp)); have n1_ := Aside0.mk (Kd.R_mono (Kd.R_keep (IsS173.apart (show IsS173 w0 _ g s0_0 t1588 t1589 from by repeat (first | (with_reducible first | exact HI0.out | apply IsS173.alloc | apply IsS173.drewN | apply IsS173.drew | apply IsS173.set_1 | apply IsS173.set_2 | refine IsS173.far ?_ NB0_1581.out _) | exact HI0.out)) (rp_ HO1584.out) (by decide)) hk (fun _ h => h.2)) (fun _ h => h.1)); have n2_ := Aside0.mk (KeepBut.trans (by repeat (first | (with_reducible first | exact HK.out | apply KeepBut.set_ | apply keep_drewN | apply keep_drew | apply keep_alloc | refine keep_far ?_ GW1581.out _) | exact HK.out)) hk (.inl rfl)); have n3_ := Aside0.mk (hb); have n4_ := Aside0.mk (hi); clear BK1581; clear HO1584; clear HK; clear HB; clear HI0; have BK1581 := n0_; have HO1584 := n1_; have HK := n2_; have HB := n3_; have HI0 := n4_; clear n0_ n1_ n2_ n3_ n4_; (try clear hb); (try clear hb2); (try clear hk); (try clear hi); obtain ⟨Ao10, co10, eo10⟩ := Kd.R_slice HO1584.out; subst eo10) | ((with_reducible refine gate_dst (N := 3) rfl ?_); refine box_event ?hg (N := 3) ?hd (cs := #[.slice none 0 0, .int .i64 0, .int .i64 0, .string (⟨#[]⟩ : ByteArray)]) (t := 44) ?hr ?_; (case hd => rfl); (case hg => rfl); (case hr => first | (go_simp; done) | (go_simp; rfl)); intro gb1593 hg w11 hbox hb; have n0_ := Aside0.mk (Kd.R_below (rp_ HO1584.out) hb); have n1_ := Aside0.mk (IsS173.below (by repeat (first | (with_reducible first | exact HI0.out | apply IsS173.alloc | apply IsS173.drewN | apply IsS173.drew | apply IsS173.set_1 | apply IsS173.set_2 | refine IsS173.far ?_ NB0_1581.out _) | exact HI0.out)) hb); have n2_ := Aside0.mk (bb_ BK1581.out hb); have n3_ := Aside0.mk (KeepBut.trans (by repeat (first | (with_reducible first | exact HK.out | apply KeepBut.set_ | apply keep_drewN | apply keep_drew | apply keep_alloc | refine keep_far ?_ GW1581.out _) | exact HK.out)) (KeepBut.of_below hb g none) (.inl rfl)); have n4_ := Aside0.mk (below_step (by repeat (first | (with_reducible first | exact HB.out | apply ba_ | apply bn_ | apply bd_ | refine below_set ?_ (IsS173.ge HI0.out) | refine below_set ?_ GE1581.out) | exact HB.out)) hb); have n5_ := Aside0.mk (hbox); have n6_ := Aside0.mk ((by rw [hg]; exact (keep_size (w := w) (g := g) (row := none) (by repeat (first | (with_reducible first | exact HK.out | apply KeepBut.set_ | apply keep_drewN | apply keep_drew | apply keep_alloc | refine keep_far ?_ GW1581.out _) | exact HK.out))) : w.heap.size ≤ gb1593)); have n7_ := Aside0.mk ((Nat.le_trans HW0.out (by rw [hg]; exact (keep_size (w := w) (g := g) (row := none) (by repeat (first | (with_reducible first | exact HK.out | apply KeepBut.set_ | apply keep_drewN | apply keep_drew | apply keep_alloc | refine keep_far ?_ GW1581.out _) | exact HK.out))) : w.heap.size ≤ gb1593) : w0.heap.size ≤ gb1593)); have n8_ := Aside0.mk (nl_ BK1581.out hg); have n9_ := Aside0.mk (ng_ BK1581.out hg); have n10_ := Aside0.mk ((by rw [hg]; exact Nat.ne_of_lt (IsS173.lt (show IsS173 w0 _ g s0_0 t1591 t1592 from by repeat (first | (with_reducible first | exact HI0.out | apply IsS173.alloc | apply IsS173.drewN | apply IsS173.drew | apply IsS173.set_1 | apply IsS173.set_2 | refine IsS173.far ?_ NB0_1581.out _) | exact HI0.out))) : g ≠ gb1593)); have n11_ := Aside0.mk ((by rw [hg]; exact Nat.ne_of_gt (IsS173.lt (show IsS173 w0 _ g s0_0 t1591 t1592 from by repeat (first | (with_reducible first | exact HI0.out | apply IsS173.alloc | apply IsS173.drewN | apply IsS173.drew | apply IsS173.set_1 | apply IsS173.set_2 | refine IsS173.far ?_ NB0_1581.out _) | exact HI0.out))) : gb1593 ≠ g)); clear HO1584; clear HI0; clear BK1581; clear HK; clear HB; have HO1584 := n0_; have HI0 := n1_; have BK1581 := n2_; have HK := n3_; have HB := n4_; have BK1593 := n5_; have GW1593 := n6_; have GE1593 := n7_; have NB1581_1593 := n8_; have NB1593_1581 := n9_; have NB0_1593 := n10_; have NB1593_0 := n11_; clear n0_ n1_ n2_ n3_ n4_ n5_ n6_ n7_ n8_ n9_ n10_ n11_; clear hb hbox hg; have hnb12 := NB1593_1581.out; have hnc12 := NB1581_1593.out; have hnb13 := NB1593_0.out; have hnc13 := NB0_1593.out; have hcz14_0 : w11.cell? ⟨gb1593, 0, none⟩ = some (.slice none 0 0) := (blk_cell BK1593.out 0).trans rfl; have hcz14_1 : w11.cell? ⟨gb1593, 1, none⟩ = some (.int .i64 0) := (blk_cell BK1593.out 1).trans rfl; have hcz14_2 : w11.cell? ⟨gb1593, 2, none⟩ = some (.int .i64 0) := (blk_cell BK1593.out 2).trans rfl; have hcz14_3 : w11.cell? ⟨gb1593, 3, none⟩ = some (.string (⟨#[]⟩ : ByteArray)) := (blk_cell BK1593.out 3).trans rfl; have hfz14_0 := blk_frozen BK1593.out 0; have hfz14_1 := blk_frozen BK1593.out 1; have hfz14_2 := blk_frozen BK1593.out 2; have hfz14_3 := blk_frozen BK1593.out 3))
 have n0_ : Aside0 (Kd.R k164 164 ((((w11.setCell ⟨gb1593, 0, none⟩ (.slice Ao10 t1582.length co10)).setCell ⟨gb1593, 1, none⟩ (.int .i64 t1587)).setCell ⟨gb1593, 2, none⟩ (.int .i64 0)).setCell ⟨gb1593, 3, none⟩ (.string t1590)) w.heap.size (fun _ => True) (.slice Ao10 t1582.length co10) t1582) := ⟨by (with_reducible repeat (first | apply Kd.R_alloc | apply Kd.R_drewN | apply Kd.R_drew)); exact Kd.R_mono (Kd.R_far (p := ⟨gb1593, 3, none⟩) (Kd.R_far (p := ⟨gb1593, 2, none⟩) (Kd.R_far (p := ⟨gb1593, 1, none⟩) (Kd.R_far (p := ⟨gb1593, 0, none⟩) (Kd.R_types HO1584.out BK1593.out (by decide)) (fun _ hk => hk.2) (.slice Ao10 t1582.length co10)) (fun _ hk => hk.2) (.int .i64 t1587)) (fun _ hk => hk.2) (.int .i64 0)) (fun _ hk => hk.2) (.string t1590)) (fun _ hk => trivial)⟩
 have n1_ : Aside0 (((((w11.setCell ⟨gb1593, 0, none⟩ (.slice Ao10 t1582.length co10)).setCell ⟨gb1593, 1, none⟩ (.int .i64 t1587)).setCell ⟨gb1593, 2, none⟩ (.int .i64 0)).setCell ⟨gb1593, 3, none⟩ (.string t1590)).heap[gb1581]? = some (.cells #[.slice none 0 0, .int .i64 0, .int .i64 0, .string (⟨#[]⟩ : ByteArray)] 44 (0, 0))) := ⟨by (with_reducible repeat (first | refine kn_ ?_ _ | refine kd_ ?_ | refine ka_ ?_ _)); refine blk_far ?_ NB1581_1593.out _; (with_reducible repeat (first | refine kn_ ?_ _ | refine kd_ ?_ | refine ka_ ?_ _)); refine blk_far ?_ NB1581_1593.out _; (with_reducible repeat (first | refine kn_ ?_ _ | refine kd_ ?_ | refine ka_ ?_ _)); refine blk_far ?_ NB1581_1593.out _; (with_reducible repeat (first | refine kn_ ?_ _ | refine kd_ ?_ | refine ka_ ?_ _)); refine blk_far ?_ NB1581_1593.out _; (with_reducible repeat (first | refine kn_ ?_ _ | refine kd_ ?_ | refine ka_ ?_ _)); exact BK1581.out⟩
 have n2_ : Aside0 (((((w11.setCell ⟨gb1593, 0, none⟩ (.slice Ao10 t1582.length co10)).setCell ⟨gb1593, 1, none⟩ (.int .i64 t1587)).setCell ⟨gb1593, 2, none⟩ (.int .i64 0)).setCell ⟨gb1593, 3, none⟩ (.string t1590)).heap[gb1593]? = some (.cells #[.slice Ao10 t1582.length co10, .int .i64 t1587, .int .i64 0, .string t1590] 44 (0, 0))) := ⟨by (with_reducible repeat (first | refine kn_ ?_ _ | refine kd_ ?_ | refine ka_ ?_ _)); refine blk_put (cs := #[.slice Ao10 t1582.length co10, .int .i64 t1587, .int .i64 0, .string (⟨#[]⟩ : ByteArray)]) ?_ 3 _ rfl; (with_reducible repeat (first | refine kn_ ?_ _ | refine kd_ ?_ | refine ka_ ?_ _)); refine blk_put (cs := #[.slice Ao10 t1582.length co10, .int .i64 t1587, .int .i64 0, .string (⟨#[]⟩ : ByteArray)]) ?_ 2 _ rfl; (with_reducible repeat (first | refine kn_ ?_ _ | refine kd_ ?_ | refine ka_ ?_ _)); refine blk_put (cs := #[.slice Ao10 t1582.length co10, .int .i64 0, .int .i64 0, .string (⟨#[]⟩ : ByteArray)]) ?_ 1 _ rfl; (with_reducible repeat (first | refine kn_ ?_ _ | refine kd_ ?_ | refine ka_ ?_ _)); refine blk_put (cs := #[.slice none 0 0, .int .i64 0, .int .i64 0, .string (⟨#[]⟩ : ByteArray)]) ?_ 0 _ rfl; (with_reducible repeat (first | refine kn_ ?_ _ | refine kd_ ?_ | refine ka_ ?_ _)); exact BK1593.out⟩
 have n3_ : Aside0 (IsS173 w0 ((((w11.setCell ⟨gb1593, 0, none⟩ (.slice Ao10 t1582.length co10)).setCell ⟨gb1593, 1, none⟩ (.int .i64 t1587)).setCell ⟨gb1593, 2, none⟩ (.int .i64 0)).setCell ⟨gb1593, 3, none⟩ (.string t1590)) g s0_0 t1591 t1592) := ⟨by repeat (first | (with_reducible first | exact HI0.out | apply IsS173.alloc | apply IsS173.drewN | apply IsS173.drew | apply IsS173.set_1 | apply IsS173.set_2 | refine IsS173.far ?_ NB0_1581.out _ | refine IsS173.far ?_ NB0_1593.out _) | exact HI0.out)⟩
 have n4_ : Aside0 (KeepBut w ((((w11.setCell ⟨gb1593, 0, none⟩ (.slice Ao10 t1582.length co10)).setCell ⟨gb1593, 1, none⟩ (.int .i64 t1587)).setCell ⟨gb1593, 2, none⟩ (.int .i64 0)).setCell ⟨gb1593, 3, none⟩ (.string t1590)) g none) := ⟨by repeat (first | (with_reducible first | exact HK.out | apply KeepBut.set_ | apply keep_drewN | apply keep_drew | apply keep_alloc | refine keep_far ?_ GW1581.out _ | refine keep_far ?_ GW1593.out _) | exact HK.out)⟩
 have n5_ : Aside0 (Below w0.heap.size w0 ((((w11.setCell ⟨gb1593, 0, none⟩ (.slice Ao10 t1582.length co10)).setCell ⟨gb1593, 1, none⟩ (.int .i64 t1587)).setCell ⟨gb1593, 2, none⟩ (.int .i64 0)).setCell ⟨gb1593, 3, none⟩ (.string t1590))) := ⟨by repeat (first | (with_reducible first | exact HB.out | apply ba_ | apply bn_ | apply bd_ | refine below_set ?_ (IsS173.ge HI0.out) | refine below_set ?_ GE1581.out | refine below_set ?_ GE1593.out) | exact HB.out)⟩
 (try clear HO1584)
 (try clear BK1581)
 (try clear BK1593)
 (try clear HI0)
 (try clear HK)
 (try clear HB)
 generalize ((((w11.setCell ⟨gb1593, 0, none⟩ (.slice Ao10 t1582.length co10)).setCell ⟨gb1593, 1, none⟩ (.int .i64 t1587)).setCell ⟨gb1593, 2, none⟩ (.int .i64 0)).setCell ⟨gb1593, 3, none⟩ (.string t1590)) = w15 at n0_ n1_ n2_ n3_ n4_ n5_ ⊢
 have HO1584 := n0_
 have BK1581 := n1_
 have BK1593 := n2_
 have HI0 := n3_
 have HK := n4_
 have HB := n5_
 clear n0_ n1_ n2_ n3_ n4_ n5_
 have n0_ := Aside0.mk (Kd.R_drew HO1584.out)
 have n1_ := Aside0.mk (blk_drew BK1581.out)
 have n2_ := Aside0.mk (blk_drew BK1593.out)
 have n3_ := Aside0.mk (IsS173.drew HI0.out)
 have n4_ := Aside0.mk (keep_drew HK.out)
 have n5_ := Aside0.mk (bd_ HB.out)
 clear HO1584
 clear BK1581
 clear BK1593
 clear HI0
 clear HK
 clear HB
 have HO1584 := n0_
 have BK1581 := n1_
 have BK1593 := n2_
 have HI0 := n3_
 have HK := n4_
 have HB := n5_
 clear n0_ n1_ n2_ n3_ n4_ n5_
 refine start_ (n := 8) (S := fun w' => w'.cell? ⟨gb1593, 0, none⟩ = some (.slice Ao10 t1582.length co10) ∧ w'.cell? ⟨gb1593, 1, none⟩ = some (.int .i64 t1587) ∧ w'.cell? ⟨gb1593, 2, none⟩ = some (.int .i64 0) ∧ w'.cell? ⟨gb1593, 3, none⟩ = some (.string t1590)) (ds := [7]) #[f_,f_,f_,f_,f_,f_,f_,f_] (by kernel_rfl) rfl rfl ⟨(blk_cell BK1593.out 0).trans rfl, (blk_cell BK1593.out 1).trans rfl, (blk_cell BK1593.out 2).trans rfl, (blk_cell BK1593.out 3).trans rfl⟩ (fun hHeld => ?_); refine with_tabW spec_l4Draw.tab2 spec_l4Draw.bits2 (fun HT_ HW_ => ?_)
 generalize w15.drew = w16 at HO1584 BK1581 BK1593 HI0 HK HB hHeld ⊢
 refine pu_ 0 11 ?_ (b_ 1 7) rfl rfl HT_.out ?_ ?_ ?_ ?_; rotate_left; intro w'; go_simp; with_reducible rfl; rotate_left; simp only [fr_]; rfl
 refine pu_ 2 13 ?_ #[t_,f_,t_,f_,f_,f_,f_,f_] rfl rfl HT_.out ?_ ?_ ?_ ?_; rotate_left; intro w'; go_simp; with_reducible rfl; rotate_left; simp only [fr_]; rfl
 refine take_ (i := 1) (N := some 12) (v := ?_) (a' := ?_) #[t_,t_,t_,f_,f_,f_,f_,f_] rfl rfl (take_ofW HT_.out HW_.out (by kernel_rfl)) (fun _ _ _ h => h) (Or.inl ⟨by rfl, ?_⟩) hHeld ?_ ?_
 rotate_left
 ·
  rintro w' ⟨s0, s1, s2, s3⟩
  go_simp
  with_reducible rfl
 rotate_left
 ·
  simp only [fr_]
  rfl
 refine one_ (i := 3) (N := some 14) #[t_,t_,t_,t_,f_,f_,f_,f_] rfl rfl (one_of HT_.out (by kernel_rfl)) (by decide) (fun K hK => ?_)
 refine Kd.R_lit_step (Kd.int .i64) _ 3 ?hg (N := 14) ?hd (xs := ([0, 2, 5, 20, 60] : List Int)) (inner := [.int .i64 0, .int .i64 2, .int .i64 5, .int .i64 20, .int .i64 60]) (ok := fun _ => True) (okp := fun _ => True) ?hr ?hp (fun _ hk => hk) trivial (Below.refl _ _) (Nat.le_refl _) (by simp) ?_; (case hd => rfl); (case hg => rfl); (case hr => first | (go_simp; done) | (go_simp; rfl)); (case hp => exact (Reps.one (show Kd.M (Kd.int .i64) _ _ _ 0 [.int .i64 0] from rfl) (Reps.one (show Kd.M (Kd.int .i64) _ _ _ 2 [.int .i64 2] from rfl) (Reps.one (show Kd.M (Kd.int .i64) _ _ _ 5 [.int .i64 5] from rfl) (Reps.one (show Kd.M (Kd.int .i64) _ _ _ 20 [.int .i64 20] from rfl) (Reps.one (show Kd.M (Kd.int .i64) _ _ _ 60 [.int .i64 60] from rfl) (Reps.none _ _)))))))
 intro v1595 w17 ho18 hb hg_ hnew_
 clear hg_ hnew_
 (first | rw [← Ny1594.out] at ho18 | (simp only [Int.reduceToNat] at ho18; rw [← Ny1594.out] at ho18))
 have n0_ := Aside0.mk (Kd.R_below (rp_ HO1584.out) hb)
 have n1_ := Aside0.mk (Kd.R_lower ho18 (keep_size (w := w) (g := g) (row := none) (by repeat (first | (with_reducible first | exact HK.out | apply KeepBut.set_ | apply keep_drewN | apply keep_drew | apply keep_alloc | refine keep_far ?_ GW1581.out _ | refine keep_far ?_ GW1593.out _) | exact HK.out))))
 have n2_ := Aside0.mk (IsS173.below (by repeat (first | (with_reducible first | exact HI0.out | apply IsS173.alloc | apply IsS173.drewN | apply IsS173.drew | apply IsS173.set_1 | apply IsS173.set_2 | refine IsS173.far ?_ NB0_1581.out _ | refine IsS173.far ?_ NB0_1593.out _) | exact HI0.out)) hb)
 have n3_ := Aside0.mk (bb_ BK1581.out hb)
 have n4_ := Aside0.mk (bb_ BK1593.out hb)
 have n5_ := Aside0.mk (KeepBut.trans (by repeat (first | (with_reducible first | exact HK.out | apply KeepBut.set_ | apply keep_drewN | apply keep_drew | apply keep_alloc | refine keep_far ?_ GW1581.out _ | refine keep_far ?_ GW1593.out _) | exact HK.out)) (KeepBut.of_below hb g none) (.inl rfl))
 have n6_ := Aside0.mk (below_step (by repeat (first | (with_reducible first | exact HB.out | apply ba_ | apply bn_ | apply bd_ | refine below_set ?_ (IsS173.ge HI0.out) | refine below_set ?_ GE1581.out | refine below_set ?_ GE1593.out) | exact HB.out)) hb)
 clear HO1584
 clear HI0
 clear BK1581
 clear BK1593
 clear HK
 clear HB
 have HO1584 := n0_
 have HO1596 := n1_
 have HI0 := n2_
 have BK1581 := n3_
 have BK1593 := n4_
 have HK := n5_
 have HB := n6_
 clear n0_ n1_ n2_ n3_ n4_ n5_ n6_
 clear hb ho18
 obtain ⟨Ao19, co19, eo19⟩ := Kd.R_slice HO1596.out
 (first | subst eo19 | (injection eo19 with f1_ f2_ f3_; have f4_ := f1_.symm; have f5_ := f3_.symm; clear f1_ f2_ f3_; subst f4_; subst f5_))
 refine hK.out _ _ ⟨(blk_cell BK1593.out 0).trans rfl, (blk_cell BK1593.out 1).trans rfl, (blk_cell BK1593.out 2).trans rfl, (blk_cell BK1593.out 3).trans rfl⟩ (fun hHeld => ?_)
 clear hK K
 refine norm_ (a' := ?_) ?_ ?_
 rotate_left
 ·
  show Act.put _ (some 14) _ = _
  simp only [fr_]
  rfl
 refine one_ (i := 4) (N := some 15) #[t_,t_,t_,t_,t_,f_,f_,f_] rfl rfl (one_of HT_.out (by kernel_rfl)) (by decide) (fun K hK => ?_)
 refine goes_ Try.func162 (by kernel_rfl) rfl #[.pointer (some ⟨g, 0, none⟩), .slice Ao19 y1594.length co19] (by rfl) rfl rfl (by (try simp only [mp_]); first | done | rfl | (simp only [List.length_drop, List.length_take]; rfl)) ?_
 with_reducible refine (spec_l1Int.calls g s0_0 t1591 t1592 _ _ y1594 t1597 t1598 t1599 w0 _ ?side1 ?side2 ?side3 ?side4 ?side5 A5.out).mono ?_
 (case side1 => repeat (first | (with_reducible first | exact HI0.out | apply IsS173.alloc | apply IsS173.drewN | apply IsS173.drew | apply IsS173.set_1 | apply IsS173.set_2 | refine IsS173.far ?_ NB0_1581.out _ | refine IsS173.far ?_ NB0_1593.out _) | exact HI0.out))
 (case side2 => repeat (first | (with_reducible first | exact HB.out | apply ba_ | apply bn_ | apply bd_ | refine below_set ?_ (IsS173.ge HI0.out) | refine below_set ?_ GE1581.out | refine below_set ?_ GE1593.out) | exact HB.out))
 (case side3 => repeat (first | exact (Kd.R_reads' HO1596.out).2.2 | (with_reducible first | refine ca_ ?_ _ | refine cn_ ?_ _ | refine cd_ ?_)))
 (case side4 => exact (Kd.R_reads' HO1596.out).2.1)
 (case side5 => exact far_slice (IsS173.own_ne HI0.out HO1596.out (by decide)))
 rintro e w20 ⟨rfl, hi, hb, hk⟩
 refine ⟨_, rfl, ?_⟩
 have n0_ := Aside0.mk (KeepBut.blk hk (g' := gb1581) (o := .cells #[.slice none 0 0, .int .i64 0, .int .i64 0, .string (⟨#[]⟩ : ByteArray)] 44 (0, 0)) (pb_ BK1581.out) NB1581_0.out (by simp))
 have n1_ := Aside0.mk (Kd.R_mono (Kd.R_keep (IsS173.apart (show IsS173 w0 _ g s0_0 t1591 t1592 from by repeat (first | (with_reducible first | exact HI0.out | apply IsS173.alloc | apply IsS173.drewN | apply IsS173.drew | apply IsS173.set_1 | apply IsS173.set_2 | refine IsS173.far ?_ NB0_1581.out _ | refine IsS173.far ?_ NB0_1593.out _) | exact HI0.out)) (rp_ HO1584.out) (by decide)) hk (fun _ h => h.2)) (fun _ h => h.1))
 have n2_ := Aside0.mk (KeepBut.blk hk (g' := gb1593) (o := .cells #[.slice Ao10 t1582.length co10, .int .i64 t1587, .int .i64 0, .string t1590] 44 (0, 0)) (pb_ BK1593.out) NB1593_0.out (by simp))
 have n3_ := Aside0.mk (Kd.R_mono (Kd.R_keep (IsS173.apart (show IsS173 w0 _ g s0_0 t1591 t1592 from by repeat (first | (with_reducible first | exact HI0.out | apply IsS173.alloc | apply IsS173.drewN | apply IsS173.drew | apply IsS173.set_1 | apply IsS173.set_2 | refine IsS173.far ?_ NB0_1581.out _ | refine IsS173.far ?_ NB0_1593.out _) | exact HI0.out)) (rp_ HO1596.out) (by decide)) hk (fun _ h => h.2)) (fun _ h => h.1))
 have n4_ := Aside0.mk (KeepBut.trans (by repeat (first | (with_reducible first | exact HK.out | apply KeepBut.set_ | apply keep_drewN | apply keep_drew | apply keep_alloc | refine keep_far ?_ GW1581.out _ | refine keep_far ?_ GW1593.out _) | exact HK.out)) hk (.inl rfl))
 have n5_ := Aside0.mk (hb)
 have n6_ := Aside0.mk (hi)
 clear BK1581
 clear HO1584
 clear BK1593
 clear HO1596
 clear HK
 clear HB
 clear HI0
 have BK1581 := n0_
 have HO1584 := n1_
 have BK1593 := n2_
 have HO1596 := n3_
 have HK := n4_
 have HB := n5_
 have HI0 := n6_
 clear n0_ n1_ n2_ n3_ n4_ n5_ n6_
 (try clear hb)
 (try clear hb2)
 (try clear hk)
 (try clear hi)
 refine hK.out _ _ ⟨(blk_cell BK1593.out 0).trans rfl, (blk_cell BK1593.out 1).trans rfl, (blk_cell BK1593.out 2).trans rfl, (blk_cell BK1593.out 3).trans rfl⟩ (fun hHeld => ?_)
 clear hK K
 refine norm_ (a' := ?_) ?_ ?_
 rotate_left
 ·
  show Act.put _ (some 15) _ = _
  simp only [fr_]
  rfl
 refine pu_ 5 16 ?_ (b_ 6 2) rfl rfl HT_.out ?_ ?_ ?_ ?_; rotate_left; intro w'; go_simp; with_reducible rfl; rotate_left; simp only [fr_]; rfl
 refine pu_ 6 17 ?_ (b_ 7 1) rfl rfl HT_.out ?_ ?_ ?_ ?_; rotate_left; intro w'; go_simp; with_reducible rfl; rotate_left; simp only [fr_]; rfl
 refine last_ (i := 7) (N := none) #[t_,t_,t_,t_,t_,t_,t_,t_] rfl rfl (one_of HT_.out (by kernel_rfl)) (by decide) (fun K hK => ?_)
 have hs21 : w20.cell? ⟨gb1593, 2, none⟩ = some (.int .i64 0) := (blk_cell BK1593.out 2).trans rfl
 have hfs21 := blk_frozen BK1593.out 2
 have hns21_0 := NB1581_1593.out
 have hms21_0 := NB1593_1581.out
 refine skip_ (w1 := ?_) (by rfl) rfl ?_ ?_
 rotate_left
 ·
  go_simp
  rfl
 refine hK.out _ _ ?_
 clear hK K
 refine done_ (done_of HT_.out (by kernel_rfl)) ?_
 have hcz22_0 : w20.cell? ⟨gb1593, 0, none⟩ = some (.slice Ao10 t1582.length co10) := (blk_cell BK1593.out 0).trans rfl
 have hcz22_1 : w20.cell? ⟨gb1593, 1, none⟩ = some (.int .i64 t1587) := (blk_cell BK1593.out 1).trans rfl
 have hcz22_2 : w20.cell? ⟨gb1593, 2, none⟩ = some (.int .i64 0) := (blk_cell BK1593.out 2).trans rfl
 have hcz22_3 : w20.cell? ⟨gb1593, 3, none⟩ = some (.string t1590) := (blk_cell BK1593.out 3).trans rfl
 have hfz22_0 := blk_frozen BK1593.out 0
 have hfz22_1 := blk_frozen BK1593.out 1
 have hfz22_2 := blk_frozen BK1593.out 2
 have hfz22_3 := blk_frozen BK1593.out 3
 have hnb23 := NB1581_0.out
 have hnc23 := NB0_1581.out
 have hcz24_0 : w20.cell? ⟨gb1581, 0, none⟩ = some (.slice none 0 0) := (blk_cell BK1581.out 0).trans rfl
 have hcz24_1 : w20.cell? ⟨gb1581, 1, none⟩ = some (.int .i64 0) := (blk_cell BK1581.out 1).trans rfl
 have hcz24_2 : w20.cell? ⟨gb1581, 2, none⟩ = some (.int .i64 0) := (blk_cell BK1581.out 2).trans rfl
 have hcz24_3 : w20.cell? ⟨gb1581, 3, none⟩ = some (.string (⟨#[]⟩ : ByteArray)) := (blk_cell BK1581.out 3).trans rfl
 have hfz24_0 := blk_frozen BK1581.out 0
 have hfz24_1 := blk_frozen BK1581.out 1
 have hfz24_2 := blk_frozen BK1581.out 2
 have hfz24_3 := blk_frozen BK1581.out 3
 try go_wp2
 refine bodyPost_ret (results_cell_row rfl _ _ gb1581 44 #[.slice Ao10 t1582.length co10, .int .i64 t1587, .int .i64 (wrap64 (t1587 + t1597)), .string t1590] (0, 0) _ rfl (by (with_reducible repeat (first | refine kn_ ?_ _ | refine kd_ ?_ | refine ka_ ?_ _)); refine blk_put (cs := #[.slice Ao10 t1582.length co10, .int .i64 t1587, .int .i64 (wrap64 (t1587 + t1597)), .string (⟨#[]⟩ : ByteArray)]) ?_ 3 _ rfl; (with_reducible repeat (first | refine kn_ ?_ _ | refine kd_ ?_ | refine ka_ ?_ _)); refine blk_put (cs := #[.slice Ao10 t1582.length co10, .int .i64 t1587, .int .i64 0, .string (⟨#[]⟩ : ByteArray)]) ?_ 2 _ rfl; (with_reducible repeat (first | refine kn_ ?_ _ | refine kd_ ?_ | refine ka_ ?_ _)); refine blk_put (cs := #[.slice Ao10 t1582.length co10, .int .i64 0, .int .i64 0, .string (⟨#[]⟩ : ByteArray)]) ?_ 1 _ rfl; (with_reducible repeat (first | refine kn_ ?_ _ | refine kd_ ?_ | refine ka_ ?_ _)); refine blk_put (cs := #[.slice none 0 0, .int .i64 0, .int .i64 0, .string (⟨#[]⟩ : ByteArray)]) ?_ 0 _ rfl; (with_reducible repeat (first | refine kn_ ?_ _ | refine kd_ ?_ | refine ka_ ?_ _)); refine blk_far ?_ NB1581_1593.out _; (with_reducible repeat (first | refine kn_ ?_ _ | refine kd_ ?_ | refine ka_ ?_ _)); exact BK1581.out) Try.underlying44 rfl (by kernel_rfl)) rfl ?_
 exact ⟨_, by first | rfl | (simp [errW_none, errW_some] <;> rfl) | (simp [*, errW_none, errW_some] <;> rfl), by (with_reducible repeat (first | apply Kd.R_alloc | apply Kd.R_drewN | apply Kd.R_drew)); exact Kd.R_mono (Kd.R_far (p := ⟨gb1581, 3, none⟩) (Kd.R_far (p := ⟨gb1581, 2, none⟩) (Kd.R_far (p := ⟨gb1581, 1, none⟩) (Kd.R_far (p := ⟨gb1581, 0, none⟩) (Kd.R_far (p := ⟨gb1593, 2, none⟩) (Kd.R_types (Kd.R_types HO1584.out BK1593.out (by decide)) BK1581.out (by decide)) (fun _ hk => hk.1.2) (.int .i64 (wrap64 (t1587 + t1597)))) (fun _ hk => hk.2) (.slice Ao10 t1582.length co10)) (fun _ hk => hk.2) (.int .i64 t1587)) (fun _ hk => hk.2) (.int .i64 (wrap64 (t1587 + t1597)))) (fun _ hk => hk.2) (.string t1590)) (fun _ hk => trivial), by repeat (first | (with_reducible first | exact HI0.out | apply IsS173.alloc | apply IsS173.drewN | apply IsS173.drew | apply IsS173.set_1 | apply IsS173.set_2 | refine IsS173.far ?_ NB0_1581.out _ | refine IsS173.far ?_ NB0_1593.out _) | exact HI0.out), by repeat (first | (with_reducible first | exact HB.out | apply ba_ | apply bn_ | apply bd_ | refine below_set ?_ (IsS173.ge HI0.out) | refine below_set ?_ GE1581.out | refine below_set ?_ GE1593.out) | exact HB.out), by repeat (first | (with_reducible first | exact HK.out | apply KeepBut.set_ | apply keep_drewN | apply keep_drew | apply keep_alloc | refine keep_far ?_ GW1581.out _ | refine keep_far ?_ GW1593.out _) | exact HK.out)⟩
def spec_l5List.l0 : Nat → List (S44) → Int → List Int → Int → Int → Option ((List (S44)) × Int × Int)
 | 0, _, _, _, _, _ => none
 | k + 1, x3, x4, x1000, x1001, x1002 => if x4 > 0 then ((spec_l4Draw.f k x1000 x1001 x1002).bind fun bt1606 => (if x3.length < 2513169434916 then (spec_l5List.l0 k (x3 ++ [(⟨bt1606.1, bt1606.2.1, bt1606.2.2.1, bt1606.2.2.2.1⟩ : S44)]) (wrap64 (x4 - 1)) x1000 bt1606.2.2.2.2.1 bt1606.2.2.2.2.2) else (none))) else (some (x3, x1001, x1002))
def spec_l5List.f (k : Nat) (s0_0 : List Int) (s0_1 : Int) (s0_2 : Int) : Option ((List (S44)) × Int × Int) := (spec_l1Below.f s0_0 s0_1 s0_2 6).bind fun bt1603 => (spec_l5List.l0 k (([] : List (S44))) bt1603.1 s0_0 bt1603.2.1 bt1603.2.2)
theorem spec_l5List.mono_l : ∀ k, (∀ y0 y1 y2 y3 y4, LeO (spec_l5List.l0 k y0 y1 y2 y3 y4) (spec_l5List.l0 (k + 1) y0 y1 y2 y3 y4))
 | 0 => fun _ _ _ _ _ r h => by simp [spec_l5List.l0] at h
 | k + 1 => by
  have ih0 := spec_l5List.mono_l k
  intro y0 y1 y2 y3 y4
  unfold spec_l5List.l0
  repeat' first
  | (with_reducible exact ih0 _ _ _ _ _)
  | (with_reducible exact spec_l4Draw.mono _ _ _ _)
  | (with_reducible exact LeO.refl _)
  | (with_reducible exact LeO.none _)
  | (with_reducible refine LeO.ite ?_ ?_)
  | (with_reducible refine LeO.bind ?_ (fun _ => ?_))
  | exact ih0 _ _ _ _ _
  | exact spec_l4Draw.mono _ _ _ _
theorem spec_l5List.mono : ∀ a0 a1 a2 k, LeO (spec_l5List.f k a0 a1 a2) (spec_l5List.f (k + 1) a0 a1 a2) := by
 intro a0 a1 a2 k
 have ih0 := spec_l5List.mono_l k
 unfold spec_l5List.f
 repeat' first
   | (with_reducible exact ih0 _ _ _ _ _)
   | (with_reducible exact spec_l4Draw.mono _ _ _ _)
   | (with_reducible exact LeO.refl _)
   | (with_reducible exact LeO.none _)
   | (with_reducible refine LeO.ite ?_ ?_)
   | (with_reducible refine LeO.bind ?_ (fun _ => ?_))
   | exact ih0 _ _ _ _ _
   | exact spec_l4Draw.mono _ _ _ _
theorem spec_l5List.calls (k : Nat) (g : Nat) (s0_0 : List Int) (s0_1 : Int) (s0_2 : Int) (r1 : List (S44)) (r2 : Int) (r3 : Int) (w0 w : World) (hI : IsS173 w0 w g s0_0 s0_1 s0_2) (hB : Below w0.heap.size w0 w) (h : spec_l5List.f k s0_0 s0_1 s0_2 = some (r1, r2, r3)) :
  Calls Try.prog 132 #[.pointer (some ⟨g, 0, none⟩)] w fun e w' => ∃ v0_ : Value, e = .returned (v0_) ∧ Kd.S k44 44 w' w.heap.size (fun _ => True) v0_ r1 ∧ IsS173 w0 w' g s0_0 r2 r3 ∧ Below w0.heap.size w0 w' ∧ KeepBut w w' g none := by
 have hu44 := Try.underlying44
 have HI0 := Aside0.mk hI
 have HK := Aside0.mk (KeepBut.refl w g none)
 have HL := Aside0.mk hB.size
 clear hI
 have HW0 := Aside0.mk hB.size
 have HB := Aside0.mk hB
 clear hB
 have H : ((spec_l1Below.f s0_0 s0_1 s0_2 6).bind fun bt1603 => (spec_l5List.l0 k (([] : List (S44))) bt1603.1 s0_0 bt1603.2.1 bt1603.2.2)) = some (r1, r2, r3) := h
 clear h
 obtain ⟨y1600, hy1600⟩ : ∃ y_ : List (S44), y_ = (([] : List (S44))) := ⟨_, rfl⟩
 replace H : ((spec_l1Below.f s0_0 s0_1 s0_2 6).bind fun bt1603 => (spec_l5List.l0 k y1600 bt1603.1 s0_0 bt1603.2.1 bt1603.2.2)) = some (r1, r2, r3) := by first | (rw [hy1600]; with_reducible exact H) | (have H2_ := (Option.bind_some _ _).symm.trans H; rw [hy1600]; with_reducible exact H2_) | (have H2_ := (Option.bind_some _ _).symm.trans H; with_reducible exact H2_) | with_reducible exact H | (rw [hy1600]; exact H) | exact H
 have Ny1600 := Aside0.mk hy1600
 clear hy1600
 replace H := Option.bind_eq_some_iff.mp H
 obtain ⟨⟨t1603, t1604, t1605⟩, A20, H⟩ := H
 have A2 := Aside0.mk A20
 clear A20
 have H' := Aside0.mk H
 clear H
 go_enter Try.func132, Try.ntmps132
 go_wp2_with (first | ((with_reducible refine gate_dst (N := 6) rfl ?_); refine Kd.S_lit k44 _ 44 ?hg (N := 6) ?hd (xs := ([] : List (S44))) (inner := []) (ok := fun _ => True) (okp := fun _ => True) ?hr ?hp (fun _ hk => hk) trivial (Below.refl _ _) (Nat.le_refl _) (by simp) ?_; (case hd => rfl); (case hg => rfl); (case hr => first | (go_simp; done) | (go_simp; rfl)); (case hp => exact (Reps.none _ _)); intro v1601 w3 ho4 hb hg_ hnew_; clear hg_ hnew_; (first | rw [← Ny1600.out] at ho4 | (simp only [Int.reduceToNat] at ho4; rw [← Ny1600.out] at ho4)); have n0_ := Aside0.mk (Kd.S_lower ho4 (keep_size (w := w) (g := g) (row := none) (by repeat (first | (with_reducible first | exact HK.out | apply KeepBut.set_ | apply keep_drewN | apply keep_drew | apply keep_alloc) | exact HK.out)))); have n1_ := Aside0.mk (IsS173.below (by repeat (first | (with_reducible first | exact HI0.out | apply IsS173.alloc | apply IsS173.drewN | apply IsS173.drew | apply IsS173.set_1 | apply IsS173.set_2) | exact HI0.out)) hb); have n2_ := Aside0.mk (KeepBut.trans (by repeat (first | (with_reducible first | exact HK.out | apply KeepBut.set_ | apply keep_drewN | apply keep_drew | apply keep_alloc) | exact HK.out)) (KeepBut.of_below hb g none) (.inl rfl)); have n3_ := Aside0.mk (below_step (by repeat (first | (with_reducible first | exact HB.out | apply ba_ | apply bn_ | apply bd_ | refine below_set ?_ (IsS173.ge HI0.out)) | exact HB.out)) hb); clear HI0; clear HK; clear HB; have HO1602 := n0_; have HI0 := n1_; have HK := n2_; have HB := n3_; clear n0_ n1_ n2_ n3_; clear hb ho4) | ((with_reducible refine gate_callee (f := 137) rfl ?_); refine goesL_ (some 8) rfl rfl Try.func137 (by kernel_rfl) rfl #[.pointer (some ⟨g, 0, none⟩), .int .i64 6] rfl (by (try simp only [mp_]); first | done | rfl | (simp only [List.length_drop, List.length_take]; rfl)) ?_; (with_reducible refine (spec_l1Below.calls g s0_0 s0_1 s0_2 6 t1603 t1604 t1605 w0 _ ?side1 ?side2 A2.out).mono ?_); (case side1 => repeat (first | (with_reducible first | exact HI0.out | apply IsS173.alloc | apply IsS173.drewN | apply IsS173.drew | apply IsS173.set_1 | apply IsS173.set_2) | exact HI0.out)); (case side2 => repeat (first | (with_reducible first | exact HB.out | apply ba_ | apply bn_ | apply bd_ | refine below_set ?_ (IsS173.ge HI0.out)) | exact HB.out)); rintro e w5 ⟨rfl, hi, hb, hk⟩; refine ⟨_, rfl, ?_⟩; have n0_ := Aside0.mk (Kd.S_mono (Kd.S_keep (IsS173.apartS (show IsS173 w0 _ g s0_0 s0_1 s0_2 from by repeat (first | (with_reducible first | exact HI0.out | apply IsS173.alloc | apply IsS173.drewN | apply IsS173.drew | apply IsS173.set_1 | apply IsS173.set_2) | exact HI0.out)) (sp_ HO1602.out) (by decide)) hk (fun _ h => h.2)) (fun _ h => h.1)); have n1_ := Aside0.mk (KeepBut.trans (by repeat (first | (with_reducible first | exact HK.out | apply KeepBut.set_ | apply keep_drewN | apply keep_drew | apply keep_alloc) | exact HK.out)) hk (.inl rfl)); have n2_ := Aside0.mk (hb); have n3_ := Aside0.mk (hi); clear HO1602; clear HK; clear HB; clear HI0; have HO1602 := n0_; have HK := n1_; have HB := n2_; have HI0 := n3_; clear n0_ n1_ n2_ n3_; (try clear hb); (try clear hb2); (try clear hk); (try clear hi)))
 go_loopg [3, 4] k (fun kq v3 v4 w' => ∃ (x3_1 : List (S44)) (x4_1 : Int) (x1001_1 : Int) (x1002_1 : Int), v4 = .int .i64 x4_1 ∧ Aside0 (spec_l5List.l0 kq x3_1 x4_1 s0_0 x1001_1 x1002_1 = some (r1, r2, r3)) ∧ Aside0 (kq ≤ k) ∧ Aside0 (Kd.S k44 44 w' w.heap.size (fun _ => True) v3 x3_1) ∧ Aside0 (IsS173 w0 w' g s0_0 x1001_1 x1002_1) ∧ Aside0 (KeepBut w w' g none) ∧ Aside0 (Below w0.heap.size w0 w'))
 case atStart => exact ⟨(y1600), (t1603), (t1604), (t1605), (by first | rfl | (simp; done) | (simp [*]; done)), H', ⟨Nat.le_refl _⟩, ⟨by (with_reducible repeat (first | apply Kd.S_alloc | apply Kd.S_drewN | apply Kd.S_drew)); exact HO1602.out⟩, ⟨by repeat (first | (with_reducible first | exact HI0.out | apply IsS173.alloc | apply IsS173.drewN | apply IsS173.drew | apply IsS173.set_1 | apply IsS173.set_2) | exact HI0.out)⟩, ⟨by repeat (first | (with_reducible first | exact HK.out | apply KeepBut.set_ | apply keep_drewN | apply keep_drew | apply keep_alloc) | exact HK.out)⟩, ⟨by repeat (first | (with_reducible first | exact HB.out | apply ba_ | apply bn_ | apply bd_ | refine below_set ?_ (IsS173.ge HI0.out)) | exact HB.out)⟩⟩
 case round =>
  clear H'
  try clear c1
  try clear p2
  obtain ⟨x3_1, x4_1, x1001_1, x1002_1, rfl, HA, HK1, HO_3, HI0, HK, HB⟩ := hrel
  cases gk with
  | zero => exact absurd HA.out (by simp [spec_l5List.l0])
  | succ k1 =>
   have H := HA.out
   clear HA
   simp only [spec_l5List.l0] at H
   by_cases c6 : x4_1 > 0
   ·
    rw [if_pos c6] at H
    have c6b0 : decide (0 < x4_1) = true := decide_eq_true c6
    clear c6
    replace H := Option.bind_eq_some_iff.mp H
    obtain ⟨⟨t1606, t1609, t1610, t1611, t1612, t1613⟩, A70, H⟩ := H
    have A7 := Aside0.mk A70
    clear A70
    by_cases c8 : x3_1.length < 2513169434916
    ·
     rw [if_pos c8] at H
     have LMc8 := Aside0.mk c8
     clear c8
     obtain ⟨y1615, hy1615⟩ : ∃ y_ : List (S44), y_ = (x3_1 ++ [(⟨t1606, t1609, t1610, t1611⟩ : S44)]) := ⟨_, rfl⟩
     replace H : (spec_l5List.l0 k1 y1615 (wrap64 (x4_1 - 1)) s0_0 t1612 t1613) = some (r1, r2, r3) := by first | (rw [hy1615]; with_reducible exact H) | (have H2_ := (Option.bind_some _ _).symm.trans H; rw [hy1615]; with_reducible exact H2_) | (have H2_ := (Option.bind_some _ _).symm.trans H; with_reducible exact H2_) | with_reducible exact H | (rw [hy1615]; exact H) | exact H
     have Ny1615 := Aside0.mk hy1615
     clear hy1615
     have H' := Aside0.mk H
     clear H
     go_wp2_with (first | ((with_reducible refine gate_callee (f := 135) rfl ?_); refine goesL_ (some 14) rfl rfl Try.func135 (by kernel_rfl) rfl #[.pointer (some ⟨g, 0, none⟩)] rfl (by (try simp only [mp_]); first | done | rfl | (simp only [List.length_drop, List.length_take]; rfl)) ?_; (with_reducible refine (spec_l4Draw.calls k1 g s0_0 x1001_1 x1002_1 t1606 t1609 t1610 t1611 t1612 t1613 w0 _ ?side1 ?side2 A7.out).mono ?_); (case side1 => repeat (first | (with_reducible first | exact HI0.out | apply IsS173.alloc | apply IsS173.drewN | apply IsS173.drew | apply IsS173.set_1 | apply IsS173.set_2) | exact HI0.out)); (case side2 => repeat (first | (with_reducible first | exact HB.out | apply ba_ | apply bn_ | apply bd_ | refine below_set ?_ (IsS173.ge HI0.out)) | exact HB.out)); rintro e w9 ⟨v1607, rfl, ho0, hi, hb, hk⟩; refine ⟨_, rfl, ?_⟩; have n0_ := Aside0.mk (Kd.S_mono (Kd.S_told (Kd.S_oldK (IsS173.apartS (show IsS173 w0 _ g s0_0 x1001_1 x1002_1 from by repeat (first | (with_reducible first | exact HI0.out | apply IsS173.alloc | apply IsS173.drewN | apply IsS173.drew | apply IsS173.set_1 | apply IsS173.set_2) | exact HI0.out)) (sp_ HO_3.out) (by decide)) hk) (Kd.R_base ho0)) (fun _ h_ => h_.1)); have n1_ := Aside0.mk (Kd.R_lower ho0 (keep_size (w := w) (g := g) (row := none) (by repeat (first | (with_reducible first | exact HK.out | apply KeepBut.set_ | apply keep_drewN | apply keep_drew | apply keep_alloc) | exact HK.out)))); have n2_ := Aside0.mk (KeepBut.trans (by repeat (first | (with_reducible first | exact HK.out | apply KeepBut.set_ | apply keep_drewN | apply keep_drew | apply keep_alloc) | exact HK.out)) hk (.inl rfl)); have n3_ := Aside0.mk (hb); have n4_ := Aside0.mk (hi); clear HO_3; clear HK; clear HB; clear HI0; have HO_3 := n0_; have HO1608 := n1_; have HK := n2_; have HB := n3_; have HI0 := n4_; clear n0_ n1_ n2_ n3_ n4_; (try clear hb); (try clear hb2); (try clear hk); (try clear hi); (try clear ho0)) | ((with_reducible refine gate_dst (N := 5) rfl ?_); refine box_event ?hg (N := 5) ?hd (cs := #[.slice none 0 0, .int .i64 0, .int .i64 0, .string (⟨#[]⟩ : ByteArray)]) (t := 44) ?hr ?_; (case hd => rfl); (case hg => rfl); (case hr => first | (go_simp; done) | (go_simp; rfl)); intro gb1614 hg w10 hbox hb; have n0_ := Aside0.mk (Kd.S_below (Kd.S_elderB (sp_ HO_3.out) gb1614 (Nat.le_of_eq hg.symm)) hb); have n1_ := Aside0.mk (Kd.R_below (rp_ HO1608.out) hb); have n2_ := Aside0.mk (IsS173.below (by repeat (first | (with_reducible first | exact HI0.out | apply IsS173.alloc | apply IsS173.drewN | apply IsS173.drew | apply IsS173.set_1 | apply IsS173.set_2) | exact HI0.out)) hb); have n3_ := Aside0.mk (KeepBut.trans (by repeat (first | (with_reducible first | exact HK.out | apply KeepBut.set_ | apply keep_drewN | apply keep_drew | apply keep_alloc) | exact HK.out)) (KeepBut.of_below hb g none) (.inl rfl)); have n4_ := Aside0.mk (below_step (by repeat (first | (with_reducible first | exact HB.out | apply ba_ | apply bn_ | apply bd_ | refine below_set ?_ (IsS173.ge HI0.out)) | exact HB.out)) hb); have n5_ := Aside0.mk (hbox); have n6_ := Aside0.mk ((by rw [hg]; exact (keep_size (w := w) (g := g) (row := none) (by repeat (first | (with_reducible first | exact HK.out | apply KeepBut.set_ | apply keep_drewN | apply keep_drew | apply keep_alloc) | exact HK.out))) : w.heap.size ≤ gb1614)); have n7_ := Aside0.mk ((Nat.le_trans HW0.out (by rw [hg]; exact (keep_size (w := w) (g := g) (row := none) (by repeat (first | (with_reducible first | exact HK.out | apply KeepBut.set_ | apply keep_drewN | apply keep_drew | apply keep_alloc) | exact HK.out))) : w.heap.size ≤ gb1614) : w0.heap.size ≤ gb1614)); have n8_ := Aside0.mk ((by rw [hg]; exact Nat.ne_of_lt (IsS173.lt (show IsS173 w0 _ g s0_0 t1612 t1613 from by repeat (first | (with_reducible first | exact HI0.out | apply IsS173.alloc | apply IsS173.drewN | apply IsS173.drew | apply IsS173.set_1 | apply IsS173.set_2) | exact HI0.out))) : g ≠ gb1614)); have n9_ := Aside0.mk ((by rw [hg]; exact Nat.ne_of_gt (IsS173.lt (show IsS173 w0 _ g s0_0 t1612 t1613 from by repeat (first | (with_reducible first | exact HI0.out | apply IsS173.alloc | apply IsS173.drewN | apply IsS173.drew | apply IsS173.set_1 | apply IsS173.set_2) | exact HI0.out))) : gb1614 ≠ g)); clear HO_3; clear HO1608; clear HI0; clear HK; clear HB; have HO_3 := n0_; have HO1608 := n1_; have HI0 := n2_; have HK := n3_; have HB := n4_; have BK1614 := n5_; have GW1614 := n6_; have GE1614 := n7_; have NB0_1614 := n8_; have NB1614_0 := n9_; clear n0_ n1_ n2_ n3_ n4_ n5_ n6_ n7_ n8_ n9_; clear hb hbox hg; obtain ⟨Ao11, co11, eo11⟩ := Kd.R_slice HO1608.out; subst eo11; have hnb12 := NB1614_0.out; have hnc12 := NB0_1614.out; have hcz13_0 : w10.cell? ⟨gb1614, 0, none⟩ = some (.slice none 0 0) := (blk_cell BK1614.out 0).trans rfl; have hcz13_1 : w10.cell? ⟨gb1614, 1, none⟩ = some (.int .i64 0) := (blk_cell BK1614.out 1).trans rfl; have hcz13_2 : w10.cell? ⟨gb1614, 2, none⟩ = some (.int .i64 0) := (blk_cell BK1614.out 2).trans rfl; have hcz13_3 : w10.cell? ⟨gb1614, 3, none⟩ = some (.string (⟨#[]⟩ : ByteArray)) := (blk_cell BK1614.out 3).trans rfl; have hfz13_0 := blk_frozen BK1614.out 0; have hfz13_1 := blk_frozen BK1614.out 1; have hfz13_2 := blk_frozen BK1614.out 2; have hfz13_3 := blk_frozen BK1614.out 3) | ((with_reducible refine gate_store (t := 44) (p := 5) rfl ?_); refine store_event (t := 44) (p := 5) (v := ?vo_w14) (w1 := ((((w10.setCell ⟨gb1614, 0, none⟩ (.slice Ao11 t1606.length co11)).setCell ⟨gb1614, 1, none⟩ (.int .i64 t1609)).setCell ⟨gb1614, 2, none⟩ (.int .i64 t1610)).setCell ⟨gb1614, 3, none⟩ (.string t1611))) ?hg ?ho ?hn ?hr ?_; (case ho => rfl); (case hg => rfl); (case hn => rfl); (case hr => first | (go_simp; done) | (go_simp; rfl)); intro w14 hw; have n0_ : Aside0 (Kd.S k44 44 w14 w.heap.size (fun k_ => some k_ ≠ (.slice Ao11 t1606.length co11 : Value).ownBlock ∧ k_ ≠ gb1614) u3 x3_1) := ⟨(by rw [hw]; exact (by (with_reducible repeat (first | apply Kd.S_alloc | apply Kd.S_drewN | apply Kd.S_drew)); exact Kd.S_mono (Kd.S_far (p := ⟨gb1614, 3, none⟩) (Kd.S_far (p := ⟨gb1614, 2, none⟩) (Kd.S_far (p := ⟨gb1614, 1, none⟩) (Kd.S_far (p := ⟨gb1614, 0, none⟩) (Kd.S_mono HO_3.out (fun k_ hk => (⟨hk, hk.2⟩ : _ ∧ k_ ≠ gb1614))) (fun _ hk => hk.2) (.slice Ao11 t1606.length co11)) (fun _ hk => hk.2) (.int .i64 t1609)) (fun _ hk => hk.2) (.int .i64 t1610)) (fun _ hk => hk.2) (.string t1611)) (fun _ hk => ⟨hk.1.1.2, hk.1.2⟩)))⟩; have n1_ : Aside0 (Kd.R k164 164 w14 w.heap.size (fun _ => True) (.slice Ao11 t1606.length co11) t1606) := ⟨(by rw [hw]; exact (by (with_reducible repeat (first | apply Kd.R_alloc | apply Kd.R_drewN | apply Kd.R_drew)); exact Kd.R_mono (Kd.R_far (p := ⟨gb1614, 3, none⟩) (Kd.R_far (p := ⟨gb1614, 2, none⟩) (Kd.R_far (p := ⟨gb1614, 1, none⟩) (Kd.R_far (p := ⟨gb1614, 0, none⟩) (Kd.R_types HO1608.out BK1614.out (by decide)) (fun _ hk => hk.2) (.slice Ao11 t1606.length co11)) (fun _ hk => hk.2) (.int .i64 t1609)) (fun _ hk => hk.2) (.int .i64 t1610)) (fun _ hk => hk.2) (.string t1611)) (fun _ hk => trivial)))⟩; have n2_ : Aside0 (w14.heap[gb1614]? = some (.cells #[.slice Ao11 t1606.length co11, .int .i64 t1609, .int .i64 t1610, .string t1611] 44 (0, 0))) := ⟨(by rw [hw]; exact (by (with_reducible repeat (first | refine kn_ ?_ _ | refine kd_ ?_ | refine ka_ ?_ _)); refine blk_put (cs := #[.slice Ao11 t1606.length co11, .int .i64 t1609, .int .i64 t1610, .string (⟨#[]⟩ : ByteArray)]) ?_ 3 _ rfl; (with_reducible repeat (first | refine kn_ ?_ _ | refine kd_ ?_ | refine ka_ ?_ _)); refine blk_put (cs := #[.slice Ao11 t1606.length co11, .int .i64 t1609, .int .i64 0, .string (⟨#[]⟩ : ByteArray)]) ?_ 2 _ rfl; (with_reducible repeat (first | refine kn_ ?_ _ | refine kd_ ?_ | refine ka_ ?_ _)); refine blk_put (cs := #[.slice Ao11 t1606.length co11, .int .i64 0, .int .i64 0, .string (⟨#[]⟩ : ByteArray)]) ?_ 1 _ rfl; (with_reducible repeat (first | refine kn_ ?_ _ | refine kd_ ?_ | refine ka_ ?_ _)); refine blk_put (cs := #[.slice none 0 0, .int .i64 0, .int .i64 0, .string (⟨#[]⟩ : ByteArray)]) ?_ 0 _ rfl; (with_reducible repeat (first | refine kn_ ?_ _ | refine kd_ ?_ | refine ka_ ?_ _)); exact BK1614.out))⟩; have n3_ : Aside0 (IsS173 w0 w14 g s0_0 t1612 t1613) := ⟨(by rw [hw]; exact (by repeat (first | (with_reducible first | exact HI0.out | apply IsS173.alloc | apply IsS173.drewN | apply IsS173.drew | apply IsS173.set_1 | apply IsS173.set_2 | refine IsS173.far ?_ NB0_1614.out _) | exact HI0.out)))⟩; have n4_ : Aside0 (KeepBut w w14 g none) := ⟨(by rw [hw]; exact (by repeat (first | (with_reducible first | exact HK.out | apply KeepBut.set_ | apply keep_drewN | apply keep_drew | apply keep_alloc | refine keep_far ?_ GW1614.out _) | exact HK.out)))⟩; have n5_ : Aside0 (Below w0.heap.size w0 w14) := ⟨(by rw [hw]; exact (by repeat (first | (with_reducible first | exact HB.out | apply ba_ | apply bn_ | apply bd_ | refine below_set ?_ (IsS173.ge HI0.out) | refine below_set ?_ GE1614.out) | exact HB.out)))⟩; clear hw; clear HO_3; clear HO1608; clear BK1614; clear HI0; clear HK; clear HB; have HO_3 := n0_; have HO1608 := n1_; have BK1614 := n2_; have HI0 := n3_; have HK := n4_; have HB := n5_; clear n0_ n1_ n2_ n3_ n4_ n5_; have hcz15_0 : w14.cell? ⟨gb1614, 0, none⟩ = some (.slice Ao11 t1606.length co11) := (blk_cell BK1614.out 0).trans rfl; have hcz15_1 : w14.cell? ⟨gb1614, 1, none⟩ = some (.int .i64 t1609) := (blk_cell BK1614.out 1).trans rfl; have hcz15_2 : w14.cell? ⟨gb1614, 2, none⟩ = some (.int .i64 t1610) := (blk_cell BK1614.out 2).trans rfl; have hcz15_3 : w14.cell? ⟨gb1614, 3, none⟩ = some (.string t1611) := (blk_cell BK1614.out 3).trans rfl; have hfz15_0 := blk_frozen BK1614.out 0; have hfz15_1 := blk_frozen BK1614.out 1; have hfz15_2 := blk_frozen BK1614.out 2; have hfz15_3 := blk_frozen BK1614.out 3) | ((with_reducible refine gate_builtin (b := .append) (xs := #[.tmp 15, .tmp 17]) rfl ?_); at_builtin; refine Kd.S_append k44 w.heap.size rfl (.tmp 15) (.tmp 17) 37 44 (.agg #[(.slice none 0 0), (.int .i64 0), (.int .i64 0), (.string ⟨#[]⟩)]) 56 rfl Try.underlying37 info44 rfl (by decide) (by omega) u3 x3_1 (⟨t1606, t1609, t1610, t1611⟩ : S44) [.slice Ao11 t1606.length co11, .int .i64 t1609, .int .i64 t1610, .string t1611] (fun k_ => k_ ≠ gb1614) (fun k_ => some k_ = (.slice Ao11 t1606.length co11 : Value).ownBlock) rfl rfl ?aP (fun k_ hk_ => ((Kd.R_mono (ok' := fun k_ => ((fun k_ => k_ ≠ gb1614)) k_ ∧ some k_ ≠ (u3 : Value).ownBlock) (Kd.R_types (Kd.R_apart' (HO1608.out) (Kd.S_typed HO_3.out) (by decide)) BK1614.out (by decide)) (fun k_ hk => ⟨hk.2, hk.1.2⟩))).1 k_ hk_.symm) ?aF ?aO (Below.refl _ _) ?aS ?aL ?_; (case aP => exact k44_mkM _ _ _ (⟨t1606, t1609, t1610, t1611⟩ : S44) (Kd.R_mono (Kd.R_tight rfl (Kd.R_mono (ok' := fun k_ => ((fun k_ => k_ ≠ gb1614)) k_ ∧ some k_ ≠ (u3 : Value).ownBlock) (Kd.R_types (Kd.R_apart' (HO1608.out) (Kd.S_typed HO_3.out) (by decide)) BK1614.out (by decide)) (fun k_ hk => ⟨hk.2, hk.1.2⟩))) (fun _ h_ => h_))); (case aF => exact (fun k_ hk => Kd.freshB (g := gb1614) (o := .cells #[.slice Ao11 t1606.length co11, .int .i64 t1609, .int .i64 t1610, .string t1611] 44 (0, 0)) (pb_ BK1614.out) k_ hk)); (case aO => exact (by (with_reducible repeat (first | apply Kd.S_alloc | apply Kd.S_drewN | apply Kd.S_drew)); exact Kd.S_mono HO_3.out (fun k_ hk => ⟨hk.2, fun e_ => hk.1 e_⟩))); (case aS => exact (keep_size (w := w) (g := g) (row := none) (by repeat (first | (with_reducible first | exact HK.out | apply KeepBut.set_ | apply keep_drewN | apply keep_drew | apply keep_alloc | refine keep_far ?_ GW1614.out _) | exact HK.out)))); (case aL => have := LMc8.out; omega); intro v1616 w16 ho hb hg hat; rw [← Ny1615.out] at ho; have n0_ := Aside0.mk (IsS173.grown (by repeat (first | (with_reducible first | exact HI0.out | apply IsS173.alloc | apply IsS173.drewN | apply IsS173.drew | apply IsS173.set_1 | apply IsS173.set_2 | refine IsS173.far ?_ NB0_1614.out _) | exact HI0.out)) hg (IsS173.own_neS HI0.out HO_3.out (by decide))); have n1_ := Aside0.mk (blk_grown (g := gb1614) (o := .cells #[.slice Ao11 t1606.length co11, .int .i64 t1609, .int .i64 t1610, .string t1611] 44 (0, 0)) (pb_ BK1614.out) hg (Kd.S_away HO_3.out (fun _ hk => hk.2))); have n2_ := Aside0.mk (below_weaken (by repeat (first | (with_reducible first | exact HB.out | apply ba_ | apply bn_ | apply bd_ | refine below_set ?_ (IsS173.ge HI0.out) | refine below_set ?_ GE1614.out) | exact HB.out)) HL.out hb); have n3_ := Aside0.mk (KeepBut.trans (by repeat (first | (with_reducible first | exact HK.out | apply KeepBut.set_ | apply keep_drewN | apply keep_drew | apply keep_alloc | refine keep_far ?_ GW1614.out _) | exact HK.out)) (KeepBut.of_grown hg g) (Kd.S_base2 HO_3.out)); have n4_ := Aside0.mk (ho); clear HI0; clear BK1614; clear HB; clear HK; clear HO_3; clear HO1608; have HI0 := n0_; have BK1614 := n1_; have HB := n2_; have HK := n3_; have HO1617 := n4_; clear n0_ n1_ n2_ n3_ n4_; clear ho hb hg hat))
     go_roundg k1
     case measure => have := HK1.out; omega
     case rel => exact ⟨(y1615), (wrap64 (x4_1 - 1)), (t1612), (t1613), (by first | rfl | (simp; done) | (simp [*]; done)), H', ⟨by have := HK1.out; omega⟩, ⟨by (with_reducible repeat (first | apply Kd.S_alloc | apply Kd.S_drewN | apply Kd.S_drew)); exact Kd.S_mono HO1617.out (fun _ hk => trivial)⟩, ⟨by repeat (first | (with_reducible first | exact HI0.out | apply IsS173.alloc | apply IsS173.drewN | apply IsS173.drew | apply IsS173.set_1 | apply IsS173.set_2 | refine IsS173.far ?_ NB0_1614.out _) | exact HI0.out)⟩, ⟨by repeat (first | (with_reducible first | exact HK.out | apply KeepBut.set_ | apply keep_drewN | apply keep_drew | apply keep_alloc | refine keep_far ?_ GW1614.out _) | exact HK.out)⟩, ⟨by repeat (first | (with_reducible first | exact HB.out | apply ba_ | apply bn_ | apply bd_ | refine below_set ?_ (IsS173.ge HI0.out) | refine below_set ?_ GE1614.out) | exact HB.out)⟩⟩
    rw [if_neg c8] at H
    exact absurd H (by simp)
   rw [if_neg c6] at H
   have c6b0 : decide (0 < x4_1) = false := decide_eq_false c6
   clear c6
   simp only [Option.some.injEq, Prod.mk.injEq] at H
   obtain ⟨rfl, rfl, rfl⟩ := H
   go_wp2
   go_ret
   exact ⟨_, by first | rfl | (simp [errW_none, errW_some] <;> rfl) | (simp [*, errW_none, errW_some] <;> rfl), by (with_reducible repeat (first | apply Kd.S_alloc | apply Kd.S_drewN | apply Kd.S_drew)); exact HO_3.out, by repeat (first | (with_reducible first | exact HI0.out | apply IsS173.alloc | apply IsS173.drewN | apply IsS173.drew | apply IsS173.set_1 | apply IsS173.set_2) | exact HI0.out), by repeat (first | (with_reducible first | exact HB.out | apply ba_ | apply bn_ | apply bd_ | refine below_set ?_ (IsS173.ge HI0.out)) | exact HB.out), by repeat (first | (with_reducible first | exact HK.out | apply KeepBut.set_ | apply keep_drewN | apply keep_drew | apply keep_alloc) | exact HK.out)⟩
end Go.Proofs.Ytfholjcelnkleaa.Print
end
