import Derived.Test.YtfholjcelnkleaaMFnHeards1
import Derived.Test.YtfholjcelnkleaaMFnHeards2
import Derived.Test.YtfholjcelnkleaaMFnHeards3
section
namespace Go.Proofs.Ytfholjcelnkleaa.Print
open Go.RowKit Go.Proofs.YtfholjcelnkleaaV.PrintWords Go.Proofs.YtfholjcelnkleaaV.PrintLast Go.Proofs.YtfholjcelnkleaaV.PrintMore
attribute [local go_sem] max2_int min2_int max_two min_two max_three min_three max_four min_four
set_option linter.unusedVariables false
set_option linter.unusedSimpArgs false
set_option maxHeartbeats 8000000
set_option maxRecDepth 100000
def spec_l4Any.f (k : Nat) (s0_0 : List Int) (s0_1 : Int) (s0_2 : Int) : Option ((List (S164)) × Int × Int × ByteArray × Int × Int) := (spec_l4Draw.f k s0_0 s0_1 s0_2).bind fun bt1725 => ((spec_l1Below.f s0_0 bt1725.2.2.2.2.1 bt1725.2.2.2.2.2 12).bind fun bt1734 => (if bt1734.1 = 0 then ((spec_l2Any.f k s0_0 bt1734.2.1 bt1734.2.2).bind fun bt1737 => (some (bt1737.1, bt1725.2.1, bt1725.2.2.1, bt1725.2.2.2.1, bt1737.2.1, bt1737.2.2))) else (if bt1734.1 = 1 then ((spec_l1Int.f s0_0 bt1734.2.1 bt1734.2.2 (([(-1), 99999, 100000] : List Int))).bind fun bt1745 => (some (bt1725.1, bt1745.1, bt1725.2.2.1, bt1725.2.2.2.1, bt1745.2.1, bt1745.2.2))) else (if bt1734.1 = 2 then ((spec_l1Raw.f s0_0 bt1734.2.1 bt1734.2.2).bind fun bt1748 => (some (bt1725.1, bt1725.2.1, bt1748.1, bt1725.2.2.2.1, bt1748.2.1, bt1748.2.2))) else (if bt1734.1 = 3 then ((spec_l1AnyPlain.f s0_0 bt1734.2.1 bt1734.2.2).bind fun bt1751 => (some (bt1725.1, bt1725.2.1, bt1725.2.2.1, bt1751.1, bt1751.2.1, bt1751.2.2))) else (some (bt1725.1, bt1725.2.1, bt1725.2.2.1, bt1725.2.2.2.1, bt1734.2.1, bt1734.2.2)))))))
theorem spec_l4Any.mono : ∀ a0 a1 a2 k, LeO (spec_l4Any.f k a0 a1 a2) (spec_l4Any.f (k + 1) a0 a1 a2) := by
 intro a0 a1 a2 k
 unfold spec_l4Any.f
 repeat' first
   | (with_reducible exact spec_l2Any.mono _ _ _ _)
   | (with_reducible exact spec_l4Draw.mono _ _ _ _)
   | (with_reducible exact LeO.refl _)
   | (with_reducible exact LeO.none _)
   | (with_reducible refine LeO.ite ?_ ?_)
   | (with_reducible refine LeO.bind ?_ (fun _ => ?_))
   | exact spec_l2Any.mono _ _ _ _
   | exact spec_l4Draw.mono _ _ _ _
theorem spec_l4Any.calls (k : Nat) (g : Nat) (s0_0 : List Int) (s0_1 : Int) (s0_2 : Int) (r1 : List (S164)) (r2 : Int) (r3 : Int) (r4 : ByteArray) (r5 : Int) (r6 : Int) (w0 w : World) (hI : IsS173 w0 w g s0_0 s0_1 s0_2) (hB : Below w0.heap.size w0 w) (h : spec_l4Any.f k s0_0 s0_1 s0_2 = some (r1, r2, r3, r4, r5, r6)) :
  Calls Try.prog 159 #[.pointer (some ⟨g, 0, none⟩)] w fun e w' => ∃ v0_ : Value, e = .returned (.agg #[v0_, .int .i64 r2, .int .i64 r3, .string r4]) ∧ Kd.R k164 164 w' w.heap.size (fun _ => True) v0_ r1 ∧ IsS173 w0 w' g s0_0 r5 r6 ∧ Below w0.heap.size w0 w' ∧ KeepBut w w' g none := by
 have hu44 := Try.underlying44
 have HI0 := Aside0.mk hI
 have HK := Aside0.mk (KeepBut.refl w g none)
 have HL := Aside0.mk hB.size
 clear hI
 have HW0 := Aside0.mk hB.size
 have HB := Aside0.mk hB
 clear hB
 have H : ((spec_l4Draw.f k s0_0 s0_1 s0_2).bind fun bt1725 => ((spec_l1Below.f s0_0 bt1725.2.2.2.2.1 bt1725.2.2.2.2.2 12).bind fun bt1734 => (if bt1734.1 = 0 then ((spec_l2Any.f k s0_0 bt1734.2.1 bt1734.2.2).bind fun bt1737 => (some (bt1737.1, bt1725.2.1, bt1725.2.2.1, bt1725.2.2.2.1, bt1737.2.1, bt1737.2.2))) else (if bt1734.1 = 1 then ((spec_l1Int.f s0_0 bt1734.2.1 bt1734.2.2 (([(-1), 99999, 100000] : List Int))).bind fun bt1745 => (some (bt1725.1, bt1745.1, bt1725.2.2.1, bt1725.2.2.2.1, bt1745.2.1, bt1745.2.2))) else (if bt1734.1 = 2 then ((spec_l1Raw.f s0_0 bt1734.2.1 bt1734.2.2).bind fun bt1748 => (some (bt1725.1, bt1725.2.1, bt1748.1, bt1725.2.2.2.1, bt1748.2.1, bt1748.2.2))) else (if bt1734.1 = 3 then ((spec_l1AnyPlain.f s0_0 bt1734.2.1 bt1734.2.2).bind fun bt1751 => (some (bt1725.1, bt1725.2.1, bt1725.2.2.1, bt1751.1, bt1751.2.1, bt1751.2.2))) else (some (bt1725.1, bt1725.2.1, bt1725.2.2.1, bt1725.2.2.2.1, bt1734.2.1, bt1734.2.2)))))))) = some (r1, r2, r3, r4, r5, r6) := h
 clear h
 replace H := Option.bind_eq_some_iff.mp H
 obtain ⟨⟨t1725, t1728, t1729, t1730, t1731, t1732⟩, A20, H⟩ := H
 have A2 := Aside0.mk A20
 clear A20
 replace H := Option.bind_eq_some_iff.mp H
 obtain ⟨⟨t1734, t1735, t1736⟩, A30, H⟩ := H
 have A3 := Aside0.mk A30
 clear A30
 by_cases c4 : t1734 = 0
 ·
  rw [if_pos c4] at H
  have c4b0 : (t1734 == 0) = true := beq_iff_eq.mpr c4
  have c4b1 : (t1734 != 0) = false := bne_eq_false_iff_eq.mpr c4
  clear c4
  replace H := Option.bind_eq_some_iff.mp H
  obtain ⟨⟨t1737, t1740, t1741⟩, A50, H⟩ := H
  have A5 := Aside0.mk A50
  clear A50
  simp only [Option.some.injEq, Prod.mk.injEq] at H
  obtain ⟨rfl, rfl, rfl, rfl, rfl, rfl⟩ := H
  go_enter Try.func159, Try.ntmps159
  go_wp2_with (first | ((with_reducible refine gate_dst (N := 2) rfl ?_); refine box_event ?hg (N := 2) ?hd (cs := #[.slice none 0 0, .int .i64 0, .int .i64 0, .string (⟨#[]⟩ : ByteArray)]) (t := 44) ?hr ?_; (case hd => rfl); (case hg => rfl); (case hr => first | (go_simp; done) | (go_simp; rfl)); intro gb1724 hg w6 hbox hb; have n0_ := Aside0.mk (IsS173.below (by repeat (first | (with_reducible first | exact HI0.out | apply IsS173.alloc | apply IsS173.drewN | apply IsS173.drew | apply IsS173.set_1 | apply IsS173.set_2) | exact HI0.out)) hb); have n1_ := Aside0.mk (KeepBut.trans (by repeat (first | (with_reducible first | exact HK.out | apply KeepBut.set_ | apply keep_drewN | apply keep_drew | apply keep_alloc) | exact HK.out)) (KeepBut.of_below hb g none) (.inl rfl)); have n2_ := Aside0.mk (below_step (by repeat (first | (with_reducible first | exact HB.out | apply ba_ | apply bn_ | apply bd_ | refine below_set ?_ (IsS173.ge HI0.out)) | exact HB.out)) hb); have n3_ := Aside0.mk (hbox); have n4_ := Aside0.mk ((by rw [hg]; exact (keep_size (w := w) (g := g) (row := none) (by repeat (first | (with_reducible first | exact HK.out | apply KeepBut.set_ | apply keep_drewN | apply keep_drew | apply keep_alloc) | exact HK.out))) : w.heap.size ≤ gb1724)); have n5_ := Aside0.mk ((Nat.le_trans HW0.out (by rw [hg]; exact (keep_size (w := w) (g := g) (row := none) (by repeat (first | (with_reducible first | exact HK.out | apply KeepBut.set_ | apply keep_drewN | apply keep_drew | apply keep_alloc) | exact HK.out))) : w.heap.size ≤ gb1724) : w0.heap.size ≤ gb1724)); have n6_ := Aside0.mk ((by rw [hg]; exact Nat.ne_of_lt (IsS173.lt (show IsS173 w0 _ g s0_0 s0_1 s0_2 from by repeat (first | (with_reducible first | exact HI0.out | apply IsS173.alloc | apply IsS173.drewN | apply IsS173.drew | apply IsS173.set_1 | apply IsS173.set_2) | exact HI0.out))) : g ≠ gb1724)); have n7_ := Aside0.mk ((by rw [hg]; exact Nat.ne_of_gt (IsS173.lt (show IsS173 w0 _ g s0_0 s0_1 s0_2 from by repeat (first | (with_reducible first | exact HI0.out | apply IsS173.alloc | apply IsS173.drewN | apply IsS173.drew | apply IsS173.set_1 | apply IsS173.set_2) | exact HI0.out))) : gb1724 ≠ g)); clear HI0; clear HK; clear HB; have HI0 := n0_; have HK := n1_; have HB := n2_; have BK1724 := n3_; have GW1724 := n4_; have GE1724 := n5_; have NB0_1724 := n6_; have NB1724_0 := n7_; clear n0_ n1_ n2_ n3_ n4_ n5_ n6_ n7_; clear hb hbox hg) | ((with_reducible refine gate_callee (f := 135) rfl ?_); refine goesL_ (some 5) rfl rfl Try.func135 (by kernel_rfl) rfl #[.pointer (some ⟨g, 0, none⟩)] rfl (by (try simp only [mp_]); first | done | rfl | (simp only [List.length_drop, List.length_take]; rfl)) ?_; (with_reducible refine (spec_l4Draw.calls k g s0_0 s0_1 s0_2 t1725 t1728 t1729 t1730 t1731 t1732 w0 _ ?side1 ?side2 A2.out).mono ?_); (case side1 => repeat (first | (with_reducible first | exact HI0.out | apply IsS173.alloc | apply IsS173.drewN | apply IsS173.drew | apply IsS173.set_1 | apply IsS173.set_2 | refine IsS173.far ?_ NB0_1724.out _) | exact HI0.out)); (case side2 => repeat (first | (with_reducible first | exact HB.out | apply ba_ | apply bn_ | apply bd_ | refine below_set ?_ (IsS173.ge HI0.out) | refine below_set ?_ GE1724.out) | exact HB.out)); rintro e w7 ⟨v1726, rfl, ho0, hi, hb, hk⟩; refine ⟨_, rfl, ?_⟩; have n0_ := Aside0.mk (KeepBut.blk hk (g' := gb1724) (o := .cells #[.slice none 0 0, .int .i64 0, .int .i64 0, .string (⟨#[]⟩ : ByteArray)] 44 (0, 0)) (pb_ BK1724.out) NB1724_0.out (by simp)); have n1_ := Aside0.mk (Kd.R_lower ho0 (keep_size (w := w) (g := g) (row := none) (by repeat (first | (with_reducible first | exact HK.out | apply KeepBut.set_ | apply keep_drewN | apply keep_drew | apply keep_alloc | refine keep_far ?_ GW1724.out _) | exact HK.out)))); have n2_ := Aside0.mk (KeepBut.trans (by repeat (first | (with_reducible first | exact HK.out | apply KeepBut.set_ | apply keep_drewN | apply keep_drew | apply keep_alloc | refine keep_far ?_ GW1724.out _) | exact HK.out)) hk (.inl rfl)); have n3_ := Aside0.mk (hb); have n4_ := Aside0.mk (hi); clear BK1724; clear HK; clear HB; clear HI0; have BK1724 := n0_; have HO1727 := n1_; have HK := n2_; have HB := n3_; have HI0 := n4_; clear n0_ n1_ n2_ n3_ n4_; (try clear hb); (try clear hb2); (try clear hk); (try clear hi); (try clear ho0)) | ((with_reducible refine gate_dst (N := 3) rfl ?_); refine box_event ?hg (N := 3) ?hd (cs := #[.slice none 0 0, .int .i64 0, .int .i64 0, .string (⟨#[]⟩ : ByteArray)]) (t := 44) ?hr ?_; (case hd => rfl); (case hg => rfl); (case hr => first | (go_simp; done) | (go_simp; rfl)); intro gb1733 hg w8 hbox hb; have n0_ := Aside0.mk (Kd.R_below (rp_ HO1727.out) hb); have n1_ := Aside0.mk (IsS173.below (by repeat (first | (with_reducible first | exact HI0.out | apply IsS173.alloc | apply IsS173.drewN | apply IsS173.drew | apply IsS173.set_1 | apply IsS173.set_2 | refine IsS173.far ?_ NB0_1724.out _) | exact HI0.out)) hb); have n2_ := Aside0.mk (bb_ BK1724.out hb); have n3_ := Aside0.mk (KeepBut.trans (by repeat (first | (with_reducible first | exact HK.out | apply KeepBut.set_ | apply keep_drewN | apply keep_drew | apply keep_alloc | refine keep_far ?_ GW1724.out _) | exact HK.out)) (KeepBut.of_below hb g none) (.inl rfl)); have n4_ := Aside0.mk (below_step (by repeat (first | (with_reducible first | exact HB.out | apply ba_ | apply bn_ | apply bd_ | refine below_set ?_ (IsS173.ge HI0.out) | refine below_set ?_ GE1724.out) | exact HB.out)) hb); have n5_ := Aside0.mk (hbox); have n6_ := Aside0.mk ((by rw [hg]; exact (keep_size (w := w) (g := g) (row := none) (by repeat (first | (with_reducible first | exact HK.out | apply KeepBut.set_ | apply keep_drewN | apply keep_drew | apply keep_alloc | refine keep_far ?_ GW1724.out _) | exact HK.out))) : w.heap.size ≤ gb1733)); have n7_ := Aside0.mk ((Nat.le_trans HW0.out (by rw [hg]; exact (keep_size (w := w) (g := g) (row := none) (by repeat (first | (with_reducible first | exact HK.out | apply KeepBut.set_ | apply keep_drewN | apply keep_drew | apply keep_alloc | refine keep_far ?_ GW1724.out _) | exact HK.out))) : w.heap.size ≤ gb1733) : w0.heap.size ≤ gb1733)); have n8_ := Aside0.mk (nl_ BK1724.out hg); have n9_ := Aside0.mk (ng_ BK1724.out hg); have n10_ := Aside0.mk ((by rw [hg]; exact Nat.ne_of_lt (IsS173.lt (show IsS173 w0 _ g s0_0 t1731 t1732 from by repeat (first | (with_reducible first | exact HI0.out | apply IsS173.alloc | apply IsS173.drewN | apply IsS173.drew | apply IsS173.set_1 | apply IsS173.set_2 | refine IsS173.far ?_ NB0_1724.out _) | exact HI0.out))) : g ≠ gb1733)); have n11_ := Aside0.mk ((by rw [hg]; exact Nat.ne_of_gt (IsS173.lt (show IsS173 w0 _ g s0_0 t1731 t1732 from by repeat (first | (with_reducible first | exact HI0.out | apply IsS173.alloc | apply IsS173.drewN | apply IsS173.drew | apply IsS173.set_1 | apply IsS173.set_2 | refine IsS173.far ?_ NB0_1724.out _) | exact HI0.out))) : gb1733 ≠ g)); clear HO1727; clear HI0; clear BK1724; clear HK; clear HB; have HO1727 := n0_; have HI0 := n1_; have BK1724 := n2_; have HK := n3_; have HB := n4_; have BK1733 := n5_; have GW1733 := n6_; have GE1733 := n7_; have NB1724_1733 := n8_; have NB1733_1724 := n9_; have NB0_1733 := n10_; have NB1733_0 := n11_; clear n0_ n1_ n2_ n3_ n4_ n5_ n6_ n7_ n8_ n9_ n10_ n11_; clear hb hbox hg; obtain ⟨Ao9, co9, eo9⟩ := Kd.R_slice HO1727.out; subst eo9; have hnb10 := NB1733_1724.out; have hnc10 := NB1724_1733.out; have hnb11 := NB1733_0.out; have hnc11 := NB0_1733.out; have hcz12_0 : w8.cell? ⟨gb1733, 0, none⟩ = some (.slice none 0 0) := (blk_cell BK1733.out 0).trans rfl; have hcz12_1 : w8.cell? ⟨gb1733, 1, none⟩ = some (.int .i64 0) := (blk_cell BK1733.out 1).trans rfl; have hcz12_2 : w8.cell? ⟨gb1733, 2, none⟩ = some (.int .i64 0) := (blk_cell BK1733.out 2).trans rfl; have hcz12_3 : w8.cell? ⟨gb1733, 3, none⟩ = some (.string (⟨#[]⟩ : ByteArray)) := (blk_cell BK1733.out 3).trans rfl; have hfz12_0 := blk_frozen BK1733.out 0; have hfz12_1 := blk_frozen BK1733.out 1; have hfz12_2 := blk_frozen BK1733.out 2; have hfz12_3 := blk_frozen BK1733.out 3) | ((with_reducible refine gate_callee (f := 137) rfl ?_); refine goesL_ (some 7) rfl rfl Try.func137 (by kernel_rfl) rfl #[.pointer (some ⟨g, 0, none⟩), .int .i64 12] rfl (by (try simp only [mp_]); first | done | rfl | (simp only [List.length_drop, List.length_take]; rfl)) ?_; (with_reducible refine (spec_l1Below.calls g s0_0 t1731 t1732 12 t1734 t1735 t1736 w0 _ ?side1 ?side2 A3.out).mono ?_); (case side1 => repeat (first | (with_reducible first | exact HI0.out | apply IsS173.alloc | apply IsS173.drewN | apply IsS173.drew | apply IsS173.set_1 | apply IsS173.set_2 | refine IsS173.far ?_ NB0_1724.out _ | refine IsS173.far ?_ NB0_1733.out _) | exact HI0.out)); (case side2 => repeat (first | (with_reducible first | exact HB.out | apply ba_ | apply bn_ | apply bd_ | refine below_set ?_ (IsS173.ge HI0.out) | refine below_set ?_ GE1724.out | refine below_set ?_ GE1733.out) | exact HB.out)); rintro e w13 ⟨rfl, hi, hb, hk⟩; refine ⟨_, rfl, ?_⟩; have n0_ := Aside0.mk (KeepBut.blk hk (g' := gb1724) (o := .cells #[.slice none 0 0, .int .i64 0, .int .i64 0, .string (⟨#[]⟩ : ByteArray)] 44 (0, 0)) (by (with_reducible repeat (first | refine kn_ ?_ _ | refine kd_ ?_ | refine ka_ ?_ _)); refine blk_far ?_ NB1724_1733.out _; (with_reducible repeat (first | refine kn_ ?_ _ | refine kd_ ?_ | refine ka_ ?_ _)); refine blk_far ?_ NB1724_1733.out _; (with_reducible repeat (first | refine kn_ ?_ _ | refine kd_ ?_ | refine ka_ ?_ _)); refine blk_far ?_ NB1724_1733.out _; (with_reducible repeat (first | refine kn_ ?_ _ | refine kd_ ?_ | refine ka_ ?_ _)); refine blk_far ?_ NB1724_1733.out _; (with_reducible repeat (first | refine kn_ ?_ _ | refine kd_ ?_ | refine ka_ ?_ _)); exact BK1724.out) NB1724_0.out (by simp)); have n1_ := Aside0.mk (Kd.R_mono (Kd.R_keep (IsS173.apart (show IsS173 w0 _ g s0_0 t1731 t1732 from by repeat (first | (with_reducible first | exact HI0.out | apply IsS173.alloc | apply IsS173.drewN | apply IsS173.drew | apply IsS173.set_1 | apply IsS173.set_2 | refine IsS173.far ?_ NB0_1724.out _ | refine IsS173.far ?_ NB0_1733.out _) | exact HI0.out)) (by (with_reducible repeat (first | apply Kd.R_alloc | apply Kd.R_drewN | apply Kd.R_drew)); exact (Kd.R_mono (Kd.R_far (p := ⟨gb1733, 3, none⟩) (Kd.R_far (p := ⟨gb1733, 2, none⟩) (Kd.R_far (p := ⟨gb1733, 1, none⟩) (Kd.R_far (p := ⟨gb1733, 0, none⟩) (Kd.R_types HO1727.out BK1733.out (by decide)) (fun _ hk => hk.2) (.slice Ao9 t1725.length co9)) (fun _ hk => hk.2) (.int .i64 t1728)) (fun _ hk => hk.2) (.int .i64 t1729)) (fun _ hk => hk.2) (.string t1730)) (fun _ h_ => h_.1))) (by decide)) hk (fun _ h => h.2)) (fun _ h => h.1)); have n2_ := Aside0.mk (KeepBut.blk hk (g' := gb1733) (o := .cells #[.slice Ao9 t1725.length co9, .int .i64 t1728, .int .i64 t1729, .string t1730] 44 (0, 0)) (by (with_reducible repeat (first | refine kn_ ?_ _ | refine kd_ ?_ | refine ka_ ?_ _)); refine blk_put (cs := #[.slice Ao9 t1725.length co9, .int .i64 t1728, .int .i64 t1729, .string (⟨#[]⟩ : ByteArray)]) ?_ 3 _ rfl; (with_reducible repeat (first | refine kn_ ?_ _ | refine kd_ ?_ | refine ka_ ?_ _)); refine blk_put (cs := #[.slice Ao9 t1725.length co9, .int .i64 t1728, .int .i64 0, .string (⟨#[]⟩ : ByteArray)]) ?_ 2 _ rfl; (with_reducible repeat (first | refine kn_ ?_ _ | refine kd_ ?_ | refine ka_ ?_ _)); refine blk_put (cs := #[.slice Ao9 t1725.length co9, .int .i64 0, .int .i64 0, .string (⟨#[]⟩ : ByteArray)]) ?_ 1 _ rfl; (with_reducible repeat (first | refine kn_ ?_ _ | refine kd_ ?_ | refine ka_ ?_ _)); refine blk_put (cs := #[.slice none 0 0, .int .i64 0, .int .i64 0, .string (⟨#[]⟩ : ByteArray)]) ?_ 0 _ rfl; (with_reducible repeat (first | refine kn_ ?_ _ | refine kd_ ?_ | refine ka_ ?_ _)); exact BK1733.out) NB1733_0.out (by simp)); have n3_ := Aside0.mk (KeepBut.trans (by repeat (first | (with_reducible first | exact HK.out | apply KeepBut.set_ | apply keep_drewN | apply keep_drew | apply keep_alloc | refine keep_far ?_ GW1724.out _ | refine keep_far ?_ GW1733.out _) | exact HK.out)) hk (.inl rfl)); have n4_ := Aside0.mk (hb); have n5_ := Aside0.mk (hi); clear BK1724; clear HO1727; clear BK1733; clear HK; clear HB; clear HI0; have BK1724 := n0_; have HO1727 := n1_; have BK1733 := n2_; have HK := n3_; have HB := n4_; have HI0 := n5_; clear n0_ n1_ n2_ n3_ n4_ n5_; (try clear hb); (try clear hb2); (try clear hk); (try clear hi)) | ((with_reducible refine gate_callee (f := 171) rfl ?_); refine goesL_ (some 11) rfl rfl Try.func171 (by kernel_rfl) rfl #[.pointer (some ⟨g, 0, none⟩)] rfl (by (try simp only [mp_]); first | done | rfl | (simp only [List.length_drop, List.length_take]; rfl)) ?_; (with_reducible refine (spec_l2Any.calls k g s0_0 t1735 t1736 t1737 t1740 t1741 w0 _ ?side1 ?side2 A5.out).mono ?_); (case side1 => repeat (first | (with_reducible first | exact HI0.out | apply IsS173.alloc | apply IsS173.drewN | apply IsS173.drew | apply IsS173.set_1 | apply IsS173.set_2 | refine IsS173.far ?_ NB0_1724.out _ | refine IsS173.far ?_ NB0_1733.out _) | exact HI0.out)); (case side2 => repeat (first | (with_reducible first | exact HB.out | apply ba_ | apply bn_ | apply bd_ | refine below_set ?_ (IsS173.ge HI0.out) | refine below_set ?_ GE1724.out | refine below_set ?_ GE1733.out) | exact HB.out)); rintro e w14 ⟨v1738, rfl, ho0, hi, hb, hk⟩; refine ⟨_, rfl, ?_⟩; have n0_ := Aside0.mk (KeepBut.blk hk (g' := gb1724) (o := .cells #[.slice none 0 0, .int .i64 0, .int .i64 0, .string (⟨#[]⟩ : ByteArray)] 44 (0, 0)) (pb_ BK1724.out) NB1724_0.out (by simp)); have n1_ := Aside0.mk (Kd.R_mono (Kd.R_told (Kd.R_oldK (IsS173.apart (show IsS173 w0 _ g s0_0 t1735 t1736 from by repeat (first | (with_reducible first | exact HI0.out | apply IsS173.alloc | apply IsS173.drewN | apply IsS173.drew | apply IsS173.set_1 | apply IsS173.set_2 | refine IsS173.far ?_ NB0_1724.out _ | refine IsS173.far ?_ NB0_1733.out _) | exact HI0.out)) (rp_ HO1727.out) (by decide)) hk) (Kd.R_base ho0)) (fun _ h_ => h_.1)); have n2_ := Aside0.mk (KeepBut.blk hk (g' := gb1733) (o := .cells #[.slice Ao9 t1725.length co9, .int .i64 t1728, .int .i64 t1729, .string t1730] 44 (0, 0)) (pb_ BK1733.out) NB1733_0.out (by simp)); have n3_ := Aside0.mk (Kd.R_lower (Kd.R_new' ho0 (Kd.R_lt (rp_ HO1727.out))) (keep_size (w := w) (g := g) (row := none) (by repeat (first | (with_reducible first | exact HK.out | apply KeepBut.set_ | apply keep_drewN | apply keep_drew | apply keep_alloc | refine keep_far ?_ GW1724.out _ | refine keep_far ?_ GW1733.out _) | exact HK.out)))); have n4_ := Aside0.mk (KeepBut.trans (by repeat (first | (with_reducible first | exact HK.out | apply KeepBut.set_ | apply keep_drewN | apply keep_drew | apply keep_alloc | refine keep_far ?_ GW1724.out _ | refine keep_far ?_ GW1733.out _) | exact HK.out)) hk (.inl rfl)); have n5_ := Aside0.mk (hb); have n6_ := Aside0.mk (hi); clear BK1724; clear HO1727; clear BK1733; clear HK; clear HB; clear HI0; have BK1724 := n0_; have HO1727 := n1_; have BK1733 := n2_; have HO1739 := n3_; have HK := n4_; have HB := n5_; have HI0 := n6_; clear n0_ n1_ n2_ n3_ n4_ n5_ n6_; (try clear hb); (try clear hb2); (try clear hk); (try clear hi); (try clear ho0); obtain ⟨Ao15, co15, eo15⟩ := Kd.R_slice HO1739.out; subst eo15; have hcz16_0 : w14.cell? ⟨gb1733, 0, none⟩ = some (.slice Ao9 t1725.length co9) := (blk_cell BK1733.out 0).trans rfl; have hcz16_1 : w14.cell? ⟨gb1733, 1, none⟩ = some (.int .i64 t1728) := (blk_cell BK1733.out 1).trans rfl; have hcz16_2 : w14.cell? ⟨gb1733, 2, none⟩ = some (.int .i64 t1729) := (blk_cell BK1733.out 2).trans rfl; have hcz16_3 : w14.cell? ⟨gb1733, 3, none⟩ = some (.string t1730) := (blk_cell BK1733.out 3).trans rfl; have hfz16_0 := blk_frozen BK1733.out 0; have hfz16_1 := blk_frozen BK1733.out 1; have hfz16_2 := blk_frozen BK1733.out 2; have hfz16_3 := blk_frozen BK1733.out 3; have hnb17 := NB1724_0.out; have hnc17 := NB0_1724.out; have hcz18_0 : w14.cell? ⟨gb1724, 0, none⟩ = some (.slice none 0 0) := (blk_cell BK1724.out 0).trans rfl; have hcz18_1 : w14.cell? ⟨gb1724, 1, none⟩ = some (.int .i64 0) := (blk_cell BK1724.out 1).trans rfl; have hcz18_2 : w14.cell? ⟨gb1724, 2, none⟩ = some (.int .i64 0) := (blk_cell BK1724.out 2).trans rfl; have hcz18_3 : w14.cell? ⟨gb1724, 3, none⟩ = some (.string (⟨#[]⟩ : ByteArray)) := (blk_cell BK1724.out 3).trans rfl; have hfz18_0 := blk_frozen BK1724.out 0; have hfz18_1 := blk_frozen BK1724.out 1; have hfz18_2 := blk_frozen BK1724.out 2; have hfz18_3 := blk_frozen BK1724.out 3))
  refine bodyPost_ret (results_cell_row rfl _ _ gb1724 44 #[.slice Ao15 t1737.length co15, .int .i64 t1728, .int .i64 t1729, .string t1730] (0, 0) _ rfl (by (with_reducible repeat (first | refine kn_ ?_ _ | refine kd_ ?_ | refine ka_ ?_ _)); refine blk_put (cs := #[.slice Ao15 t1737.length co15, .int .i64 t1728, .int .i64 t1729, .string (⟨#[]⟩ : ByteArray)]) ?_ 3 _ rfl; (with_reducible repeat (first | refine kn_ ?_ _ | refine kd_ ?_ | refine ka_ ?_ _)); refine blk_put (cs := #[.slice Ao15 t1737.length co15, .int .i64 t1728, .int .i64 0, .string (⟨#[]⟩ : ByteArray)]) ?_ 2 _ rfl; (with_reducible repeat (first | refine kn_ ?_ _ | refine kd_ ?_ | refine ka_ ?_ _)); refine blk_put (cs := #[.slice Ao15 t1737.length co15, .int .i64 0, .int .i64 0, .string (⟨#[]⟩ : ByteArray)]) ?_ 1 _ rfl; (with_reducible repeat (first | refine kn_ ?_ _ | refine kd_ ?_ | refine ka_ ?_ _)); refine blk_put (cs := #[.slice none 0 0, .int .i64 0, .int .i64 0, .string (⟨#[]⟩ : ByteArray)]) ?_ 0 _ rfl; (with_reducible repeat (first | refine kn_ ?_ _ | refine kd_ ?_ | refine ka_ ?_ _)); refine blk_far ?_ NB1724_1733.out _; (with_reducible repeat (first | refine kn_ ?_ _ | refine kd_ ?_ | refine ka_ ?_ _)); exact BK1724.out) Try.underlying44 rfl (by kernel_rfl)) rfl ?_
  exact ⟨_, by first | rfl | (simp [errW_none, errW_some] <;> rfl) | (simp [*, errW_none, errW_some] <;> rfl), by (with_reducible repeat (first | apply Kd.R_alloc | apply Kd.R_drewN | apply Kd.R_drew)); exact Kd.R_mono (Kd.R_far (p := ⟨gb1724, 3, none⟩) (Kd.R_far (p := ⟨gb1724, 2, none⟩) (Kd.R_far (p := ⟨gb1724, 1, none⟩) (Kd.R_far (p := ⟨gb1724, 0, none⟩) (Kd.R_far (p := ⟨gb1733, 0, none⟩) (Kd.R_types (Kd.R_types HO1739.out BK1733.out (by decide)) BK1724.out (by decide)) (fun _ hk => hk.1.2) (.slice Ao15 t1737.length co15)) (fun _ hk => hk.2) (.slice Ao15 t1737.length co15)) (fun _ hk => hk.2) (.int .i64 t1728)) (fun _ hk => hk.2) (.int .i64 t1729)) (fun _ hk => hk.2) (.string t1730)) (fun _ hk => trivial), by repeat (first | (with_reducible first | exact HI0.out | apply IsS173.alloc | apply IsS173.drewN | apply IsS173.drew | apply IsS173.set_1 | apply IsS173.set_2 | refine IsS173.far ?_ NB0_1724.out _ | refine IsS173.far ?_ NB0_1733.out _) | exact HI0.out), by repeat (first | (with_reducible first | exact HB.out | apply ba_ | apply bn_ | apply bd_ | refine below_set ?_ (IsS173.ge HI0.out) | refine below_set ?_ GE1724.out | refine below_set ?_ GE1733.out) | exact HB.out), by repeat (first | (with_reducible first | exact HK.out | apply KeepBut.set_ | apply keep_drewN | apply keep_drew | apply keep_alloc | refine keep_far ?_ GW1724.out _ | refine keep_far ?_ GW1733.out _) | exact HK.out)⟩
 rw [if_neg c4] at H
 have c4b0 : (t1734 == 0) = false := beq_eq_false_iff_ne.mpr c4
 have c4b1 : (t1734 != 0) = true := bne_iff_ne.mpr c4
 by_cases c19 : t1734 = 1
 ·
  rw [if_pos c19] at H
  have c19b0 : (t1734 == 1) = true := beq_iff_eq.mpr c19
  have c19b1 : (t1734 != 1) = false := bne_eq_false_iff_eq.mpr c19
  clear c19
  obtain ⟨y1742, hy1742⟩ : ∃ y_ : List Int, y_ = (([(-1), 99999, 100000] : List Int)) := ⟨_, rfl⟩
  replace H : ((spec_l1Int.f s0_0 t1735 t1736 y1742).bind fun bt1745 => (some (t1725, bt1745.1, t1729, t1730, bt1745.2.1, bt1745.2.2))) = some (r1, r2, r3, r4, r5, r6) := by first | (rw [hy1742]; with_reducible exact H) | (have H2_ := (Option.bind_some _ _).symm.trans H; rw [hy1742]; with_reducible exact H2_) | (have H2_ := (Option.bind_some _ _).symm.trans H; with_reducible exact H2_) | with_reducible exact H | (rw [hy1742]; exact H) | exact H
  have Ny1742 := Aside0.mk hy1742
  clear hy1742
  replace H := Option.bind_eq_some_iff.mp H
  obtain ⟨⟨t1745, t1746, t1747⟩, A200, H⟩ := H
  have A20 := Aside0.mk A200
  clear A200
  simp only [Option.some.injEq, Prod.mk.injEq] at H
  obtain ⟨rfl, rfl, rfl, rfl, rfl, rfl⟩ := H
  go_enter Try.func159, Try.ntmps159
  go_wp2_with (first | ((with_reducible refine gate_dst (N := 2) rfl ?_); refine box_event ?hg (N := 2) ?hd (cs := #[.slice none 0 0, .int .i64 0, .int .i64 0, .string (⟨#[]⟩ : ByteArray)]) (t := 44) ?hr ?_; (case hd => rfl); (case hg => rfl); (case hr => first | (go_simp; done) | (go_simp; rfl)); intro gb1724 hg w21 hbox hb; have n0_ := Aside0.mk (IsS173.below (by repeat (first | (with_reducible first | exact HI0.out | apply IsS173.alloc | apply IsS173.drewN | apply IsS173.drew | apply IsS173.set_1 | apply IsS173.set_2) | exact HI0.out)) hb); have n1_ := Aside0.mk (KeepBut.trans (by repeat (first | (with_reducible first | exact HK.out | apply KeepBut.set_ | apply keep_drewN | apply keep_drew | apply keep_alloc) | exact HK.out)) (KeepBut.of_below hb g none) (.inl rfl)); have n2_ := Aside0.mk (below_step (by repeat (first | (with_reducible first | exact HB.out | apply ba_ | apply bn_ | apply bd_ | refine below_set ?_ (IsS173.ge HI0.out)) | exact HB.out)) hb); have n3_ := Aside0.mk (hbox); have n4_ := Aside0.mk ((by rw [hg]; exact (keep_size (w := w) (g := g) (row := none) (by repeat (first | (with_reducible first | exact HK.out | apply KeepBut.set_ | apply keep_drewN | apply keep_drew | apply keep_alloc) | exact HK.out))) : w.heap.size ≤ gb1724)); have n5_ := Aside0.mk ((Nat.le_trans HW0.out (by rw [hg]; exact (keep_size (w := w) (g := g) (row := none) (by repeat (first | (with_reducible first | exact HK.out | apply KeepBut.set_ | apply keep_drewN | apply keep_drew | apply keep_alloc) | exact HK.out))) : w.heap.size ≤ gb1724) : w0.heap.size ≤ gb1724)); have n6_ := Aside0.mk ((by rw [hg]; exact Nat.ne_of_lt (IsS173.lt (show IsS173 w0 _ g s0_0 s0_1 s0_2 from by repeat (first | (with_reducible first | exact HI0.out | apply IsS173.alloc | apply IsS173.drewN | apply IsS173.drew | apply IsS173.set_1 | apply IsS173.set_2) | exact HI0.out))) : g ≠ gb1724)); have n7_ := Aside0.mk ((by rw [hg]; exact Nat.ne_of_gt (IsS173.lt (show IsS173 w0 _ g s0_0 s0_1 s0_2 from by repeat (first | (with_reducible first | exact HI0.out | apply IsS173.alloc | apply IsS173.drewN | apply IsS173.drew | apply IsS173.set_1 | apply IsS173.set_2) | exact HI0.out))) : gb1724 ≠ g)); clear HI0; clear HK; clear HB; have HI0 := n0_; have HK := n1_; have HB := n2_; have BK1724 := n3_; have GW1724 := n4_; have GE1724 := n5_; have NB0_1724 := n6_; have NB1724_0 := n7_; clear n0_ n1_ n2_ n3_ n4_ n5_ n6_ n7_; clear hb hbox hg) | ((with_reducible refine gate_callee (f := 135) rfl ?_); refine goesL_ (some 5) rfl rfl Try.func135 (by kernel_rfl) rfl #[.pointer (some ⟨g, 0, none⟩)] rfl (by (try simp only [mp_]); first | done | rfl | (simp only [List.length_drop, List.length_take]; rfl)) ?_; (with_reducible refine (spec_l4Draw.calls k g s0_0 s0_1 s0_2 t1725 t1728 t1729 t1730 t1731 t1732 w0 _ ?side1 ?side2 A2.out).mono ?_); (case side1 => repeat (first | (with_reducible first | exact HI0.out | apply IsS173.alloc | apply IsS173.drewN | apply IsS173.drew | apply IsS173.set_1 | apply IsS173.set_2 | refine IsS173.far ?_ NB0_1724.out _) | exact HI0.out)); (case side2 => repeat (first | (with_reducible first | exact HB.out | apply ba_ | apply bn_ | apply bd_ | refine below_set ?_ (IsS173.ge HI0.out) | refine below_set ?_ GE1724.out) | exact HB.out)); rintro e w22 ⟨v1726, rfl, ho0, hi, hb, hk⟩; refine ⟨_, rfl, ?_⟩; have n0_ := Aside0.mk (KeepBut.blk hk (g' := gb1724) (o := .cells #[.slice none 0 0, .int .i64 0, .int .i64 0, .string (⟨#[]⟩ : ByteArray)] 44 (0, 0)) (pb_ BK1724.out) NB1724_0.out (by simp)); have n1_ := Aside0.mk (Kd.R_lower ho0 (keep_size (w := w) (g := g) (row := none) (by repeat (first | (with_reducible first | exact HK.out | apply KeepBut.set_ | apply keep_drewN | apply keep_drew | apply keep_alloc | refine keep_far ?_ GW1724.out _) | exact HK.out)))); have n2_ := Aside0.mk (KeepBut.trans (by repeat (first | (with_reducible first | exact HK.out | apply KeepBut.set_ | apply keep_drewN | apply keep_drew | apply keep_alloc | refine keep_far ?_ GW1724.out _) | exact HK.out)) hk (.inl rfl)); have n3_ := Aside0.mk (hb); have n4_ := Aside0.mk (hi); clear BK1724; clear HK; clear HB; clear HI0; have BK1724 := n0_; have HO1727 := n1_; have HK := n2_; have HB := n3_; have HI0 := n4_; clear n0_ n1_ n2_ n3_ n4_; (try clear hb); (try clear hb2); (try clear hk); (try clear hi); (try clear ho0)) | ((with_reducible refine gate_dst (N := 3) rfl ?_); refine box_event ?hg (N := 3) ?hd (cs := #[.slice none 0 0, .int .i64 0, .int .i64 0, .string (⟨#[]⟩ : ByteArray)]) (t := 44) ?hr ?_; (case hd => rfl); (case hg => rfl); (case hr => first | (go_simp; done) | (go_simp; rfl)); intro gb1733 hg w23 hbox hb; have n0_ := Aside0.mk (Kd.R_below (rp_ HO1727.out) hb); have n1_ := Aside0.mk (IsS173.below (by repeat (first | (with_reducible first | exact HI0.out | apply IsS173.alloc | apply IsS173.drewN | apply IsS173.drew | apply IsS173.set_1 | apply IsS173.set_2 | refine IsS173.far ?_ NB0_1724.out _) | exact HI0.out)) hb); have n2_ := Aside0.mk (bb_ BK1724.out hb); have n3_ := Aside0.mk (KeepBut.trans (by repeat (first | (with_reducible first | exact HK.out | apply KeepBut.set_ | apply keep_drewN | apply keep_drew | apply keep_alloc | refine keep_far ?_ GW1724.out _) | exact HK.out)) (KeepBut.of_below hb g none) (.inl rfl)); have n4_ := Aside0.mk (below_step (by repeat (first | (with_reducible first | exact HB.out | apply ba_ | apply bn_ | apply bd_ | refine below_set ?_ (IsS173.ge HI0.out) | refine below_set ?_ GE1724.out) | exact HB.out)) hb); have n5_ := Aside0.mk (hbox); have n6_ := Aside0.mk ((by rw [hg]; exact (keep_size (w := w) (g := g) (row := none) (by repeat (first | (with_reducible first | exact HK.out | apply KeepBut.set_ | apply keep_drewN | apply keep_drew | apply keep_alloc | refine keep_far ?_ GW1724.out _) | exact HK.out))) : w.heap.size ≤ gb1733)); have n7_ := Aside0.mk ((Nat.le_trans HW0.out (by rw [hg]; exact (keep_size (w := w) (g := g) (row := none) (by repeat (first | (with_reducible first | exact HK.out | apply KeepBut.set_ | apply keep_drewN | apply keep_drew | apply keep_alloc | refine keep_far ?_ GW1724.out _) | exact HK.out))) : w.heap.size ≤ gb1733) : w0.heap.size ≤ gb1733)); have n8_ := Aside0.mk (nl_ BK1724.out hg); have n9_ := Aside0.mk (ng_ BK1724.out hg); have n10_ := Aside0.mk ((by rw [hg]; exact Nat.ne_of_lt (IsS173.lt (show IsS173 w0 _ g s0_0 t1731 t1732 from by repeat (first | (with_reducible first | exact HI0.out | apply IsS173.alloc | apply IsS173.drewN | apply IsS173.drew | apply IsS173.set_1 | apply IsS173.set_2 | refine IsS173.far ?_ NB0_1724.out _) | exact HI0.out))) : g ≠ gb1733)); have n11_ := Aside0.mk ((by rw [hg]; exact Nat.ne_of_gt (IsS173.lt (show IsS173 w0 _ g s0_0 t1731 t1732 from by repeat (first | (with_reducible first | exact HI0.out | apply IsS173.alloc | apply IsS173.drewN | apply IsS173.drew | apply IsS173.set_1 | apply IsS173.set_2 | refine IsS173.far ?_ NB0_1724.out _) | exact HI0.out))) : gb1733 ≠ g)); clear HO1727; clear HI0; clear BK1724; clear HK; clear HB; have HO1727 := n0_; have HI0 := n1_; have BK1724 := n2_; have HK := n3_; have HB := n4_; have BK1733 := n5_; have GW1733 := n6_; have GE1733 := n7_; have NB1724_1733 := n8_; have NB1733_1724 := n9_; have NB0_1733 := n10_; have NB1733_0 := n11_; clear n0_ n1_ n2_ n3_ n4_ n5_ n6_ n7_ n8_ n9_ n10_ n11_; clear hb hbox hg; obtain ⟨Ao24, co24, eo24⟩ := Kd.R_slice HO1727.out; subst eo24; have hnb25 := NB1733_1724.out; have hnc25 := NB1724_1733.out; have hnb26 := NB1733_0.out; have hnc26 := NB0_1733.out; have hcz27_0 : w23.cell? ⟨gb1733, 0, none⟩ = some (.slice none 0 0) := (blk_cell BK1733.out 0).trans rfl; have hcz27_1 : w23.cell? ⟨gb1733, 1, none⟩ = some (.int .i64 0) := (blk_cell BK1733.out 1).trans rfl; have hcz27_2 : w23.cell? ⟨gb1733, 2, none⟩ = some (.int .i64 0) := (blk_cell BK1733.out 2).trans rfl; have hcz27_3 : w23.cell? ⟨gb1733, 3, none⟩ = some (.string (⟨#[]⟩ : ByteArray)) := (blk_cell BK1733.out 3).trans rfl; have hfz27_0 := blk_frozen BK1733.out 0; have hfz27_1 := blk_frozen BK1733.out 1; have hfz27_2 := blk_frozen BK1733.out 2; have hfz27_3 := blk_frozen BK1733.out 3) | ((with_reducible refine gate_callee (f := 137) rfl ?_); refine goesL_ (some 7) rfl rfl Try.func137 (by kernel_rfl) rfl #[.pointer (some ⟨g, 0, none⟩), .int .i64 12] rfl (by (try simp only [mp_]); first | done | rfl | (simp only [List.length_drop, List.length_take]; rfl)) ?_; (with_reducible refine (spec_l1Below.calls g s0_0 t1731 t1732 12 t1734 t1735 t1736 w0 _ ?side1 ?side2 A3.out).mono ?_); (case side1 => repeat (first | (with_reducible first | exact HI0.out | apply IsS173.alloc | apply IsS173.drewN | apply IsS173.drew | apply IsS173.set_1 | apply IsS173.set_2 | refine IsS173.far ?_ NB0_1724.out _ | refine IsS173.far ?_ NB0_1733.out _) | exact HI0.out)); (case side2 => repeat (first | (with_reducible first | exact HB.out | apply ba_ | apply bn_ | apply bd_ | refine below_set ?_ (IsS173.ge HI0.out) | refine below_set ?_ GE1724.out | refine below_set ?_ GE1733.out) | exact HB.out)); rintro e w28 ⟨rfl, hi, hb, hk⟩; refine ⟨_, rfl, ?_⟩; have n0_ := Aside0.mk (KeepBut.blk hk (g' := gb1724) (o := .cells #[.slice none 0 0, .int .i64 0, .int .i64 0, .string (⟨#[]⟩ : ByteArray)] 44 (0, 0)) (by (with_reducible repeat (first | refine kn_ ?_ _ | refine kd_ ?_ | refine ka_ ?_ _)); refine blk_far ?_ NB1724_1733.out _; (with_reducible repeat (first | refine kn_ ?_ _ | refine kd_ ?_ | refine ka_ ?_ _)); refine blk_far ?_ NB1724_1733.out _; (with_reducible repeat (first | refine kn_ ?_ _ | refine kd_ ?_ | refine ka_ ?_ _)); refine blk_far ?_ NB1724_1733.out _; (with_reducible repeat (first | refine kn_ ?_ _ | refine kd_ ?_ | refine ka_ ?_ _)); refine blk_far ?_ NB1724_1733.out _; (with_reducible repeat (first | refine kn_ ?_ _ | refine kd_ ?_ | refine ka_ ?_ _)); exact BK1724.out) NB1724_0.out (by simp)); have n1_ := Aside0.mk (Kd.R_mono (Kd.R_keep (IsS173.apart (show IsS173 w0 _ g s0_0 t1731 t1732 from by repeat (first | (with_reducible first | exact HI0.out | apply IsS173.alloc | apply IsS173.drewN | apply IsS173.drew | apply IsS173.set_1 | apply IsS173.set_2 | refine IsS173.far ?_ NB0_1724.out _ | refine IsS173.far ?_ NB0_1733.out _) | exact HI0.out)) (by (with_reducible repeat (first | apply Kd.R_alloc | apply Kd.R_drewN | apply Kd.R_drew)); exact (Kd.R_mono (Kd.R_far (p := ⟨gb1733, 3, none⟩) (Kd.R_far (p := ⟨gb1733, 2, none⟩) (Kd.R_far (p := ⟨gb1733, 1, none⟩) (Kd.R_far (p := ⟨gb1733, 0, none⟩) (Kd.R_types HO1727.out BK1733.out (by decide)) (fun _ hk => hk.2) (.slice Ao24 t1725.length co24)) (fun _ hk => hk.2) (.int .i64 t1728)) (fun _ hk => hk.2) (.int .i64 t1729)) (fun _ hk => hk.2) (.string t1730)) (fun _ h_ => h_.1))) (by decide)) hk (fun _ h => h.2)) (fun _ h => h.1)); have n2_ := Aside0.mk (KeepBut.blk hk (g' := gb1733) (o := .cells #[.slice Ao24 t1725.length co24, .int .i64 t1728, .int .i64 t1729, .string t1730] 44 (0, 0)) (by (with_reducible repeat (first | refine kn_ ?_ _ | refine kd_ ?_ | refine ka_ ?_ _)); refine blk_put (cs := #[.slice Ao24 t1725.length co24, .int .i64 t1728, .int .i64 t1729, .string (⟨#[]⟩ : ByteArray)]) ?_ 3 _ rfl; (with_reducible repeat (first | refine kn_ ?_ _ | refine kd_ ?_ | refine ka_ ?_ _)); refine blk_put (cs := #[.slice Ao24 t1725.length co24, .int .i64 t1728, .int .i64 0, .string (⟨#[]⟩ : ByteArray)]) ?_ 2 _ rfl; (with_reducible repeat (first | refine kn_ ?_ _ | refine kd_ ?_ | refine ka_ ?_ _)); refine blk_put (cs := #[.slice Ao24 t1725.length co24, .int .i64 0, .int .i64 0, .string (⟨#[]⟩ : ByteArray)]) ?_ 1 _ rfl; (with_reducible repeat (first | refine kn_ ?_ _ | refine kd_ ?_ | refine ka_ ?_ _)); refine blk_put (cs := #[.slice none 0 0, .int .i64 0, .int .i64 0, .string (⟨#[]⟩ : ByteArray)]) ?_ 0 _ rfl; (with_reducible repeat (first | refine kn_ ?_ _ | refine kd_ ?_ | refine ka_ ?_ _)); exact BK1733.out) NB1733_0.out (by simp)); have n3_ := Aside0.mk (KeepBut.trans (by repeat (first | (with_reducible first | exact HK.out | apply KeepBut.set_ | apply keep_drewN | apply keep_drew | apply keep_alloc | refine keep_far ?_ GW1724.out _ | refine keep_far ?_ GW1733.out _) | exact HK.out)) hk (.inl rfl)); have n4_ := Aside0.mk (hb); have n5_ := Aside0.mk (hi); clear BK1724; clear HO1727; clear BK1733; clear HK; clear HB; clear HI0; have BK1724 := n0_; have HO1727 := n1_; have BK1733 := n2_; have HK := n3_; have HB := n4_; have HI0 := n5_; clear n0_ n1_ n2_ n3_ n4_ n5_; (try clear hb); (try clear hb2); (try clear hk); (try clear hi)) | ((with_reducible refine gate_dst (N := 16) rfl ?_); refine Kd.R_lit (Kd.int .i64) _ 3 ?hg (N := 16) ?hd (xs := ([(-1), 99999, 100000] : List Int)) (inner := [.int .i64 (-1), .int .i64 99999, .int .i64 100000]) (ok := fun _ => True) (okp := fun _ => True) ?hr ?hp (fun _ hk => hk) trivial (Below.refl _ _) (Nat.le_refl _) (by simp) ?_; (case hd => rfl); (case hg => rfl); (case hr => first | (go_simp; done) | (go_simp; rfl)); (case hp => exact (Reps.one (show Kd.M (Kd.int .i64) _ _ _ (-1) [.int .i64 (-1)] from rfl) (Reps.one (show Kd.M (Kd.int .i64) _ _ _ 99999 [.int .i64 99999] from rfl) (Reps.one (show Kd.M (Kd.int .i64) _ _ _ 100000 [.int .i64 100000] from rfl) (Reps.none _ _))))); intro v1743 w29 ho30 hb hg_ hnew_; clear hg_ hnew_; (first | rw [← Ny1742.out] at ho30 | (simp only [Int.reduceToNat] at ho30; rw [← Ny1742.out] at ho30)); have n0_ := Aside0.mk (Kd.R_below (rp_ HO1727.out) hb); have n1_ := Aside0.mk (Kd.R_lower ho30 (keep_size (w := w) (g := g) (row := none) (by repeat (first | (with_reducible first | exact HK.out | apply KeepBut.set_ | apply keep_drewN | apply keep_drew | apply keep_alloc | refine keep_far ?_ GW1724.out _ | refine keep_far ?_ GW1733.out _) | exact HK.out)))); have n2_ := Aside0.mk (IsS173.below (by repeat (first | (with_reducible first | exact HI0.out | apply IsS173.alloc | apply IsS173.drewN | apply IsS173.drew | apply IsS173.set_1 | apply IsS173.set_2 | refine IsS173.far ?_ NB0_1724.out _ | refine IsS173.far ?_ NB0_1733.out _) | exact HI0.out)) hb); have n3_ := Aside0.mk (bb_ BK1724.out hb); have n4_ := Aside0.mk (bb_ BK1733.out hb); have n5_ := Aside0.mk (KeepBut.trans (by repeat (first | (with_reducible first | exact HK.out | apply KeepBut.set_ | apply keep_drewN | apply keep_drew | apply keep_alloc | refine keep_far ?_ GW1724.out _ | refine keep_far ?_ GW1733.out _) | exact HK.out)) (KeepBut.of_below hb g none) (.inl rfl)); have n6_ := Aside0.mk (below_step (by repeat (first | (with_reducible first | exact HB.out | apply ba_ | apply bn_ | apply bd_ | refine below_set ?_ (IsS173.ge HI0.out) | refine below_set ?_ GE1724.out | refine below_set ?_ GE1733.out) | exact HB.out)) hb); clear HO1727; clear HI0; clear BK1724; clear BK1733; clear HK; clear HB; have HO1727 := n0_; have HO1744 := n1_; have HI0 := n2_; have BK1724 := n3_; have BK1733 := n4_; have HK := n5_; have HB := n6_; clear n0_ n1_ n2_ n3_ n4_ n5_ n6_; clear hb ho30; obtain ⟨Ao31, co31, eo31⟩ := Kd.R_slice HO1744.out; subst eo31) | ((with_reducible refine gate_callee (f := 162) rfl ?_); refine goesL_ (some 17) rfl rfl Try.func162 (by kernel_rfl) rfl #[.pointer (some ⟨g, 0, none⟩), .slice Ao31 y1742.length co31] rfl (by (try simp only [mp_]); first | done | rfl | (simp only [List.length_drop, List.length_take]; rfl)) ?_; (with_reducible refine (spec_l1Int.calls g s0_0 t1735 t1736 _ _ y1742 t1745 t1746 t1747 w0 _ ?side1 ?side2 ?side3 ?side4 ?side5 A20.out).mono ?_); (case side1 => repeat (first | (with_reducible first | exact HI0.out | apply IsS173.alloc | apply IsS173.drewN | apply IsS173.drew | apply IsS173.set_1 | apply IsS173.set_2 | refine IsS173.far ?_ NB0_1724.out _ | refine IsS173.far ?_ NB0_1733.out _) | exact HI0.out)); (case side2 => repeat (first | (with_reducible first | exact HB.out | apply ba_ | apply bn_ | apply bd_ | refine below_set ?_ (IsS173.ge HI0.out) | refine below_set ?_ GE1724.out | refine below_set ?_ GE1733.out) | exact HB.out)); (case side3 => repeat (first | exact (Kd.R_reads' HO1744.out).2.2 | (with_reducible first | refine ca_ ?_ _ | refine cn_ ?_ _ | refine cd_ ?_))); (case side4 => exact (Kd.R_reads' HO1744.out).2.1); (case side5 => exact far_slice (IsS173.own_ne HI0.out HO1744.out (by decide))); rintro e w32 ⟨rfl, hi, hb, hk⟩; refine ⟨_, rfl, ?_⟩; have n0_ := Aside0.mk (KeepBut.blk hk (g' := gb1724) (o := .cells #[.slice none 0 0, .int .i64 0, .int .i64 0, .string (⟨#[]⟩ : ByteArray)] 44 (0, 0)) (pb_ BK1724.out) NB1724_0.out (by simp)); have n1_ := Aside0.mk (Kd.R_mono (Kd.R_keep (IsS173.apart (show IsS173 w0 _ g s0_0 t1735 t1736 from by repeat (first | (with_reducible first | exact HI0.out | apply IsS173.alloc | apply IsS173.drewN | apply IsS173.drew | apply IsS173.set_1 | apply IsS173.set_2 | refine IsS173.far ?_ NB0_1724.out _ | refine IsS173.far ?_ NB0_1733.out _) | exact HI0.out)) (rp_ HO1727.out) (by decide)) hk (fun _ h => h.2)) (fun _ h => h.1)); have n2_ := Aside0.mk (KeepBut.blk hk (g' := gb1733) (o := .cells #[.slice Ao24 t1725.length co24, .int .i64 t1728, .int .i64 t1729, .string t1730] 44 (0, 0)) (pb_ BK1733.out) NB1733_0.out (by simp)); have n3_ := Aside0.mk (Kd.R_mono (Kd.R_keep (IsS173.apart (show IsS173 w0 _ g s0_0 t1735 t1736 from by repeat (first | (with_reducible first | exact HI0.out | apply IsS173.alloc | apply IsS173.drewN | apply IsS173.drew | apply IsS173.set_1 | apply IsS173.set_2 | refine IsS173.far ?_ NB0_1724.out _ | refine IsS173.far ?_ NB0_1733.out _) | exact HI0.out)) (rp_ HO1744.out) (by decide)) hk (fun _ h => h.2)) (fun _ h => h.1)); have n4_ := Aside0.mk (KeepBut.trans (by repeat (first | (with_reducible first | exact HK.out | apply KeepBut.set_ | apply keep_drewN | apply keep_drew | apply keep_alloc | refine keep_far ?_ GW1724.out _ | refine keep_far ?_ GW1733.out _) | exact HK.out)) hk (.inl rfl)); have n5_ := Aside0.mk (hb); have n6_ := Aside0.mk (hi); clear BK1724; clear HO1727; clear BK1733; clear HO1744; clear HK; clear HB; clear HI0; have BK1724 := n0_; have HO1727 := n1_; have BK1733 := n2_; have HO1744 := n3_; have HK := n4_; have HB := n5_; have HI0 := n6_; clear n0_ n1_ n2_ n3_ n4_ n5_ n6_; (try clear hb); (try clear hb2); (try clear hk); (try clear hi); have hcz33_0 : w32.cell? ⟨gb1733, 0, none⟩ = some (.slice Ao24 t1725.length co24) := (blk_cell BK1733.out 0).trans rfl; have hcz33_1 : w32.cell? ⟨gb1733, 1, none⟩ = some (.int .i64 t1728) := (blk_cell BK1733.out 1).trans rfl; have hcz33_2 : w32.cell? ⟨gb1733, 2, none⟩ = some (.int .i64 t1729) := (blk_cell BK1733.out 2).trans rfl; have hcz33_3 : w32.cell? ⟨gb1733, 3, none⟩ = some (.string t1730) := (blk_cell BK1733.out 3).trans rfl; have hfz33_0 := blk_frozen BK1733.out 0; have hfz33_1 := blk_frozen BK1733.out 1; have hfz33_2 := blk_frozen BK1733.out 2; have hfz33_3 := blk_frozen BK1733.out 3; have hnb34 := NB1724_0.out; have hnc34 := NB0_1724.out; have hcz35_0 : w32.cell? ⟨gb1724, 0, none⟩ = some (.slice none 0 0) := (blk_cell BK1724.out 0).trans rfl; have hcz35_1 : w32.cell? ⟨gb1724, 1, none⟩ = some (.int .i64 0) := (blk_cell BK1724.out 1).trans rfl; have hcz35_2 : w32.cell? ⟨gb1724, 2, none⟩ = some (.int .i64 0) := (blk_cell BK1724.out 2).trans rfl; have hcz35_3 : w32.cell? ⟨gb1724, 3, none⟩ = some (.string (⟨#[]⟩ : ByteArray)) := (blk_cell BK1724.out 3).trans rfl; have hfz35_0 := blk_frozen BK1724.out 0; have hfz35_1 := blk_frozen BK1724.out 1; have hfz35_2 := blk_frozen BK1724.out 2; have hfz35_3 := blk_frozen BK1724.out 3))
  refine bodyPost_ret (results_cell_row rfl _ _ gb1724 44 #[.slice Ao24 t1725.length co24, .int .i64 t1745, .int .i64 t1729, .string t1730] (0, 0) _ rfl (by (with_reducible repeat (first | refine kn_ ?_ _ | refine kd_ ?_ | refine ka_ ?_ _)); refine blk_put (cs := #[.slice Ao24 t1725.length co24, .int .i64 t1745, .int .i64 t1729, .string (⟨#[]⟩ : ByteArray)]) ?_ 3 _ rfl; (with_reducible repeat (first | refine kn_ ?_ _ | refine kd_ ?_ | refine ka_ ?_ _)); refine blk_put (cs := #[.slice Ao24 t1725.length co24, .int .i64 t1745, .int .i64 0, .string (⟨#[]⟩ : ByteArray)]) ?_ 2 _ rfl; (with_reducible repeat (first | refine kn_ ?_ _ | refine kd_ ?_ | refine ka_ ?_ _)); refine blk_put (cs := #[.slice Ao24 t1725.length co24, .int .i64 0, .int .i64 0, .string (⟨#[]⟩ : ByteArray)]) ?_ 1 _ rfl; (with_reducible repeat (first | refine kn_ ?_ _ | refine kd_ ?_ | refine ka_ ?_ _)); refine blk_put (cs := #[.slice none 0 0, .int .i64 0, .int .i64 0, .string (⟨#[]⟩ : ByteArray)]) ?_ 0 _ rfl; (with_reducible repeat (first | refine kn_ ?_ _ | refine kd_ ?_ | refine ka_ ?_ _)); refine blk_far ?_ NB1724_1733.out _; (with_reducible repeat (first | refine kn_ ?_ _ | refine kd_ ?_ | refine ka_ ?_ _)); exact BK1724.out) Try.underlying44 rfl (by kernel_rfl)) rfl ?_
  exact ⟨_, by first | rfl | (simp [errW_none, errW_some] <;> rfl) | (simp [*, errW_none, errW_some] <;> rfl), by (with_reducible repeat (first | apply Kd.R_alloc | apply Kd.R_drewN | apply Kd.R_drew)); exact Kd.R_mono (Kd.R_far (p := ⟨gb1724, 3, none⟩) (Kd.R_far (p := ⟨gb1724, 2, none⟩) (Kd.R_far (p := ⟨gb1724, 1, none⟩) (Kd.R_far (p := ⟨gb1724, 0, none⟩) (Kd.R_far (p := ⟨gb1733, 1, none⟩) (Kd.R_types (Kd.R_types HO1727.out BK1733.out (by decide)) BK1724.out (by decide)) (fun _ hk => hk.1.2) (.int .i64 t1745)) (fun _ hk => hk.2) (.slice Ao24 t1725.length co24)) (fun _ hk => hk.2) (.int .i64 t1745)) (fun _ hk => hk.2) (.int .i64 t1729)) (fun _ hk => hk.2) (.string t1730)) (fun _ hk => trivial), by repeat (first | (with_reducible first | exact HI0.out | apply IsS173.alloc | apply IsS173.drewN | apply IsS173.drew | apply IsS173.set_1 | apply IsS173.set_2 | refine IsS173.far ?_ NB0_1724.out _ | refine IsS173.far ?_ NB0_1733.out _) | exact HI0.out), by repeat (first | (with_reducible first | exact HB.out | apply ba_ | apply bn_ | apply bd_ | refine below_set ?_ (IsS173.ge HI0.out) | refine below_set ?_ GE1724.out | refine below_set ?_ GE1733.out) | exact HB.out), by repeat (first | (with_reducible first | exact HK.out | apply KeepBut.set_ | apply keep_drewN | apply keep_drew | apply keep_alloc | refine keep_far ?_ GW1724.out _ | refine keep_far ?_ GW1733.out _) | exact HK.out)⟩
 rw [if_neg c19] at H
 have c19b0 : (t1734 == 1) = false := beq_eq_false_iff_ne.mpr c19
 have c19b1 : (t1734 != 1) = true := bne_iff_ne.mpr c19
 by_cases c36 : t1734 = 2
 ·
  rw [if_pos c36] at H
  have c36b0 : (t1734 == 2) = true := beq_iff_eq.mpr c36
  have c36b1 : (t1734 != 2) = false := bne_eq_false_iff_eq.mpr c36
  clear c36
  replace H := Option.bind_eq_some_iff.mp H
  obtain ⟨⟨t1748, t1749, t1750⟩, A370, H⟩ := H
  have A37 := Aside0.mk A370
  clear A370
  simp only [Option.some.injEq, Prod.mk.injEq] at H
  obtain ⟨rfl, rfl, rfl, rfl, rfl, rfl⟩ := H
  go_enter Try.func159, Try.ntmps159
  go_wp2_with (first | ((with_reducible refine gate_dst (N := 2) rfl ?_); refine box_event ?hg (N := 2) ?hd (cs := #[.slice none 0 0, .int .i64 0, .int .i64 0, .string (⟨#[]⟩ : ByteArray)]) (t := 44) ?hr ?_; (case hd => rfl); (case hg => rfl); (case hr => first | (go_simp; done) | (go_simp; rfl)); intro gb1724 hg w38 hbox hb; have n0_ := Aside0.mk (IsS173.below (by repeat (first | (with_reducible first | exact HI0.out | apply IsS173.alloc | apply IsS173.drewN | apply IsS173.drew | apply IsS173.set_1 | apply IsS173.set_2) | exact HI0.out)) hb); have n1_ := Aside0.mk (KeepBut.trans (by repeat (first | (with_reducible first | exact HK.out | apply KeepBut.set_ | apply keep_drewN | apply keep_drew | apply keep_alloc) | exact HK.out)) (KeepBut.of_below hb g none) (.inl rfl)); have n2_ := Aside0.mk (below_step (by repeat (first | (with_reducible first | exact HB.out | apply ba_ | apply bn_ | apply bd_ | refine below_set ?_ (IsS173.ge HI0.out)) | exact HB.out)) hb); have n3_ := Aside0.mk (hbox); have n4_ := Aside0.mk ((by rw [hg]; exact (keep_size (w := w) (g := g) (row := none) (by repeat (first | (with_reducible first | exact HK.out | apply KeepBut.set_ | apply keep_drewN | apply keep_drew | apply keep_alloc) | exact HK.out))) : w.heap.size ≤ gb1724)); have n5_ := Aside0.mk ((Nat.le_trans HW0.out (by rw [hg]; exact (keep_size (w := w) (g := g) (row := none) (by repeat (first | (with_reducible first | exact HK.out | apply KeepBut.set_ | apply keep_drewN | apply keep_drew | apply keep_alloc) | exact HK.out))) : w.heap.size ≤ gb1724) : w0.heap.size ≤ gb1724)); have n6_ := Aside0.mk ((by rw [hg]; exact Nat.ne_of_lt (IsS173.lt (show IsS173 w0 _ g s0_0 s0_1 s0_2 from by repeat (first | (with_reducible first | exact HI0.out | apply IsS173.alloc | apply IsS173.drewN | apply IsS173.drew | apply IsS173.set_1 | apply IsS173.set_2) | exact HI0.out))) : g ≠ gb1724)); have n7_ := Aside0.mk ((by rw [hg]; exact Nat.ne_of_gt (IsS173.lt (show IsS173 w0 _ g s0_0 s0_1 s0_2 from by repeat (first | (with_reducible first | exact HI0.out | apply IsS173.alloc | apply IsS173.drewN | apply IsS173.drew | apply IsS173.set_1 | apply IsS173.set_2) | exact HI0.out))) : gb1724 ≠ g)); clear HI0; clear HK; clear HB; have HI0 := n0_; have HK := n1_; have HB := n2_; have BK1724 := n3_; have GW1724 := n4_; have GE1724 := n5_; have NB0_1724 := n6_; have NB1724_0 := n7_; clear n0_ n1_ n2_ n3_ n4_ n5_ n6_ n7_; clear hb hbox hg) | ((with_reducible refine gate_callee (f := 135) rfl ?_); refine goesL_ (some 5) rfl rfl Try.func135 (by kernel_rfl) rfl #[.pointer (some ⟨g, 0, none⟩)] rfl (by (try simp only [mp_]); first | done | rfl | (simp only [List.length_drop, List.length_take]; rfl)) ?_; (with_reducible refine (spec_l4Draw.calls k g s0_0 s0_1 s0_2 t1725 t1728 t1729 t1730 t1731 t1732 w0 _ ?side1 ?side2 A2.out).mono ?_); (case side1 => repeat (first | (with_reducible first | exact HI0.out | apply IsS173.alloc | apply IsS173.drewN | apply IsS173.drew | apply IsS173.set_1 | apply IsS173.set_2 | refine IsS173.far ?_ NB0_1724.out _) | exact HI0.out)); (case side2 => repeat (first | (with_reducible first | exact HB.out | apply ba_ | apply bn_ | apply bd_ | refine below_set ?_ (IsS173.ge HI0.out) | refine below_set ?_ GE1724.out) | exact HB.out)); rintro e w39 ⟨v1726, rfl, ho0, hi, hb, hk⟩; refine ⟨_, rfl, ?_⟩; have n0_ := Aside0.mk (KeepBut.blk hk (g' := gb1724) (o := .cells #[.slice none 0 0, .int .i64 0, .int .i64 0, .string (⟨#[]⟩ : ByteArray)] 44 (0, 0)) (pb_ BK1724.out) NB1724_0.out (by simp)); have n1_ := Aside0.mk (Kd.R_lower ho0 (keep_size (w := w) (g := g) (row := none) (by repeat (first | (with_reducible first | exact HK.out | apply KeepBut.set_ | apply keep_drewN | apply keep_drew | apply keep_alloc | refine keep_far ?_ GW1724.out _) | exact HK.out)))); have n2_ := Aside0.mk (KeepBut.trans (by repeat (first | (with_reducible first | exact HK.out | apply KeepBut.set_ | apply keep_drewN | apply keep_drew | apply keep_alloc | refine keep_far ?_ GW1724.out _) | exact HK.out)) hk (.inl rfl)); have n3_ := Aside0.mk (hb); have n4_ := Aside0.mk (hi); clear BK1724; clear HK; clear HB; clear HI0; have BK1724 := n0_; have HO1727 := n1_; have HK := n2_; have HB := n3_; have HI0 := n4_; clear n0_ n1_ n2_ n3_ n4_; (try clear hb); (try clear hb2); (try clear hk); (try clear hi); (try clear ho0)) | ((with_reducible refine gate_dst (N := 3) rfl ?_); refine box_event ?hg (N := 3) ?hd (cs := #[.slice none 0 0, .int .i64 0, .int .i64 0, .string (⟨#[]⟩ : ByteArray)]) (t := 44) ?hr ?_; (case hd => rfl); (case hg => rfl); (case hr => first | (go_simp; done) | (go_simp; rfl)); intro gb1733 hg w40 hbox hb; have n0_ := Aside0.mk (Kd.R_below (rp_ HO1727.out) hb); have n1_ := Aside0.mk (IsS173.below (by repeat (first | (with_reducible first | exact HI0.out | apply IsS173.alloc | apply IsS173.drewN | apply IsS173.drew | apply IsS173.set_1 | apply IsS173.set_2 | refine IsS173.far ?_ NB0_1724.out _) | exact HI0.out)) hb); have n2_ := Aside0.mk (bb_ BK1724.out hb); have n3_ := Aside0.mk (KeepBut.trans (by repeat (first | (with_reducible first | exact HK.out | apply KeepBut.set_ | apply keep_drewN | apply keep_drew | apply keep_alloc | refine keep_far ?_ GW1724.out _) | exact HK.out)) (KeepBut.of_below hb g none) (.inl rfl)); have n4_ := Aside0.mk (below_step (by repeat (first | (with_reducible first | exact HB.out | apply ba_ | apply bn_ | apply bd_ | refine below_set ?_ (IsS173.ge HI0.out) | refine below_set ?_ GE1724.out) | exact HB.out)) hb); have n5_ := Aside0.mk (hbox); have n6_ := Aside0.mk ((by rw [hg]; exact (keep_size (w := w) (g := g) (row := none) (by repeat (first | (with_reducible first | exact HK.out | apply KeepBut.set_ | apply keep_drewN | apply keep_drew | apply keep_alloc | refine keep_far ?_ GW1724.out _) | exact HK.out))) : w.heap.size ≤ gb1733)); have n7_ := Aside0.mk ((Nat.le_trans HW0.out (by rw [hg]; exact (keep_size (w := w) (g := g) (row := none) (by repeat (first | (with_reducible first | exact HK.out | apply KeepBut.set_ | apply keep_drewN | apply keep_drew | apply keep_alloc | refine keep_far ?_ GW1724.out _) | exact HK.out))) : w.heap.size ≤ gb1733) : w0.heap.size ≤ gb1733)); have n8_ := Aside0.mk (nl_ BK1724.out hg); have n9_ := Aside0.mk (ng_ BK1724.out hg); have n10_ := Aside0.mk ((by rw [hg]; exact Nat.ne_of_lt (IsS173.lt (show IsS173 w0 _ g s0_0 t1731 t1732 from by repeat (first | (with_reducible first | exact HI0.out | apply IsS173.alloc | apply IsS173.drewN | apply IsS173.drew | apply IsS173.set_1 | apply IsS173.set_2 | refine IsS173.far ?_ NB0_1724.out _) | exact HI0.out))) : g ≠ gb1733)); have n11_ := Aside0.mk ((by rw [hg]; exact Nat.ne_of_gt (IsS173.lt (show IsS173 w0 _ g s0_0 t1731 t1732 from by repeat (first | (with_reducible first | exact HI0.out | apply IsS173.alloc | apply IsS173.drewN | apply IsS173.drew | apply IsS173.set_1 | apply IsS173.set_2 | refine IsS173.far ?_ NB0_1724.out _) | exact HI0.out))) : gb1733 ≠ g)); clear HO1727; clear HI0; clear BK1724; clear HK; clear HB; have HO1727 := n0_; have HI0 := n1_; have BK1724 := n2_; have HK := n3_; have HB := n4_; have BK1733 := n5_; have GW1733 := n6_; have GE1733 := n7_; have NB1724_1733 := n8_; have NB1733_1724 := n9_; have NB0_1733 := n10_; have NB1733_0 := n11_; clear n0_ n1_ n2_ n3_ n4_ n5_ n6_ n7_ n8_ n9_ n10_ n11_; clear hb hbox hg; obtain ⟨Ao41, co41, eo41⟩ := Kd.R_slice HO1727.out; subst eo41; have hnb42 := NB1733_1724.out; have hnc42 := NB1724_1733.out; have hnb43 := NB1733_0.out; have hnc43 := NB0_1733.out; have hcz44_0 : w40.cell? ⟨gb1733, 0, none⟩ = some (.slice none 0 0) := (blk_cell BK1733.out 0).trans rfl; have hcz44_1 : w40.cell? ⟨gb1733, 1, none⟩ = some (.int .i64 0) := (blk_cell BK1733.out 1).trans rfl; have hcz44_2 : w40.cell? ⟨gb1733, 2, none⟩ = some (.int .i64 0) := (blk_cell BK1733.out 2).trans rfl; have hcz44_3 : w40.cell? ⟨gb1733, 3, none⟩ = some (.string (⟨#[]⟩ : ByteArray)) := (blk_cell BK1733.out 3).trans rfl; have hfz44_0 := blk_frozen BK1733.out 0; have hfz44_1 := blk_frozen BK1733.out 1; have hfz44_2 := blk_frozen BK1733.out 2; have hfz44_3 := blk_frozen BK1733.out 3) | ((with_reducible refine gate_callee (f := 137) rfl ?_); refine goesL_ (some 7) rfl rfl Try.func137 (by kernel_rfl) rfl #[.pointer (some ⟨g, 0, none⟩), .int .i64 12] rfl (by (try simp only [mp_]); first | done | rfl | (simp only [List.length_drop, List.length_take]; rfl)) ?_; (with_reducible refine (spec_l1Below.calls g s0_0 t1731 t1732 12 t1734 t1735 t1736 w0 _ ?side1 ?side2 A3.out).mono ?_); (case side1 => repeat (first | (with_reducible first | exact HI0.out | apply IsS173.alloc | apply IsS173.drewN | apply IsS173.drew | apply IsS173.set_1 | apply IsS173.set_2 | refine IsS173.far ?_ NB0_1724.out _ | refine IsS173.far ?_ NB0_1733.out _) | exact HI0.out)); (case side2 => repeat (first | (with_reducible first | exact HB.out | apply ba_ | apply bn_ | apply bd_ | refine below_set ?_ (IsS173.ge HI0.out) | refine below_set ?_ GE1724.out | refine below_set ?_ GE1733.out) | exact HB.out)); rintro e w45 ⟨rfl, hi, hb, hk⟩; refine ⟨_, rfl, ?_⟩; have n0_ := Aside0.mk (KeepBut.blk hk (g' := gb1724) (o := .cells #[.slice none 0 0, .int .i64 0, .int .i64 0, .string (⟨#[]⟩ : ByteArray)] 44 (0, 0)) (by (with_reducible repeat (first | refine kn_ ?_ _ | refine kd_ ?_ | refine ka_ ?_ _)); refine blk_far ?_ NB1724_1733.out _; (with_reducible repeat (first | refine kn_ ?_ _ | refine kd_ ?_ | refine ka_ ?_ _)); refine blk_far ?_ NB1724_1733.out _; (with_reducible repeat (first | refine kn_ ?_ _ | refine kd_ ?_ | refine ka_ ?_ _)); refine blk_far ?_ NB1724_1733.out _; (with_reducible repeat (first | refine kn_ ?_ _ | refine kd_ ?_ | refine ka_ ?_ _)); refine blk_far ?_ NB1724_1733.out _; (with_reducible repeat (first | refine kn_ ?_ _ | refine kd_ ?_ | refine ka_ ?_ _)); exact BK1724.out) NB1724_0.out (by simp)); have n1_ := Aside0.mk (Kd.R_mono (Kd.R_keep (IsS173.apart (show IsS173 w0 _ g s0_0 t1731 t1732 from by repeat (first | (with_reducible first | exact HI0.out | apply IsS173.alloc | apply IsS173.drewN | apply IsS173.drew | apply IsS173.set_1 | apply IsS173.set_2 | refine IsS173.far ?_ NB0_1724.out _ | refine IsS173.far ?_ NB0_1733.out _) | exact HI0.out)) (by (with_reducible repeat (first | apply Kd.R_alloc | apply Kd.R_drewN | apply Kd.R_drew)); exact (Kd.R_mono (Kd.R_far (p := ⟨gb1733, 3, none⟩) (Kd.R_far (p := ⟨gb1733, 2, none⟩) (Kd.R_far (p := ⟨gb1733, 1, none⟩) (Kd.R_far (p := ⟨gb1733, 0, none⟩) (Kd.R_types HO1727.out BK1733.out (by decide)) (fun _ hk => hk.2) (.slice Ao41 t1725.length co41)) (fun _ hk => hk.2) (.int .i64 t1728)) (fun _ hk => hk.2) (.int .i64 t1729)) (fun _ hk => hk.2) (.string t1730)) (fun _ h_ => h_.1))) (by decide)) hk (fun _ h => h.2)) (fun _ h => h.1)); have n2_ := Aside0.mk (KeepBut.blk hk (g' := gb1733) (o := .cells #[.slice Ao41 t1725.length co41, .int .i64 t1728, .int .i64 t1729, .string t1730] 44 (0, 0)) (by (with_reducible repeat (first | refine kn_ ?_ _ | refine kd_ ?_ | refine ka_ ?_ _)); refine blk_put (cs := #[.slice Ao41 t1725.length co41, .int .i64 t1728, .int .i64 t1729, .string (⟨#[]⟩ : ByteArray)]) ?_ 3 _ rfl; (with_reducible repeat (first | refine kn_ ?_ _ | refine kd_ ?_ | refine ka_ ?_ _)); refine blk_put (cs := #[.slice Ao41 t1725.length co41, .int .i64 t1728, .int .i64 0, .string (⟨#[]⟩ : ByteArray)]) ?_ 2 _ rfl; (with_reducible repeat (first | refine kn_ ?_ _ | refine kd_ ?_ | refine ka_ ?_ _)); refine blk_put (cs := #[.slice Ao41 t1725.length co41, .int .i64 0, .int .i64 0, .string (⟨#[]⟩ : ByteArray)]) ?_ 1 _ rfl; (with_reducible repeat (first | refine kn_ ?_ _ | refine kd_ ?_ | refine ka_ ?_ _)); refine blk_put (cs := #[.slice none 0 0, .int .i64 0, .int .i64 0, .string (⟨#[]⟩ : ByteArray)]) ?_ 0 _ rfl; (with_reducible repeat (first | refine kn_ ?_ _ | refine kd_ ?_ | refine ka_ ?_ _)); exact BK1733.out) NB1733_0.out (by simp)); have n3_ := Aside0.mk (KeepBut.trans (by repeat (first | (with_reducible first | exact HK.out | apply KeepBut.set_ | apply keep_drewN | apply keep_drew | apply keep_alloc | refine keep_far ?_ GW1724.out _ | refine keep_far ?_ GW1733.out _) | exact HK.out)) hk (.inl rfl)); have n4_ := Aside0.mk (hb); have n5_ := Aside0.mk (hi); clear BK1724; clear HO1727; clear BK1733; clear HK; clear HB; clear HI0; have BK1724 := n0_; have HO1727 := n1_; have BK1733 := n2_; have HK := n3_; have HB := n4_; have HI0 := n5_; clear n0_ n1_ n2_ n3_ n4_ n5_; (try clear hb); (try clear hb2); (try clear hk); (try clear hi)) | ((with_reducible refine gate_callee (f := 172) rfl ?_); refine goesL_ (some 22) rfl rfl Try.func172 (by kernel_rfl) rfl #[.pointer (some ⟨g, 0, none⟩)] rfl (by (try simp only [mp_]); first | done | rfl | (simp only [List.length_drop, List.length_take]; rfl)) ?_; (with_reducible refine (spec_l1Raw.calls g s0_0 t1735 t1736 t1748 t1749 t1750 w0 _ ?side1 ?side2 A37.out).mono ?_); (case side1 => repeat (first | (with_reducible first | exact HI0.out | apply IsS173.alloc | apply IsS173.drewN | apply IsS173.drew | apply IsS173.set_1 | apply IsS173.set_2 | refine IsS173.far ?_ NB0_1724.out _ | refine IsS173.far ?_ NB0_1733.out _) | exact HI0.out)); (case side2 => repeat (first | (with_reducible first | exact HB.out | apply ba_ | apply bn_ | apply bd_ | refine below_set ?_ (IsS173.ge HI0.out) | refine below_set ?_ GE1724.out | refine below_set ?_ GE1733.out) | exact HB.out)); rintro e w46 ⟨rfl, hi, hb, hk⟩; refine ⟨_, rfl, ?_⟩; have n0_ := Aside0.mk (KeepBut.blk hk (g' := gb1724) (o := .cells #[.slice none 0 0, .int .i64 0, .int .i64 0, .string (⟨#[]⟩ : ByteArray)] 44 (0, 0)) (pb_ BK1724.out) NB1724_0.out (by simp)); have n1_ := Aside0.mk (Kd.R_mono (Kd.R_keep (IsS173.apart (show IsS173 w0 _ g s0_0 t1735 t1736 from by repeat (first | (with_reducible first | exact HI0.out | apply IsS173.alloc | apply IsS173.drewN | apply IsS173.drew | apply IsS173.set_1 | apply IsS173.set_2 | refine IsS173.far ?_ NB0_1724.out _ | refine IsS173.far ?_ NB0_1733.out _) | exact HI0.out)) (rp_ HO1727.out) (by decide)) hk (fun _ h => h.2)) (fun _ h => h.1)); have n2_ := Aside0.mk (KeepBut.blk hk (g' := gb1733) (o := .cells #[.slice Ao41 t1725.length co41, .int .i64 t1728, .int .i64 t1729, .string t1730] 44 (0, 0)) (pb_ BK1733.out) NB1733_0.out (by simp)); have n3_ := Aside0.mk (KeepBut.trans (by repeat (first | (with_reducible first | exact HK.out | apply KeepBut.set_ | apply keep_drewN | apply keep_drew | apply keep_alloc | refine keep_far ?_ GW1724.out _ | refine keep_far ?_ GW1733.out _) | exact HK.out)) hk (.inl rfl)); have n4_ := Aside0.mk (hb); have n5_ := Aside0.mk (hi); clear BK1724; clear HO1727; clear BK1733; clear HK; clear HB; clear HI0; have BK1724 := n0_; have HO1727 := n1_; have BK1733 := n2_; have HK := n3_; have HB := n4_; have HI0 := n5_; clear n0_ n1_ n2_ n3_ n4_ n5_; (try clear hb); (try clear hb2); (try clear hk); (try clear hi); have hcz47_0 : w46.cell? ⟨gb1733, 0, none⟩ = some (.slice Ao41 t1725.length co41) := (blk_cell BK1733.out 0).trans rfl; have hcz47_1 : w46.cell? ⟨gb1733, 1, none⟩ = some (.int .i64 t1728) := (blk_cell BK1733.out 1).trans rfl; have hcz47_2 : w46.cell? ⟨gb1733, 2, none⟩ = some (.int .i64 t1729) := (blk_cell BK1733.out 2).trans rfl; have hcz47_3 : w46.cell? ⟨gb1733, 3, none⟩ = some (.string t1730) := (blk_cell BK1733.out 3).trans rfl; have hfz47_0 := blk_frozen BK1733.out 0; have hfz47_1 := blk_frozen BK1733.out 1; have hfz47_2 := blk_frozen BK1733.out 2; have hfz47_3 := blk_frozen BK1733.out 3; have hnb48 := NB1724_0.out; have hnc48 := NB0_1724.out; have hcz49_0 : w46.cell? ⟨gb1724, 0, none⟩ = some (.slice none 0 0) := (blk_cell BK1724.out 0).trans rfl; have hcz49_1 : w46.cell? ⟨gb1724, 1, none⟩ = some (.int .i64 0) := (blk_cell BK1724.out 1).trans rfl; have hcz49_2 : w46.cell? ⟨gb1724, 2, none⟩ = some (.int .i64 0) := (blk_cell BK1724.out 2).trans rfl; have hcz49_3 : w46.cell? ⟨gb1724, 3, none⟩ = some (.string (⟨#[]⟩ : ByteArray)) := (blk_cell BK1724.out 3).trans rfl; have hfz49_0 := blk_frozen BK1724.out 0; have hfz49_1 := blk_frozen BK1724.out 1; have hfz49_2 := blk_frozen BK1724.out 2; have hfz49_3 := blk_frozen BK1724.out 3))
  refine bodyPost_ret (results_cell_row rfl _ _ gb1724 44 #[.slice Ao41 t1725.length co41, .int .i64 t1728, .int .i64 t1748, .string t1730] (0, 0) _ rfl (by (with_reducible repeat (first | refine kn_ ?_ _ | refine kd_ ?_ | refine ka_ ?_ _)); refine blk_put (cs := #[.slice Ao41 t1725.length co41, .int .i64 t1728, .int .i64 t1748, .string (⟨#[]⟩ : ByteArray)]) ?_ 3 _ rfl; (with_reducible repeat (first | refine kn_ ?_ _ | refine kd_ ?_ | refine ka_ ?_ _)); refine blk_put (cs := #[.slice Ao41 t1725.length co41, .int .i64 t1728, .int .i64 0, .string (⟨#[]⟩ : ByteArray)]) ?_ 2 _ rfl; (with_reducible repeat (first | refine kn_ ?_ _ | refine kd_ ?_ | refine ka_ ?_ _)); refine blk_put (cs := #[.slice Ao41 t1725.length co41, .int .i64 0, .int .i64 0, .string (⟨#[]⟩ : ByteArray)]) ?_ 1 _ rfl; (with_reducible repeat (first | refine kn_ ?_ _ | refine kd_ ?_ | refine ka_ ?_ _)); refine blk_put (cs := #[.slice none 0 0, .int .i64 0, .int .i64 0, .string (⟨#[]⟩ : ByteArray)]) ?_ 0 _ rfl; (with_reducible repeat (first | refine kn_ ?_ _ | refine kd_ ?_ | refine ka_ ?_ _)); refine blk_far ?_ NB1724_1733.out _; (with_reducible repeat (first | refine kn_ ?_ _ | refine kd_ ?_ | refine ka_ ?_ _)); exact BK1724.out) Try.underlying44 rfl (by kernel_rfl)) rfl ?_
  exact ⟨_, by first | rfl | (simp [errW_none, errW_some] <;> rfl) | (simp [*, errW_none, errW_some] <;> rfl), by (with_reducible repeat (first | apply Kd.R_alloc | apply Kd.R_drewN | apply Kd.R_drew)); exact Kd.R_mono (Kd.R_far (p := ⟨gb1724, 3, none⟩) (Kd.R_far (p := ⟨gb1724, 2, none⟩) (Kd.R_far (p := ⟨gb1724, 1, none⟩) (Kd.R_far (p := ⟨gb1724, 0, none⟩) (Kd.R_far (p := ⟨gb1733, 2, none⟩) (Kd.R_types (Kd.R_types HO1727.out BK1733.out (by decide)) BK1724.out (by decide)) (fun _ hk => hk.1.2) (.int .i64 t1748)) (fun _ hk => hk.2) (.slice Ao41 t1725.length co41)) (fun _ hk => hk.2) (.int .i64 t1728)) (fun _ hk => hk.2) (.int .i64 t1748)) (fun _ hk => hk.2) (.string t1730)) (fun _ hk => trivial), by repeat (first | (with_reducible first | exact HI0.out | apply IsS173.alloc | apply IsS173.drewN | apply IsS173.drew | apply IsS173.set_1 | apply IsS173.set_2 | refine IsS173.far ?_ NB0_1724.out _ | refine IsS173.far ?_ NB0_1733.out _) | exact HI0.out), by repeat (first | (with_reducible first | exact HB.out | apply ba_ | apply bn_ | apply bd_ | refine below_set ?_ (IsS173.ge HI0.out) | refine below_set ?_ GE1724.out | refine below_set ?_ GE1733.out) | exact HB.out), by repeat (first | (with_reducible first | exact HK.out | apply KeepBut.set_ | apply keep_drewN | apply keep_drew | apply keep_alloc | refine keep_far ?_ GW1724.out _ | refine keep_far ?_ GW1733.out _) | exact HK.out)⟩
 rw [if_neg c36] at H
 have c36b0 : (t1734 == 2) = false := beq_eq_false_iff_ne.mpr c36
 have c36b1 : (t1734 != 2) = true := bne_iff_ne.mpr c36
 by_cases c50 : t1734 = 3
 ·
  rw [if_pos c50] at H
  have c50b0 : (t1734 == 3) = true := beq_iff_eq.mpr c50
  have c50b1 : (t1734 != 3) = false := bne_eq_false_iff_eq.mpr c50
  clear c50
  replace H := Option.bind_eq_some_iff.mp H
  obtain ⟨⟨t1751, t1752, t1753⟩, A510, H⟩ := H
  have A51 := Aside0.mk A510
  clear A510
  simp only [Option.some.injEq, Prod.mk.injEq] at H
  obtain ⟨rfl, rfl, rfl, rfl, rfl, rfl⟩ := H
  go_enter Try.func159, Try.ntmps159
  go_wp2_with (first | ((with_reducible refine gate_dst (N := 2) rfl ?_); refine box_event ?hg (N := 2) ?hd (cs := #[.slice none 0 0, .int .i64 0, .int .i64 0, .string (⟨#[]⟩ : ByteArray)]) (t := 44) ?hr ?_; (case hd => rfl); (case hg => rfl); (case hr => first | (go_simp; done) | (go_simp; rfl)); intro gb1724 hg w52 hbox hb; have n0_ := Aside0.mk (IsS173.below (by repeat (first | (with_reducible first | exact HI0.out | apply IsS173.alloc | apply IsS173.drewN | apply IsS173.drew | apply IsS173.set_1 | apply IsS173.set_2) | exact HI0.out)) hb); have n1_ := Aside0.mk (KeepBut.trans (by repeat (first | (with_reducible first | exact HK.out | apply KeepBut.set_ | apply keep_drewN | apply keep_drew | apply keep_alloc) | exact HK.out)) (KeepBut.of_below hb g none) (.inl rfl)); have n2_ := Aside0.mk (below_step (by repeat (first | (with_reducible first | exact HB.out | apply ba_ | apply bn_ | apply bd_ | refine below_set ?_ (IsS173.ge HI0.out)) | exact HB.out)) hb); have n3_ := Aside0.mk (hbox); have n4_ := Aside0.mk ((by rw [hg]; exact (keep_size (w := w) (g := g) (row := none) (by repeat (first | (with_reducible first | exact HK.out | apply KeepBut.set_ | apply keep_drewN | apply keep_drew | apply keep_alloc) | exact HK.out))) : w.heap.size ≤ gb1724)); have n5_ := Aside0.mk ((Nat.le_trans HW0.out (by rw [hg]; exact (keep_size (w := w) (g := g) (row := none) (by repeat (first | (with_reducible first | exact HK.out | apply KeepBut.set_ | apply keep_drewN | apply keep_drew | apply keep_alloc) | exact HK.out))) : w.heap.size ≤ gb1724) : w0.heap.size ≤ gb1724)); have n6_ := Aside0.mk ((by rw [hg]; exact Nat.ne_of_lt (IsS173.lt (show IsS173 w0 _ g s0_0 s0_1 s0_2 from by repeat (first | (with_reducible first | exact HI0.out | apply IsS173.alloc | apply IsS173.drewN | apply IsS173.drew | apply IsS173.set_1 | apply IsS173.set_2) | exact HI0.out))) : g ≠ gb1724)); have n7_ := Aside0.mk ((by rw [hg]; exact Nat.ne_of_gt (IsS173.lt (show IsS173 w0 _ g s0_0 s0_1 s0_2 from by repeat (first | (with_reducible first | exact HI0.out | apply IsS173.alloc | apply IsS173.drewN | apply IsS173.drew | apply IsS173.set_1 | apply IsS173.set_2) | exact HI0.out))) : gb1724 ≠ g)); clear HI0; clear HK; clear HB; have HI0 := n0_; have HK := n1_; have HB := n2_; have BK1724 := n3_; have GW1724 := n4_; have GE1724 := n5_; have NB0_1724 := n6_; have NB1724_0 := n7_; clear n0_ n1_ n2_ n3_ n4_ n5_ n6_ n7_; clear hb hbox hg) | ((with_reducible refine gate_callee (f := 135) rfl ?_); refine goesL_ (some 5) rfl rfl Try.func135 (by kernel_rfl) rfl #[.pointer (some ⟨g, 0, none⟩)] rfl (by (try simp only [mp_]); first | done | rfl | (simp only [List.length_drop, List.length_take]; rfl)) ?_; (with_reducible refine (spec_l4Draw.calls k g s0_0 s0_1 s0_2 t1725 t1728 t1729 t1730 t1731 t1732 w0 _ ?side1 ?side2 A2.out).mono ?_); (case side1 => repeat (first | (with_reducible first | exact HI0.out | apply IsS173.alloc | apply IsS173.drewN | apply IsS173.drew | apply IsS173.set_1 | apply IsS173.set_2 | refine IsS173.far ?_ NB0_1724.out _) | exact HI0.out)); (case side2 => repeat (first | (with_reducible first | exact HB.out | apply ba_ | apply bn_ | apply bd_ | refine below_set ?_ (IsS173.ge HI0.out) | refine below_set ?_ GE1724.out) | exact HB.out)); rintro e w53 ⟨v1726, rfl, ho0, hi, hb, hk⟩; refine ⟨_, rfl, ?_⟩; have n0_ := Aside0.mk (KeepBut.blk hk (g' := gb1724) (o := .cells #[.slice none 0 0, .int .i64 0, .int .i64 0, .string (⟨#[]⟩ : ByteArray)] 44 (0, 0)) (pb_ BK1724.out) NB1724_0.out (by simp)); have n1_ := Aside0.mk (Kd.R_lower ho0 (keep_size (w := w) (g := g) (row := none) (by repeat (first | (with_reducible first | exact HK.out | apply KeepBut.set_ | apply keep_drewN | apply keep_drew | apply keep_alloc | refine keep_far ?_ GW1724.out _) | exact HK.out)))); have n2_ := Aside0.mk (KeepBut.trans (by repeat (first | (with_reducible first | exact HK.out | apply KeepBut.set_ | apply keep_drewN | apply keep_drew | apply keep_alloc | refine keep_far ?_ GW1724.out _) | exact HK.out)) hk (.inl rfl)); have n3_ := Aside0.mk (hb); have n4_ := Aside0.mk (hi); clear BK1724; clear HK; clear HB; clear HI0; have BK1724 := n0_; have HO1727 := n1_; have HK := n2_; have HB := n3_; have HI0 := n4_; clear n0_ n1_ n2_ n3_ n4_; (try clear hb); (try clear hb2); (try clear hk); (try clear hi); (try clear ho0)) | ((with_reducible refine gate_dst (N := 3) rfl ?_); refine box_event ?hg (N := 3) ?hd (cs := #[.slice none 0 0, .int .i64 0, .int .i64 0, .string (⟨#[]⟩ : ByteArray)]) (t := 44) ?hr ?_; (case hd => rfl); (case hg => rfl); (case hr => first | (go_simp; done) | (go_simp; rfl)); intro gb1733 hg w54 hbox hb; have n0_ := Aside0.mk (Kd.R_below (rp_ HO1727.out) hb); have n1_ := Aside0.mk (IsS173.below (by repeat (first | (with_reducible first | exact HI0.out | apply IsS173.alloc | apply IsS173.drewN | apply IsS173.drew | apply IsS173.set_1 | apply IsS173.set_2 | refine IsS173.far ?_ NB0_1724.out _) | exact HI0.out)) hb); have n2_ := Aside0.mk (bb_ BK1724.out hb); have n3_ := Aside0.mk (KeepBut.trans (by repeat (first | (with_reducible first | exact HK.out | apply KeepBut.set_ | apply keep_drewN | apply keep_drew | apply keep_alloc | refine keep_far ?_ GW1724.out _) | exact HK.out)) (KeepBut.of_below hb g none) (.inl rfl)); have n4_ := Aside0.mk (below_step (by repeat (first | (with_reducible first | exact HB.out | apply ba_ | apply bn_ | apply bd_ | refine below_set ?_ (IsS173.ge HI0.out) | refine below_set ?_ GE1724.out) | exact HB.out)) hb); have n5_ := Aside0.mk (hbox); have n6_ := Aside0.mk ((by rw [hg]; exact (keep_size (w := w) (g := g) (row := none) (by repeat (first | (with_reducible first | exact HK.out | apply KeepBut.set_ | apply keep_drewN | apply keep_drew | apply keep_alloc | refine keep_far ?_ GW1724.out _) | exact HK.out))) : w.heap.size ≤ gb1733)); have n7_ := Aside0.mk ((Nat.le_trans HW0.out (by rw [hg]; exact (keep_size (w := w) (g := g) (row := none) (by repeat (first | (with_reducible first | exact HK.out | apply KeepBut.set_ | apply keep_drewN | apply keep_drew | apply keep_alloc | refine keep_far ?_ GW1724.out _) | exact HK.out))) : w.heap.size ≤ gb1733) : w0.heap.size ≤ gb1733)); have n8_ := Aside0.mk (nl_ BK1724.out hg); have n9_ := Aside0.mk (ng_ BK1724.out hg); have n10_ := Aside0.mk ((by rw [hg]; exact Nat.ne_of_lt (IsS173.lt (show IsS173 w0 _ g s0_0 t1731 t1732 from by repeat (first | (with_reducible first | exact HI0.out | apply IsS173.alloc | apply IsS173.drewN | apply IsS173.drew | apply IsS173.set_1 | apply IsS173.set_2 | refine IsS173.far ?_ NB0_1724.out _) | exact HI0.out))) : g ≠ gb1733)); have n11_ := Aside0.mk ((by rw [hg]; exact Nat.ne_of_gt (IsS173.lt (show IsS173 w0 _ g s0_0 t1731 t1732 from by repeat (first | (with_reducible first | exact HI0.out | apply IsS173.alloc | apply IsS173.drewN | apply IsS173.drew | apply IsS173.set_1 | apply IsS173.set_2 | refine IsS173.far ?_ NB0_1724.out _) | exact HI0.out))) : gb1733 ≠ g)); clear HO1727; clear HI0; clear BK1724; clear HK; clear HB; have HO1727 := n0_; have HI0 := n1_; have BK1724 := n2_; have HK := n3_; have HB := n4_; have BK1733 := n5_; have GW1733 := n6_; have GE1733 := n7_; have NB1724_1733 := n8_; have NB1733_1724 := n9_; have NB0_1733 := n10_; have NB1733_0 := n11_; clear n0_ n1_ n2_ n3_ n4_ n5_ n6_ n7_ n8_ n9_ n10_ n11_; clear hb hbox hg; obtain ⟨Ao55, co55, eo55⟩ := Kd.R_slice HO1727.out; subst eo55; have hnb56 := NB1733_1724.out; have hnc56 := NB1724_1733.out; have hnb57 := NB1733_0.out; have hnc57 := NB0_1733.out; have hcz58_0 : w54.cell? ⟨gb1733, 0, none⟩ = some (.slice none 0 0) := (blk_cell BK1733.out 0).trans rfl; have hcz58_1 : w54.cell? ⟨gb1733, 1, none⟩ = some (.int .i64 0) := (blk_cell BK1733.out 1).trans rfl; have hcz58_2 : w54.cell? ⟨gb1733, 2, none⟩ = some (.int .i64 0) := (blk_cell BK1733.out 2).trans rfl; have hcz58_3 : w54.cell? ⟨gb1733, 3, none⟩ = some (.string (⟨#[]⟩ : ByteArray)) := (blk_cell BK1733.out 3).trans rfl; have hfz58_0 := blk_frozen BK1733.out 0; have hfz58_1 := blk_frozen BK1733.out 1; have hfz58_2 := blk_frozen BK1733.out 2; have hfz58_3 := blk_frozen BK1733.out 3) | ((with_reducible refine gate_callee (f := 137) rfl ?_); refine goesL_ (some 7) rfl rfl Try.func137 (by kernel_rfl) rfl #[.pointer (some ⟨g, 0, none⟩), .int .i64 12] rfl (by (try simp only [mp_]); first | done | rfl | (simp only [List.length_drop, List.length_take]; rfl)) ?_; (with_reducible refine (spec_l1Below.calls g s0_0 t1731 t1732 12 t1734 t1735 t1736 w0 _ ?side1 ?side2 A3.out).mono ?_); (case side1 => repeat (first | (with_reducible first | exact HI0.out | apply IsS173.alloc | apply IsS173.drewN | apply IsS173.drew | apply IsS173.set_1 | apply IsS173.set_2 | refine IsS173.far ?_ NB0_1724.out _ | refine IsS173.far ?_ NB0_1733.out _) | exact HI0.out)); (case side2 => repeat (first | (with_reducible first | exact HB.out | apply ba_ | apply bn_ | apply bd_ | refine below_set ?_ (IsS173.ge HI0.out) | refine below_set ?_ GE1724.out | refine below_set ?_ GE1733.out) | exact HB.out)); rintro e w59 ⟨rfl, hi, hb, hk⟩; refine ⟨_, rfl, ?_⟩; have n0_ := Aside0.mk (KeepBut.blk hk (g' := gb1724) (o := .cells #[.slice none 0 0, .int .i64 0, .int .i64 0, .string (⟨#[]⟩ : ByteArray)] 44 (0, 0)) (by (with_reducible repeat (first | refine kn_ ?_ _ | refine kd_ ?_ | refine ka_ ?_ _)); refine blk_far ?_ NB1724_1733.out _; (with_reducible repeat (first | refine kn_ ?_ _ | refine kd_ ?_ | refine ka_ ?_ _)); refine blk_far ?_ NB1724_1733.out _; (with_reducible repeat (first | refine kn_ ?_ _ | refine kd_ ?_ | refine ka_ ?_ _)); refine blk_far ?_ NB1724_1733.out _; (with_reducible repeat (first | refine kn_ ?_ _ | refine kd_ ?_ | refine ka_ ?_ _)); refine blk_far ?_ NB1724_1733.out _; (with_reducible repeat (first | refine kn_ ?_ _ | refine kd_ ?_ | refine ka_ ?_ _)); exact BK1724.out) NB1724_0.out (by simp)); have n1_ := Aside0.mk (Kd.R_mono (Kd.R_keep (IsS173.apart (show IsS173 w0 _ g s0_0 t1731 t1732 from by repeat (first | (with_reducible first | exact HI0.out | apply IsS173.alloc | apply IsS173.drewN | apply IsS173.drew | apply IsS173.set_1 | apply IsS173.set_2 | refine IsS173.far ?_ NB0_1724.out _ | refine IsS173.far ?_ NB0_1733.out _) | exact HI0.out)) (by (with_reducible repeat (first | apply Kd.R_alloc | apply Kd.R_drewN | apply Kd.R_drew)); exact (Kd.R_mono (Kd.R_far (p := ⟨gb1733, 3, none⟩) (Kd.R_far (p := ⟨gb1733, 2, none⟩) (Kd.R_far (p := ⟨gb1733, 1, none⟩) (Kd.R_far (p := ⟨gb1733, 0, none⟩) (Kd.R_types HO1727.out BK1733.out (by decide)) (fun _ hk => hk.2) (.slice Ao55 t1725.length co55)) (fun _ hk => hk.2) (.int .i64 t1728)) (fun _ hk => hk.2) (.int .i64 t1729)) (fun _ hk => hk.2) (.string t1730)) (fun _ h_ => h_.1))) (by decide)) hk (fun _ h => h.2)) (fun _ h => h.1)); have n2_ := Aside0.mk (KeepBut.blk hk (g' := gb1733) (o := .cells #[.slice Ao55 t1725.length co55, .int .i64 t1728, .int .i64 t1729, .string t1730] 44 (0, 0)) (by (with_reducible repeat (first | refine kn_ ?_ _ | refine kd_ ?_ | refine ka_ ?_ _)); refine blk_put (cs := #[.slice Ao55 t1725.length co55, .int .i64 t1728, .int .i64 t1729, .string (⟨#[]⟩ : ByteArray)]) ?_ 3 _ rfl; (with_reducible repeat (first | refine kn_ ?_ _ | refine kd_ ?_ | refine ka_ ?_ _)); refine blk_put (cs := #[.slice Ao55 t1725.length co55, .int .i64 t1728, .int .i64 0, .string (⟨#[]⟩ : ByteArray)]) ?_ 2 _ rfl; (with_reducible repeat (first | refine kn_ ?_ _ | refine kd_ ?_ | refine ka_ ?_ _)); refine blk_put (cs := #[.slice Ao55 t1725.length co55, .int .i64 0, .int .i64 0, .string (⟨#[]⟩ : ByteArray)]) ?_ 1 _ rfl; (with_reducible repeat (first | refine kn_ ?_ _ | refine kd_ ?_ | refine ka_ ?_ _)); refine blk_put (cs := #[.slice none 0 0, .int .i64 0, .int .i64 0, .string (⟨#[]⟩ : ByteArray)]) ?_ 0 _ rfl; (with_reducible repeat (first | refine kn_ ?_ _ | refine kd_ ?_ | refine ka_ ?_ _)); exact BK1733.out) NB1733_0.out (by simp)); have n3_ := Aside0.mk (KeepBut.trans (by repeat (first | (with_reducible first | exact HK.out | apply KeepBut.set_ | apply keep_drewN | apply keep_drew | apply keep_alloc | refine keep_far ?_ GW1724.out _ | refine keep_far ?_ GW1733.out _) | exact HK.out)) hk (.inl rfl)); have n4_ := Aside0.mk (hb); have n5_ := Aside0.mk (hi); clear BK1724; clear HO1727; clear BK1733; clear HK; clear HB; clear HI0; have BK1724 := n0_; have HO1727 := n1_; have BK1733 := n2_; have HK := n3_; have HB := n4_; have HI0 := n5_; clear n0_ n1_ n2_ n3_ n4_ n5_; (try clear hb); (try clear hb2); (try clear hk); (try clear hi)) | ((with_reducible refine gate_callee (f := 173) rfl ?_); refine goesL_ (some 27) rfl rfl Try.func173 (by kernel_rfl) rfl #[.pointer (some ⟨g, 0, none⟩)] rfl (by (try simp only [mp_]); first | done | rfl | (simp only [List.length_drop, List.length_take]; rfl)) ?_; (with_reducible refine (spec_l1AnyPlain.calls g s0_0 t1735 t1736 t1751 t1752 t1753 w0 _ ?side1 ?side2 A51.out).mono ?_); (case side1 => repeat (first | (with_reducible first | exact HI0.out | apply IsS173.alloc | apply IsS173.drewN | apply IsS173.drew | apply IsS173.set_1 | apply IsS173.set_2 | refine IsS173.far ?_ NB0_1724.out _ | refine IsS173.far ?_ NB0_1733.out _) | exact HI0.out)); (case side2 => repeat (first | (with_reducible first | exact HB.out | apply ba_ | apply bn_ | apply bd_ | refine below_set ?_ (IsS173.ge HI0.out) | refine below_set ?_ GE1724.out | refine below_set ?_ GE1733.out) | exact HB.out)); rintro e w60 ⟨rfl, hi, hb, hk⟩; refine ⟨_, rfl, ?_⟩; have n0_ := Aside0.mk (KeepBut.blk hk (g' := gb1724) (o := .cells #[.slice none 0 0, .int .i64 0, .int .i64 0, .string (⟨#[]⟩ : ByteArray)] 44 (0, 0)) (pb_ BK1724.out) NB1724_0.out (by simp)); have n1_ := Aside0.mk (Kd.R_mono (Kd.R_keep (IsS173.apart (show IsS173 w0 _ g s0_0 t1735 t1736 from by repeat (first | (with_reducible first | exact HI0.out | apply IsS173.alloc | apply IsS173.drewN | apply IsS173.drew | apply IsS173.set_1 | apply IsS173.set_2 | refine IsS173.far ?_ NB0_1724.out _ | refine IsS173.far ?_ NB0_1733.out _) | exact HI0.out)) (rp_ HO1727.out) (by decide)) hk (fun _ h => h.2)) (fun _ h => h.1)); have n2_ := Aside0.mk (KeepBut.blk hk (g' := gb1733) (o := .cells #[.slice Ao55 t1725.length co55, .int .i64 t1728, .int .i64 t1729, .string t1730] 44 (0, 0)) (pb_ BK1733.out) NB1733_0.out (by simp)); have n3_ := Aside0.mk (KeepBut.trans (by repeat (first | (with_reducible first | exact HK.out | apply KeepBut.set_ | apply keep_drewN | apply keep_drew | apply keep_alloc | refine keep_far ?_ GW1724.out _ | refine keep_far ?_ GW1733.out _) | exact HK.out)) hk (.inl rfl)); have n4_ := Aside0.mk (hb); have n5_ := Aside0.mk (hi); clear BK1724; clear HO1727; clear BK1733; clear HK; clear HB; clear HI0; have BK1724 := n0_; have HO1727 := n1_; have BK1733 := n2_; have HK := n3_; have HB := n4_; have HI0 := n5_; clear n0_ n1_ n2_ n3_ n4_ n5_; (try clear hb); (try clear hb2); (try clear hk); (try clear hi); have hcz61_0 : w60.cell? ⟨gb1733, 0, none⟩ = some (.slice Ao55 t1725.length co55) := (blk_cell BK1733.out 0).trans rfl; have hcz61_1 : w60.cell? ⟨gb1733, 1, none⟩ = some (.int .i64 t1728) := (blk_cell BK1733.out 1).trans rfl; have hcz61_2 : w60.cell? ⟨gb1733, 2, none⟩ = some (.int .i64 t1729) := (blk_cell BK1733.out 2).trans rfl; have hcz61_3 : w60.cell? ⟨gb1733, 3, none⟩ = some (.string t1730) := (blk_cell BK1733.out 3).trans rfl; have hfz61_0 := blk_frozen BK1733.out 0; have hfz61_1 := blk_frozen BK1733.out 1; have hfz61_2 := blk_frozen BK1733.out 2; have hfz61_3 := blk_frozen BK1733.out 3; have hnb62 := NB1724_0.out; have hnc62 := NB0_1724.out; have hcz63_0 : w60.cell? ⟨gb1724, 0, none⟩ = some (.slice none 0 0) := (blk_cell BK1724.out 0).trans rfl; have hcz63_1 : w60.cell? ⟨gb1724, 1, none⟩ = some (.int .i64 0) := (blk_cell BK1724.out 1).trans rfl; have hcz63_2 : w60.cell? ⟨gb1724, 2, none⟩ = some (.int .i64 0) := (blk_cell BK1724.out 2).trans rfl; have hcz63_3 : w60.cell? ⟨gb1724, 3, none⟩ = some (.string (⟨#[]⟩ : ByteArray)) := (blk_cell BK1724.out 3).trans rfl; have hfz63_0 := blk_frozen BK1724.out 0; have hfz63_1 := blk_frozen BK1724.out 1; have hfz63_2 := blk_frozen BK1724.out 2; have hfz63_3 := blk_frozen BK1724.out 3))
  refine bodyPost_ret (results_cell_row rfl _ _ gb1724 44 #[.slice Ao55 t1725.length co55, .int .i64 t1728, .int .i64 t1729, .string t1751] (0, 0) _ rfl (by (with_reducible repeat (first | refine kn_ ?_ _ | refine kd_ ?_ | refine ka_ ?_ _)); refine blk_put (cs := #[.slice Ao55 t1725.length co55, .int .i64 t1728, .int .i64 t1729, .string (⟨#[]⟩ : ByteArray)]) ?_ 3 _ rfl; (with_reducible repeat (first | refine kn_ ?_ _ | refine kd_ ?_ | refine ka_ ?_ _)); refine blk_put (cs := #[.slice Ao55 t1725.length co55, .int .i64 t1728, .int .i64 0, .string (⟨#[]⟩ : ByteArray)]) ?_ 2 _ rfl; (with_reducible repeat (first | refine kn_ ?_ _ | refine kd_ ?_ | refine ka_ ?_ _)); refine blk_put (cs := #[.slice Ao55 t1725.length co55, .int .i64 0, .int .i64 0, .string (⟨#[]⟩ : ByteArray)]) ?_ 1 _ rfl; (with_reducible repeat (first | refine kn_ ?_ _ | refine kd_ ?_ | refine ka_ ?_ _)); refine blk_put (cs := #[.slice none 0 0, .int .i64 0, .int .i64 0, .string (⟨#[]⟩ : ByteArray)]) ?_ 0 _ rfl; (with_reducible repeat (first | refine kn_ ?_ _ | refine kd_ ?_ | refine ka_ ?_ _)); refine blk_far ?_ NB1724_1733.out _; (with_reducible repeat (first | refine kn_ ?_ _ | refine kd_ ?_ | refine ka_ ?_ _)); exact BK1724.out) Try.underlying44 rfl (by kernel_rfl)) rfl ?_
  exact ⟨_, by first | rfl | (simp [errW_none, errW_some] <;> rfl) | (simp [*, errW_none, errW_some] <;> rfl), by (with_reducible repeat (first | apply Kd.R_alloc | apply Kd.R_drewN | apply Kd.R_drew)); exact Kd.R_mono (Kd.R_far (p := ⟨gb1724, 3, none⟩) (Kd.R_far (p := ⟨gb1724, 2, none⟩) (Kd.R_far (p := ⟨gb1724, 1, none⟩) (Kd.R_far (p := ⟨gb1724, 0, none⟩) (Kd.R_far (p := ⟨gb1733, 3, none⟩) (Kd.R_types (Kd.R_types HO1727.out BK1733.out (by decide)) BK1724.out (by decide)) (fun _ hk => hk.1.2) (.string t1751)) (fun _ hk => hk.2) (.slice Ao55 t1725.length co55)) (fun _ hk => hk.2) (.int .i64 t1728)) (fun _ hk => hk.2) (.int .i64 t1729)) (fun _ hk => hk.2) (.string t1751)) (fun _ hk => trivial), by repeat (first | (with_reducible first | exact HI0.out | apply IsS173.alloc | apply IsS173.drewN | apply IsS173.drew | apply IsS173.set_1 | apply IsS173.set_2 | refine IsS173.far ?_ NB0_1724.out _ | refine IsS173.far ?_ NB0_1733.out _) | exact HI0.out), by repeat (first | (with_reducible first | exact HB.out | apply ba_ | apply bn_ | apply bd_ | refine below_set ?_ (IsS173.ge HI0.out) | refine below_set ?_ GE1724.out | refine below_set ?_ GE1733.out) | exact HB.out), by repeat (first | (with_reducible first | exact HK.out | apply KeepBut.set_ | apply keep_drewN | apply keep_drew | apply keep_alloc | refine keep_far ?_ GW1724.out _ | refine keep_far ?_ GW1733.out _) | exact HK.out)⟩
 rw [if_neg c50] at H
 have c50b0 : (t1734 == 3) = false := beq_eq_false_iff_ne.mpr c50
 have c50b1 : (t1734 != 3) = true := bne_iff_ne.mpr c50
 simp only [Option.some.injEq, Prod.mk.injEq] at H
 obtain ⟨rfl, rfl, rfl, rfl, rfl, rfl⟩ := H
 go_enter Try.func159, Try.ntmps159
 go_wp2_with (first | ((with_reducible refine gate_dst (N := 2) rfl ?_); refine box_event ?hg (N := 2) ?hd (cs := #[.slice none 0 0, .int .i64 0, .int .i64 0, .string (⟨#[]⟩ : ByteArray)]) (t := 44) ?hr ?_; (case hd => rfl); (case hg => rfl); (case hr => first | (go_simp; done) | (go_simp; rfl)); intro gb1724 hg w64 hbox hb; have n0_ := Aside0.mk (IsS173.below (by repeat (first | (with_reducible first | exact HI0.out | apply IsS173.alloc | apply IsS173.drewN | apply IsS173.drew | apply IsS173.set_1 | apply IsS173.set_2) | exact HI0.out)) hb); have n1_ := Aside0.mk (KeepBut.trans (by repeat (first | (with_reducible first | exact HK.out | apply KeepBut.set_ | apply keep_drewN | apply keep_drew | apply keep_alloc) | exact HK.out)) (KeepBut.of_below hb g none) (.inl rfl)); have n2_ := Aside0.mk (below_step (by repeat (first | (with_reducible first | exact HB.out | apply ba_ | apply bn_ | apply bd_ | refine below_set ?_ (IsS173.ge HI0.out)) | exact HB.out)) hb); have n3_ := Aside0.mk (hbox); have n4_ := Aside0.mk ((by rw [hg]; exact (keep_size (w := w) (g := g) (row := none) (by repeat (first | (with_reducible first | exact HK.out | apply KeepBut.set_ | apply keep_drewN | apply keep_drew | apply keep_alloc) | exact HK.out))) : w.heap.size ≤ gb1724)); have n5_ := Aside0.mk ((Nat.le_trans HW0.out (by rw [hg]; exact (keep_size (w := w) (g := g) (row := none) (by repeat (first | (with_reducible first | exact HK.out | apply KeepBut.set_ | apply keep_drewN | apply keep_drew | apply keep_alloc) | exact HK.out))) : w.heap.size ≤ gb1724) : w0.heap.size ≤ gb1724)); have n6_ := Aside0.mk ((by rw [hg]; exact Nat.ne_of_lt (IsS173.lt (show IsS173 w0 _ g s0_0 s0_1 s0_2 from by repeat (first | (with_reducible first | exact HI0.out | apply IsS173.alloc | apply IsS173.drewN | apply IsS173.drew | apply IsS173.set_1 | apply IsS173.set_2) | exact HI0.out))) : g ≠ gb1724)); have n7_ := Aside0.mk ((by rw [hg]; exact Nat.ne_of_gt (IsS173.lt (show IsS173 w0 _ g s0_0 s0_1 s0_2 from by repeat (first | (with_reducible first | exact HI0.out | apply IsS173.alloc | apply IsS173.drewN | apply IsS173.drew | apply IsS173.set_1 | apply IsS173.set_2) | exact HI0.out))) : gb1724 ≠ g)); clear HI0; clear HK; clear HB; have HI0 := n0_; have HK := n1_; have HB := n2_; have BK1724 := n3_; have GW1724 := n4_; have GE1724 := n5_; have NB0_1724 := n6_; have NB1724_0 := n7_; clear n0_ n1_ n2_ n3_ n4_ n5_ n6_ n7_; clear hb hbox hg) | ((with_reducible refine gate_callee (f := 135) rfl ?_); refine goesL_ (some 5) rfl rfl Try.func135 (by kernel_rfl) rfl #[.pointer (some ⟨g, 0, none⟩)] rfl (by (try simp only [mp_]); first | done | rfl | (simp only [List.length_drop, List.length_take]; rfl)) ?_; (with_reducible refine (spec_l4Draw.calls k g s0_0 s0_1 s0_2 t1725 t1728 t1729 t1730 t1731 t1732 w0 _ ?side1 ?side2 A2.out).mono ?_); (case side1 => repeat (first | (with_reducible first | exact HI0.out | apply IsS173.alloc | apply IsS173.drewN | apply IsS173.drew | apply IsS173.set_1 | apply IsS173.set_2 | refine IsS173.far ?_ NB0_1724.out _) | exact HI0.out)); (case side2 => repeat (first | (with_reducible first | exact HB.out | apply ba_ | apply bn_ | apply bd_ | refine below_set ?_ (IsS173.ge HI0.out) | refine below_set ?_ GE1724.out) | exact HB.out)); rintro e w65 ⟨v1726, rfl, ho0, hi, hb, hk⟩; refine ⟨_, rfl, ?_⟩; have n0_ := Aside0.mk (KeepBut.blk hk (g' := gb1724) (o := .cells #[.slice none 0 0, .int .i64 0, .int .i64 0, .string (⟨#[]⟩ : ByteArray)] 44 (0, 0)) (pb_ BK1724.out) NB1724_0.out (by simp)); have n1_ := Aside0.mk (Kd.R_lower ho0 (keep_size (w := w) (g := g) (row := none) (by repeat (first | (with_reducible first | exact HK.out | apply KeepBut.set_ | apply keep_drewN | apply keep_drew | apply keep_alloc | refine keep_far ?_ GW1724.out _) | exact HK.out)))); have n2_ := Aside0.mk (KeepBut.trans (by repeat (first | (with_reducible first | exact HK.out | apply KeepBut.set_ | apply keep_drewN | apply keep_drew | apply keep_alloc | refine keep_far ?_ GW1724.out _) | exact HK.out)) hk (.inl rfl)); have n3_ := Aside0.mk (hb); have n4_ := Aside0.mk (hi); clear BK1724; clear HK; clear HB; clear HI0; have BK1724 := n0_; have HO1727 := n1_; have HK := n2_; have HB := n3_; have HI0 := n4_; clear n0_ n1_ n2_ n3_ n4_; (try clear hb); (try clear hb2); (try clear hk); (try clear hi); (try clear ho0)) | ((with_reducible refine gate_dst (N := 3) rfl ?_); refine box_event ?hg (N := 3) ?hd (cs := #[.slice none 0 0, .int .i64 0, .int .i64 0, .string (⟨#[]⟩ : ByteArray)]) (t := 44) ?hr ?_; (case hd => rfl); (case hg => rfl); (case hr => first | (go_simp; done) | (go_simp; rfl)); intro gb1733 hg w66 hbox hb; have n0_ := Aside0.mk (Kd.R_below (rp_ HO1727.out) hb); have n1_ := Aside0.mk (IsS173.below (by repeat (first | (with_reducible first | exact HI0.out | apply IsS173.alloc | apply IsS173.drewN | apply IsS173.drew | apply IsS173.set_1 | apply IsS173.set_2 | refine IsS173.far ?_ NB0_1724.out _) | exact HI0.out)) hb); have n2_ := Aside0.mk (bb_ BK1724.out hb); have n3_ := Aside0.mk (KeepBut.trans (by repeat (first | (with_reducible first | exact HK.out | apply KeepBut.set_ | apply keep_drewN | apply keep_drew | apply keep_alloc | refine keep_far ?_ GW1724.out _) | exact HK.out)) (KeepBut.of_below hb g none) (.inl rfl)); have n4_ := Aside0.mk (below_step (by repeat (first | (with_reducible first | exact HB.out | apply ba_ | apply bn_ | apply bd_ | refine below_set ?_ (IsS173.ge HI0.out) | refine below_set ?_ GE1724.out) | exact HB.out)) hb); have n5_ := Aside0.mk (hbox); have n6_ := Aside0.mk ((by rw [hg]; exact (keep_size (w := w) (g := g) (row := none) (by repeat (first | (with_reducible first | exact HK.out | apply KeepBut.set_ | apply keep_drewN | apply keep_drew | apply keep_alloc | refine keep_far ?_ GW1724.out _) | exact HK.out))) : w.heap.size ≤ gb1733)); have n7_ := Aside0.mk ((Nat.le_trans HW0.out (by rw [hg]; exact (keep_size (w := w) (g := g) (row := none) (by repeat (first | (with_reducible first | exact HK.out | apply KeepBut.set_ | apply keep_drewN | apply keep_drew | apply keep_alloc | refine keep_far ?_ GW1724.out _) | exact HK.out))) : w.heap.size ≤ gb1733) : w0.heap.size ≤ gb1733)); have n8_ := Aside0.mk (nl_ BK1724.out hg); have n9_ := Aside0.mk (ng_ BK1724.out hg); have n10_ := Aside0.mk ((by rw [hg]; exact Nat.ne_of_lt (IsS173.lt (show IsS173 w0 _ g s0_0 t1731 t1732 from by repeat (first | (with_reducible first | exact HI0.out | apply IsS173.alloc | apply IsS173.drewN | apply IsS173.drew | apply IsS173.set_1 | apply IsS173.set_2 | refine IsS173.far ?_ NB0_1724.out _) | exact HI0.out))) : g ≠ gb1733)); have n11_ := Aside0.mk ((by rw [hg]; exact Nat.ne_of_gt (IsS173.lt (show IsS173 w0 _ g s0_0 t1731 t1732 from by repeat (first | (with_reducible first | exact HI0.out | apply IsS173.alloc | apply IsS173.drewN | apply IsS173.drew | apply IsS173.set_1 | apply IsS173.set_2 | refine IsS173.far ?_ NB0_1724.out _) | exact HI0.out))) : gb1733 ≠ g)); clear HO1727; clear HI0; clear BK1724; clear HK; clear HB; have HO1727 := n0_; have HI0 := n1_; have BK1724 := n2_; have HK := n3_; have HB := n4_; have BK1733 := n5_; have GW1733 := n6_; have GE1733 := n7_; have NB1724_1733 := n8_; have NB1733_1724 := n9_; have NB0_1733 := n10_; have NB1733_0 := n11_; clear n0_ n1_ n2_ n3_ n4_ n5_ n6_ n7_ n8_ n9_ n10_ n11_; clear hb hbox hg; obtain ⟨Ao67, co67, eo67⟩ := Kd.R_slice HO1727.out; subst eo67; have hnb68 := NB1733_1724.out; have hnc68 := NB1724_1733.out; have hnb69 := NB1733_0.out; have hnc69 := NB0_1733.out; have hcz70_0 : w66.cell? ⟨gb1733, 0, none⟩ = some (.slice none 0 0) := (blk_cell BK1733.out 0).trans rfl; have hcz70_1 : w66.cell? ⟨gb1733, 1, none⟩ = some (.int .i64 0) := (blk_cell BK1733.out 1).trans rfl; have hcz70_2 : w66.cell? ⟨gb1733, 2, none⟩ = some (.int .i64 0) := (blk_cell BK1733.out 2).trans rfl; have hcz70_3 : w66.cell? ⟨gb1733, 3, none⟩ = some (.string (⟨#[]⟩ : ByteArray)) := (blk_cell BK1733.out 3).trans rfl; have hfz70_0 := blk_frozen BK1733.out 0; have hfz70_1 := blk_frozen BK1733.out 1; have hfz70_2 := blk_frozen BK1733.out 2; have hfz70_3 := blk_frozen BK1733.out 3) | ((with_reducible refine gate_callee (f := 137) rfl ?_); refine goesL_ (some 7) rfl rfl Try.func137 (by kernel_rfl) rfl #[.pointer (some ⟨g, 0, none⟩), .int .i64 12] rfl (by (try simp only [mp_]); first | done | rfl | (simp only [List.length_drop, List.length_take]; rfl)) ?_; (with_reducible refine (spec_l1Below.calls g s0_0 t1731 t1732 12 t1734 t1735 t1736 w0 _ ?side1 ?side2 A3.out).mono ?_); (case side1 => repeat (first | (with_reducible first | exact HI0.out | apply IsS173.alloc | apply IsS173.drewN | apply IsS173.drew | apply IsS173.set_1 | apply IsS173.set_2 | refine IsS173.far ?_ NB0_1724.out _ | refine IsS173.far ?_ NB0_1733.out _) | exact HI0.out)); (case side2 => repeat (first | (with_reducible first | exact HB.out | apply ba_ | apply bn_ | apply bd_ | refine below_set ?_ (IsS173.ge HI0.out) | refine below_set ?_ GE1724.out | refine below_set ?_ GE1733.out) | exact HB.out)); rintro e w71 ⟨rfl, hi, hb, hk⟩; refine ⟨_, rfl, ?_⟩; have n0_ := Aside0.mk (KeepBut.blk hk (g' := gb1724) (o := .cells #[.slice none 0 0, .int .i64 0, .int .i64 0, .string (⟨#[]⟩ : ByteArray)] 44 (0, 0)) (by (with_reducible repeat (first | refine kn_ ?_ _ | refine kd_ ?_ | refine ka_ ?_ _)); refine blk_far ?_ NB1724_1733.out _; (with_reducible repeat (first | refine kn_ ?_ _ | refine kd_ ?_ | refine ka_ ?_ _)); refine blk_far ?_ NB1724_1733.out _; (with_reducible repeat (first | refine kn_ ?_ _ | refine kd_ ?_ | refine ka_ ?_ _)); refine blk_far ?_ NB1724_1733.out _; (with_reducible repeat (first | refine kn_ ?_ _ | refine kd_ ?_ | refine ka_ ?_ _)); refine blk_far ?_ NB1724_1733.out _; (with_reducible repeat (first | refine kn_ ?_ _ | refine kd_ ?_ | refine ka_ ?_ _)); exact BK1724.out) NB1724_0.out (by simp)); have n1_ := Aside0.mk (Kd.R_mono (Kd.R_keep (IsS173.apart (show IsS173 w0 _ g s0_0 t1731 t1732 from by repeat (first | (with_reducible first | exact HI0.out | apply IsS173.alloc | apply IsS173.drewN | apply IsS173.drew | apply IsS173.set_1 | apply IsS173.set_2 | refine IsS173.far ?_ NB0_1724.out _ | refine IsS173.far ?_ NB0_1733.out _) | exact HI0.out)) (by (with_reducible repeat (first | apply Kd.R_alloc | apply Kd.R_drewN | apply Kd.R_drew)); exact (Kd.R_mono (Kd.R_far (p := ⟨gb1733, 3, none⟩) (Kd.R_far (p := ⟨gb1733, 2, none⟩) (Kd.R_far (p := ⟨gb1733, 1, none⟩) (Kd.R_far (p := ⟨gb1733, 0, none⟩) (Kd.R_types HO1727.out BK1733.out (by decide)) (fun _ hk => hk.2) (.slice Ao67 t1725.length co67)) (fun _ hk => hk.2) (.int .i64 t1728)) (fun _ hk => hk.2) (.int .i64 t1729)) (fun _ hk => hk.2) (.string t1730)) (fun _ h_ => h_.1))) (by decide)) hk (fun _ h => h.2)) (fun _ h => h.1)); have n2_ := Aside0.mk (KeepBut.blk hk (g' := gb1733) (o := .cells #[.slice Ao67 t1725.length co67, .int .i64 t1728, .int .i64 t1729, .string t1730] 44 (0, 0)) (by (with_reducible repeat (first | refine kn_ ?_ _ | refine kd_ ?_ | refine ka_ ?_ _)); refine blk_put (cs := #[.slice Ao67 t1725.length co67, .int .i64 t1728, .int .i64 t1729, .string (⟨#[]⟩ : ByteArray)]) ?_ 3 _ rfl; (with_reducible repeat (first | refine kn_ ?_ _ | refine kd_ ?_ | refine ka_ ?_ _)); refine blk_put (cs := #[.slice Ao67 t1725.length co67, .int .i64 t1728, .int .i64 0, .string (⟨#[]⟩ : ByteArray)]) ?_ 2 _ rfl; (with_reducible repeat (first | refine kn_ ?_ _ | refine kd_ ?_ | refine ka_ ?_ _)); refine blk_put (cs := #[.slice Ao67 t1725.length co67, .int .i64 0, .int .i64 0, .string (⟨#[]⟩ : ByteArray)]) ?_ 1 _ rfl; (with_reducible repeat (first | refine kn_ ?_ _ | refine kd_ ?_ | refine ka_ ?_ _)); refine blk_put (cs := #[.slice none 0 0, .int .i64 0, .int .i64 0, .string (⟨#[]⟩ : ByteArray)]) ?_ 0 _ rfl; (with_reducible repeat (first | refine kn_ ?_ _ | refine kd_ ?_ | refine ka_ ?_ _)); exact BK1733.out) NB1733_0.out (by simp)); have n3_ := Aside0.mk (KeepBut.trans (by repeat (first | (with_reducible first | exact HK.out | apply KeepBut.set_ | apply keep_drewN | apply keep_drew | apply keep_alloc | refine keep_far ?_ GW1724.out _ | refine keep_far ?_ GW1733.out _) | exact HK.out)) hk (.inl rfl)); have n4_ := Aside0.mk (hb); have n5_ := Aside0.mk (hi); clear BK1724; clear HO1727; clear BK1733; clear HK; clear HB; clear HI0; have BK1724 := n0_; have HO1727 := n1_; have BK1733 := n2_; have HK := n3_; have HB := n4_; have HI0 := n5_; clear n0_ n1_ n2_ n3_ n4_ n5_; (try clear hb); (try clear hb2); (try clear hk); (try clear hi); have hcz72_0 : w71.cell? ⟨gb1733, 0, none⟩ = some (.slice Ao67 t1725.length co67) := (blk_cell BK1733.out 0).trans rfl; have hcz72_1 : w71.cell? ⟨gb1733, 1, none⟩ = some (.int .i64 t1728) := (blk_cell BK1733.out 1).trans rfl; have hcz72_2 : w71.cell? ⟨gb1733, 2, none⟩ = some (.int .i64 t1729) := (blk_cell BK1733.out 2).trans rfl; have hcz72_3 : w71.cell? ⟨gb1733, 3, none⟩ = some (.string t1730) := (blk_cell BK1733.out 3).trans rfl; have hfz72_0 := blk_frozen BK1733.out 0; have hfz72_1 := blk_frozen BK1733.out 1; have hfz72_2 := blk_frozen BK1733.out 2; have hfz72_3 := blk_frozen BK1733.out 3; have hnb73 := NB1724_0.out; have hnc73 := NB0_1724.out; have hcz74_0 : w71.cell? ⟨gb1724, 0, none⟩ = some (.slice none 0 0) := (blk_cell BK1724.out 0).trans rfl; have hcz74_1 : w71.cell? ⟨gb1724, 1, none⟩ = some (.int .i64 0) := (blk_cell BK1724.out 1).trans rfl; have hcz74_2 : w71.cell? ⟨gb1724, 2, none⟩ = some (.int .i64 0) := (blk_cell BK1724.out 2).trans rfl; have hcz74_3 : w71.cell? ⟨gb1724, 3, none⟩ = some (.string (⟨#[]⟩ : ByteArray)) := (blk_cell BK1724.out 3).trans rfl; have hfz74_0 := blk_frozen BK1724.out 0; have hfz74_1 := blk_frozen BK1724.out 1; have hfz74_2 := blk_frozen BK1724.out 2; have hfz74_3 := blk_frozen BK1724.out 3))
 refine bodyPost_ret (results_cell_row rfl _ _ gb1724 44 #[.slice Ao67 t1725.length co67, .int .i64 t1728, .int .i64 t1729, .string t1730] (0, 0) _ rfl (by (with_reducible repeat (first | refine kn_ ?_ _ | refine kd_ ?_ | refine ka_ ?_ _)); refine blk_put (cs := #[.slice Ao67 t1725.length co67, .int .i64 t1728, .int .i64 t1729, .string (⟨#[]⟩ : ByteArray)]) ?_ 3 _ rfl; (with_reducible repeat (first | refine kn_ ?_ _ | refine kd_ ?_ | refine ka_ ?_ _)); refine blk_put (cs := #[.slice Ao67 t1725.length co67, .int .i64 t1728, .int .i64 0, .string (⟨#[]⟩ : ByteArray)]) ?_ 2 _ rfl; (with_reducible repeat (first | refine kn_ ?_ _ | refine kd_ ?_ | refine ka_ ?_ _)); refine blk_put (cs := #[.slice Ao67 t1725.length co67, .int .i64 0, .int .i64 0, .string (⟨#[]⟩ : ByteArray)]) ?_ 1 _ rfl; (with_reducible repeat (first | refine kn_ ?_ _ | refine kd_ ?_ | refine ka_ ?_ _)); refine blk_put (cs := #[.slice none 0 0, .int .i64 0, .int .i64 0, .string (⟨#[]⟩ : ByteArray)]) ?_ 0 _ rfl; (with_reducible repeat (first | refine kn_ ?_ _ | refine kd_ ?_ | refine ka_ ?_ _)); exact BK1724.out) Try.underlying44 rfl (by kernel_rfl)) rfl ?_
 exact ⟨_, by first | rfl | (simp [errW_none, errW_some] <;> rfl) | (simp [*, errW_none, errW_some] <;> rfl), by (with_reducible repeat (first | apply Kd.R_alloc | apply Kd.R_drewN | apply Kd.R_drew)); exact Kd.R_mono (Kd.R_far (p := ⟨gb1724, 3, none⟩) (Kd.R_far (p := ⟨gb1724, 2, none⟩) (Kd.R_far (p := ⟨gb1724, 1, none⟩) (Kd.R_far (p := ⟨gb1724, 0, none⟩) (Kd.R_types HO1727.out BK1724.out (by decide)) (fun _ hk => hk.2) (.slice Ao67 t1725.length co67)) (fun _ hk => hk.2) (.int .i64 t1728)) (fun _ hk => hk.2) (.int .i64 t1729)) (fun _ hk => hk.2) (.string t1730)) (fun _ hk => trivial), by repeat (first | (with_reducible first | exact HI0.out | apply IsS173.alloc | apply IsS173.drewN | apply IsS173.drew | apply IsS173.set_1 | apply IsS173.set_2 | refine IsS173.far ?_ NB0_1724.out _ | refine IsS173.far ?_ NB0_1733.out _) | exact HI0.out), by repeat (first | (with_reducible first | exact HB.out | apply ba_ | apply bn_ | apply bd_ | refine below_set ?_ (IsS173.ge HI0.out) | refine below_set ?_ GE1724.out | refine below_set ?_ GE1733.out) | exact HB.out), by repeat (first | (with_reducible first | exact HK.out | apply KeepBut.set_ | apply keep_drewN | apply keep_drew | apply keep_alloc | refine keep_far ?_ GW1724.out _ | refine keep_far ?_ GW1733.out _) | exact HK.out)⟩
def spec_l9Any.f (k : Nat) (s0_0 : List Int) (s0_1 : Int) (s0_2 : Int) : Option ((List (S44)) × Bool × Int × Int) := (spec_l9Draw.f k s0_0 s0_1 s0_2).bind fun bt1755 => ((spec_l1Below.f s0_0 bt1755.2.2.1 bt1755.2.2.2 10).bind fun bt1762 => (if bt1762.1 = 0 then (some (bt1755.1, !bt1755.2.1, bt1762.2.1, bt1762.2.2)) else (if bt1762.1 = 1 then ((spec_l4Any.f k s0_0 bt1762.2.1 bt1762.2.2).bind fun bt1765 => (if bt1755.1.length < 2513169434916 then (some ((bt1755.1 ++ [(⟨bt1765.1, bt1765.2.1, bt1765.2.2.1, bt1765.2.2.2.1⟩ : S44)]), bt1755.2.1, bt1765.2.2.2.2.1, bt1765.2.2.2.2.2)) else (none))) else (some (bt1755.1, bt1755.2.1, bt1762.2.1, bt1762.2.2)))))
theorem spec_l9Any.mono : ∀ a0 a1 a2 k, LeO (spec_l9Any.f k a0 a1 a2) (spec_l9Any.f (k + 1) a0 a1 a2) := by
 intro a0 a1 a2 k
 unfold spec_l9Any.f
 repeat' first
   | (with_reducible exact spec_l4Any.mono _ _ _ _)
   | (with_reducible exact spec_l9Draw.mono _ _ _ _)
   | (with_reducible exact LeO.refl _)
   | (with_reducible exact LeO.none _)
   | (with_reducible refine LeO.ite ?_ ?_)
   | (with_reducible refine LeO.bind ?_ (fun _ => ?_))
   | exact spec_l4Any.mono _ _ _ _
   | exact spec_l9Draw.mono _ _ _ _
def spec_l9Any.T6 : Bool × List (List Nat × List Nat) := (true, [([], []), ([0], [0]), ([], []), ([2], [2]), ([3], [3]), ([1, 4, 3], [1, 4]), ([0, 1, 2, 3, 4, 5], []), ([6, 5, 5, 0, 1, 2, 3, 4, 5], [5, 6])])
def spec_l9Any.B6 : List Nat := [0, 1, 0, 4, 12, 31, 63, 127]
theorem spec_l9Any.tab6 : rtab .any (opsOf Try.f133 6) = spec_l9Any.T6 := by kernel_rfl
theorem spec_l9Any.bits6 : waitsOk spec_l9Any.T6.2 spec_l9Any.B6 = true := by kernel_rfl
theorem spec_l9Any.calls (k : Nat) (g : Nat) (s0_0 : List Int) (s0_1 : Int) (s0_2 : Int) (r1 : List (S44)) (r2 : Bool) (r3 : Int) (r4 : Int) (w0 w : World) (hI : IsS173 w0 w g s0_0 s0_1 s0_2) (hB : Below w0.heap.size w0 w) (h : spec_l9Any.f k s0_0 s0_1 s0_2 = some (r1, r2, r3, r4)) :
  Calls Try.prog 133 #[.pointer (some ⟨g, 0, none⟩)] w fun e w' => ∃ v0_ : Value, e = .returned (.agg #[v0_, .bool r2]) ∧ Kd.S k44 44 w' w.heap.size (fun _ => True) v0_ r1 ∧ IsS173 w0 w' g s0_0 r3 r4 ∧ Below w0.heap.size w0 w' ∧ KeepBut w w' g none := by
 have hu39 := Try.underlying39
 have HI0 := Aside0.mk hI
 have HK := Aside0.mk (KeepBut.refl w g none)
 have HL := Aside0.mk hB.size
 clear hI
 have HW0 := Aside0.mk hB.size
 have HB := Aside0.mk hB
 clear hB
 have H : ((spec_l9Draw.f k s0_0 s0_1 s0_2).bind fun bt1755 => ((spec_l1Below.f s0_0 bt1755.2.2.1 bt1755.2.2.2 10).bind fun bt1762 => (if bt1762.1 = 0 then (some (bt1755.1, !bt1755.2.1, bt1762.2.1, bt1762.2.2)) else (if bt1762.1 = 1 then ((spec_l4Any.f k s0_0 bt1762.2.1 bt1762.2.2).bind fun bt1765 => (if bt1755.1.length < 2513169434916 then (some ((bt1755.1 ++ [(⟨bt1765.1, bt1765.2.1, bt1765.2.2.1, bt1765.2.2.2.1⟩ : S44)]), bt1755.2.1, bt1765.2.2.2.2.1, bt1765.2.2.2.2.2)) else (none))) else (some (bt1755.1, bt1755.2.1, bt1762.2.1, bt1762.2.2)))))) = some (r1, r2, r3, r4) := h
 clear h
 replace H := Option.bind_eq_some_iff.mp H
 obtain ⟨⟨t1755, t1758, t1759, t1760⟩, A20, H⟩ := H
 have A2 := Aside0.mk A20
 clear A20
 replace H := Option.bind_eq_some_iff.mp H
 obtain ⟨⟨t1762, t1763, t1764⟩, A30, H⟩ := H
 have A3 := Aside0.mk A30
 clear A30
 by_cases c4 : t1762 = 0
 ·
  rw [if_pos c4] at H
  have c4b0 : (t1762 == 0) = true := beq_iff_eq.mpr c4
  have c4b1 : (t1762 != 0) = false := bne_eq_false_iff_eq.mpr c4
  clear c4
  simp only [Option.some.injEq, Prod.mk.injEq] at H
  obtain ⟨rfl, rfl, rfl, rfl⟩ := H
  go_enter Try.func133, Try.ntmps133
  go_wp2_with (first | ((with_reducible refine gate_dst (N := 2) rfl ?_); refine box_event ?hg (N := 2) ?hd (cs := #[.slice none 0 0, .bool false]) (t := 39) ?hr ?_; (case hd => rfl); (case hg => rfl); (case hr => first | (go_simp; done) | (go_simp; rfl)); intro gb1754 hg w5 hbox hb; have n0_ := Aside0.mk (IsS173.below (by repeat (first | (with_reducible first | exact HI0.out | apply IsS173.alloc | apply IsS173.drewN | apply IsS173.drew | apply IsS173.set_1 | apply IsS173.set_2) | exact HI0.out)) hb); have n1_ := Aside0.mk (KeepBut.trans (by repeat (first | (with_reducible first | exact HK.out | apply KeepBut.set_ | apply keep_drewN | apply keep_drew | apply keep_alloc) | exact HK.out)) (KeepBut.of_below hb g none) (.inl rfl)); have n2_ := Aside0.mk (below_step (by repeat (first | (with_reducible first | exact HB.out | apply ba_ | apply bn_ | apply bd_ | refine below_set ?_ (IsS173.ge HI0.out)) | exact HB.out)) hb); have n3_ := Aside0.mk (hbox); have n4_ := Aside0.mk ((by rw [hg]; exact (keep_size (w := w) (g := g) (row := none) (by repeat (first | (with_reducible first | exact HK.out | apply KeepBut.set_ | apply keep_drewN | apply keep_drew | apply keep_alloc) | exact HK.out))) : w.heap.size ≤ gb1754)); have n5_ := Aside0.mk ((Nat.le_trans HW0.out (by rw [hg]; exact (keep_size (w := w) (g := g) (row := none) (by repeat (first | (with_reducible first | exact HK.out | apply KeepBut.set_ | apply keep_drewN | apply keep_drew | apply keep_alloc) | exact HK.out))) : w.heap.size ≤ gb1754) : w0.heap.size ≤ gb1754)); have n6_ := Aside0.mk ((by rw [hg]; exact Nat.ne_of_lt (IsS173.lt (show IsS173 w0 _ g s0_0 s0_1 s0_2 from by repeat (first | (with_reducible first | exact HI0.out | apply IsS173.alloc | apply IsS173.drewN | apply IsS173.drew | apply IsS173.set_1 | apply IsS173.set_2) | exact HI0.out))) : g ≠ gb1754)); have n7_ := Aside0.mk ((by rw [hg]; exact Nat.ne_of_gt (IsS173.lt (show IsS173 w0 _ g s0_0 s0_1 s0_2 from by repeat (first | (with_reducible first | exact HI0.out | apply IsS173.alloc | apply IsS173.drewN | apply IsS173.drew | apply IsS173.set_1 | apply IsS173.set_2) | exact HI0.out))) : gb1754 ≠ g)); clear HI0; clear HK; clear HB; have HI0 := n0_; have HK := n1_; have HB := n2_; have BK1754 := n3_; have GW1754 := n4_; have GE1754 := n5_; have NB0_1754 := n6_; have NB1754_0 := n7_; clear n0_ n1_ n2_ n3_ n4_ n5_ n6_ n7_; clear hb hbox hg) | ((with_reducible refine gate_callee (f := 158) rfl ?_); refine goesL_ (some 5) rfl rfl Try.func158 (by kernel_rfl) rfl #[.pointer (some ⟨g, 0, none⟩)] rfl (by (try simp only [mp_]); first | done | rfl | (simp only [List.length_drop, List.length_take]; rfl)) ?_; (with_reducible refine (spec_l9Draw.calls k g s0_0 s0_1 s0_2 t1755 t1758 t1759 t1760 w0 _ ?side1 ?side2 A2.out).mono ?_); (case side1 => repeat (first | (with_reducible first | exact HI0.out | apply IsS173.alloc | apply IsS173.drewN | apply IsS173.drew | apply IsS173.set_1 | apply IsS173.set_2 | refine IsS173.far ?_ NB0_1754.out _) | exact HI0.out)); (case side2 => repeat (first | (with_reducible first | exact HB.out | apply ba_ | apply bn_ | apply bd_ | refine below_set ?_ (IsS173.ge HI0.out) | refine below_set ?_ GE1754.out) | exact HB.out)); rintro e w6 ⟨v1756, rfl, ho0, hi, hb, hk⟩; refine ⟨_, rfl, ?_⟩; have n0_ := Aside0.mk (KeepBut.blk hk (g' := gb1754) (o := .cells #[.slice none 0 0, .bool false] 39 (0, 0)) (pb_ BK1754.out) NB1754_0.out (by simp)); have n1_ := Aside0.mk (Kd.S_lower ho0 (keep_size (w := w) (g := g) (row := none) (by repeat (first | (with_reducible first | exact HK.out | apply KeepBut.set_ | apply keep_drewN | apply keep_drew | apply keep_alloc | refine keep_far ?_ GW1754.out _) | exact HK.out)))); have n2_ := Aside0.mk (KeepBut.trans (by repeat (first | (with_reducible first | exact HK.out | apply KeepBut.set_ | apply keep_drewN | apply keep_drew | apply keep_alloc | refine keep_far ?_ GW1754.out _) | exact HK.out)) hk (.inl rfl)); have n3_ := Aside0.mk (hb); have n4_ := Aside0.mk (hi); clear BK1754; clear HK; clear HB; clear HI0; have BK1754 := n0_; have HO1757 := n1_; have HK := n2_; have HB := n3_; have HI0 := n4_; clear n0_ n1_ n2_ n3_ n4_; (try clear hb); (try clear hb2); (try clear hk); (try clear hi); (try clear ho0)) | ((with_reducible refine gate_dst (N := 3) rfl ?_); refine box_event ?hg (N := 3) ?hd (cs := #[.slice none 0 0, .bool false]) (t := 39) ?hr ?_; (case hd => rfl); (case hg => rfl); (case hr => first | (go_simp; done) | (go_simp; rfl)); intro gb1761 hg w7 hbox hb; have n0_ := Aside0.mk (Kd.S_below (sp_ HO1757.out) hb); have n1_ := Aside0.mk (IsS173.below (by repeat (first | (with_reducible first | exact HI0.out | apply IsS173.alloc | apply IsS173.drewN | apply IsS173.drew | apply IsS173.set_1 | apply IsS173.set_2 | refine IsS173.far ?_ NB0_1754.out _) | exact HI0.out)) hb); have n2_ := Aside0.mk (bb_ BK1754.out hb); have n3_ := Aside0.mk (KeepBut.trans (by repeat (first | (with_reducible first | exact HK.out | apply KeepBut.set_ | apply keep_drewN | apply keep_drew | apply keep_alloc | refine keep_far ?_ GW1754.out _) | exact HK.out)) (KeepBut.of_below hb g none) (.inl rfl)); have n4_ := Aside0.mk (below_step (by repeat (first | (with_reducible first | exact HB.out | apply ba_ | apply bn_ | apply bd_ | refine below_set ?_ (IsS173.ge HI0.out) | refine below_set ?_ GE1754.out) | exact HB.out)) hb); have n5_ := Aside0.mk (hbox); have n6_ := Aside0.mk ((by rw [hg]; exact (keep_size (w := w) (g := g) (row := none) (by repeat (first | (with_reducible first | exact HK.out | apply KeepBut.set_ | apply keep_drewN | apply keep_drew | apply keep_alloc | refine keep_far ?_ GW1754.out _) | exact HK.out))) : w.heap.size ≤ gb1761)); have n7_ := Aside0.mk ((Nat.le_trans HW0.out (by rw [hg]; exact (keep_size (w := w) (g := g) (row := none) (by repeat (first | (with_reducible first | exact HK.out | apply KeepBut.set_ | apply keep_drewN | apply keep_drew | apply keep_alloc | refine keep_far ?_ GW1754.out _) | exact HK.out))) : w.heap.size ≤ gb1761) : w0.heap.size ≤ gb1761)); have n8_ := Aside0.mk (nl_ BK1754.out hg); have n9_ := Aside0.mk (ng_ BK1754.out hg); have n10_ := Aside0.mk ((by rw [hg]; exact Nat.ne_of_lt (IsS173.lt (show IsS173 w0 _ g s0_0 t1759 t1760 from by repeat (first | (with_reducible first | exact HI0.out | apply IsS173.alloc | apply IsS173.drewN | apply IsS173.drew | apply IsS173.set_1 | apply IsS173.set_2 | refine IsS173.far ?_ NB0_1754.out _) | exact HI0.out))) : g ≠ gb1761)); have n11_ := Aside0.mk ((by rw [hg]; exact Nat.ne_of_gt (IsS173.lt (show IsS173 w0 _ g s0_0 t1759 t1760 from by repeat (first | (with_reducible first | exact HI0.out | apply IsS173.alloc | apply IsS173.drewN | apply IsS173.drew | apply IsS173.set_1 | apply IsS173.set_2 | refine IsS173.far ?_ NB0_1754.out _) | exact HI0.out))) : gb1761 ≠ g)); clear HO1757; clear HI0; clear BK1754; clear HK; clear HB; have HO1757 := n0_; have HI0 := n1_; have BK1754 := n2_; have HK := n3_; have HB := n4_; have BK1761 := n5_; have GW1761 := n6_; have GE1761 := n7_; have NB1754_1761 := n8_; have NB1761_1754 := n9_; have NB0_1761 := n10_; have NB1761_0 := n11_; clear n0_ n1_ n2_ n3_ n4_ n5_ n6_ n7_ n8_ n9_ n10_ n11_; clear hb hbox hg; obtain ⟨Ao8, co8, eo8⟩ := Kd.S_slice HO1757.out; subst eo8; have hnb9 := NB1761_1754.out; have hnc9 := NB1754_1761.out; have hnb10 := NB1761_0.out; have hnc10 := NB0_1761.out; have hcz11_0 : w7.cell? ⟨gb1761, 0, none⟩ = some (.slice none 0 0) := (blk_cell BK1761.out 0).trans rfl; have hcz11_1 : w7.cell? ⟨gb1761, 1, none⟩ = some (.bool false) := (blk_cell BK1761.out 1).trans rfl; have hfz11_0 := blk_frozen BK1761.out 0; have hfz11_1 := blk_frozen BK1761.out 1) | ((with_reducible refine gate_callee (f := 137) rfl ?_); refine goesL_ (some 7) rfl rfl Try.func137 (by kernel_rfl) rfl #[.pointer (some ⟨g, 0, none⟩), .int .i64 10] rfl (by (try simp only [mp_]); first | done | rfl | (simp only [List.length_drop, List.length_take]; rfl)) ?_; (with_reducible refine (spec_l1Below.calls g s0_0 t1759 t1760 10 t1762 t1763 t1764 w0 _ ?side1 ?side2 A3.out).mono ?_); (case side1 => repeat (first | (with_reducible first | exact HI0.out | apply IsS173.alloc | apply IsS173.drewN | apply IsS173.drew | apply IsS173.set_1 | apply IsS173.set_2 | refine IsS173.far ?_ NB0_1754.out _ | refine IsS173.far ?_ NB0_1761.out _) | exact HI0.out)); (case side2 => repeat (first | (with_reducible first | exact HB.out | apply ba_ | apply bn_ | apply bd_ | refine below_set ?_ (IsS173.ge HI0.out) | refine below_set ?_ GE1754.out | refine below_set ?_ GE1761.out) | exact HB.out)); rintro e w12 ⟨rfl, hi, hb, hk⟩; refine ⟨_, rfl, ?_⟩; have n0_ := Aside0.mk (KeepBut.blk hk (g' := gb1754) (o := .cells #[.slice none 0 0, .bool false] 39 (0, 0)) (by (with_reducible repeat (first | refine kn_ ?_ _ | refine kd_ ?_ | refine ka_ ?_ _)); refine blk_far ?_ NB1754_1761.out _; (with_reducible repeat (first | refine kn_ ?_ _ | refine kd_ ?_ | refine ka_ ?_ _)); refine blk_far ?_ NB1754_1761.out _; (with_reducible repeat (first | refine kn_ ?_ _ | refine kd_ ?_ | refine ka_ ?_ _)); exact BK1754.out) NB1754_0.out (by simp)); have n1_ := Aside0.mk (Kd.S_mono (Kd.S_keep (IsS173.apartS (show IsS173 w0 _ g s0_0 t1759 t1760 from by repeat (first | (with_reducible first | exact HI0.out | apply IsS173.alloc | apply IsS173.drewN | apply IsS173.drew | apply IsS173.set_1 | apply IsS173.set_2 | refine IsS173.far ?_ NB0_1754.out _ | refine IsS173.far ?_ NB0_1761.out _) | exact HI0.out)) (by (with_reducible repeat (first | apply Kd.S_alloc | apply Kd.S_drewN | apply Kd.S_drew)); exact (Kd.S_mono (Kd.S_far (p := ⟨gb1761, 1, none⟩) (Kd.S_far (p := ⟨gb1761, 0, none⟩) (Kd.S_types HO1757.out BK1761.out (by decide)) (fun _ hk => hk.2) (.slice Ao8 t1755.length co8)) (fun _ hk => hk.2) (.bool t1758)) (fun _ h_ => h_.1))) (by decide)) hk (fun _ h => h.2)) (fun _ h => h.1)); have n2_ := Aside0.mk (KeepBut.blk hk (g' := gb1761) (o := .cells #[.slice Ao8 t1755.length co8, .bool t1758] 39 (0, 0)) (by (with_reducible repeat (first | refine kn_ ?_ _ | refine kd_ ?_ | refine ka_ ?_ _)); refine blk_put (cs := #[.slice Ao8 t1755.length co8, .bool false]) ?_ 1 _ rfl; (with_reducible repeat (first | refine kn_ ?_ _ | refine kd_ ?_ | refine ka_ ?_ _)); refine blk_put (cs := #[.slice none 0 0, .bool false]) ?_ 0 _ rfl; (with_reducible repeat (first | refine kn_ ?_ _ | refine kd_ ?_ | refine ka_ ?_ _)); exact BK1761.out) NB1761_0.out (by simp)); have n3_ := Aside0.mk (KeepBut.trans (by repeat (first | (with_reducible first | exact HK.out | apply KeepBut.set_ | apply keep_drewN | apply keep_drew | apply keep_alloc | refine keep_far ?_ GW1754.out _ | refine keep_far ?_ GW1761.out _) | exact HK.out)) hk (.inl rfl)); have n4_ := Aside0.mk (hb); have n5_ := Aside0.mk (hi); clear BK1754; clear HO1757; clear BK1761; clear HK; clear HB; clear HI0; have BK1754 := n0_; have HO1757 := n1_; have BK1761 := n2_; have HK := n3_; have HB := n4_; have HI0 := n5_; clear n0_ n1_ n2_ n3_ n4_ n5_; (try clear hb); (try clear hb2); (try clear hk); (try clear hi); have hcz13_0 : w12.cell? ⟨gb1761, 0, none⟩ = some (.slice Ao8 t1755.length co8) := (blk_cell BK1761.out 0).trans rfl; have hcz13_1 : w12.cell? ⟨gb1761, 1, none⟩ = some (.bool t1758) := (blk_cell BK1761.out 1).trans rfl; have hfz13_0 := blk_frozen BK1761.out 0; have hfz13_1 := blk_frozen BK1761.out 1; have hnb14 := NB1754_0.out; have hnc14 := NB0_1754.out; have hcz15_0 : w12.cell? ⟨gb1754, 0, none⟩ = some (.slice none 0 0) := (blk_cell BK1754.out 0).trans rfl; have hcz15_1 : w12.cell? ⟨gb1754, 1, none⟩ = some (.bool false) := (blk_cell BK1754.out 1).trans rfl; have hfz15_0 := blk_frozen BK1754.out 0; have hfz15_1 := blk_frozen BK1754.out 1))
  refine bodyPost_ret (results_cell_row rfl _ _ gb1754 39 #[.slice Ao8 t1755.length co8, .bool (!t1758)] (0, 0) _ rfl (by (with_reducible repeat (first | refine kn_ ?_ _ | refine kd_ ?_ | refine ka_ ?_ _)); refine blk_put (cs := #[.slice Ao8 t1755.length co8, .bool false]) ?_ 1 _ rfl; (with_reducible repeat (first | refine kn_ ?_ _ | refine kd_ ?_ | refine ka_ ?_ _)); refine blk_put (cs := #[.slice none 0 0, .bool false]) ?_ 0 _ rfl; (with_reducible repeat (first | refine kn_ ?_ _ | refine kd_ ?_ | refine ka_ ?_ _)); refine blk_far ?_ NB1754_1761.out _; (with_reducible repeat (first | refine kn_ ?_ _ | refine kd_ ?_ | refine ka_ ?_ _)); exact BK1754.out) Try.underlying39 rfl (by kernel_rfl)) rfl ?_
  exact ⟨_, by first | rfl | (simp [errW_none, errW_some] <;> rfl) | (simp [*, errW_none, errW_some] <;> rfl), by (with_reducible repeat (first | apply Kd.S_alloc | apply Kd.S_drewN | apply Kd.S_drew)); exact Kd.S_mono (Kd.S_far (p := ⟨gb1754, 1, none⟩) (Kd.S_far (p := ⟨gb1754, 0, none⟩) (Kd.S_far (p := ⟨gb1761, 1, none⟩) (Kd.S_types (Kd.S_types HO1757.out BK1761.out (by decide)) BK1754.out (by decide)) (fun _ hk => hk.1.2) (.bool (!t1758))) (fun _ hk => hk.2) (.slice Ao8 t1755.length co8)) (fun _ hk => hk.2) (.bool (!t1758))) (fun _ hk => trivial), by repeat (first | (with_reducible first | exact HI0.out | apply IsS173.alloc | apply IsS173.drewN | apply IsS173.drew | apply IsS173.set_1 | apply IsS173.set_2 | refine IsS173.far ?_ NB0_1754.out _ | refine IsS173.far ?_ NB0_1761.out _) | exact HI0.out), by repeat (first | (with_reducible first | exact HB.out | apply ba_ | apply bn_ | apply bd_ | refine below_set ?_ (IsS173.ge HI0.out) | refine below_set ?_ GE1754.out | refine below_set ?_ GE1761.out) | exact HB.out), by repeat (first | (with_reducible first | exact HK.out | apply KeepBut.set_ | apply keep_drewN | apply keep_drew | apply keep_alloc | refine keep_far ?_ GW1754.out _ | refine keep_far ?_ GW1761.out _) | exact HK.out)⟩
 rw [if_neg c4] at H
 have c4b0 : (t1762 == 0) = false := beq_eq_false_iff_ne.mpr c4
 have c4b1 : (t1762 != 0) = true := bne_iff_ne.mpr c4
 by_cases c16 : t1762 = 1
 ·
  rw [if_pos c16] at H
  have c16b0 : (t1762 == 1) = true := beq_iff_eq.mpr c16
  have c16b1 : (t1762 != 1) = false := bne_eq_false_iff_eq.mpr c16
  clear c16
  replace H := Option.bind_eq_some_iff.mp H
  obtain ⟨⟨t1765, t1768, t1769, t1770, t1771, t1772⟩, A170, H⟩ := H
  have A17 := Aside0.mk A170
  clear A170
  by_cases c18 : t1755.length < 2513169434916
  ·
   rw [if_pos c18] at H
   have LMc18 := Aside0.mk c18
   clear c18
   obtain ⟨y1773, hy1773⟩ : ∃ y_ : List (S44), y_ = (t1755 ++ [(⟨t1765, t1768, t1769, t1770⟩ : S44)]) := ⟨_, rfl⟩
   replace H : (some (y1773, t1758, t1771, t1772)) = some (r1, r2, r3, r4) := by first | (rw [hy1773]; with_reducible exact H) | (have H2_ := (Option.bind_some _ _).symm.trans H; rw [hy1773]; with_reducible exact H2_) | (have H2_ := (Option.bind_some _ _).symm.trans H; with_reducible exact H2_) | with_reducible exact H | (rw [hy1773]; exact H) | exact H
   have Ny1773 := Aside0.mk hy1773
   clear hy1773
   simp only [Option.some.injEq, Prod.mk.injEq] at H
   obtain ⟨rfl, rfl, rfl, rfl⟩ := H
   go_enter Try.func133, Try.ntmps133
   try go_wp2_with (first | ((with_reducible refine gate_dst (N := 2) rfl ?_); refine box_event ?hg (N := 2) ?hd (cs := #[.slice none 0 0, .bool false]) (t := 39) ?hr ?_; (case hd => rfl); (case hg => rfl); (case hr => first | (go_simp; done) | (go_simp; rfl)); intro gb1754 hg w19 hbox hb; have n0_ := Aside0.mk (IsS173.below (by repeat (first | (with_reducible first | exact HI0.out | apply IsS173.alloc | apply IsS173.drewN | apply IsS173.drew | apply IsS173.set_1 | apply IsS173.set_2) | exact HI0.out)) hb); have n1_ := Aside0.mk (KeepBut.trans (by repeat (first | (with_reducible first | exact HK.out | apply KeepBut.set_ | apply keep_drewN | apply keep_drew | apply keep_alloc) | exact HK.out)) (KeepBut.of_below hb g none) (.inl rfl)); have n2_ := Aside0.mk (below_step (by repeat (first | (with_reducible first | exact HB.out | apply ba_ | apply bn_ | apply bd_ | refine below_set ?_ (IsS173.ge HI0.out)) | exact HB.out)) hb); have n3_ := Aside0.mk (hbox); have n4_ := Aside0.mk ((by rw [hg]; exact (keep_size (w := w) (g := g) (row := none) (by repeat (first | (with_reducible first | exact HK.out | apply KeepBut.set_ | apply keep_drewN | apply keep_drew | apply keep_alloc) | exact HK.out))) : w.heap.size ≤ gb1754)); have n5_ := Aside0.mk ((Nat.le_trans HW0.out (by rw [hg]; exact (keep_size (w := w) (g := g) (row := none) (by repeat (first | (with_reducible first | exact HK.out | apply KeepBut.set_ | apply keep_drewN | apply keep_drew | apply keep_alloc) | exact HK.out))) : w.heap.size ≤ gb1754) : w0.heap.size ≤ gb1754)); have n6_ := Aside0.mk ((by rw [hg]; exact Nat.ne_of_lt (IsS173.lt (show IsS173 w0 _ g s0_0 s0_1 s0_2 from by repeat (first | (with_reducible first | exact HI0.out | apply IsS173.alloc | apply IsS173.drewN | apply IsS173.drew | apply IsS173.set_1 | apply IsS173.set_2) | exact HI0.out))) : g ≠ gb1754)); have n7_ := Aside0.mk ((by rw [hg]; exact Nat.ne_of_gt (IsS173.lt (show IsS173 w0 _ g s0_0 s0_1 s0_2 from by repeat (first | (with_reducible first | exact HI0.out | apply IsS173.alloc | apply IsS173.drewN | apply IsS173.drew | apply IsS173.set_1 | apply IsS173.set_2) | exact HI0.out))) : gb1754 ≠ g)); clear HI0; clear HK; clear HB; have HI0 := n0_; have HK := n1_; have HB := n2_; have BK1754 := n3_; have GW1754 := n4_; have GE1754 := n5_; have NB0_1754 := n6_; have NB1754_0 := n7_; clear n0_ n1_ n2_ n3_ n4_ n5_ n6_ n7_; clear hb hbox hg) | ((with_reducible refine gate_callee (f := 158) rfl ?_); refine goesL_ (some 5) rfl rfl Try.func158 (by kernel_rfl) rfl #[.pointer (some ⟨g, 0, none⟩)] rfl (by (try simp only [mp_]); first | done | rfl | (simp only [List.length_drop, List.length_take]; rfl)) ?_; (with_reducible refine (spec_l9Draw.calls k g s0_0 s0_1 s0_2 t1755 t1758 t1759 t1760 w0 _ ?side1 ?side2 A2.out).mono ?_); (case side1 => repeat (first | (with_reducible first | exact HI0.out | apply IsS173.alloc | apply IsS173.drewN | apply IsS173.drew | apply IsS173.set_1 | apply IsS173.set_2 | refine IsS173.far ?_ NB0_1754.out _) | exact HI0.out)); (case side2 => repeat (first | (with_reducible first | exact HB.out | apply ba_ | apply bn_ | apply bd_ | refine below_set ?_ (IsS173.ge HI0.out) | refine below_set ?_ GE1754.out) | exact HB.out)); rintro e w20 ⟨v1756, rfl, ho0, hi, hb, hk⟩; refine ⟨_, rfl, ?_⟩; have n0_ := Aside0.mk (KeepBut.blk hk (g' := gb1754) (o := .cells #[.slice none 0 0, .bool false] 39 (0, 0)) (pb_ BK1754.out) NB1754_0.out (by simp)); have n1_ := Aside0.mk (Kd.S_lower ho0 (keep_size (w := w) (g := g) (row := none) (by repeat (first | (with_reducible first | exact HK.out | apply KeepBut.set_ | apply keep_drewN | apply keep_drew | apply keep_alloc | refine keep_far ?_ GW1754.out _) | exact HK.out)))); have n2_ := Aside0.mk (KeepBut.trans (by repeat (first | (with_reducible first | exact HK.out | apply KeepBut.set_ | apply keep_drewN | apply keep_drew | apply keep_alloc | refine keep_far ?_ GW1754.out _) | exact HK.out)) hk (.inl rfl)); have n3_ := Aside0.mk (hb); have n4_ := Aside0.mk (hi); clear BK1754; clear HK; clear HB; clear HI0; have BK1754 := n0_; have HO1757 := n1_; have HK := n2_; have HB := n3_; have HI0 := n4_; clear n0_ n1_ n2_ n3_ n4_; (try clear hb); (try clear hb2); (try clear hk); (try clear hi); (try clear ho0)) | ((with_reducible refine gate_dst (N := 3) rfl ?_); refine box_event ?hg (N := 3) ?hd (cs := #[.slice none 0 0, .bool false]) (t := 39) ?hr ?_; (case hd => rfl); (case hg => rfl); (case hr => first | (go_simp; done) | (go_simp; rfl)); intro gb1761 hg w21 hbox hb; have n0_ := Aside0.mk (Kd.S_below (sp_ HO1757.out) hb); have n1_ := Aside0.mk (IsS173.below (by repeat (first | (with_reducible first | exact HI0.out | apply IsS173.alloc | apply IsS173.drewN | apply IsS173.drew | apply IsS173.set_1 | apply IsS173.set_2 | refine IsS173.far ?_ NB0_1754.out _) | exact HI0.out)) hb); have n2_ := Aside0.mk (bb_ BK1754.out hb); have n3_ := Aside0.mk (KeepBut.trans (by repeat (first | (with_reducible first | exact HK.out | apply KeepBut.set_ | apply keep_drewN | apply keep_drew | apply keep_alloc | refine keep_far ?_ GW1754.out _) | exact HK.out)) (KeepBut.of_below hb g none) (.inl rfl)); have n4_ := Aside0.mk (below_step (by repeat (first | (with_reducible first | exact HB.out | apply ba_ | apply bn_ | apply bd_ | refine below_set ?_ (IsS173.ge HI0.out) | refine below_set ?_ GE1754.out) | exact HB.out)) hb); have n5_ := Aside0.mk (hbox); have n6_ := Aside0.mk ((by rw [hg]; exact (keep_size (w := w) (g := g) (row := none) (by repeat (first | (with_reducible first | exact HK.out | apply KeepBut.set_ | apply keep_drewN | apply keep_drew | apply keep_alloc | refine keep_far ?_ GW1754.out _) | exact HK.out))) : w.heap.size ≤ gb1761)); have n7_ := Aside0.mk ((Nat.le_trans HW0.out (by rw [hg]; exact (keep_size (w := w) (g := g) (row := none) (by repeat (first | (with_reducible first | exact HK.out | apply KeepBut.set_ | apply keep_drewN | apply keep_drew | apply keep_alloc | refine keep_far ?_ GW1754.out _) | exact HK.out))) : w.heap.size ≤ gb1761) : w0.heap.size ≤ gb1761)); have n8_ := Aside0.mk (nl_ BK1754.out hg); have n9_ := Aside0.mk (ng_ BK1754.out hg); have n10_ := Aside0.mk ((by rw [hg]; exact Nat.ne_of_lt (IsS173.lt (show IsS173 w0 _ g s0_0 t1759 t1760 from by repeat (first | (with_reducible first | exact HI0.out | apply IsS173.alloc | apply IsS173.drewN | apply IsS173.drew | apply IsS173.set_1 | apply IsS173.set_2 | refine IsS173.far ?_ NB0_1754.out _) | exact HI0.out))) : g ≠ gb1761)); have n11_ := Aside0.mk ((by rw [hg]; exact Nat.ne_of_gt (IsS173.lt (show IsS173 w0 _ g s0_0 t1759 t1760 from by repeat (first | (with_reducible first | exact HI0.out | apply IsS173.alloc | apply IsS173.drewN | apply IsS173.drew | apply IsS173.set_1 | apply IsS173.set_2 | refine IsS173.far ?_ NB0_1754.out _) | exact HI0.out))) : gb1761 ≠ g)); clear HO1757; clear HI0; clear BK1754; clear HK; clear HB; have HO1757 := n0_; have HI0 := n1_; have BK1754 := n2_; have HK := n3_; have HB := n4_; have BK1761 := n5_; have GW1761 := n6_; have GE1761 := n7_; have NB1754_1761 := n8_; have NB1761_1754 := n9_; have NB0_1761 := n10_; have NB1761_0 := n11_; clear n0_ n1_ n2_ n3_ n4_ n5_ n6_ n7_ n8_ n9_ n10_ n11_; clear hb hbox hg; obtain ⟨Ao22, co22, eo22⟩ := Kd.S_slice HO1757.out; subst eo22; have hnb23 := NB1761_1754.out; have hnc23 := NB1754_1761.out; have hnb24 := NB1761_0.out; have hnc24 := NB0_1761.out; have hcz25_0 : w21.cell? ⟨gb1761, 0, none⟩ = some (.slice none 0 0) := (blk_cell BK1761.out 0).trans rfl; have hcz25_1 : w21.cell? ⟨gb1761, 1, none⟩ = some (.bool false) := (blk_cell BK1761.out 1).trans rfl; have hfz25_0 := blk_frozen BK1761.out 0; have hfz25_1 := blk_frozen BK1761.out 1) | ((with_reducible refine gate_callee (f := 137) rfl ?_); refine goesL_ (some 7) rfl rfl Try.func137 (by kernel_rfl) rfl #[.pointer (some ⟨g, 0, none⟩), .int .i64 10] rfl (by (try simp only [mp_]); first | done | rfl | (simp only [List.length_drop, List.length_take]; rfl)) ?_; (with_reducible refine (spec_l1Below.calls g s0_0 t1759 t1760 10 t1762 t1763 t1764 w0 _ ?side1 ?side2 A3.out).mono ?_); (case side1 => repeat (first | (with_reducible first | exact HI0.out | apply IsS173.alloc | apply IsS173.drewN | apply IsS173.drew | apply IsS173.set_1 | apply IsS173.set_2 | refine IsS173.far ?_ NB0_1754.out _ | refine IsS173.far ?_ NB0_1761.out _) | exact HI0.out)); (case side2 => repeat (first | (with_reducible first | exact HB.out | apply ba_ | apply bn_ | apply bd_ | refine below_set ?_ (IsS173.ge HI0.out) | refine below_set ?_ GE1754.out | refine below_set ?_ GE1761.out) | exact HB.out)); rintro e w26 ⟨rfl, hi, hb, hk⟩; refine ⟨_, rfl, ?_⟩; have n0_ := Aside0.mk (KeepBut.blk hk (g' := gb1754) (o := .cells #[.slice none 0 0, .bool false] 39 (0, 0)) (by (with_reducible repeat (first | refine kn_ ?_ _ | refine kd_ ?_ | refine ka_ ?_ _)); refine blk_far ?_ NB1754_1761.out _; (with_reducible repeat (first | refine kn_ ?_ _ | refine kd_ ?_ | refine ka_ ?_ _)); refine blk_far ?_ NB1754_1761.out _; (with_reducible repeat (first | refine kn_ ?_ _ | refine kd_ ?_ | refine ka_ ?_ _)); exact BK1754.out) NB1754_0.out (by simp)); have n1_ := Aside0.mk (Kd.S_mono (Kd.S_keep (IsS173.apartS (show IsS173 w0 _ g s0_0 t1759 t1760 from by repeat (first | (with_reducible first | exact HI0.out | apply IsS173.alloc | apply IsS173.drewN | apply IsS173.drew | apply IsS173.set_1 | apply IsS173.set_2 | refine IsS173.far ?_ NB0_1754.out _ | refine IsS173.far ?_ NB0_1761.out _) | exact HI0.out)) (by (with_reducible repeat (first | apply Kd.S_alloc | apply Kd.S_drewN | apply Kd.S_drew)); exact (Kd.S_mono (Kd.S_far (p := ⟨gb1761, 1, none⟩) (Kd.S_far (p := ⟨gb1761, 0, none⟩) (Kd.S_types HO1757.out BK1761.out (by decide)) (fun _ hk => hk.2) (.slice Ao22 t1755.length co22)) (fun _ hk => hk.2) (.bool t1758)) (fun _ h_ => h_.1))) (by decide)) hk (fun _ h => h.2)) (fun _ h => h.1)); have n2_ := Aside0.mk (KeepBut.blk hk (g' := gb1761) (o := .cells #[.slice Ao22 t1755.length co22, .bool t1758] 39 (0, 0)) (by (with_reducible repeat (first | refine kn_ ?_ _ | refine kd_ ?_ | refine ka_ ?_ _)); refine blk_put (cs := #[.slice Ao22 t1755.length co22, .bool false]) ?_ 1 _ rfl; (with_reducible repeat (first | refine kn_ ?_ _ | refine kd_ ?_ | refine ka_ ?_ _)); refine blk_put (cs := #[.slice none 0 0, .bool false]) ?_ 0 _ rfl; (with_reducible repeat (first | refine kn_ ?_ _ | refine kd_ ?_ | refine ka_ ?_ _)); exact BK1761.out) NB1761_0.out (by simp)); have n3_ := Aside0.mk (KeepBut.trans (by repeat (first | (with_reducible first | exact HK.out | apply KeepBut.set_ | apply keep_drewN | apply keep_drew | apply keep_alloc | refine keep_far ?_ GW1754.out _ | refine keep_far ?_ GW1761.out _) | exact HK.out)) hk (.inl rfl)); have n4_ := Aside0.mk (hb); have n5_ := Aside0.mk (hi); clear BK1754; clear HO1757; clear BK1761; clear HK; clear HB; clear HI0; have BK1754 := n0_; have HO1757 := n1_; have BK1761 := n2_; have HK := n3_; have HB := n4_; have HI0 := n5_; clear n0_ n1_ n2_ n3_ n4_ n5_; (try clear hb); (try clear hb2); (try clear hk); (try clear hi)))
   have n0_ := Aside0.mk (Kd.S_drew HO1757.out)
   have n1_ := Aside0.mk (blk_drew BK1754.out)
   have n2_ := Aside0.mk (blk_drew BK1761.out)
   have n3_ := Aside0.mk (IsS173.drew HI0.out)
   have n4_ := Aside0.mk (keep_drew HK.out)
   have n5_ := Aside0.mk (bd_ HB.out)
   clear HO1757
   clear BK1754
   clear BK1761
   clear HI0
   clear HK
   clear HB
   have HO1757 := n0_
   have BK1754 := n1_
   have BK1761 := n2_
   have HI0 := n3_
   have HK := n4_
   have HB := n5_
   clear n0_ n1_ n2_ n3_ n4_ n5_
   refine start_ (n := 8) (S := fun w' => w'.cell? ⟨gb1761, 0, none⟩ = some (.slice Ao22 t1755.length co22) ∧ w'.cell? ⟨gb1761, 1, none⟩ = some (.bool t1758)) (ds := [7]) #[f_,f_,f_,f_,f_,f_,f_,f_] (by kernel_rfl) rfl rfl ⟨(blk_cell BK1761.out 0).trans rfl, (blk_cell BK1761.out 1).trans rfl⟩ (fun hHeld => ?_); refine with_tabW spec_l9Any.tab6 spec_l9Any.bits6 (fun HT_ HW_ => ?_)
   generalize w26.drew = w27 at HO1757 BK1754 BK1761 HI0 HK HB hHeld ⊢
   refine pu_ 0 16 ?_ (b_ 1 7) rfl rfl HT_.out ?_ ?_ ?_ ?_; rotate_left; intro w'; go_simp; with_reducible rfl; rotate_left; simp only [fr_]; rfl
   refine pu_ 2 18 ?_ #[t_,f_,t_,f_,f_,f_,f_,f_] rfl rfl HT_.out ?_ ?_ ?_ ?_; rotate_left; intro w'; go_simp; with_reducible rfl; rotate_left; simp only [fr_]; rfl
   refine take_ (i := 1) (N := some 17) (v := ?_) (a' := ?_) #[t_,t_,t_,f_,f_,f_,f_,f_] rfl rfl (take_ofW HT_.out HW_.out (by kernel_rfl)) (fun _ _ _ h => h) (Or.inl ⟨by rfl, ?_⟩) hHeld ?_ ?_
   rotate_left
   ·
    rintro w' ⟨s0, s1⟩
    go_simp
    with_reducible rfl
   rotate_left
   ·
    simp only [fr_]
    rfl
   refine one_ (i := 3) (N := some 19) #[t_,t_,t_,t_,f_,f_,f_,f_] rfl rfl (one_of HT_.out (by kernel_rfl)) (by decide) (fun K hK => ?_)
   refine goes_ Try.func159 (by kernel_rfl) rfl #[.pointer (some ⟨g, 0, none⟩)] (by rfl) rfl rfl (by (try simp only [mp_]); first | done | rfl | (simp only [List.length_drop, List.length_take]; rfl)) ?_
   with_reducible refine (spec_l4Any.calls k g s0_0 t1763 t1764 t1765 t1768 t1769 t1770 t1771 t1772 w0 _ ?side1 ?side2 A17.out).mono ?_
   (case side1 => repeat (first | (with_reducible first | exact HI0.out | apply IsS173.alloc | apply IsS173.drewN | apply IsS173.drew | apply IsS173.set_1 | apply IsS173.set_2 | refine IsS173.far ?_ NB0_1754.out _ | refine IsS173.far ?_ NB0_1761.out _) | exact HI0.out))
   (case side2 => repeat (first | (with_reducible first | exact HB.out | apply ba_ | apply bn_ | apply bd_ | refine below_set ?_ (IsS173.ge HI0.out) | refine below_set ?_ GE1754.out | refine below_set ?_ GE1761.out) | exact HB.out))
   rintro e w28 ⟨v1766, rfl, ho0, hi, hb, hk⟩
   refine ⟨_, rfl, ?_⟩
   have n0_ := Aside0.mk (KeepBut.blk hk (g' := gb1754) (o := .cells #[.slice none 0 0, .bool false] 39 (0, 0)) (pb_ BK1754.out) NB1754_0.out (by simp))
   have n1_ := Aside0.mk (Kd.S_mono (Kd.S_told (Kd.S_oldK (IsS173.apartS (show IsS173 w0 _ g s0_0 t1763 t1764 from by repeat (first | (with_reducible first | exact HI0.out | apply IsS173.alloc | apply IsS173.drewN | apply IsS173.drew | apply IsS173.set_1 | apply IsS173.set_2 | refine IsS173.far ?_ NB0_1754.out _ | refine IsS173.far ?_ NB0_1761.out _) | exact HI0.out)) (sp_ HO1757.out) (by decide)) hk) (Kd.R_base ho0)) (fun _ h_ => h_.1))
   have n2_ := Aside0.mk (KeepBut.blk hk (g' := gb1761) (o := .cells #[.slice Ao22 t1755.length co22, .bool t1758] 39 (0, 0)) (pb_ BK1761.out) NB1761_0.out (by simp))
   have n3_ := Aside0.mk (Kd.R_lower ho0 (keep_size (w := w) (g := g) (row := none) (by repeat (first | (with_reducible first | exact HK.out | apply KeepBut.set_ | apply keep_drewN | apply keep_drew | apply keep_alloc | refine keep_far ?_ GW1754.out _ | refine keep_far ?_ GW1761.out _) | exact HK.out))))
   have n4_ := Aside0.mk (KeepBut.trans (by repeat (first | (with_reducible first | exact HK.out | apply KeepBut.set_ | apply keep_drewN | apply keep_drew | apply keep_alloc | refine keep_far ?_ GW1754.out _ | refine keep_far ?_ GW1761.out _) | exact HK.out)) hk (.inl rfl))
   have n5_ := Aside0.mk (hb)
   have n6_ := Aside0.mk (hi)
   clear BK1754
   clear HO1757
   clear BK1761
   clear HK
   clear HB
   clear HI0
   have BK1754 := n0_
   have HO1757 := n1_
   have BK1761 := n2_
   have HO1767 := n3_
   have HK := n4_
   have HB := n5_
   have HI0 := n6_
   clear n0_ n1_ n2_ n3_ n4_ n5_ n6_
   (try clear hb)
   (try clear hb2)
   (try clear hk)
   (try clear hi)
   (try clear ho0)
   obtain ⟨Ao30, co30, eo30⟩ := Kd.R_slice HO1767.out
   (first | subst eo30 | (injection eo30 with f1_ f2_ f3_; have f4_ := f1_.symm; have f5_ := f3_.symm; clear f1_ f2_ f3_; subst f4_; subst f5_))
   refine hK.out _ _ ⟨(blk_cell BK1761.out 0).trans rfl, (blk_cell BK1761.out 1).trans rfl⟩ (fun hHeld => ?_)
   clear hK K
   refine norm_ (a' := ?_) ?_ ?_
   rotate_left
   ·
    show Act.put _ (some 19) _ = _
    simp only [fr_]
    rfl
   refine one_ (i := 4) (N := some 20) #[t_,t_,t_,t_,t_,f_,f_,f_] rfl rfl (one_of HT_.out (by kernel_rfl)) (by decide) (fun K hK => ?_)
   refine value_ (w1 := ?_) (v := ?_) (by rfl) rfl ?_ ?_
   rotate_left 2
   ·
    go_simp
    constructor
    ·
     rfl
    rfl
   refine hK.out _ _ ⟨(blk_cell (blk_alloc BK1761.out _) 0).trans rfl, (blk_cell (blk_alloc BK1761.out _) 1).trans rfl⟩ (fun hHeld => ?_)
   clear hK K
   refine norm_ (a' := ?_) ?_ ?_
   rotate_left
   ·
    show Act.put _ (some 20) _ = _
    simp only [fr_]
    rfl
   refine one_ (i := 5) (N := some 21) #[t_,t_,t_,t_,t_,t_,f_,f_] rfl rfl (one_of HT_.out (by kernel_rfl)) (by decide) (fun K hK => ?_)
   refine Kd.S_append_step k44 w.heap.size (by rfl) (.tmp 17) (.tmp 20) 37 44 (.agg #[(.slice none 0 0), (.int .i64 0), (.int .i64 0), (.string ⟨#[]⟩)]) 56 rfl Try.underlying37 info44 rfl (by decide) (by omega) (.slice Ao22 t1755.length co22) t1755 (⟨t1765, t1768, t1769, t1770⟩ : S44) [.slice Ao30 t1765.length co30, .int .i64 t1768, .int .i64 t1769, .string t1770] (fun _ => True) (fun k_ => some k_ = (.slice Ao30 t1765.length co30 : Value).ownBlock) rfl rfl ?aP (fun k_ hk_ => ((Kd.R_mono (ok' := fun k_ => ((fun _ => True)) k_ ∧ some k_ ≠ (.slice Ao22 t1755.length co22 : Value).ownBlock) (Kd.R_apart' (HO1767.out) (Kd.S_typed HO1757.out) (by decide)) (fun k_ hk => ⟨trivial, hk.2⟩))).1 k_ hk_.symm) ?aF ?aO (Below.refl _ _) ?aS ?aL ?_
   (case aP => exact k44_mkM _ _ _ (⟨t1765, t1768, t1769, t1770⟩ : S44) (Kd.R_mono (Kd.R_tight rfl (Kd.R_mono (ok' := fun k_ => ((fun _ => True)) k_ ∧ some k_ ≠ (.slice Ao22 t1755.length co22 : Value).ownBlock) (Kd.R_apart' (HO1767.out) (Kd.S_typed HO1757.out) (by decide)) (fun k_ hk => ⟨trivial, hk.2⟩))) (fun _ h_ => h_)))
   (case aF => exact (fun _ _ => trivial))
   (case aO => exact (by (with_reducible repeat (first | apply Kd.S_alloc | apply Kd.S_drewN | apply Kd.S_drew)); exact Kd.S_mono HO1757.out (fun k_ hk => ⟨trivial, fun e_ => hk.2 e_⟩)))
   (case aS => exact (keep_size (w := w) (g := g) (row := none) (by repeat (first | (with_reducible first | exact HK.out | apply KeepBut.set_ | apply keep_drewN | apply keep_drew | apply keep_alloc | refine keep_far ?_ GW1754.out _ | refine keep_far ?_ GW1761.out _) | exact HK.out))))
   (case aL => have := LMc18.out; omega)
   intro v1774 w29 ho hb hg hat
   rw [← Ny1773.out] at ho
   have n0_ := Aside0.mk (IsS173.grown (by repeat (first | (with_reducible first | exact HI0.out | apply IsS173.alloc | apply IsS173.drewN | apply IsS173.drew | apply IsS173.set_1 | apply IsS173.set_2 | refine IsS173.far ?_ NB0_1754.out _ | refine IsS173.far ?_ NB0_1761.out _) | exact HI0.out)) hg (IsS173.own_neS HI0.out HO1757.out (by decide)))
   have n1_ := Aside0.mk (blk_grown (g := gb1754) (o := .cells #[.slice none 0 0, .bool false] 39 (0, 0)) (pb_ BK1754.out) hg (Kd.S_ne HO1757.out BK1754.out (by decide)))
   have n2_ := Aside0.mk (blk_grown (g := gb1761) (o := .cells #[.slice Ao22 t1755.length co22, .bool t1758] 39 (0, 0)) (pb_ BK1761.out) hg (Kd.S_ne HO1757.out BK1761.out (by decide)))
   have n3_ := Aside0.mk (below_weaken (by repeat (first | (with_reducible first | exact HB.out | apply ba_ | apply bn_ | apply bd_ | refine below_set ?_ (IsS173.ge HI0.out) | refine below_set ?_ GE1754.out | refine below_set ?_ GE1761.out) | exact HB.out)) HL.out hb)
   have n4_ := Aside0.mk (KeepBut.trans (by repeat (first | (with_reducible first | exact HK.out | apply KeepBut.set_ | apply keep_drewN | apply keep_drew | apply keep_alloc | refine keep_far ?_ GW1754.out _ | refine keep_far ?_ GW1761.out _) | exact HK.out)) (KeepBut.of_grown hg g) (Kd.S_base2 HO1757.out))
   have n5_ := Aside0.mk (ho)
   clear HI0
   clear BK1754
   clear BK1761
   clear HB
   clear HK
   clear HO1757
   clear HO1767
   have HI0 := n0_
   have BK1754 := n1_
   have BK1761 := n2_
   have HB := n3_
   have HK := n4_
   have HO1775 := n5_
   clear n0_ n1_ n2_ n3_ n4_ n5_
   clear ho hb hg hat
   obtain ⟨Ao31, co31, eo31⟩ := Kd.S_slice HO1775.out
   (first | subst eo31 | (injection eo31 with f1_ f2_ f3_; have f4_ := f1_.symm; have f5_ := f3_.symm; clear f1_ f2_ f3_; subst f4_; subst f5_))
   refine hK.out _ _ ⟨(blk_cell BK1761.out 0).trans rfl, (blk_cell BK1761.out 1).trans rfl⟩ (fun hHeld => ?_)
   clear hK K
   refine norm_ (a' := ?_) ?_ ?_
   rotate_left
   ·
    show Act.put _ (some 21) _ = _
    simp only [fr_]
    rfl
   refine pu_ 6 22 ?_ (b_ 7 1) rfl rfl HT_.out ?_ ?_ ?_ ?_; rotate_left; intro w'; go_simp; with_reducible rfl; rotate_left; simp only [fr_]; rfl
   refine last_ (i := 7) (N := none) #[t_,t_,t_,t_,t_,t_,t_,t_] rfl rfl (one_of HT_.out (by kernel_rfl)) (by decide) (fun K hK => ?_)
   have hs32 : w29.cell? ⟨gb1761, 0, none⟩ = some (.slice Ao22 t1755.length co22) := (blk_cell BK1761.out 0).trans rfl
   have hfs32 := blk_frozen BK1761.out 0
   have hns32_0 := NB1754_1761.out
   have hms32_0 := NB1761_1754.out
   refine skip_ (w1 := ?_) (by rfl) rfl ?_ ?_
   rotate_left
   ·
    go_simp
    rfl
   refine hK.out _ _ ?_
   clear hK K
   refine done_ (done_of HT_.out (by kernel_rfl)) ?_
   have hcz33_0 : w29.cell? ⟨gb1761, 0, none⟩ = some (.slice Ao22 t1755.length co22) := (blk_cell BK1761.out 0).trans rfl
   have hcz33_1 : w29.cell? ⟨gb1761, 1, none⟩ = some (.bool t1758) := (blk_cell BK1761.out 1).trans rfl
   have hfz33_0 := blk_frozen BK1761.out 0
   have hfz33_1 := blk_frozen BK1761.out 1
   have hnb34 := NB1754_0.out
   have hnc34 := NB0_1754.out
   have hcz35_0 : w29.cell? ⟨gb1754, 0, none⟩ = some (.slice none 0 0) := (blk_cell BK1754.out 0).trans rfl
   have hcz35_1 : w29.cell? ⟨gb1754, 1, none⟩ = some (.bool false) := (blk_cell BK1754.out 1).trans rfl
   have hfz35_0 := blk_frozen BK1754.out 0
   have hfz35_1 := blk_frozen BK1754.out 1
   try go_wp2
   refine bodyPost_ret (results_cell_row rfl _ _ gb1754 39 #[.slice Ao31 y1773.length co31, .bool t1758] (0, 0) _ rfl (by (with_reducible repeat (first | refine kn_ ?_ _ | refine kd_ ?_ | refine ka_ ?_ _)); refine blk_put (cs := #[.slice Ao31 y1773.length co31, .bool false]) ?_ 1 _ rfl; (with_reducible repeat (first | refine kn_ ?_ _ | refine kd_ ?_ | refine ka_ ?_ _)); refine blk_put (cs := #[.slice none 0 0, .bool false]) ?_ 0 _ rfl; (with_reducible repeat (first | refine kn_ ?_ _ | refine kd_ ?_ | refine ka_ ?_ _)); refine blk_far ?_ NB1754_1761.out _; (with_reducible repeat (first | refine kn_ ?_ _ | refine kd_ ?_ | refine ka_ ?_ _)); exact BK1754.out) Try.underlying39 rfl (by kernel_rfl)) rfl ?_
   exact ⟨_, by first | rfl | (simp [errW_none, errW_some] <;> rfl) | (simp [*, errW_none, errW_some] <;> rfl), by (with_reducible repeat (first | apply Kd.S_alloc | apply Kd.S_drewN | apply Kd.S_drew)); exact Kd.S_mono (Kd.S_far (p := ⟨gb1754, 1, none⟩) (Kd.S_far (p := ⟨gb1754, 0, none⟩) (Kd.S_far (p := ⟨gb1761, 0, none⟩) (Kd.S_types (Kd.S_types HO1775.out BK1761.out (by decide)) BK1754.out (by decide)) (fun _ hk => hk.1.2) (.slice Ao31 y1773.length co31)) (fun _ hk => hk.2) (.slice Ao31 y1773.length co31)) (fun _ hk => hk.2) (.bool t1758)) (fun _ hk => trivial), by repeat (first | (with_reducible first | exact HI0.out | apply IsS173.alloc | apply IsS173.drewN | apply IsS173.drew | apply IsS173.set_1 | apply IsS173.set_2 | refine IsS173.far ?_ NB0_1754.out _ | refine IsS173.far ?_ NB0_1761.out _) | exact HI0.out), by repeat (first | (with_reducible first | exact HB.out | apply ba_ | apply bn_ | apply bd_ | refine below_set ?_ (IsS173.ge HI0.out) | refine below_set ?_ GE1754.out | refine below_set ?_ GE1761.out) | exact HB.out), by repeat (first | (with_reducible first | exact HK.out | apply KeepBut.set_ | apply keep_drewN | apply keep_drew | apply keep_alloc | refine keep_far ?_ GW1754.out _ | refine keep_far ?_ GW1761.out _) | exact HK.out)⟩
  rw [if_neg c18] at H
  exact absurd H (by simp)
 rw [if_neg c16] at H
 have c16b0 : (t1762 == 1) = false := beq_eq_false_iff_ne.mpr c16
 have c16b1 : (t1762 != 1) = true := bne_iff_ne.mpr c16
 simp only [Option.some.injEq, Prod.mk.injEq] at H
 obtain ⟨rfl, rfl, rfl, rfl⟩ := H
 go_enter Try.func133, Try.ntmps133
 go_wp2_with (first | ((with_reducible refine gate_dst (N := 2) rfl ?_); refine box_event ?hg (N := 2) ?hd (cs := #[.slice none 0 0, .bool false]) (t := 39) ?hr ?_; (case hd => rfl); (case hg => rfl); (case hr => first | (go_simp; done) | (go_simp; rfl)); intro gb1754 hg w36 hbox hb; have n0_ := Aside0.mk (IsS173.below (by repeat (first | (with_reducible first | exact HI0.out | apply IsS173.alloc | apply IsS173.drewN | apply IsS173.drew | apply IsS173.set_1 | apply IsS173.set_2) | exact HI0.out)) hb); have n1_ := Aside0.mk (KeepBut.trans (by repeat (first | (with_reducible first | exact HK.out | apply KeepBut.set_ | apply keep_drewN | apply keep_drew | apply keep_alloc) | exact HK.out)) (KeepBut.of_below hb g none) (.inl rfl)); have n2_ := Aside0.mk (below_step (by repeat (first | (with_reducible first | exact HB.out | apply ba_ | apply bn_ | apply bd_ | refine below_set ?_ (IsS173.ge HI0.out)) | exact HB.out)) hb); have n3_ := Aside0.mk (hbox); have n4_ := Aside0.mk ((by rw [hg]; exact (keep_size (w := w) (g := g) (row := none) (by repeat (first | (with_reducible first | exact HK.out | apply KeepBut.set_ | apply keep_drewN | apply keep_drew | apply keep_alloc) | exact HK.out))) : w.heap.size ≤ gb1754)); have n5_ := Aside0.mk ((Nat.le_trans HW0.out (by rw [hg]; exact (keep_size (w := w) (g := g) (row := none) (by repeat (first | (with_reducible first | exact HK.out | apply KeepBut.set_ | apply keep_drewN | apply keep_drew | apply keep_alloc) | exact HK.out))) : w.heap.size ≤ gb1754) : w0.heap.size ≤ gb1754)); have n6_ := Aside0.mk ((by rw [hg]; exact Nat.ne_of_lt (IsS173.lt (show IsS173 w0 _ g s0_0 s0_1 s0_2 from by repeat (first | (with_reducible first | exact HI0.out | apply IsS173.alloc | apply IsS173.drewN | apply IsS173.drew | apply IsS173.set_1 | apply IsS173.set_2) | exact HI0.out))) : g ≠ gb1754)); have n7_ := Aside0.mk ((by rw [hg]; exact Nat.ne_of_gt (IsS173.lt (show IsS173 w0 _ g s0_0 s0_1 s0_2 from by repeat (first | (with_reducible first | exact HI0.out | apply IsS173.alloc | apply IsS173.drewN | apply IsS173.drew | apply IsS173.set_1 | apply IsS173.set_2) | exact HI0.out))) : gb1754 ≠ g)); clear HI0; clear HK; clear HB; have HI0 := n0_; have HK := n1_; have HB := n2_; have BK1754 := n3_; have GW1754 := n4_; have GE1754 := n5_; have NB0_1754 := n6_; have NB1754_0 := n7_; clear n0_ n1_ n2_ n3_ n4_ n5_ n6_ n7_; clear hb hbox hg) | ((with_reducible refine gate_callee (f := 158) rfl ?_); refine goesL_ (some 5) rfl rfl Try.func158 (by kernel_rfl) rfl #[.pointer (some ⟨g, 0, none⟩)] rfl (by (try simp only [mp_]); first | done | rfl | (simp only [List.length_drop, List.length_take]; rfl)) ?_; (with_reducible refine (spec_l9Draw.calls k g s0_0 s0_1 s0_2 t1755 t1758 t1759 t1760 w0 _ ?side1 ?side2 A2.out).mono ?_); (case side1 => repeat (first | (with_reducible first | exact HI0.out | apply IsS173.alloc | apply IsS173.drewN | apply IsS173.drew | apply IsS173.set_1 | apply IsS173.set_2 | refine IsS173.far ?_ NB0_1754.out _) | exact HI0.out)); (case side2 => repeat (first | (with_reducible first | exact HB.out | apply ba_ | apply bn_ | apply bd_ | refine below_set ?_ (IsS173.ge HI0.out) | refine below_set ?_ GE1754.out) | exact HB.out)); rintro e w37 ⟨v1756, rfl, ho0, hi, hb, hk⟩; refine ⟨_, rfl, ?_⟩; have n0_ := Aside0.mk (KeepBut.blk hk (g' := gb1754) (o := .cells #[.slice none 0 0, .bool false] 39 (0, 0)) (pb_ BK1754.out) NB1754_0.out (by simp)); have n1_ := Aside0.mk (Kd.S_lower ho0 (keep_size (w := w) (g := g) (row := none) (by repeat (first | (with_reducible first | exact HK.out | apply KeepBut.set_ | apply keep_drewN | apply keep_drew | apply keep_alloc | refine keep_far ?_ GW1754.out _) | exact HK.out)))); have n2_ := Aside0.mk (KeepBut.trans (by repeat (first | (with_reducible first | exact HK.out | apply KeepBut.set_ | apply keep_drewN | apply keep_drew | apply keep_alloc | refine keep_far ?_ GW1754.out _) | exact HK.out)) hk (.inl rfl)); have n3_ := Aside0.mk (hb); have n4_ := Aside0.mk (hi); clear BK1754; clear HK; clear HB; clear HI0; have BK1754 := n0_; have HO1757 := n1_; have HK := n2_; have HB := n3_; have HI0 := n4_; clear n0_ n1_ n2_ n3_ n4_; (try clear hb); (try clear hb2); (try clear hk); (try clear hi); (try clear ho0)) | ((with_reducible refine gate_dst (N := 3) rfl ?_); refine box_event ?hg (N := 3) ?hd (cs := #[.slice none 0 0, .bool false]) (t := 39) ?hr ?_; (case hd => rfl); (case hg => rfl); (case hr => first | (go_simp; done) | (go_simp; rfl)); intro gb1761 hg w38 hbox hb; have n0_ := Aside0.mk (Kd.S_below (sp_ HO1757.out) hb); have n1_ := Aside0.mk (IsS173.below (by repeat (first | (with_reducible first | exact HI0.out | apply IsS173.alloc | apply IsS173.drewN | apply IsS173.drew | apply IsS173.set_1 | apply IsS173.set_2 | refine IsS173.far ?_ NB0_1754.out _) | exact HI0.out)) hb); have n2_ := Aside0.mk (bb_ BK1754.out hb); have n3_ := Aside0.mk (KeepBut.trans (by repeat (first | (with_reducible first | exact HK.out | apply KeepBut.set_ | apply keep_drewN | apply keep_drew | apply keep_alloc | refine keep_far ?_ GW1754.out _) | exact HK.out)) (KeepBut.of_below hb g none) (.inl rfl)); have n4_ := Aside0.mk (below_step (by repeat (first | (with_reducible first | exact HB.out | apply ba_ | apply bn_ | apply bd_ | refine below_set ?_ (IsS173.ge HI0.out) | refine below_set ?_ GE1754.out) | exact HB.out)) hb); have n5_ := Aside0.mk (hbox); have n6_ := Aside0.mk ((by rw [hg]; exact (keep_size (w := w) (g := g) (row := none) (by repeat (first | (with_reducible first | exact HK.out | apply KeepBut.set_ | apply keep_drewN | apply keep_drew | apply keep_alloc | refine keep_far ?_ GW1754.out _) | exact HK.out))) : w.heap.size ≤ gb1761)); have n7_ := Aside0.mk ((Nat.le_trans HW0.out (by rw [hg]; exact (keep_size (w := w) (g := g) (row := none) (by repeat (first | (with_reducible first | exact HK.out | apply KeepBut.set_ | apply keep_drewN | apply keep_drew | apply keep_alloc | refine keep_far ?_ GW1754.out _) | exact HK.out))) : w.heap.size ≤ gb1761) : w0.heap.size ≤ gb1761)); have n8_ := Aside0.mk (nl_ BK1754.out hg); have n9_ := Aside0.mk (ng_ BK1754.out hg); have n10_ := Aside0.mk ((by rw [hg]; exact Nat.ne_of_lt (IsS173.lt (show IsS173 w0 _ g s0_0 t1759 t1760 from by repeat (first | (with_reducible first | exact HI0.out | apply IsS173.alloc | apply IsS173.drewN | apply IsS173.drew | apply IsS173.set_1 | apply IsS173.set_2 | refine IsS173.far ?_ NB0_1754.out _) | exact HI0.out))) : g ≠ gb1761)); have n11_ := Aside0.mk ((by rw [hg]; exact Nat.ne_of_gt (IsS173.lt (show IsS173 w0 _ g s0_0 t1759 t1760 from by repeat (first | (with_reducible first | exact HI0.out | apply IsS173.alloc | apply IsS173.drewN | apply IsS173.drew | apply IsS173.set_1 | apply IsS173.set_2 | refine IsS173.far ?_ NB0_1754.out _) | exact HI0.out))) : gb1761 ≠ g)); clear HO1757; clear HI0; clear BK1754; clear HK; clear HB; have HO1757 := n0_; have HI0 := n1_; have BK1754 := n2_; have HK := n3_; have HB := n4_; have BK1761 := n5_; have GW1761 := n6_; have GE1761 := n7_; have NB1754_1761 := n8_; have NB1761_1754 := n9_; have NB0_1761 := n10_; have NB1761_0 := n11_; clear n0_ n1_ n2_ n3_ n4_ n5_ n6_ n7_ n8_ n9_ n10_ n11_; clear hb hbox hg; obtain ⟨Ao39, co39, eo39⟩ := Kd.S_slice HO1757.out; subst eo39; have hnb40 := NB1761_1754.out; have hnc40 := NB1754_1761.out; have hnb41 := NB1761_0.out; have hnc41 := NB0_1761.out; have hcz42_0 : w38.cell? ⟨gb1761, 0, none⟩ = some (.slice none 0 0) := (blk_cell BK1761.out 0).trans rfl; have hcz42_1 : w38.cell? ⟨gb1761, 1, none⟩ = some (.bool false) := (blk_cell BK1761.out 1).trans rfl; have hfz42_0 := blk_frozen BK1761.out 0; have hfz42_1 := blk_frozen BK1761.out 1) | ((with_reducible refine gate_callee (f := 137) rfl ?_); refine goesL_ (some 7) rfl rfl Try.func137 (by kernel_rfl) rfl #[.pointer (some ⟨g, 0, none⟩), .int .i64 10] rfl (by (try simp only [mp_]); first | done | rfl | (simp only [List.length_drop, List.length_take]; rfl)) ?_; (with_reducible refine (spec_l1Below.calls g s0_0 t1759 t1760 10 t1762 t1763 t1764 w0 _ ?side1 ?side2 A3.out).mono ?_); (case side1 => repeat (first | (with_reducible first | exact HI0.out | apply IsS173.alloc | apply IsS173.drewN | apply IsS173.drew | apply IsS173.set_1 | apply IsS173.set_2 | refine IsS173.far ?_ NB0_1754.out _ | refine IsS173.far ?_ NB0_1761.out _) | exact HI0.out)); (case side2 => repeat (first | (with_reducible first | exact HB.out | apply ba_ | apply bn_ | apply bd_ | refine below_set ?_ (IsS173.ge HI0.out) | refine below_set ?_ GE1754.out | refine below_set ?_ GE1761.out) | exact HB.out)); rintro e w43 ⟨rfl, hi, hb, hk⟩; refine ⟨_, rfl, ?_⟩; have n0_ := Aside0.mk (KeepBut.blk hk (g' := gb1754) (o := .cells #[.slice none 0 0, .bool false] 39 (0, 0)) (by (with_reducible repeat (first | refine kn_ ?_ _ | refine kd_ ?_ | refine ka_ ?_ _)); refine blk_far ?_ NB1754_1761.out _; (with_reducible repeat (first | refine kn_ ?_ _ | refine kd_ ?_ | refine ka_ ?_ _)); refine blk_far ?_ NB1754_1761.out _; (with_reducible repeat (first | refine kn_ ?_ _ | refine kd_ ?_ | refine ka_ ?_ _)); exact BK1754.out) NB1754_0.out (by simp)); have n1_ := Aside0.mk (Kd.S_mono (Kd.S_keep (IsS173.apartS (show IsS173 w0 _ g s0_0 t1759 t1760 from by repeat (first | (with_reducible first | exact HI0.out | apply IsS173.alloc | apply IsS173.drewN | apply IsS173.drew | apply IsS173.set_1 | apply IsS173.set_2 | refine IsS173.far ?_ NB0_1754.out _ | refine IsS173.far ?_ NB0_1761.out _) | exact HI0.out)) (by (with_reducible repeat (first | apply Kd.S_alloc | apply Kd.S_drewN | apply Kd.S_drew)); exact (Kd.S_mono (Kd.S_far (p := ⟨gb1761, 1, none⟩) (Kd.S_far (p := ⟨gb1761, 0, none⟩) (Kd.S_types HO1757.out BK1761.out (by decide)) (fun _ hk => hk.2) (.slice Ao39 t1755.length co39)) (fun _ hk => hk.2) (.bool t1758)) (fun _ h_ => h_.1))) (by decide)) hk (fun _ h => h.2)) (fun _ h => h.1)); have n2_ := Aside0.mk (KeepBut.blk hk (g' := gb1761) (o := .cells #[.slice Ao39 t1755.length co39, .bool t1758] 39 (0, 0)) (by (with_reducible repeat (first | refine kn_ ?_ _ | refine kd_ ?_ | refine ka_ ?_ _)); refine blk_put (cs := #[.slice Ao39 t1755.length co39, .bool false]) ?_ 1 _ rfl; (with_reducible repeat (first | refine kn_ ?_ _ | refine kd_ ?_ | refine ka_ ?_ _)); refine blk_put (cs := #[.slice none 0 0, .bool false]) ?_ 0 _ rfl; (with_reducible repeat (first | refine kn_ ?_ _ | refine kd_ ?_ | refine ka_ ?_ _)); exact BK1761.out) NB1761_0.out (by simp)); have n3_ := Aside0.mk (KeepBut.trans (by repeat (first | (with_reducible first | exact HK.out | apply KeepBut.set_ | apply keep_drewN | apply keep_drew | apply keep_alloc | refine keep_far ?_ GW1754.out _ | refine keep_far ?_ GW1761.out _) | exact HK.out)) hk (.inl rfl)); have n4_ := Aside0.mk (hb); have n5_ := Aside0.mk (hi); clear BK1754; clear HO1757; clear BK1761; clear HK; clear HB; clear HI0; have BK1754 := n0_; have HO1757 := n1_; have BK1761 := n2_; have HK := n3_; have HB := n4_; have HI0 := n5_; clear n0_ n1_ n2_ n3_ n4_ n5_; (try clear hb); (try clear hb2); (try clear hk); (try clear hi); have hcz44_0 : w43.cell? ⟨gb1761, 0, none⟩ = some (.slice Ao39 t1755.length co39) := (blk_cell BK1761.out 0).trans rfl; have hcz44_1 : w43.cell? ⟨gb1761, 1, none⟩ = some (.bool t1758) := (blk_cell BK1761.out 1).trans rfl; have hfz44_0 := blk_frozen BK1761.out 0; have hfz44_1 := blk_frozen BK1761.out 1; have hnb45 := NB1754_0.out; have hnc45 := NB0_1754.out; have hcz46_0 : w43.cell? ⟨gb1754, 0, none⟩ = some (.slice none 0 0) := (blk_cell BK1754.out 0).trans rfl; have hcz46_1 : w43.cell? ⟨gb1754, 1, none⟩ = some (.bool false) := (blk_cell BK1754.out 1).trans rfl; have hfz46_0 := blk_frozen BK1754.out 0; have hfz46_1 := blk_frozen BK1754.out 1))
 refine bodyPost_ret (results_cell_row rfl _ _ gb1754 39 #[.slice Ao39 t1755.length co39, .bool t1758] (0, 0) _ rfl (by (with_reducible repeat (first | refine kn_ ?_ _ | refine kd_ ?_ | refine ka_ ?_ _)); refine blk_put (cs := #[.slice Ao39 t1755.length co39, .bool false]) ?_ 1 _ rfl; (with_reducible repeat (first | refine kn_ ?_ _ | refine kd_ ?_ | refine ka_ ?_ _)); refine blk_put (cs := #[.slice none 0 0, .bool false]) ?_ 0 _ rfl; (with_reducible repeat (first | refine kn_ ?_ _ | refine kd_ ?_ | refine ka_ ?_ _)); exact BK1754.out) Try.underlying39 rfl (by kernel_rfl)) rfl ?_
 exact ⟨_, by first | rfl | (simp [errW_none, errW_some] <;> rfl) | (simp [*, errW_none, errW_some] <;> rfl), by (with_reducible repeat (first | apply Kd.S_alloc | apply Kd.S_drewN | apply Kd.S_drew)); exact Kd.S_mono (Kd.S_far (p := ⟨gb1754, 1, none⟩) (Kd.S_far (p := ⟨gb1754, 0, none⟩) (Kd.S_types HO1757.out BK1754.out (by decide)) (fun _ hk => hk.2) (.slice Ao39 t1755.length co39)) (fun _ hk => hk.2) (.bool t1758)) (fun _ hk => trivial), by repeat (first | (with_reducible first | exact HI0.out | apply IsS173.alloc | apply IsS173.drewN | apply IsS173.drew | apply IsS173.set_1 | apply IsS173.set_2 | refine IsS173.far ?_ NB0_1754.out _ | refine IsS173.far ?_ NB0_1761.out _) | exact HI0.out), by repeat (first | (with_reducible first | exact HB.out | apply ba_ | apply bn_ | apply bd_ | refine below_set ?_ (IsS173.ge HI0.out) | refine below_set ?_ GE1754.out | refine below_set ?_ GE1761.out) | exact HB.out), by repeat (first | (with_reducible first | exact HK.out | apply KeepBut.set_ | apply keep_drewN | apply keep_drew | apply keep_alloc | refine keep_far ?_ GW1754.out _ | refine keep_far ?_ GW1761.out _) | exact HK.out)⟩
def spec_DrawHeard.f (k : Nat) (l0 : List Int) : Option ((List (S44)) × (List (S44)) × Bool) := (spec_l1New.f k l0).bind fun bt1777 => ((spec_l5List.f k bt1777.1 bt1777.2.1 bt1777.2.2).bind fun bt1781 => ((spec_l9Any.f k bt1777.1 bt1781.2.1 bt1781.2.2).bind fun bt1786 => (some (bt1781.1, bt1786.1, bt1786.2.1))))
theorem spec_DrawHeard.mono : ∀ a0 k, LeO (spec_DrawHeard.f k a0) (spec_DrawHeard.f (k + 1) a0) := by
 intro a0 k
 unfold spec_DrawHeard.f
 repeat' first
   | (with_reducible exact spec_l1New.mono _ _)
   | (with_reducible exact spec_l5List.mono _ _ _ _)
   | (with_reducible exact spec_l9Any.mono _ _ _ _)
   | (with_reducible exact LeO.refl _)
   | (with_reducible exact LeO.none _)
   | (with_reducible refine LeO.ite ?_ ?_)
   | (with_reducible refine LeO.bind ?_ (fun _ => ?_))
   | exact spec_l1New.mono _ _
   | exact spec_l5List.mono _ _ _ _
   | exact spec_l9Any.mono _ _ _ _
theorem spec_DrawHeard.calls (k : Nat) (A0 : Option Addr) (c0 : Nat) (l0 : List Int) (r1 : List (S44)) (r2 : List (S44)) (r3 : Bool) (w : World) (hr0 : Kd.C (Kd.int .u8) w A0 l0.length l0) (hc0 : l0.length ≤ c0) (h : spec_DrawHeard.f k l0 = some (r1, r2, r3)) :
  Calls Try.prog 76 #[.slice A0 l0.length c0] w fun e w' => ∃ v0_ v1_ : Value, e = .returned (.tuple #[v0_, .agg #[v1_, .bool r3]]) ∧ Kd.S k44 44 w' w.heap.size (fun k_ => some k_ ≠ (v1_ : Value).ownBlock) v0_ r1 ∧ Kd.S k44 44 w' w.heap.size (fun k_ => some k_ ≠ (v0_ : Value).ownBlock) v1_ r2 ∧ Below w.heap.size w w' := by
 have hu39 := Try.underlying39
 have HR0 := Aside0.mk hr0
 have HC0 := Aside0.mk hc0
 clear hr0 hc0
 have HB := Aside0.mk (Below.refl w.heap.size w)
 have H : ((spec_l1New.f k l0).bind fun bt1777 => ((spec_l5List.f k bt1777.1 bt1777.2.1 bt1777.2.2).bind fun bt1781 => ((spec_l9Any.f k bt1777.1 bt1781.2.1 bt1781.2.2).bind fun bt1786 => (some (bt1781.1, bt1786.1, bt1786.2.1))))) = some (r1, r2, r3) := h
 clear h
 replace H := Option.bind_eq_some_iff.mp H
 obtain ⟨⟨t1777, t1778, t1779⟩, A20, H⟩ := H
 have A2 := Aside0.mk A20
 clear A20
 replace H := Option.bind_eq_some_iff.mp H
 obtain ⟨⟨t1781, t1784, t1785⟩, A30, H⟩ := H
 have A3 := Aside0.mk A30
 clear A30
 replace H := Option.bind_eq_some_iff.mp H
 obtain ⟨⟨t1786, t1789, t1790, t1791⟩, A40, H⟩ := H
 have A4 := Aside0.mk A40
 clear A40
 simp only [Option.some.injEq, Prod.mk.injEq] at H
 obtain ⟨rfl, rfl, rfl⟩ := H
 go_enter Try.func76, Try.ntmps76
 go_wp2_with (first | ((with_reducible refine gate_dst (N := 3) rfl ?_); refine box_event ?hg (N := 3) ?hd (cs := #[.slice none 0 0, .bool false]) (t := 39) ?hr ?_; (case hd => rfl); (case hg => rfl); (case hr => first | (go_simp; done) | (go_simp; rfl)); intro gb1776 hg w5 hbox hb; have n0_ := Aside0.mk (below_step (by repeat (first | (with_reducible first | exact HB.out | apply ba_ | apply bn_ | apply bd_) | exact HB.out)) hb); have BK1776 := Aside0.mk (hbox); have GW1776 := Aside0.mk ((by rw [hg]; exact (below_size (by repeat (first | (with_reducible first | exact HB.out | apply ba_ | apply bn_ | apply bd_) | exact HB.out))) : w.heap.size ≤ gb1776)); have GE1776 := GW1776; clear HB; have HB := n0_; clear n0_; clear hb hbox hg) | ((with_reducible refine gate_callee (f := 131) rfl ?_); refine goesL_ (some 7) rfl rfl Try.func131 (by kernel_rfl) rfl #[.slice A0 l0.length c0] rfl (by (try simp only [mp_]); first | done | rfl | (simp only [List.length_drop, List.length_take]; rfl)) ?_; (with_reducible refine (spec_l1New.calls k _ _ l0 t1777 t1778 t1779 w _ ?side1 ?side2 ?side3 A2.out).mono ?_); (case side1 => repeat (first | (with_reducible first | exact HB.out | apply ba_ | apply bn_ | apply bd_ | refine below_set ?_ GE1776.out) | exact HB.out)); (case side2 => exact HR0.out); (case side3 => exact HC0.out); rintro e w6 ⟨g1780, rfl, hi, hb, hb2⟩; refine ⟨_, rfl, ?_⟩; have n0_ := Aside0.mk (bb_ BK1776.out hb2); have n1_ := Aside0.mk (hb); have n2_ := Aside0.mk (hi); have n3_ := Aside0.mk (IsS173.ne_blk hi (bb_ BK1776.out hb2) (by decide)); have n4_ := Aside0.mk (Ne.symm (IsS173.ne_blk hi (bb_ BK1776.out hb2) (by decide))); clear BK1776; clear HB; have BK1776 := n0_; have HB := n1_; have HI1780 := n2_; have NB1780_1776 := n3_; have NB1776_1780 := n4_; clear n0_ n1_ n2_ n3_ n4_; (try clear hb); (try clear hb2); (try clear hk); (try clear hi)) | ((with_reducible refine gate_callee (f := 132) rfl ?_); refine goesL_ (some 9) rfl rfl Try.func132 (by kernel_rfl) rfl #[.pointer (some ⟨g1780, 0, none⟩)] rfl (by (try simp only [mp_]); first | done | rfl | (simp only [List.length_drop, List.length_take]; rfl)) ?_; (with_reducible refine (spec_l5List.calls k g1780 t1777 t1778 t1779 t1781 t1784 t1785 w _ ?side1 ?side2 A3.out).mono ?_); (case side1 => repeat (first | (with_reducible first | exact HI1780.out | apply IsS173.alloc | apply IsS173.drewN | apply IsS173.drew | apply IsS173.set_1 | apply IsS173.set_2 | refine IsS173.far ?_ NB1780_1776.out _) | exact HI1780.out)); (case side2 => repeat (first | (with_reducible first | exact HB.out | apply ba_ | apply bn_ | apply bd_ | refine below_set ?_ (IsS173.ge HI1780.out) | refine below_set ?_ GE1776.out) | exact HB.out)); rintro e w7 ⟨v1782, rfl, ho0, hi, hb, hk⟩; refine ⟨_, rfl, ?_⟩; have n0_ := Aside0.mk (KeepBut.blk hk (g' := gb1776) (o := .cells #[.slice none 0 0, .bool false] 39 (0, 0)) (pb_ BK1776.out) NB1776_1780.out (by simp)); have n1_ := Aside0.mk (Kd.S_lower ho0 (below_size (by repeat (first | (with_reducible first | exact HB.out | apply ba_ | apply bn_ | apply bd_ | refine below_set ?_ (IsS173.ge HI1780.out) | refine below_set ?_ GE1776.out) | exact HB.out)))); have n2_ := Aside0.mk (hb); have n3_ := Aside0.mk (hi); clear BK1776; clear HB; clear HI1780; have BK1776 := n0_; have HO1783 := n1_; have HB := n2_; have HI1780 := n3_; clear n0_ n1_ n2_ n3_; (try clear hb); (try clear hb2); (try clear hk); (try clear hi); (try clear ho0)) | ((with_reducible refine gate_callee (f := 133) rfl ?_); refine goesL_ (some 12) rfl rfl Try.func133 (by kernel_rfl) rfl #[.pointer (some ⟨g1780, 0, none⟩)] rfl (by (try simp only [mp_]); first | done | rfl | (simp only [List.length_drop, List.length_take]; rfl)) ?_; (with_reducible refine (spec_l9Any.calls k g1780 t1777 t1784 t1785 t1786 t1789 t1790 t1791 w _ ?side1 ?side2 A4.out).mono ?_); (case side1 => repeat (first | (with_reducible first | exact HI1780.out | apply IsS173.alloc | apply IsS173.drewN | apply IsS173.drew | apply IsS173.set_1 | apply IsS173.set_2 | refine IsS173.far ?_ NB1780_1776.out _) | exact HI1780.out)); (case side2 => repeat (first | (with_reducible first | exact HB.out | apply ba_ | apply bn_ | apply bd_ | refine below_set ?_ (IsS173.ge HI1780.out) | refine below_set ?_ GE1776.out) | exact HB.out)); rintro e w8 ⟨v1787, rfl, ho0, hi, hb, hk⟩; refine ⟨_, rfl, ?_⟩; have n0_ := Aside0.mk (KeepBut.blk hk (g' := gb1776) (o := .cells #[.slice none 0 0, .bool false] 39 (0, 0)) (pb_ BK1776.out) NB1776_1780.out (by simp)); have n1_ := Aside0.mk (Kd.S_mono (Kd.S_told (Kd.S_oldK (IsS173.apartS (show IsS173 w _ g1780 t1777 t1784 t1785 from by repeat (first | (with_reducible first | exact HI1780.out | apply IsS173.alloc | apply IsS173.drewN | apply IsS173.drew | apply IsS173.set_1 | apply IsS173.set_2 | refine IsS173.far ?_ NB1780_1776.out _) | exact HI1780.out)) (sp_ HO1783.out) (by decide)) hk) (Kd.S_base ho0)) (fun _ h_ => h_.1)); have n2_ := Aside0.mk (Kd.S_lower (Kd.S_new' ho0 (Kd.S_lt (sp_ HO1783.out))) (below_size (by repeat (first | (with_reducible first | exact HB.out | apply ba_ | apply bn_ | apply bd_ | refine below_set ?_ (IsS173.ge HI1780.out) | refine below_set ?_ GE1776.out) | exact HB.out)))); have n3_ := Aside0.mk (hb); have n4_ := Aside0.mk (hi); clear BK1776; clear HO1783; clear HB; clear HI1780; have BK1776 := n0_; have HO1783 := n1_; have HO1788 := n2_; have HB := n3_; have HI1780 := n4_; clear n0_ n1_ n2_ n3_ n4_; (try clear hb); (try clear hb2); (try clear hk); (try clear hi); (try clear ho0); obtain ⟨Ao9, co9, eo9⟩ := Kd.S_slice HO1788.out; subst eo9; have hnb10 := NB1776_1780.out; have hnc10 := NB1780_1776.out; have hcz11_0 : w8.cell? ⟨gb1776, 0, none⟩ = some (.slice none 0 0) := (blk_cell BK1776.out 0).trans rfl; have hcz11_1 : w8.cell? ⟨gb1776, 1, none⟩ = some (.bool false) := (blk_cell BK1776.out 1).trans rfl; have hfz11_0 := blk_frozen BK1776.out 0; have hfz11_1 := blk_frozen BK1776.out 1))
 refine bodyPost_ret (results_tc rfl _ _ gb1776 39 #[.slice Ao9 t1786.length co9, .bool t1789] (0, 0) _ rfl (by (with_reducible repeat (first | refine kn_ ?_ _ | refine kd_ ?_ | refine ka_ ?_ _)); refine blk_put (cs := #[.slice Ao9 t1786.length co9, .bool false]) ?_ 1 _ rfl; (with_reducible repeat (first | refine kn_ ?_ _ | refine kd_ ?_ | refine ka_ ?_ _)); refine blk_put (cs := #[.slice none 0 0, .bool false]) ?_ 0 _ rfl; (with_reducible repeat (first | refine kn_ ?_ _ | refine kd_ ?_ | refine ka_ ?_ _)); exact BK1776.out) Try.underlying39 rfl (by kernel_rfl)) rfl ?_
 exact ⟨_, _, by first | rfl | (simp [errW_none, errW_some] <;> rfl) | (simp [*, errW_none, errW_some] <;> rfl), by (with_reducible repeat (first | apply Kd.S_alloc | apply Kd.S_drewN | apply Kd.S_drew)); exact Kd.S_mono (Kd.S_far (p := ⟨gb1776, 1, none⟩) (Kd.S_far (p := ⟨gb1776, 0, none⟩) (Kd.S_types HO1783.out BK1776.out (by decide)) (fun _ hk => hk.2) (.slice Ao9 t1786.length co9)) (fun _ hk => hk.2) (.bool t1789)) (fun _ hk => hk.1.2), by (with_reducible repeat (first | apply Kd.S_alloc | apply Kd.S_drewN | apply Kd.S_drew)); exact Kd.S_mono (Kd.S_far (p := ⟨gb1776, 1, none⟩) (Kd.S_far (p := ⟨gb1776, 0, none⟩) (Kd.S_types HO1788.out BK1776.out (by decide)) (fun _ hk => hk.2) (.slice Ao9 t1786.length co9)) (fun _ hk => hk.2) (.bool t1789)) (fun _ hk => hk.1.2), by repeat (first | (with_reducible first | exact HB.out | apply ba_ | apply bn_ | apply bd_ | refine below_set ?_ (IsS173.ge HI1780.out) | refine below_set ?_ GE1776.out) | exact HB.out)⟩
theorem eqA164 (d : Nat) (w : World) (x0 y0 : ByteArray) (x1 y1 : ByteArray) :
  (Op.equalIn (d + 2) 164 (.agg #[.string x0, .string x1]) (.agg #[.string y0, .string y1])).run Try.prog w = .ok (x0.toList == y0.toList && (x1.toList == y1.toList)) w := by
 refine eqA_of Try.underlying164 (by kernel_rfl) ?_
 refine eqf_cons (by rfl) (by go_simp; rfl) (by go_simp; rfl) (by go_simp) ?_
 exact eqf_last (by rfl) (by go_simp; rfl) (by go_simp; rfl) (by go_simp)
end Go.Proofs.Ytfholjcelnkleaa.Print
end
section
namespace Go.Proofs.Ytfholjcelnkleaa.Print
open Go.RowKit Go.Proofs.YtfholjcelnkleaaV.PrintWords Go.Proofs.YtfholjcelnkleaaV.PrintLast Go.Proofs.YtfholjcelnkleaaV.PrintMore
attribute [local go_sem] max2_int min2_int max_two min_two max_three min_three max_four min_four
set_option linter.unusedVariables false
set_option linter.unusedSimpArgs false

attribute [local go_sem high] eqA164
set_option maxHeartbeats 8000000
set_option maxRecDepth 100000
def impl_SameSet.l0 : Nat → List (S164) → List (S164) → Int → Int → Option (Bool)
 | 0, _, _, _, _ => none
 | k + 1, x0, x1, x12, x13 => if x13 < x12 then (if 0 ≤ x13 then (if x13 < (x0.length : Int) then (if x13 < (x1.length : Int) then (if (!((((rd_T164 x0 x13).f0).toList) == (((rd_T164 x1 x13).f0).toList)) || (!((((rd_T164 x0 x13).f1).toList) == (((rd_T164 x1 x13).f1).toList)))) = true then (some false) else (impl_SameSet.l0 k x0 x1 x12 (wrap64 (x13 + 1)))) else (none)) else (none)) else (none)) else (some true)
def impl_SameSet.f (k : Nat) (l0 : List (S164)) (l1 : List (S164)) : Option (Bool) := if (l0.length : Int) = (l1.length : Int) then (impl_SameSet.l0 k l0 l1 (l0.length : Int) 0) else (some false)
theorem impl_SameSet.mono_l : ∀ k, (∀ y0 y1 y2 y3, LeO (impl_SameSet.l0 k y0 y1 y2 y3) (impl_SameSet.l0 (k + 1) y0 y1 y2 y3))
 | 0 => fun _ _ _ _ r h => by simp [impl_SameSet.l0] at h
 | k + 1 => by
  have ih0 := impl_SameSet.mono_l k
  intro y0 y1 y2 y3
  unfold impl_SameSet.l0
  repeat' first
  | (with_reducible exact ih0 _ _ _ _)
  | (with_reducible exact LeO.refl _)
  | (with_reducible exact LeO.none _)
  | (with_reducible refine LeO.ite ?_ ?_)
  | (with_reducible refine LeO.bind ?_ (fun _ => ?_))
  | exact ih0 _ _ _ _
theorem impl_SameSet.mono : ∀ a0 a1 k, LeO (impl_SameSet.f k a0 a1) (impl_SameSet.f (k + 1) a0 a1) := by
 intro a0 a1 k
 have ih0 := impl_SameSet.mono_l k
 unfold impl_SameSet.f
 repeat' first
   | (with_reducible exact ih0 _ _ _ _)
   | (with_reducible exact LeO.refl _)
   | (with_reducible exact LeO.none _)
   | (with_reducible refine LeO.ite ?_ ?_)
   | (with_reducible refine LeO.bind ?_ (fun _ => ?_))
   | exact ih0 _ _ _ _
theorem impl_SameSet.calls (k : Nat) (A0 : Option Addr) (c0 : Nat) (l0 : List (S164)) (A1 : Option Addr) (c1 : Nat) (l1 : List (S164)) (r : Bool) (w : World) (hr0 : Kd.C k164 w A0 l0.length l0) (hc0 : l0.length ≤ c0) (hr1 : Kd.C k164 w A1 l1.length l1) (hc1 : l1.length ≤ c1) (h : impl_SameSet.f k l0 l1 = some r) :
  Calls Try.prog 139 #[.slice A0 l0.length c0, .slice A1 l1.length c1] w fun e w' => e = .returned (.bool r) ∧ Drawn0 w w' := by
 have hu164 := Try.underlying164
 have HR0 := Aside0.mk hr0
 have HC0 := Aside0.mk hc0
 clear hr0 hc0
 have HR1 := Aside0.mk hr1
 have HC1 := Aside0.mk hc1
 clear hr1 hc1
 have H : (if (l0.length : Int) = (l1.length : Int) then (impl_SameSet.l0 k l0 l1 (l0.length : Int) 0) else (some false)) = some r := h
 clear h
 by_cases c3 : (l0.length : Int) = (l1.length : Int)
 ·
  rw [if_pos c3] at H
  have c3b0 : ((l0.length : Int) == (l1.length : Int)) = true := beq_iff_eq.mpr c3
  have c3b1 : ((l0.length : Int) != (l1.length : Int)) = false := bne_eq_false_iff_eq.mpr c3
  have c3b2 : (l0.length == l1.length) = true := by first | simpa using c3 | (simp at c3 ⊢; omega)
  clear c3
  have H' := Aside0.mk H
  clear H
  go_enter Try.func139, Try.ntmps139
  go_wp2
  repeat (go_quiet (fail); try go_wp2)
  go_loopg [13] k (fun kq v13 w' => ∃ (x13_1 : Int), v13 = .int .i64 x13_1 ∧ Aside0 (impl_SameSet.l0 kq l0 l1 (l0.length : Int) x13_1 = some r) ∧ Aside0 (kq ≤ k) ∧ Drawn0 w w')
  case atStart => exact ⟨(0), (by first | rfl | (simp; done) | (simp [*]; done)), H', ⟨Nat.le_refl _⟩, by repeat (first | exact Drawn0.refl _ | apply Drawn0.step)⟩
  case round =>
   clear H'
   try clear c1
   try clear p2
   try clear c3
   try clear c3b0
   try clear c3b1
   try clear c3b2
   obtain ⟨x13_1, rfl, HA, HK1, ⟨m1, rfl⟩⟩ := hrel
   cases gk with
   | zero => exact absurd HA.out (by simp [impl_SameSet.l0])
   | succ k1 =>
    have H := HA.out
    clear HA
    simp only [impl_SameSet.l0] at H
    by_cases c4 : x13_1 < (l0.length : Int)
    ·
     rw [if_pos c4] at H
     have c4b0 := decide_eq_true c4
     clear c4
     by_cases c5 : 0 ≤ x13_1
     ·
      rw [if_pos c5] at H
      have c5b0 := decide_eq_true c5
      clear c5
      by_cases c6 : x13_1 < (l0.length : Int)
      ·
       rw [if_pos c6] at H
       have c6b0 := decide_eq_true c6
       clear c6
       by_cases c7 : x13_1 < (l1.length : Int)
       ·
        rw [if_pos c7] at H
        have c7b0 := decide_eq_true c7
        clear c7
        by_cases c8 : (!((((rd_T164 l0 x13_1).f0).toList) == (((rd_T164 l1 x13_1).f0).toList)) || (!((((rd_T164 l0 x13_1).f1).toList) == (((rd_T164 l1 x13_1).f1).toList)))) = true
        ·
         rw [if_pos c8] at H
         have c8b0 : (!((((rd_T164 l0 x13_1).f0).toList) == (((rd_T164 l1 x13_1).f0).toList)) || (!((((rd_T164 l0 x13_1).f1).toList) == (((rd_T164 l1 x13_1).f1).toList)))) = true := c8
         clear c8
         obtain rfl := Option.some.inj H
         have p812 : 0 ≤ (x13_1 : Int) := of_decide_eq_true (by with_reducible assumption)
         have q812 : x13_1 < (l0.length : Int) := of_decide_eq_true (by with_reducible assumption)
         obtain ⟨ad812, e812, hx812_0, hx812_1⟩ := at_T164 HR0.out x13_1 p812 q812
         cases e812
         replace p812 := eq_true p812
         replace q812 := eq_true q812
         have p813 : 0 ≤ (x13_1 : Int) := of_decide_eq_true (by with_reducible assumption)
         have q813 : x13_1 < (l1.length : Int) := of_decide_eq_true (by with_reducible assumption)
         obtain ⟨ad813, e813, hx813_0, hx813_1⟩ := at_T164 HR1.out x13_1 p813 q813
         cases e813
         replace p813 := eq_true p813
         replace q813 := eq_true q813
         go_wp2
         repeat (go_quiet (fail); try go_wp2)
         go_ret
         exact ⟨by first | rfl | (simp; done) | (simp [*]; done), by repeat (first | exact Drawn0.refl _ | apply Drawn0.step)⟩
        rw [if_neg c8] at H
        have c8b0 : (!((((rd_T164 l0 x13_1).f0).toList) == (((rd_T164 l1 x13_1).f0).toList)) || (!((((rd_T164 l0 x13_1).f1).toList) == (((rd_T164 l1 x13_1).f1).toList)))) = false := by simpa using c8
        clear c8
        have H' := Aside0.mk H
        clear H
        have p812 : 0 ≤ (x13_1 : Int) := of_decide_eq_true (by with_reducible assumption)
        have q812 : x13_1 < (l0.length : Int) := of_decide_eq_true (by with_reducible assumption)
        obtain ⟨ad812, e812, hx812_0, hx812_1⟩ := at_T164 HR0.out x13_1 p812 q812
        cases e812
        replace p812 := eq_true p812
        replace q812 := eq_true q812
        have p813 : 0 ≤ (x13_1 : Int) := of_decide_eq_true (by with_reducible assumption)
        have q813 : x13_1 < (l1.length : Int) := of_decide_eq_true (by with_reducible assumption)
        obtain ⟨ad813, e813, hx813_0, hx813_1⟩ := at_T164 HR1.out x13_1 p813 q813
        cases e813
        replace p813 := eq_true p813
        replace q813 := eq_true q813
        go_wp2
        repeat (go_quiet (fail); try go_wp2)
        go_roundg k1
        case measure => have := HK1.out; omega
        case rel => exact ⟨(wrap64 (x13_1 + 1)), (by first | rfl | (simp; done) | (simp [*]; done)), H', ⟨by have := HK1.out; omega⟩, by repeat (first | exact Drawn0.refl _ | apply Drawn0.step)⟩
       rw [if_neg c7] at H
       exact absurd H (by simp)
      rw [if_neg c6] at H
      exact absurd H (by simp)
     rw [if_neg c5] at H
     exact absurd H (by simp)
    rw [if_neg c4] at H
    have c4b0 : decide (x13_1 < (l0.length : Int)) = false := decide_eq_false c4
    clear c4
    obtain rfl := Option.some.inj H
    go_wp2
    repeat (go_quiet (fail); try go_wp2)
    go_ret
    exact ⟨by first | rfl | (simp; done) | (simp [*]; done), by repeat (first | exact Drawn0.refl _ | apply Drawn0.step)⟩
 rw [if_neg c3] at H
 have c3b0 : ((l0.length : Int) == (l1.length : Int)) = false := beq_eq_false_iff_ne.mpr c3
 have c3b1 : ((l0.length : Int) != (l1.length : Int)) = true := bne_iff_ne.mpr c3
 have c3b2 : (l0.length == l1.length) = false := by first | simpa using c3 | (simp at c3 ⊢; omega)
 obtain rfl := Option.some.inj H
 go_enter Try.func139, Try.ntmps139
 go_wp2
 repeat (go_quiet (fail); try go_wp2)
 go_ret
 exact ⟨by first | rfl | (simp; done) | (simp [*]; done), by repeat (first | exact Drawn0.refl _ | apply Drawn0.step)⟩
end Go.Proofs.Ytfholjcelnkleaa.Print
end
section
namespace Go.Proofs.Ytfholjcelnkleaa.Print
open Go.RowKit Go.Proofs.YtfholjcelnkleaaV.PrintWords Go.Proofs.YtfholjcelnkleaaV.PrintLast Go.Proofs.YtfholjcelnkleaaV.PrintMore
attribute [local go_sem] max2_int min2_int max_two min_two max_three min_three max_four min_four
set_option linter.unusedVariables false
set_option linter.unusedSimpArgs false
set_option maxHeartbeats 8000000
set_option maxRecDepth 100000
def impl_SameAlarm.f (k : Nat) (l0_0 : List (S164)) (a0_1 : Int) (a0_2 : Int) (a0_3 : ByteArray) (l1_0 : List (S164)) (a1_1 : Int) (a1_2 : Int) (a1_3 : ByteArray) : Option (Bool) := (impl_SameSet.f k l0_0 l1_0).bind fun t1285 => (if t1285 = true then (if a0_1 = a1_1 then (if a0_2 = a1_2 then (some (a0_3.toList == a1_3.toList)) else (some false)) else (some false)) else (some false))
theorem impl_SameAlarm.mono : ∀ a0 a1 a2 a3 a4 a5 a6 a7 k, LeO (impl_SameAlarm.f k a0 a1 a2 a3 a4 a5 a6 a7) (impl_SameAlarm.f (k + 1) a0 a1 a2 a3 a4 a5 a6 a7) := by
 intro a0 a1 a2 a3 a4 a5 a6 a7 k
 unfold impl_SameAlarm.f
 repeat' first
   | (with_reducible exact impl_SameSet.mono _ _ _)
   | (with_reducible exact LeO.refl _)
   | (with_reducible exact LeO.none _)
   | (with_reducible refine LeO.ite ?_ ?_)
   | (with_reducible refine LeO.bind ?_ (fun _ => ?_))
   | exact impl_SameSet.mono _ _ _
theorem impl_SameAlarm.calls (k : Nat) (A0_0 : Option Addr) (c0_0 : Nat) (l0_0 : List (S164)) (a0_1 : Int) (a0_2 : Int) (a0_3 : ByteArray) (A1_0 : Option Addr) (c1_0 : Nat) (l1_0 : List (S164)) (a1_1 : Int) (a1_2 : Int) (a1_3 : ByteArray) (r : Bool) (w : World) (hr0_0 : Kd.C k164 w A0_0 l0_0.length l0_0) (hc0_0 : l0_0.length ≤ c0_0) (hr1_0 : Kd.C k164 w A1_0 l1_0.length l1_0) (hc1_0 : l1_0.length ≤ c1_0) (h : impl_SameAlarm.f k l0_0 a0_1 a0_2 a0_3 l1_0 a1_1 a1_2 a1_3 = some r) :
  Calls Try.prog 85 #[.agg #[.slice A0_0 l0_0.length c0_0, .int .i64 a0_1, .int .i64 a0_2, .string a0_3], .agg #[.slice A1_0 l1_0.length c1_0, .int .i64 a1_1, .int .i64 a1_2, .string a1_3]] w fun e w' => e = .returned (.bool r) ∧ Below w.heap.size w w' := by
 have hu44 := Try.underlying44
 have HR0_0 := Aside0.mk hr0_0
 have HC0_0 := Aside0.mk hc0_0
 clear hr0_0 hc0_0
 have HR1_0 := Aside0.mk hr1_0
 have HC1_0 := Aside0.mk hc1_0
 clear hr1_0 hc1_0
 have HB := Aside0.mk (Below.refl w.heap.size w)
 have H : ((impl_SameSet.f k l0_0 l1_0).bind fun t1285 => (if t1285 = true then (if a0_1 = a1_1 then (if a0_2 = a1_2 then (some (a0_3.toList == a1_3.toList)) else (some false)) else (some false)) else (some false))) = some r := h
 clear h
 replace H := Option.bind_eq_some_iff.mp H
 obtain ⟨t1285, A30, H⟩ := H
 have A3 := Aside0.mk A30
 clear A30
 by_cases c4 : t1285 = true
 ·
  subst c4
  rw [if_pos rfl] at H
  by_cases c5 : a0_1 = a1_1
  ·
   rw [if_pos c5] at H
   have c5b0 : (a0_1 == a1_1) = true := beq_iff_eq.mpr c5
   have c5b1 : (a0_1 != a1_1) = false := bne_eq_false_iff_eq.mpr c5
   clear c5
   by_cases c6 : a0_2 = a1_2
   ·
    rw [if_pos c6] at H
    have c6b0 : (a0_2 == a1_2) = true := beq_iff_eq.mpr c6
    have c6b1 : (a0_2 != a1_2) = false := bne_eq_false_iff_eq.mpr c6
    clear c6
    obtain rfl := Option.some.inj H
    go_enter Try.func85, Try.ntmps85
    go_wp2_with (first | ((with_reducible refine gate_dst (N := 2) rfl ?_); refine box_event ?hg (N := 2) ?hd (cs := #[.slice A0_0 l0_0.length c0_0, .int .i64 a0_1, .int .i64 a0_2, .string a0_3]) (t := 44) ?hr ?_; (case hd => rfl); (case hg => rfl); (case hr => first | (go_simp; done) | (go_simp; rfl)); intro gb1283 hg w7 hbox hb; have n0_ := Aside0.mk (below_step (by repeat (first | (with_reducible first | exact HB.out | apply ba_ | apply bn_ | apply bd_) | exact HB.out)) hb); have BK1283 := Aside0.mk (hbox); have GW1283 := Aside0.mk ((by rw [hg]; exact (below_size (by repeat (first | (with_reducible first | exact HB.out | apply ba_ | apply bn_ | apply bd_) | exact HB.out))) : w.heap.size ≤ gb1283)); have GE1283 := GW1283; clear HB; have HB := n0_; clear n0_; clear hb hbox hg) | ((with_reducible refine gate_dst (N := 3) rfl ?_); refine box_event ?hg (N := 3) ?hd (cs := #[.slice A1_0 l1_0.length c1_0, .int .i64 a1_1, .int .i64 a1_2, .string a1_3]) (t := 44) ?hr ?_; (case hd => rfl); (case hg => rfl); (case hr => first | (go_simp; done) | (go_simp; rfl)); intro gb1284 hg w8 hbox hb; have n0_ := Aside0.mk (bb_ BK1283.out hb); have n1_ := Aside0.mk (below_step (by repeat (first | (with_reducible first | exact HB.out | apply ba_ | apply bn_ | apply bd_ | refine below_set ?_ GE1283.out) | exact HB.out)) hb); have n2_ := Aside0.mk (hbox); have n3_ := Aside0.mk ((by rw [hg]; exact (below_size (by repeat (first | (with_reducible first | exact HB.out | apply ba_ | apply bn_ | apply bd_ | refine below_set ?_ GE1283.out) | exact HB.out))) : w.heap.size ≤ gb1284)); have n4_ := n3_; have n5_ := Aside0.mk (nl_ BK1283.out hg); have n6_ := Aside0.mk (ng_ BK1283.out hg); clear BK1283; clear HB; have BK1283 := n0_; have HB := n1_; have BK1284 := n2_; have GW1284 := n3_; have GE1284 := n4_; have NB1283_1284 := n5_; have NB1284_1283 := n6_; clear n0_ n1_ n2_ n3_ n4_ n5_ n6_; clear hb hbox hg; have hnb9 := NB1283_1284.out; have hnc9 := NB1284_1283.out; have hcz10_0 : w8.cell? ⟨gb1283, 0, none⟩ = some (.slice A0_0 l0_0.length c0_0) := (blk_cell BK1283.out 0).trans rfl; have hcz10_1 : w8.cell? ⟨gb1283, 1, none⟩ = some (.int .i64 a0_1) := (blk_cell BK1283.out 1).trans rfl; have hcz10_2 : w8.cell? ⟨gb1283, 2, none⟩ = some (.int .i64 a0_2) := (blk_cell BK1283.out 2).trans rfl; have hcz10_3 : w8.cell? ⟨gb1283, 3, none⟩ = some (.string a0_3) := (blk_cell BK1283.out 3).trans rfl; have hfz10_0 := blk_frozen BK1283.out 0; have hfz10_1 := blk_frozen BK1283.out 1; have hfz10_2 := blk_frozen BK1283.out 2; have hfz10_3 := blk_frozen BK1283.out 3; have hcz11_0 : w8.cell? ⟨gb1284, 0, none⟩ = some (.slice A1_0 l1_0.length c1_0) := (blk_cell BK1284.out 0).trans rfl; have hcz11_1 : w8.cell? ⟨gb1284, 1, none⟩ = some (.int .i64 a1_1) := (blk_cell BK1284.out 1).trans rfl; have hcz11_2 : w8.cell? ⟨gb1284, 2, none⟩ = some (.int .i64 a1_2) := (blk_cell BK1284.out 2).trans rfl; have hcz11_3 : w8.cell? ⟨gb1284, 3, none⟩ = some (.string a1_3) := (blk_cell BK1284.out 3).trans rfl; have hfz11_0 := blk_frozen BK1284.out 0; have hfz11_1 := blk_frozen BK1284.out 1; have hfz11_2 := blk_frozen BK1284.out 2; have hfz11_3 := blk_frozen BK1284.out 3) | ((with_reducible refine gate_callee (f := 139) rfl ?_); refine goesL_ (some 9) rfl rfl Try.func139 (by kernel_rfl) rfl #[.slice A0_0 l0_0.length c0_0, .slice A1_0 l1_0.length c1_0] rfl (by (try simp only [mp_]); first | done | rfl | (simp only [List.length_drop, List.length_take]; rfl)) ?_; (with_reducible refine (impl_SameSet.calls k _ _ l0_0 _ _ l1_0 true _ ?side1 ?side2 ?side3 ?side4 A3.out).mono ?_); (case side1 => repeat (first | exact (Kd.C_below HR0_0.out HB.out) | (with_reducible first | refine ca_ ?_ _ | refine cn_ ?_ _ | refine cd_ ?_))); (case side2 => exact HC0_0.out); (case side3 => repeat (first | exact (Kd.C_below HR1_0.out HB.out) | (with_reducible first | refine ca_ ?_ _ | refine cn_ ?_ _ | refine cd_ ?_))); (case side4 => exact HC1_0.out); rintro e w' ⟨rfl, ⟨nd, rfl⟩⟩; refine ⟨_, rfl, ?_⟩))
    go_ret
    exact ⟨by first | rfl | (simp [errW_none, errW_some] <;> rfl) | (simp [*, errW_none, errW_some] <;> rfl), by repeat (first | (with_reducible first | exact HB.out | apply ba_ | apply bn_ | apply bd_ | refine below_set ?_ GE1283.out | refine below_set ?_ GE1284.out) | exact HB.out)⟩
   rw [if_neg c6] at H
   have c6b0 : (a0_2 == a1_2) = false := beq_eq_false_iff_ne.mpr c6
   have c6b1 : (a0_2 != a1_2) = true := bne_iff_ne.mpr c6
   obtain rfl := Option.some.inj H
   go_enter Try.func85, Try.ntmps85
   go_wp2_with (first | ((with_reducible refine gate_dst (N := 2) rfl ?_); refine box_event ?hg (N := 2) ?hd (cs := #[.slice A0_0 l0_0.length c0_0, .int .i64 a0_1, .int .i64 a0_2, .string a0_3]) (t := 44) ?hr ?_; (case hd => rfl); (case hg => rfl); (case hr => first | (go_simp; done) | (go_simp; rfl)); intro gb1283 hg w12 hbox hb; have n0_ := Aside0.mk (below_step (by repeat (first | (with_reducible first | exact HB.out | apply ba_ | apply bn_ | apply bd_) | exact HB.out)) hb); have BK1283 := Aside0.mk (hbox); have GW1283 := Aside0.mk ((by rw [hg]; exact (below_size (by repeat (first | (with_reducible first | exact HB.out | apply ba_ | apply bn_ | apply bd_) | exact HB.out))) : w.heap.size ≤ gb1283)); have GE1283 := GW1283; clear HB; have HB := n0_; clear n0_; clear hb hbox hg) | ((with_reducible refine gate_dst (N := 3) rfl ?_); refine box_event ?hg (N := 3) ?hd (cs := #[.slice A1_0 l1_0.length c1_0, .int .i64 a1_1, .int .i64 a1_2, .string a1_3]) (t := 44) ?hr ?_; (case hd => rfl); (case hg => rfl); (case hr => first | (go_simp; done) | (go_simp; rfl)); intro gb1284 hg w13 hbox hb; have n0_ := Aside0.mk (bb_ BK1283.out hb); have n1_ := Aside0.mk (below_step (by repeat (first | (with_reducible first | exact HB.out | apply ba_ | apply bn_ | apply bd_ | refine below_set ?_ GE1283.out) | exact HB.out)) hb); have n2_ := Aside0.mk (hbox); have n3_ := Aside0.mk ((by rw [hg]; exact (below_size (by repeat (first | (with_reducible first | exact HB.out | apply ba_ | apply bn_ | apply bd_ | refine below_set ?_ GE1283.out) | exact HB.out))) : w.heap.size ≤ gb1284)); have n4_ := n3_; have n5_ := Aside0.mk (nl_ BK1283.out hg); have n6_ := Aside0.mk (ng_ BK1283.out hg); clear BK1283; clear HB; have BK1283 := n0_; have HB := n1_; have BK1284 := n2_; have GW1284 := n3_; have GE1284 := n4_; have NB1283_1284 := n5_; have NB1284_1283 := n6_; clear n0_ n1_ n2_ n3_ n4_ n5_ n6_; clear hb hbox hg; have hnb14 := NB1283_1284.out; have hnc14 := NB1284_1283.out; have hcz15_0 : w13.cell? ⟨gb1283, 0, none⟩ = some (.slice A0_0 l0_0.length c0_0) := (blk_cell BK1283.out 0).trans rfl; have hcz15_1 : w13.cell? ⟨gb1283, 1, none⟩ = some (.int .i64 a0_1) := (blk_cell BK1283.out 1).trans rfl; have hcz15_2 : w13.cell? ⟨gb1283, 2, none⟩ = some (.int .i64 a0_2) := (blk_cell BK1283.out 2).trans rfl; have hcz15_3 : w13.cell? ⟨gb1283, 3, none⟩ = some (.string a0_3) := (blk_cell BK1283.out 3).trans rfl; have hfz15_0 := blk_frozen BK1283.out 0; have hfz15_1 := blk_frozen BK1283.out 1; have hfz15_2 := blk_frozen BK1283.out 2; have hfz15_3 := blk_frozen BK1283.out 3; have hcz16_0 : w13.cell? ⟨gb1284, 0, none⟩ = some (.slice A1_0 l1_0.length c1_0) := (blk_cell BK1284.out 0).trans rfl; have hcz16_1 : w13.cell? ⟨gb1284, 1, none⟩ = some (.int .i64 a1_1) := (blk_cell BK1284.out 1).trans rfl; have hcz16_2 : w13.cell? ⟨gb1284, 2, none⟩ = some (.int .i64 a1_2) := (blk_cell BK1284.out 2).trans rfl; have hcz16_3 : w13.cell? ⟨gb1284, 3, none⟩ = some (.string a1_3) := (blk_cell BK1284.out 3).trans rfl; have hfz16_0 := blk_frozen BK1284.out 0; have hfz16_1 := blk_frozen BK1284.out 1; have hfz16_2 := blk_frozen BK1284.out 2; have hfz16_3 := blk_frozen BK1284.out 3) | ((with_reducible refine gate_callee (f := 139) rfl ?_); refine goesL_ (some 9) rfl rfl Try.func139 (by kernel_rfl) rfl #[.slice A0_0 l0_0.length c0_0, .slice A1_0 l1_0.length c1_0] rfl (by (try simp only [mp_]); first | done | rfl | (simp only [List.length_drop, List.length_take]; rfl)) ?_; (with_reducible refine (impl_SameSet.calls k _ _ l0_0 _ _ l1_0 true _ ?side1 ?side2 ?side3 ?side4 A3.out).mono ?_); (case side1 => repeat (first | exact (Kd.C_below HR0_0.out HB.out) | (with_reducible first | refine ca_ ?_ _ | refine cn_ ?_ _ | refine cd_ ?_))); (case side2 => exact HC0_0.out); (case side3 => repeat (first | exact (Kd.C_below HR1_0.out HB.out) | (with_reducible first | refine ca_ ?_ _ | refine cn_ ?_ _ | refine cd_ ?_))); (case side4 => exact HC1_0.out); rintro e w' ⟨rfl, ⟨nd, rfl⟩⟩; refine ⟨_, rfl, ?_⟩))
   go_ret
   exact ⟨by first | rfl | (simp [errW_none, errW_some] <;> rfl) | (simp [*, errW_none, errW_some] <;> rfl), by repeat (first | (with_reducible first | exact HB.out | apply ba_ | apply bn_ | apply bd_ | refine below_set ?_ GE1283.out | refine below_set ?_ GE1284.out) | exact HB.out)⟩
  rw [if_neg c5] at H
  have c5b0 : (a0_1 == a1_1) = false := beq_eq_false_iff_ne.mpr c5
  have c5b1 : (a0_1 != a1_1) = true := bne_iff_ne.mpr c5
  obtain rfl := Option.some.inj H
  go_enter Try.func85, Try.ntmps85
  go_wp2_with (first | ((with_reducible refine gate_dst (N := 2) rfl ?_); refine box_event ?hg (N := 2) ?hd (cs := #[.slice A0_0 l0_0.length c0_0, .int .i64 a0_1, .int .i64 a0_2, .string a0_3]) (t := 44) ?hr ?_; (case hd => rfl); (case hg => rfl); (case hr => first | (go_simp; done) | (go_simp; rfl)); intro gb1283 hg w17 hbox hb; have n0_ := Aside0.mk (below_step (by repeat (first | (with_reducible first | exact HB.out | apply ba_ | apply bn_ | apply bd_) | exact HB.out)) hb); have BK1283 := Aside0.mk (hbox); have GW1283 := Aside0.mk ((by rw [hg]; exact (below_size (by repeat (first | (with_reducible first | exact HB.out | apply ba_ | apply bn_ | apply bd_) | exact HB.out))) : w.heap.size ≤ gb1283)); have GE1283 := GW1283; clear HB; have HB := n0_; clear n0_; clear hb hbox hg) | ((with_reducible refine gate_dst (N := 3) rfl ?_); refine box_event ?hg (N := 3) ?hd (cs := #[.slice A1_0 l1_0.length c1_0, .int .i64 a1_1, .int .i64 a1_2, .string a1_3]) (t := 44) ?hr ?_; (case hd => rfl); (case hg => rfl); (case hr => first | (go_simp; done) | (go_simp; rfl)); intro gb1284 hg w18 hbox hb; have n0_ := Aside0.mk (bb_ BK1283.out hb); have n1_ := Aside0.mk (below_step (by repeat (first | (with_reducible first | exact HB.out | apply ba_ | apply bn_ | apply bd_ | refine below_set ?_ GE1283.out) | exact HB.out)) hb); have n2_ := Aside0.mk (hbox); have n3_ := Aside0.mk ((by rw [hg]; exact (below_size (by repeat (first | (with_reducible first | exact HB.out | apply ba_ | apply bn_ | apply bd_ | refine below_set ?_ GE1283.out) | exact HB.out))) : w.heap.size ≤ gb1284)); have n4_ := n3_; have n5_ := Aside0.mk (nl_ BK1283.out hg); have n6_ := Aside0.mk (ng_ BK1283.out hg); clear BK1283; clear HB; have BK1283 := n0_; have HB := n1_; have BK1284 := n2_; have GW1284 := n3_; have GE1284 := n4_; have NB1283_1284 := n5_; have NB1284_1283 := n6_; clear n0_ n1_ n2_ n3_ n4_ n5_ n6_; clear hb hbox hg; have hnb19 := NB1283_1284.out; have hnc19 := NB1284_1283.out; have hcz20_0 : w18.cell? ⟨gb1283, 0, none⟩ = some (.slice A0_0 l0_0.length c0_0) := (blk_cell BK1283.out 0).trans rfl; have hcz20_1 : w18.cell? ⟨gb1283, 1, none⟩ = some (.int .i64 a0_1) := (blk_cell BK1283.out 1).trans rfl; have hcz20_2 : w18.cell? ⟨gb1283, 2, none⟩ = some (.int .i64 a0_2) := (blk_cell BK1283.out 2).trans rfl; have hcz20_3 : w18.cell? ⟨gb1283, 3, none⟩ = some (.string a0_3) := (blk_cell BK1283.out 3).trans rfl; have hfz20_0 := blk_frozen BK1283.out 0; have hfz20_1 := blk_frozen BK1283.out 1; have hfz20_2 := blk_frozen BK1283.out 2; have hfz20_3 := blk_frozen BK1283.out 3; have hcz21_0 : w18.cell? ⟨gb1284, 0, none⟩ = some (.slice A1_0 l1_0.length c1_0) := (blk_cell BK1284.out 0).trans rfl; have hcz21_1 : w18.cell? ⟨gb1284, 1, none⟩ = some (.int .i64 a1_1) := (blk_cell BK1284.out 1).trans rfl; have hcz21_2 : w18.cell? ⟨gb1284, 2, none⟩ = some (.int .i64 a1_2) := (blk_cell BK1284.out 2).trans rfl; have hcz21_3 : w18.cell? ⟨gb1284, 3, none⟩ = some (.string a1_3) := (blk_cell BK1284.out 3).trans rfl; have hfz21_0 := blk_frozen BK1284.out 0; have hfz21_1 := blk_frozen BK1284.out 1; have hfz21_2 := blk_frozen BK1284.out 2; have hfz21_3 := blk_frozen BK1284.out 3) | ((with_reducible refine gate_callee (f := 139) rfl ?_); refine goesL_ (some 9) rfl rfl Try.func139 (by kernel_rfl) rfl #[.slice A0_0 l0_0.length c0_0, .slice A1_0 l1_0.length c1_0] rfl (by (try simp only [mp_]); first | done | rfl | (simp only [List.length_drop, List.length_take]; rfl)) ?_; (with_reducible refine (impl_SameSet.calls k _ _ l0_0 _ _ l1_0 true _ ?side1 ?side2 ?side3 ?side4 A3.out).mono ?_); (case side1 => repeat (first | exact (Kd.C_below HR0_0.out HB.out) | (with_reducible first | refine ca_ ?_ _ | refine cn_ ?_ _ | refine cd_ ?_))); (case side2 => exact HC0_0.out); (case side3 => repeat (first | exact (Kd.C_below HR1_0.out HB.out) | (with_reducible first | refine ca_ ?_ _ | refine cn_ ?_ _ | refine cd_ ?_))); (case side4 => exact HC1_0.out); rintro e w' ⟨rfl, ⟨nd, rfl⟩⟩; refine ⟨_, rfl, ?_⟩))
  go_ret
  exact ⟨by first | rfl | (simp [errW_none, errW_some] <;> rfl) | (simp [*, errW_none, errW_some] <;> rfl), by repeat (first | (with_reducible first | exact HB.out | apply ba_ | apply bn_ | apply bd_ | refine below_set ?_ GE1283.out | refine below_set ?_ GE1284.out) | exact HB.out)⟩
 replace c4 := Bool.eq_false_iff.mpr c4
 subst c4
 rw [if_neg (show ¬ (false = true) by decide)] at H
 obtain rfl := Option.some.inj H
 go_enter Try.func85, Try.ntmps85
 go_wp2_with (first | ((with_reducible refine gate_dst (N := 2) rfl ?_); refine box_event ?hg (N := 2) ?hd (cs := #[.slice A0_0 l0_0.length c0_0, .int .i64 a0_1, .int .i64 a0_2, .string a0_3]) (t := 44) ?hr ?_; (case hd => rfl); (case hg => rfl); (case hr => first | (go_simp; done) | (go_simp; rfl)); intro gb1283 hg w22 hbox hb; have n0_ := Aside0.mk (below_step (by repeat (first | (with_reducible first | exact HB.out | apply ba_ | apply bn_ | apply bd_) | exact HB.out)) hb); have BK1283 := Aside0.mk (hbox); have GW1283 := Aside0.mk ((by rw [hg]; exact (below_size (by repeat (first | (with_reducible first | exact HB.out | apply ba_ | apply bn_ | apply bd_) | exact HB.out))) : w.heap.size ≤ gb1283)); have GE1283 := GW1283; clear HB; have HB := n0_; clear n0_; clear hb hbox hg) | ((with_reducible refine gate_dst (N := 3) rfl ?_); refine box_event ?hg (N := 3) ?hd (cs := #[.slice A1_0 l1_0.length c1_0, .int .i64 a1_1, .int .i64 a1_2, .string a1_3]) (t := 44) ?hr ?_; (case hd => rfl); (case hg => rfl); (case hr => first | (go_simp; done) | (go_simp; rfl)); intro gb1284 hg w23 hbox hb; have n0_ := Aside0.mk (bb_ BK1283.out hb); have n1_ := Aside0.mk (below_step (by repeat (first | (with_reducible first | exact HB.out | apply ba_ | apply bn_ | apply bd_ | refine below_set ?_ GE1283.out) | exact HB.out)) hb); have n2_ := Aside0.mk (hbox); have n3_ := Aside0.mk ((by rw [hg]; exact (below_size (by repeat (first | (with_reducible first | exact HB.out | apply ba_ | apply bn_ | apply bd_ | refine below_set ?_ GE1283.out) | exact HB.out))) : w.heap.size ≤ gb1284)); have n4_ := n3_; have n5_ := Aside0.mk (nl_ BK1283.out hg); have n6_ := Aside0.mk (ng_ BK1283.out hg); clear BK1283; clear HB; have BK1283 := n0_; have HB := n1_; have BK1284 := n2_; have GW1284 := n3_; have GE1284 := n4_; have NB1283_1284 := n5_; have NB1284_1283 := n6_; clear n0_ n1_ n2_ n3_ n4_ n5_ n6_; clear hb hbox hg; have hnb24 := NB1283_1284.out; have hnc24 := NB1284_1283.out; have hcz25_0 : w23.cell? ⟨gb1283, 0, none⟩ = some (.slice A0_0 l0_0.length c0_0) := (blk_cell BK1283.out 0).trans rfl; have hcz25_1 : w23.cell? ⟨gb1283, 1, none⟩ = some (.int .i64 a0_1) := (blk_cell BK1283.out 1).trans rfl; have hcz25_2 : w23.cell? ⟨gb1283, 2, none⟩ = some (.int .i64 a0_2) := (blk_cell BK1283.out 2).trans rfl; have hcz25_3 : w23.cell? ⟨gb1283, 3, none⟩ = some (.string a0_3) := (blk_cell BK1283.out 3).trans rfl; have hfz25_0 := blk_frozen BK1283.out 0; have hfz25_1 := blk_frozen BK1283.out 1; have hfz25_2 := blk_frozen BK1283.out 2; have hfz25_3 := blk_frozen BK1283.out 3; have hcz26_0 : w23.cell? ⟨gb1284, 0, none⟩ = some (.slice A1_0 l1_0.length c1_0) := (blk_cell BK1284.out 0).trans rfl; have hcz26_1 : w23.cell? ⟨gb1284, 1, none⟩ = some (.int .i64 a1_1) := (blk_cell BK1284.out 1).trans rfl; have hcz26_2 : w23.cell? ⟨gb1284, 2, none⟩ = some (.int .i64 a1_2) := (blk_cell BK1284.out 2).trans rfl; have hcz26_3 : w23.cell? ⟨gb1284, 3, none⟩ = some (.string a1_3) := (blk_cell BK1284.out 3).trans rfl; have hfz26_0 := blk_frozen BK1284.out 0; have hfz26_1 := blk_frozen BK1284.out 1; have hfz26_2 := blk_frozen BK1284.out 2; have hfz26_3 := blk_frozen BK1284.out 3) | ((with_reducible refine gate_callee (f := 139) rfl ?_); refine goesL_ (some 9) rfl rfl Try.func139 (by kernel_rfl) rfl #[.slice A0_0 l0_0.length c0_0, .slice A1_0 l1_0.length c1_0] rfl (by (try simp only [mp_]); first | done | rfl | (simp only [List.length_drop, List.length_take]; rfl)) ?_; (with_reducible refine (impl_SameSet.calls k _ _ l0_0 _ _ l1_0 false _ ?side1 ?side2 ?side3 ?side4 A3.out).mono ?_); (case side1 => repeat (first | exact (Kd.C_below HR0_0.out HB.out) | (with_reducible first | refine ca_ ?_ _ | refine cn_ ?_ _ | refine cd_ ?_))); (case side2 => exact HC0_0.out); (case side3 => repeat (first | exact (Kd.C_below HR1_0.out HB.out) | (with_reducible first | refine ca_ ?_ _ | refine cn_ ?_ _ | refine cd_ ?_))); (case side4 => exact HC1_0.out); rintro e w' ⟨rfl, ⟨nd, rfl⟩⟩; refine ⟨_, rfl, ?_⟩))
 go_ret
 exact ⟨by first | rfl | (simp [errW_none, errW_some] <;> rfl) | (simp [*, errW_none, errW_some] <;> rfl), by repeat (first | (with_reducible first | exact HB.out | apply ba_ | apply bn_ | apply bd_ | refine below_set ?_ GE1283.out | refine below_set ?_ GE1284.out) | exact HB.out)⟩
def laws_sameList.l0 : Nat → List (S44) → List (S44) → Int → Option (Bool)
 | 0, _, _, _ => none
 | k + 1, x0, x1, x5 => if x5 < (x0.length : Int) then (if 0 ≤ x5 then (if x5 < (x1.length : Int) then ((impl_SameAlarm.f k ((rd_T44 x0 x5).f0) ((rd_T44 x0 x5).f1) ((rd_T44 x0 x5).f2) ((rd_T44 x0 x5).f3) ((rd_T44 x1 x5).f0) ((rd_T44 x1 x5).f1) ((rd_T44 x1 x5).f2) ((rd_T44 x1 x5).f3)).bind fun t1794 => (if t1794 = true then (laws_sameList.l0 k x0 x1 (wrap64 (x5 + 1))) else (some false))) else (none)) else (none)) else (some true)
def laws_sameList.f (k : Nat) (l0 : List (S44)) (l1 : List (S44)) : Option (Bool) := if (l0.length : Int) = (l1.length : Int) then (laws_sameList.l0 k l0 l1 0) else (some false)
theorem laws_sameList.mono_l : ∀ k, (∀ y0 y1 y2, LeO (laws_sameList.l0 k y0 y1 y2) (laws_sameList.l0 (k + 1) y0 y1 y2))
 | 0 => fun _ _ _ r h => by simp [laws_sameList.l0] at h
 | k + 1 => by
  have ih0 := laws_sameList.mono_l k
  intro y0 y1 y2
  unfold laws_sameList.l0
  repeat' first
  | (with_reducible exact ih0 _ _ _)
  | (with_reducible exact impl_SameAlarm.mono _ _ _ _ _ _ _ _ _)
  | (with_reducible exact LeO.refl _)
  | (with_reducible exact LeO.none _)
  | (with_reducible refine LeO.ite ?_ ?_)
  | (with_reducible refine LeO.bind ?_ (fun _ => ?_))
  | exact ih0 _ _ _
  | exact impl_SameAlarm.mono _ _ _ _ _ _ _ _ _
theorem laws_sameList.mono : ∀ a0 a1 k, LeO (laws_sameList.f k a0 a1) (laws_sameList.f (k + 1) a0 a1) := by
 intro a0 a1 k
 have ih0 := laws_sameList.mono_l k
 unfold laws_sameList.f
 repeat' first
   | (with_reducible exact ih0 _ _ _)
   | (with_reducible exact impl_SameAlarm.mono _ _ _ _ _ _ _ _ _)
   | (with_reducible exact LeO.refl _)
   | (with_reducible exact LeO.none _)
   | (with_reducible refine LeO.ite ?_ ?_)
   | (with_reducible refine LeO.bind ?_ (fun _ => ?_))
   | exact ih0 _ _ _
   | exact impl_SameAlarm.mono _ _ _ _ _ _ _ _ _
def laws_sameList.T6 : Bool × List (List Nat × List Nat) := (true, [([], []), ([], []), ([0, 1], [0, 1]), ([2], [2]), ([], []), ([], []), ([4, 5], [4, 5]), ([6], [6]), ([3, 7], [3, 7]), ([8], [8])])
def laws_sameList.B6 : List Nat := [0, 0, 3, 7, 0, 0, 48, 112, 255, 511]
theorem laws_sameList.tab6 : rtab .any (opsOf Try.f77 6) = laws_sameList.T6 := by kernel_rfl
theorem laws_sameList.bits6 : waitsOk laws_sameList.T6.2 laws_sameList.B6 = true := by kernel_rfl
theorem laws_sameList.calls (k : Nat) (A0 : Option Addr) (c0 : Nat) (l0 : List (S44)) (A1 : Option Addr) (c1 : Nat) (l1 : List (S44)) (r : Bool) (w : World) (hr0 : Kd.C k44 w A0 l0.length l0) (hc0 : l0.length ≤ c0) (hr1 : Kd.C k44 w A1 l1.length l1) (hc1 : l1.length ≤ c1) (h : laws_sameList.f k l0 l1 = some r) :
  Calls Try.prog 77 #[.slice A0 l0.length c0, .slice A1 l1.length c1] w fun e w' => e = .returned (.bool r) ∧ Below w.heap.size w w' := by
 have hu44 := Try.underlying44
 have HR0 := Aside0.mk hr0
 have HC0 := Aside0.mk hc0
 clear hr0 hc0
 have HR1 := Aside0.mk hr1
 have HC1 := Aside0.mk hc1
 clear hr1 hc1
 have HB := Aside0.mk (Below.refl w.heap.size w)
 have H : (if (l0.length : Int) = (l1.length : Int) then (laws_sameList.l0 k l0 l1 0) else (some false)) = some r := h
 clear h
 by_cases c3 : (l0.length : Int) = (l1.length : Int)
 ·
  rw [if_pos c3] at H
  have c3b0 : ((l0.length : Int) == (l1.length : Int)) = true := beq_iff_eq.mpr c3
  have c3b1 : ((l0.length : Int) != (l1.length : Int)) = false := bne_eq_false_iff_eq.mpr c3
  have c3b2 : (l0.length == l1.length) = true := by first | simpa using c3 | (simp at c3 ⊢; omega)
  clear c3
  have H' := Aside0.mk H
  clear H
  go_enter Try.func77, Try.ntmps77
  go_wp2
  go_loopg [5] k (fun kq v5 w' => ∃ (x5_1 : Int), v5 = .int .i64 x5_1 ∧ Aside0 (laws_sameList.l0 kq l0 l1 x5_1 = some r) ∧ Aside0 (kq ≤ k) ∧ Aside0 (Below w.heap.size w w'))
  case atStart => exact ⟨(0), (by first | rfl | (simp; done) | (simp [*]; done)), H', ⟨Nat.le_refl _⟩, ⟨by repeat (first | (with_reducible first | exact HB.out | apply ba_ | apply bn_ | apply bd_) | exact HB.out)⟩⟩
  case round =>
   clear H'
   try clear c1
   try clear p2
   try clear c3
   try clear c3b0
   try clear c3b1
   try clear c3b2
   obtain ⟨x5_1, rfl, HA, HK1, HB⟩ := hrel
   cases gk with
   | zero => exact absurd HA.out (by simp [laws_sameList.l0])
   | succ k1 =>
    have H := HA.out
    clear HA
    simp only [laws_sameList.l0] at H
    by_cases c4 : x5_1 < (l0.length : Int)
    ·
     rw [if_pos c4] at H
     have c4b0 := decide_eq_true c4
     clear c4
     by_cases c5 : 0 ≤ x5_1
     ·
      rw [if_pos c5] at H
      have c5b0 := decide_eq_true c5
      clear c5
      by_cases c6 : x5_1 < (l1.length : Int)
      ·
       rw [if_pos c6] at H
       have c6b0 := decide_eq_true c6
       clear c6
       replace H := Option.bind_eq_some_iff.mp H
       obtain ⟨t1794, A70, H⟩ := H
       have A7 := Aside0.mk A70
       clear A70
       by_cases c8 : t1794 = true
       ·
        subst c8
        rw [if_pos rfl] at H
        have H' := Aside0.mk H
        clear H
        try go_wp2
        have n0_ := Aside0.mk (bd_ HB.out)
        clear HB
        have HB := n0_
        clear n0_
        have p1792 : 0 ≤ (x5_1 : Int) := of_decide_eq_true (by with_reducible assumption)
        have q1792 : x5_1 < (l0.length : Int) := of_decide_eq_true (by with_reducible assumption)
        obtain ⟨ad1792, A1792_0, c1792_0, e1792, hx1792_0, hx1792_1, hx1792_2, hx1792_3, hl1792_0, hi1792_0⟩ := at_T44 HR0.out x5_1 p1792 q1792
        have hw1792_3 := hx1792_3
        have hw1792_2 := hx1792_2
        have hw1792_1 := hx1792_1
        have hw1792_0 := hx1792_0
        cases e1792
        replace hx1792_0 := cl_ HB.out hx1792_0
        replace hx1792_1 := cl_ HB.out hx1792_1
        replace hx1792_2 := cl_ HB.out hx1792_2
        replace hx1792_3 := cl_ HB.out hx1792_3
        have HR1792_0 := Aside0.mk hi1792_0
        have HC1792_0 := Aside0.mk hl1792_0
        clear hi1792_0 hl1792_0
        replace p1792 := eq_true p1792
        replace q1792 := eq_true q1792
        have p1793 : 0 ≤ (x5_1 : Int) := of_decide_eq_true (by with_reducible assumption)
        have q1793 : x5_1 < (l1.length : Int) := of_decide_eq_true (by with_reducible assumption)
        obtain ⟨ad1793, A1793_0, c1793_0, e1793, hx1793_0, hx1793_1, hx1793_2, hx1793_3, hl1793_0, hi1793_0⟩ := at_T44 HR1.out x5_1 p1793 q1793
        have hw1793_3 := hx1793_3
        have hw1793_2 := hx1793_2
        have hw1793_1 := hx1793_1
        have hw1793_0 := hx1793_0
        cases e1793
        replace hx1793_0 := cl_ HB.out hx1793_0
        replace hx1793_1 := cl_ HB.out hx1793_1
        replace hx1793_2 := cl_ HB.out hx1793_2
        replace hx1793_3 := cl_ HB.out hx1793_3
        have HR1793_0 := Aside0.mk hi1793_0
        have HC1793_0 := Aside0.mk hl1793_0
        clear hi1793_0 hl1793_0
        replace p1793 := eq_true p1793
        replace q1793 := eq_true q1793
        refine start_ (n := 10) (S := fun w' => w'.cell? (ad1792.add ((x5_1).toNat * 4)) = some (.slice A1792_0 ((rd_T44 l0 x5_1).f0).length c1792_0) ∧ w'.cell? ⟨(ad1792.add ((x5_1).toNat * 4)).block, (ad1792.add ((x5_1).toNat * 4)).off + 1, none⟩ = some (.int .i64 ((rd_T44 l0 x5_1).f1)) ∧ w'.cell? ⟨(ad1792.add ((x5_1).toNat * 4)).block, (ad1792.add ((x5_1).toNat * 4)).off + 2, none⟩ = some (.int .i64 ((rd_T44 l0 x5_1).f2)) ∧ w'.cell? ⟨(ad1792.add ((x5_1).toNat * 4)).block, (ad1792.add ((x5_1).toNat * 4)).off + 3, none⟩ = some (.string ((rd_T44 l0 x5_1).f3)) ∧ w'.cell? (ad1793.add ((x5_1).toNat * 4)) = some (.slice A1793_0 ((rd_T44 l1 x5_1).f0).length c1793_0) ∧ w'.cell? ⟨(ad1793.add ((x5_1).toNat * 4)).block, (ad1793.add ((x5_1).toNat * 4)).off + 1, none⟩ = some (.int .i64 ((rd_T44 l1 x5_1).f1)) ∧ w'.cell? ⟨(ad1793.add ((x5_1).toNat * 4)).block, (ad1793.add ((x5_1).toNat * 4)).off + 2, none⟩ = some (.int .i64 ((rd_T44 l1 x5_1).f2)) ∧ w'.cell? ⟨(ad1793.add ((x5_1).toNat * 4)).block, (ad1793.add ((x5_1).toNat * 4)).off + 3, none⟩ = some (.string ((rd_T44 l1 x5_1).f3))) (ds := []) #[f_,f_,f_,f_,f_,f_,f_,f_,f_,f_] (by kernel_rfl) rfl rfl ⟨((HB.out.cell (World.block_lt_of_cell? w _ hw1792_0)).trans hw1792_0), ((HB.out.cell (World.block_lt_of_cell? w _ hw1792_1)).trans hw1792_1), ((HB.out.cell (World.block_lt_of_cell? w _ hw1792_2)).trans hw1792_2), ((HB.out.cell (World.block_lt_of_cell? w _ hw1792_3)).trans hw1792_3), ((HB.out.cell (World.block_lt_of_cell? w _ hw1793_0)).trans hw1793_0), ((HB.out.cell (World.block_lt_of_cell? w _ hw1793_1)).trans hw1793_1), ((HB.out.cell (World.block_lt_of_cell? w _ hw1793_2)).trans hw1793_2), ((HB.out.cell (World.block_lt_of_cell? w _ hw1793_3)).trans hw1793_3)⟩ (fun hHeld => ?_); refine with_tabW laws_sameList.tab6 laws_sameList.bits6 (fun HT_ HW_ => ?_)
        generalize wr.drew = w9 at HB HR1792_0 HR1793_0 hx1792_0 hx1792_1 hx1792_2 hx1792_3 hx1793_0 hx1793_1 hx1793_2 hx1793_3 hHeld ⊢
        refine pu_ 0 17 ?_ (b_ 1 9) rfl rfl HT_.out ?_ ?_ ?_ ?_; rotate_left; intro w'; go_simp; with_reducible rfl; rotate_left; simp only [fr_]; rfl
        refine pu_ 1 18 ?_ (b_ 2 8) rfl rfl HT_.out ?_ ?_ ?_ ?_; rotate_left; intro w'; go_simp; with_reducible rfl; rotate_left; simp only [fr_]; rfl
        refine pu_ 2 19 ?_ (b_ 3 7) rfl rfl HT_.out ?_ ?_ ?_ ?_; rotate_left; intro w'; go_simp; with_reducible rfl; rotate_left; simp only [fr_]; rfl
        refine pu_ 4 21 ?_ #[t_,t_,t_,f_,t_,f_,f_,f_,f_,f_] rfl rfl HT_.out ?_ ?_ ?_ ?_; rotate_left; intro w'; go_simp; with_reducible rfl; rotate_left; simp only [fr_]; rfl
        refine pu_ 5 22 ?_ #[t_,t_,t_,f_,t_,t_,f_,f_,f_,f_] rfl rfl HT_.out ?_ ?_ ?_ ?_; rotate_left; intro w'; go_simp; with_reducible rfl; rotate_left; simp only [fr_]; rfl
        refine pu_ 6 23 ?_ #[t_,t_,t_,f_,t_,t_,t_,f_,f_,f_] rfl rfl HT_.out ?_ ?_ ?_ ?_; rotate_left; intro w'; go_simp; with_reducible rfl; rotate_left; simp only [fr_]; rfl
        refine take_ (i := 3) (N := some 20) (v := ?_) (a' := ?_) #[t_,t_,t_,t_,t_,t_,t_,f_,f_,f_] rfl rfl (take_ofW HT_.out HW_.out (by kernel_rfl)) (fun _ _ _ h => h) (Or.inl ⟨by rfl, ?_⟩) hHeld ?_ ?_
        rotate_left
        ·
         rintro w' ⟨s0, s1, s2, s3, s4, s5, s6, s7⟩
         go_simp
         with_reducible rfl
        rotate_left
        ·
         simp only [fr_]
         rfl
        refine take_ (i := 7) (N := some 24) (v := ?_) (a' := ?_) #[t_,t_,t_,t_,t_,t_,t_,t_,f_,f_] rfl rfl (take_ofW HT_.out HW_.out (by kernel_rfl)) (fun _ _ _ h => h) (Or.inl ⟨by rfl, ?_⟩) hHeld ?_ ?_
        rotate_left
        ·
         rintro w' ⟨s0, s1, s2, s3, s4, s5, s6, s7⟩
         go_simp
         with_reducible rfl
        rotate_left
        ·
         simp only [fr_]
         rfl
        refine one_ (i := 8) (N := some 25) #[t_,t_,t_,t_,t_,t_,t_,t_,t_,f_] rfl rfl (one_of HT_.out (by kernel_rfl)) (by decide) (fun K hK => ?_)
        refine goes_ Try.func85 (by kernel_rfl) rfl #[.agg #[.slice A1792_0 ((rd_T44 l0 x5_1).f0).length c1792_0, .int .i64 ((rd_T44 l0 x5_1).f1), .int .i64 ((rd_T44 l0 x5_1).f2), .string ((rd_T44 l0 x5_1).f3)], .agg #[.slice A1793_0 ((rd_T44 l1 x5_1).f0).length c1793_0, .int .i64 ((rd_T44 l1 x5_1).f1), .int .i64 ((rd_T44 l1 x5_1).f2), .string ((rd_T44 l1 x5_1).f3)]] (by rfl) rfl rfl (by (try simp only [mp_]); first | done | rfl | (simp only [List.length_drop, List.length_take]; rfl)) ?_
        with_reducible refine (impl_SameAlarm.calls k1 _ _ ((rd_T44 l0 x5_1).f0) ((rd_T44 l0 x5_1).f1) ((rd_T44 l0 x5_1).f2) ((rd_T44 l0 x5_1).f3) _ _ ((rd_T44 l1 x5_1).f0) ((rd_T44 l1 x5_1).f1) ((rd_T44 l1 x5_1).f2) ((rd_T44 l1 x5_1).f3) true _ ?side1 ?side2 ?side3 ?side4 A7.out).mono ?_
        (case side1 => repeat (first | exact (Kd.C_below HR1792_0.out HB.out) | (with_reducible first | refine ca_ ?_ _ | refine cn_ ?_ _ | refine cd_ ?_)))
        (case side2 => exact HC1792_0.out)
        (case side3 => repeat (first | exact (Kd.C_below HR1793_0.out HB.out) | (with_reducible first | refine ca_ ?_ _ | refine cn_ ?_ _ | refine cd_ ?_)))
        (case side4 => exact HC1793_0.out)
        rintro e w10 ⟨rfl, hb⟩
        refine ⟨_, rfl, ?_⟩
        have n0_ := Aside0.mk (below_step (by repeat (first | (with_reducible first | exact HB.out | apply ba_ | apply bn_ | apply bd_) | exact HB.out)) hb)
        clear HB
        have HB := n0_
        clear n0_
        (try clear hb)
        (try clear hb2)
        (try clear hk)
        (try clear hi)
        refine hK.out _ _ ⟨((HB.out.cell (World.block_lt_of_cell? w _ hw1792_0)).trans hw1792_0), ((HB.out.cell (World.block_lt_of_cell? w _ hw1792_1)).trans hw1792_1), ((HB.out.cell (World.block_lt_of_cell? w _ hw1792_2)).trans hw1792_2), ((HB.out.cell (World.block_lt_of_cell? w _ hw1792_3)).trans hw1792_3), ((HB.out.cell (World.block_lt_of_cell? w _ hw1793_0)).trans hw1793_0), ((HB.out.cell (World.block_lt_of_cell? w _ hw1793_1)).trans hw1793_1), ((HB.out.cell (World.block_lt_of_cell? w _ hw1793_2)).trans hw1793_2), ((HB.out.cell (World.block_lt_of_cell? w _ hw1793_3)).trans hw1793_3)⟩ (fun hHeld => ?_)
        clear hK K
        refine norm_ (a' := ?_) ?_ ?_
        rotate_left
        ·
         show Act.put _ (some 25) _ = _
         simp only [fr_]
         rfl
        refine pu_ 9 26 ?_ (b_ 10 0) rfl rfl HT_.out ?_ ?_ ?_ ?_; rotate_left; intro w'; go_simp; with_reducible rfl; rotate_left; simp only [fr_]; rfl
        refine done_ (done_of HT_.out (by kernel_rfl)) ?_
        try go_wp2
        go_roundg k1
        case measure => have := HK1.out; omega
        case rel => exact ⟨(wrap64 (x5_1 + 1)), (by first | rfl | (simp; done) | (simp [*]; done)), H', ⟨by have := HK1.out; omega⟩, ⟨by repeat (first | (with_reducible first | exact HB.out | apply ba_ | apply bn_ | apply bd_) | exact HB.out)⟩⟩
       replace c8 := Bool.eq_false_iff.mpr c8
       subst c8
       rw [if_neg (show ¬ (false = true) by decide)] at H
       obtain rfl := Option.some.inj H
       try go_wp2
       have n0_ := Aside0.mk (bd_ HB.out)
       clear HB
       have HB := n0_
       clear n0_
       have p1792 : 0 ≤ (x5_1 : Int) := of_decide_eq_true (by with_reducible assumption)
       have q1792 : x5_1 < (l0.length : Int) := of_decide_eq_true (by with_reducible assumption)
       obtain ⟨ad1792, A1792_0, c1792_0, e1792, hx1792_0, hx1792_1, hx1792_2, hx1792_3, hl1792_0, hi1792_0⟩ := at_T44 HR0.out x5_1 p1792 q1792
       have hw1792_3 := hx1792_3
       have hw1792_2 := hx1792_2
       have hw1792_1 := hx1792_1
       have hw1792_0 := hx1792_0
       cases e1792
       replace hx1792_0 := cl_ HB.out hx1792_0
       replace hx1792_1 := cl_ HB.out hx1792_1
       replace hx1792_2 := cl_ HB.out hx1792_2
       replace hx1792_3 := cl_ HB.out hx1792_3
       have HR1792_0 := Aside0.mk hi1792_0
       have HC1792_0 := Aside0.mk hl1792_0
       clear hi1792_0 hl1792_0
       replace p1792 := eq_true p1792
       replace q1792 := eq_true q1792
       have p1793 : 0 ≤ (x5_1 : Int) := of_decide_eq_true (by with_reducible assumption)
       have q1793 : x5_1 < (l1.length : Int) := of_decide_eq_true (by with_reducible assumption)
       obtain ⟨ad1793, A1793_0, c1793_0, e1793, hx1793_0, hx1793_1, hx1793_2, hx1793_3, hl1793_0, hi1793_0⟩ := at_T44 HR1.out x5_1 p1793 q1793
       have hw1793_3 := hx1793_3
       have hw1793_2 := hx1793_2
       have hw1793_1 := hx1793_1
       have hw1793_0 := hx1793_0
       cases e1793
       replace hx1793_0 := cl_ HB.out hx1793_0
       replace hx1793_1 := cl_ HB.out hx1793_1
       replace hx1793_2 := cl_ HB.out hx1793_2
       replace hx1793_3 := cl_ HB.out hx1793_3
       have HR1793_0 := Aside0.mk hi1793_0
       have HC1793_0 := Aside0.mk hl1793_0
       clear hi1793_0 hl1793_0
       replace p1793 := eq_true p1793
       replace q1793 := eq_true q1793
       refine start_ (n := 10) (S := fun w' => w'.cell? (ad1792.add ((x5_1).toNat * 4)) = some (.slice A1792_0 ((rd_T44 l0 x5_1).f0).length c1792_0) ∧ w'.cell? ⟨(ad1792.add ((x5_1).toNat * 4)).block, (ad1792.add ((x5_1).toNat * 4)).off + 1, none⟩ = some (.int .i64 ((rd_T44 l0 x5_1).f1)) ∧ w'.cell? ⟨(ad1792.add ((x5_1).toNat * 4)).block, (ad1792.add ((x5_1).toNat * 4)).off + 2, none⟩ = some (.int .i64 ((rd_T44 l0 x5_1).f2)) ∧ w'.cell? ⟨(ad1792.add ((x5_1).toNat * 4)).block, (ad1792.add ((x5_1).toNat * 4)).off + 3, none⟩ = some (.string ((rd_T44 l0 x5_1).f3)) ∧ w'.cell? (ad1793.add ((x5_1).toNat * 4)) = some (.slice A1793_0 ((rd_T44 l1 x5_1).f0).length c1793_0) ∧ w'.cell? ⟨(ad1793.add ((x5_1).toNat * 4)).block, (ad1793.add ((x5_1).toNat * 4)).off + 1, none⟩ = some (.int .i64 ((rd_T44 l1 x5_1).f1)) ∧ w'.cell? ⟨(ad1793.add ((x5_1).toNat * 4)).block, (ad1793.add ((x5_1).toNat * 4)).off + 2, none⟩ = some (.int .i64 ((rd_T44 l1 x5_1).f2)) ∧ w'.cell? ⟨(ad1793.add ((x5_1).toNat * 4)).block, (ad1793.add ((x5_1).toNat * 4)).off + 3, none⟩ = some (.string ((rd_T44 l1 x5_1).f3))) (ds := []) #[f_,f_,f_,f_,f_,f_,f_,f_,f_,f_] (by kernel_rfl) rfl rfl ⟨((HB.out.cell (World.block_lt_of_cell? w _ hw1792_0)).trans hw1792_0), ((HB.out.cell (World.block_lt_of_cell? w _ hw1792_1)).trans hw1792_1), ((HB.out.cell (World.block_lt_of_cell? w _ hw1792_2)).trans hw1792_2), ((HB.out.cell (World.block_lt_of_cell? w _ hw1792_3)).trans hw1792_3), ((HB.out.cell (World.block_lt_of_cell? w _ hw1793_0)).trans hw1793_0), ((HB.out.cell (World.block_lt_of_cell? w _ hw1793_1)).trans hw1793_1), ((HB.out.cell (World.block_lt_of_cell? w _ hw1793_2)).trans hw1793_2), ((HB.out.cell (World.block_lt_of_cell? w _ hw1793_3)).trans hw1793_3)⟩ (fun hHeld => ?_); refine with_tabW laws_sameList.tab6 laws_sameList.bits6 (fun HT_ HW_ => ?_)
       generalize wr.drew = w11 at HB HR1792_0 HR1793_0 hx1792_0 hx1792_1 hx1792_2 hx1792_3 hx1793_0 hx1793_1 hx1793_2 hx1793_3 hHeld ⊢
       refine pu_ 0 17 ?_ (b_ 1 9) rfl rfl HT_.out ?_ ?_ ?_ ?_; rotate_left; intro w'; go_simp; with_reducible rfl; rotate_left; simp only [fr_]; rfl
       refine pu_ 1 18 ?_ (b_ 2 8) rfl rfl HT_.out ?_ ?_ ?_ ?_; rotate_left; intro w'; go_simp; with_reducible rfl; rotate_left; simp only [fr_]; rfl
       refine pu_ 2 19 ?_ (b_ 3 7) rfl rfl HT_.out ?_ ?_ ?_ ?_; rotate_left; intro w'; go_simp; with_reducible rfl; rotate_left; simp only [fr_]; rfl
       refine pu_ 4 21 ?_ #[t_,t_,t_,f_,t_,f_,f_,f_,f_,f_] rfl rfl HT_.out ?_ ?_ ?_ ?_; rotate_left; intro w'; go_simp; with_reducible rfl; rotate_left; simp only [fr_]; rfl
       refine pu_ 5 22 ?_ #[t_,t_,t_,f_,t_,t_,f_,f_,f_,f_] rfl rfl HT_.out ?_ ?_ ?_ ?_; rotate_left; intro w'; go_simp; with_reducible rfl; rotate_left; simp only [fr_]; rfl
       refine pu_ 6 23 ?_ #[t_,t_,t_,f_,t_,t_,t_,f_,f_,f_] rfl rfl HT_.out ?_ ?_ ?_ ?_; rotate_left; intro w'; go_simp; with_reducible rfl; rotate_left; simp only [fr_]; rfl
       refine take_ (i := 3) (N := some 20) (v := ?_) (a' := ?_) #[t_,t_,t_,t_,t_,t_,t_,f_,f_,f_] rfl rfl (take_ofW HT_.out HW_.out (by kernel_rfl)) (fun _ _ _ h => h) (Or.inl ⟨by rfl, ?_⟩) hHeld ?_ ?_
       rotate_left
       ·
        rintro w' ⟨s0, s1, s2, s3, s4, s5, s6, s7⟩
        go_simp
        with_reducible rfl
       rotate_left
       ·
        simp only [fr_]
        rfl
       refine take_ (i := 7) (N := some 24) (v := ?_) (a' := ?_) #[t_,t_,t_,t_,t_,t_,t_,t_,f_,f_] rfl rfl (take_ofW HT_.out HW_.out (by kernel_rfl)) (fun _ _ _ h => h) (Or.inl ⟨by rfl, ?_⟩) hHeld ?_ ?_
       rotate_left
       ·
        rintro w' ⟨s0, s1, s2, s3, s4, s5, s6, s7⟩
        go_simp
        with_reducible rfl
       rotate_left
       ·
        simp only [fr_]
        rfl
       refine one_ (i := 8) (N := some 25) #[t_,t_,t_,t_,t_,t_,t_,t_,t_,f_] rfl rfl (one_of HT_.out (by kernel_rfl)) (by decide) (fun K hK => ?_)
       refine goes_ Try.func85 (by kernel_rfl) rfl #[.agg #[.slice A1792_0 ((rd_T44 l0 x5_1).f0).length c1792_0, .int .i64 ((rd_T44 l0 x5_1).f1), .int .i64 ((rd_T44 l0 x5_1).f2), .string ((rd_T44 l0 x5_1).f3)], .agg #[.slice A1793_0 ((rd_T44 l1 x5_1).f0).length c1793_0, .int .i64 ((rd_T44 l1 x5_1).f1), .int .i64 ((rd_T44 l1 x5_1).f2), .string ((rd_T44 l1 x5_1).f3)]] (by rfl) rfl rfl (by (try simp only [mp_]); first | done | rfl | (simp only [List.length_drop, List.length_take]; rfl)) ?_
       with_reducible refine (impl_SameAlarm.calls k1 _ _ ((rd_T44 l0 x5_1).f0) ((rd_T44 l0 x5_1).f1) ((rd_T44 l0 x5_1).f2) ((rd_T44 l0 x5_1).f3) _ _ ((rd_T44 l1 x5_1).f0) ((rd_T44 l1 x5_1).f1) ((rd_T44 l1 x5_1).f2) ((rd_T44 l1 x5_1).f3) false _ ?side1 ?side2 ?side3 ?side4 A7.out).mono ?_
       (case side1 => repeat (first | exact (Kd.C_below HR1792_0.out HB.out) | (with_reducible first | refine ca_ ?_ _ | refine cn_ ?_ _ | refine cd_ ?_)))
       (case side2 => exact HC1792_0.out)
       (case side3 => repeat (first | exact (Kd.C_below HR1793_0.out HB.out) | (with_reducible first | refine ca_ ?_ _ | refine cn_ ?_ _ | refine cd_ ?_)))
       (case side4 => exact HC1793_0.out)
       rintro e w12 ⟨rfl, hb⟩
       refine ⟨_, rfl, ?_⟩
       have n0_ := Aside0.mk (below_step (by repeat (first | (with_reducible first | exact HB.out | apply ba_ | apply bn_ | apply bd_) | exact HB.out)) hb)
       clear HB
       have HB := n0_
       clear n0_
       (try clear hb)
       (try clear hb2)
       (try clear hk)
       (try clear hi)
       refine hK.out _ _ ⟨((HB.out.cell (World.block_lt_of_cell? w _ hw1792_0)).trans hw1792_0), ((HB.out.cell (World.block_lt_of_cell? w _ hw1792_1)).trans hw1792_1), ((HB.out.cell (World.block_lt_of_cell? w _ hw1792_2)).trans hw1792_2), ((HB.out.cell (World.block_lt_of_cell? w _ hw1792_3)).trans hw1792_3), ((HB.out.cell (World.block_lt_of_cell? w _ hw1793_0)).trans hw1793_0), ((HB.out.cell (World.block_lt_of_cell? w _ hw1793_1)).trans hw1793_1), ((HB.out.cell (World.block_lt_of_cell? w _ hw1793_2)).trans hw1793_2), ((HB.out.cell (World.block_lt_of_cell? w _ hw1793_3)).trans hw1793_3)⟩ (fun hHeld => ?_)
       clear hK K
       refine norm_ (a' := ?_) ?_ ?_
       rotate_left
       ·
        show Act.put _ (some 25) _ = _
        simp only [fr_]
        rfl
       refine pu_ 9 26 ?_ (b_ 10 0) rfl rfl HT_.out ?_ ?_ ?_ ?_; rotate_left; intro w'; go_simp; with_reducible rfl; rotate_left; simp only [fr_]; rfl
       refine done_ (done_of HT_.out (by kernel_rfl)) ?_
       try go_wp2
       go_ret
       exact ⟨by first | rfl | (simp [errW_none, errW_some] <;> rfl) | (simp [*, errW_none, errW_some] <;> rfl), by repeat (first | (with_reducible first | exact HB.out | apply ba_ | apply bn_ | apply bd_) | exact HB.out)⟩
      rw [if_neg c6] at H
      exact absurd H (by simp)
     rw [if_neg c5] at H
     exact absurd H (by simp)
    rw [if_neg c4] at H
    have c4b0 : decide (x5_1 < (l0.length : Int)) = false := decide_eq_false c4
    clear c4
    obtain rfl := Option.some.inj H
    go_wp2
    go_ret
    exact ⟨by first | rfl | (simp [errW_none, errW_some] <;> rfl) | (simp [*, errW_none, errW_some] <;> rfl), by repeat (first | (with_reducible first | exact HB.out | apply ba_ | apply bn_ | apply bd_) | exact HB.out)⟩
 rw [if_neg c3] at H
 have c3b0 : ((l0.length : Int) == (l1.length : Int)) = false := beq_eq_false_iff_ne.mpr c3
 have c3b1 : ((l0.length : Int) != (l1.length : Int)) = true := bne_iff_ne.mpr c3
 have c3b2 : (l0.length == l1.length) = false := by first | simpa using c3 | (simp at c3 ⊢; omega)
 obtain rfl := Option.some.inj H
 go_enter Try.func77, Try.ntmps77
 go_wp2
 go_ret
 exact ⟨by first | rfl | (simp [errW_none, errW_some] <;> rfl) | (simp [*, errW_none, errW_some] <;> rfl), by repeat (first | (with_reducible first | exact HB.out | apply ba_ | apply bn_ | apply bd_) | exact HB.out)⟩
def impl_PlainOk.l0 : Nat → ByteArray → Int → Option (Bool)
 | 0, _, _ => none
 | k + 1, x0, x3 => if x3 < (x0.size : Int) then (if 0 ≤ x3 then (if (bt x0 x3) < 32 then (some false) else (if (bt x0 x3) > 126 then (some false) else (if (bt x0 x3) = 34 then (some false) else (if (bt x0 x3) = 92 then (some false) else (impl_PlainOk.l0 k x0 (wrap64 (x3 + 1))))))) else (none)) else (some true)
def impl_PlainOk.f (k : Nat) (a0 : ByteArray) : Option (Bool) := if (a0.size : Int) > 12 then (some false) else (impl_PlainOk.l0 k a0 0)
theorem impl_PlainOk.mono_l : ∀ k, (∀ y0 y1, LeO (impl_PlainOk.l0 k y0 y1) (impl_PlainOk.l0 (k + 1) y0 y1))
 | 0 => fun _ _ r h => by simp [impl_PlainOk.l0] at h
 | k + 1 => by
  have ih0 := impl_PlainOk.mono_l k
  intro y0 y1
  unfold impl_PlainOk.l0
  repeat' first
  | (with_reducible exact ih0 _ _)
  | (with_reducible exact LeO.refl _)
  | (with_reducible exact LeO.none _)
  | (with_reducible refine LeO.ite ?_ ?_)
  | (with_reducible refine LeO.bind ?_ (fun _ => ?_))
  | exact ih0 _ _
theorem impl_PlainOk.mono : ∀ a0 k, LeO (impl_PlainOk.f k a0) (impl_PlainOk.f (k + 1) a0) := by
 intro a0 k
 have ih0 := impl_PlainOk.mono_l k
 unfold impl_PlainOk.f
 repeat' first
   | (with_reducible exact ih0 _ _)
   | (with_reducible exact LeO.refl _)
   | (with_reducible exact LeO.none _)
   | (with_reducible refine LeO.ite ?_ ?_)
   | (with_reducible refine LeO.bind ?_ (fun _ => ?_))
   | exact ih0 _ _
theorem impl_PlainOk.calls (k : Nat) (a0 : ByteArray) (r : Bool) (w : World) (h : impl_PlainOk.f k a0 = some r) :
  Calls Try.prog 156 #[.string a0] w fun e w' => e = .returned (.bool r) ∧ Drawn0 w w' := by
 have H : (if (a0.size : Int) > 12 then (some false) else (impl_PlainOk.l0 k a0 0)) = some r := h
 clear h
 by_cases c2 : (a0.size : Int) > 12
 ·
  rw [if_pos c2] at H
  have c2b0 : decide (12 < (a0.size : Int)) = true := decide_eq_true c2
  have c2b1 : decide (12 < a0.size) = true := decide_eq_true (by omega)
  clear c2
  obtain rfl := Option.some.inj H
  go_enter Try.func156, Try.ntmps156
  go_wp2
  go_ret
  exact ⟨by first | rfl | (simp; done) | (simp [*]; done), by repeat (first | exact Drawn0.refl _ | apply Drawn0.step)⟩
 rw [if_neg c2] at H
 have c2b0 : decide (12 < (a0.size : Int)) = false := decide_eq_false c2
 have c2b1 : decide (12 < a0.size) = false := decide_eq_false (by omega)
 clear c2
 have H' := Aside0.mk H
 clear H
 go_enter Try.func156, Try.ntmps156
 go_wp2
 go_loopg [3] k (fun kq v3 w' => ∃ (x3_1 : Int), v3 = .int .i64 x3_1 ∧ Aside0 (impl_PlainOk.l0 kq a0 x3_1 = some r) ∧ Aside0 (kq ≤ k) ∧ Drawn0 w w')
 case atStart => exact ⟨(0), (by first | rfl | (simp; done) | (simp [*]; done)), H', ⟨Nat.le_refl _⟩, by repeat (first | exact Drawn0.refl _ | apply Drawn0.step)⟩
 case round =>
  clear H'
  try clear c1
  try clear c2
  try clear c2b0
  try clear c2b1
  try clear p2
  obtain ⟨x3_1, rfl, HA, HK1, ⟨m1, rfl⟩⟩ := hrel
  cases gk with
  | zero => exact absurd HA.out (by simp [impl_PlainOk.l0])
  | succ k1 =>
   have H := HA.out
   clear HA
   simp only [impl_PlainOk.l0] at H
   by_cases c3 : x3_1 < (a0.size : Int)
   ·
    rw [if_pos c3] at H
    have c3b0 := decide_eq_true c3
    clear c3
    by_cases c4 : 0 ≤ x3_1
    ·
     rw [if_pos c4] at H
     have c4b0 := decide_eq_true c4
     clear c4
     by_cases c6 : (bt a0 x3_1) < 32
     ·
      rw [if_pos c6] at H
      have c6b0 := decide_eq_true c6
      clear c6
      obtain rfl := Option.some.inj H
      have p5 : 0 ≤ (x3_1 : Int) := of_decide_eq_true (by with_reducible assumption)
      have q5 : x3_1 < (a0.size : Int) := of_decide_eq_true (by with_reducible assumption)
      have hx5 := bt_at a0 x3_1
      replace p5 := eq_true p5
      replace q5 := eq_true q5
      go_wp2
      go_ret
      exact ⟨by first | rfl | (simp; done) | (simp [*]; done), by repeat (first | exact Drawn0.refl _ | apply Drawn0.step)⟩
     rw [if_neg c6] at H
     have c6b0 : decide ((bt a0 x3_1) < 32) = false := decide_eq_false c6
     clear c6
     by_cases c7 : (bt a0 x3_1) > 126
     ·
      rw [if_pos c7] at H
      have c7b0 : decide (126 < (bt a0 x3_1)) = true := decide_eq_true c7
      clear c7
      obtain rfl := Option.some.inj H
      have p5 : 0 ≤ (x3_1 : Int) := of_decide_eq_true (by with_reducible assumption)
      have q5 : x3_1 < (a0.size : Int) := of_decide_eq_true (by with_reducible assumption)
      have hx5 := bt_at a0 x3_1
      replace p5 := eq_true p5
      replace q5 := eq_true q5
      go_wp2
      go_ret
      exact ⟨by first | rfl | (simp; done) | (simp [*]; done), by repeat (first | exact Drawn0.refl _ | apply Drawn0.step)⟩
     rw [if_neg c7] at H
     have c7b0 : decide (126 < (bt a0 x3_1)) = false := decide_eq_false c7
     clear c7
     by_cases c8 : (bt a0 x3_1) = 34
     ·
      rw [if_pos c8] at H
      have c8b0 : ((bt a0 x3_1) == 34) = true := beq_iff_eq.mpr c8
      have c8b1 : ((bt a0 x3_1) != 34) = false := bne_eq_false_iff_eq.mpr c8
      clear c8
      obtain rfl := Option.some.inj H
      have p5 : 0 ≤ (x3_1 : Int) := of_decide_eq_true (by with_reducible assumption)
      have q5 : x3_1 < (a0.size : Int) := of_decide_eq_true (by with_reducible assumption)
      have hx5 := bt_at a0 x3_1
      replace p5 := eq_true p5
      replace q5 := eq_true q5
      go_wp2
      go_ret
      exact ⟨by first | rfl | (simp; done) | (simp [*]; done), by repeat (first | exact Drawn0.refl _ | apply Drawn0.step)⟩
     rw [if_neg c8] at H
     have c8b0 : ((bt a0 x3_1) == 34) = false := beq_eq_false_iff_ne.mpr c8
     have c8b1 : ((bt a0 x3_1) != 34) = true := bne_iff_ne.mpr c8
     by_cases c9 : (bt a0 x3_1) = 92
     ·
      rw [if_pos c9] at H
      have c9b0 : ((bt a0 x3_1) == 92) = true := beq_iff_eq.mpr c9
      have c9b1 : ((bt a0 x3_1) != 92) = false := bne_eq_false_iff_eq.mpr c9
      clear c9
      obtain rfl := Option.some.inj H
      have p5 : 0 ≤ (x3_1 : Int) := of_decide_eq_true (by with_reducible assumption)
      have q5 : x3_1 < (a0.size : Int) := of_decide_eq_true (by with_reducible assumption)
      have hx5 := bt_at a0 x3_1
      replace p5 := eq_true p5
      replace q5 := eq_true q5
      go_wp2
      go_ret
      exact ⟨by first | rfl | (simp; done) | (simp [*]; done), by repeat (first | exact Drawn0.refl _ | apply Drawn0.step)⟩
     rw [if_neg c9] at H
     have c9b0 : ((bt a0 x3_1) == 92) = false := beq_eq_false_iff_ne.mpr c9
     have c9b1 : ((bt a0 x3_1) != 92) = true := bne_iff_ne.mpr c9
     have H' := Aside0.mk H
     clear H
     have p5 : 0 ≤ (x3_1 : Int) := of_decide_eq_true (by with_reducible assumption)
     have q5 : x3_1 < (a0.size : Int) := of_decide_eq_true (by with_reducible assumption)
     have hx5 := bt_at a0 x3_1
     replace p5 := eq_true p5
     replace q5 := eq_true q5
     go_wp2
     go_roundg k1
     case measure => have := HK1.out; omega
     case rel => exact ⟨(wrap64 (x3_1 + 1)), (by first | rfl | (simp; done) | (simp [*]; done)), H', ⟨by have := HK1.out; omega⟩, by repeat (first | exact Drawn0.refl _ | apply Drawn0.step)⟩
    rw [if_neg c4] at H
    exact absurd H (by simp)
   rw [if_neg c3] at H
   have c3b0 : decide (x3_1 < (a0.size : Int)) = false := decide_eq_false c3
   clear c3
   obtain rfl := Option.some.inj H
   go_wp2
   go_ret
   exact ⟨by first | rfl | (simp; done) | (simp [*]; done), by repeat (first | exact Drawn0.refl _ | apply Drawn0.step)⟩
def impl_in.f (a0 : Int) (a1 : Int) (a2 : Int) : Option (Bool) := if a0 ≥ a1 then (some (decide (a0 ≤ a2))) else (some false)
theorem impl_in.calls (a0 : Int) (a1 : Int) (a2 : Int) (r : Bool) (w : World) (h : impl_in.f a0 a1 a2 = some r) :
  Calls Try.prog 111 #[.int .i64 a0, .int .i64 a1, .int .i64 a2] w fun e w' => e = .returned (.bool r) ∧ Drawn0 w w' := by
 have H : (if a0 ≥ a1 then (some (decide (a0 ≤ a2))) else (some false)) = some r := h
 clear h
 by_cases c4 : a0 ≥ a1
 ·
  rw [if_pos c4] at H
  have c4b0 : decide (a1 ≤ a0) = true := decide_eq_true c4
  clear c4
  obtain rfl := Option.some.inj H
  go_enter Try.func111, Try.ntmps111
  go_wp2
  go_ret
  exact ⟨by first | rfl | (simp; done) | (simp [*]; done), by repeat (first | exact Drawn0.refl _ | apply Drawn0.step)⟩
 rw [if_neg c4] at H
 have c4b0 : decide (a1 ≤ a0) = false := decide_eq_false c4
 clear c4
 obtain rfl := Option.some.inj H
 go_enter Try.func111, Try.ntmps111
 go_wp2
 go_ret
 exact ⟨by first | rfl | (simp; done) | (simp [*]; done), by repeat (first | exact Drawn0.refl _ | apply Drawn0.step)⟩
def impl_NameOk.l0 : Nat → ByteArray → Int → Option (Bool)
 | 0, _, _ => none
 | k + 1, x0, x3 => if x3 < (x0.size : Int) then (if 0 ≤ x3 then (if (bt x0 x3) < 97 then (some false) else (if (bt x0 x3) > 122 then (some false) else (impl_NameOk.l0 k x0 (wrap64 (x3 + 1))))) else (none)) else (some true)
def impl_NameOk.f (k : Nat) (a0 : ByteArray) : Option (Bool) := (impl_in.f (a0.size : Int) 1 8).bind fun t788 => (if t788 = true then (impl_NameOk.l0 k a0 0) else (some false))
theorem impl_NameOk.mono_l : ∀ k, (∀ y0 y1, LeO (impl_NameOk.l0 k y0 y1) (impl_NameOk.l0 (k + 1) y0 y1))
 | 0 => fun _ _ r h => by simp [impl_NameOk.l0] at h
 | k + 1 => by
  have ih0 := impl_NameOk.mono_l k
  intro y0 y1
  unfold impl_NameOk.l0
  repeat' first
  | (with_reducible exact ih0 _ _)
  | (with_reducible exact LeO.refl _)
  | (with_reducible exact LeO.none _)
  | (with_reducible refine LeO.ite ?_ ?_)
  | (with_reducible refine LeO.bind ?_ (fun _ => ?_))
  | exact ih0 _ _
theorem impl_NameOk.mono : ∀ a0 k, LeO (impl_NameOk.f k a0) (impl_NameOk.f (k + 1) a0) := by
 intro a0 k
 have ih0 := impl_NameOk.mono_l k
 unfold impl_NameOk.f
 repeat' first
   | (with_reducible exact ih0 _ _)
   | (with_reducible exact LeO.refl _)
   | (with_reducible exact LeO.none _)
   | (with_reducible refine LeO.ite ?_ ?_)
   | (with_reducible refine LeO.bind ?_ (fun _ => ?_))
   | exact ih0 _ _
theorem impl_NameOk.calls (k : Nat) (a0 : ByteArray) (r : Bool) (w : World) (h : impl_NameOk.f k a0 = some r) :
  Calls Try.prog 169 #[.string a0] w fun e w' => e = .returned (.bool r) ∧ Drawn0 w w' := by
 have H : ((impl_in.f (a0.size : Int) 1 8).bind fun t788 => (if t788 = true then (impl_NameOk.l0 k a0 0) else (some false))) = some r := h
 clear h
 replace H := Option.bind_eq_some_iff.mp H
 obtain ⟨t788, A20, H⟩ := H
 have A2 := Aside0.mk A20
 clear A20
 by_cases c3 : t788 = true
 ·
  subst c3
  rw [if_pos rfl] at H
  have H' := Aside0.mk H
  clear H
  go_enter Try.func169, Try.ntmps169
  go_wp2_with (first | ((with_reducible refine gate_callee (f := 111) rfl ?_); refine goesL_ (some 6) rfl rfl Try.func111 (by kernel_rfl) rfl #[.int .i64 (a0.size : Int), .int .i64 1, .int .i64 8] rfl (by (try simp only [mp_]); first | done | rfl | (simp only [List.length_drop, List.length_take]; rfl)) ?_; (with_reducible refine (impl_in.calls (a0.size : Int) 1 8 true _ A2.out).mono ?_); rintro e w' ⟨rfl, ⟨nd, rfl⟩⟩; refine ⟨_, rfl, ?_⟩))
  go_loopg [3] k (fun kq v3 w' => ∃ (x3_1 : Int), v3 = .int .i64 x3_1 ∧ Aside0 (impl_NameOk.l0 kq a0 x3_1 = some r) ∧ Aside0 (kq ≤ k) ∧ Drawn0 w w')
  case atStart => exact ⟨(0), (by first | rfl | (simp; done) | (simp [*]; done)), H', ⟨Nat.le_refl _⟩, by repeat (first | exact Drawn0.refl _ | apply Drawn0.step)⟩
  case round =>
   clear H'
   try clear c1
   try clear p2
   try clear c3
   obtain ⟨x3_1, rfl, HA, HK1, ⟨m1, rfl⟩⟩ := hrel
   cases gk with
   | zero => exact absurd HA.out (by simp [impl_NameOk.l0])
   | succ k1 =>
    have H := HA.out
    clear HA
    simp only [impl_NameOk.l0] at H
    by_cases c4 : x3_1 < (a0.size : Int)
    ·
     rw [if_pos c4] at H
     have c4b0 := decide_eq_true c4
     clear c4
     by_cases c5 : 0 ≤ x3_1
     ·
      rw [if_pos c5] at H
      have c5b0 := decide_eq_true c5
      clear c5
      by_cases c7 : (bt a0 x3_1) < 97
      ·
       rw [if_pos c7] at H
       have c7b0 := decide_eq_true c7
       clear c7
       obtain rfl := Option.some.inj H
       have p6 : 0 ≤ (x3_1 : Int) := of_decide_eq_true (by with_reducible assumption)
       have q6 : x3_1 < (a0.size : Int) := of_decide_eq_true (by with_reducible assumption)
       have hx6 := bt_at a0 x3_1
       replace p6 := eq_true p6
       replace q6 := eq_true q6
       go_wp2
       go_ret
       exact ⟨by first | rfl | (simp; done) | (simp [*]; done), by repeat (first | exact Drawn0.refl _ | apply Drawn0.step)⟩
      rw [if_neg c7] at H
      have c7b0 : decide ((bt a0 x3_1) < 97) = false := decide_eq_false c7
      clear c7
      by_cases c9 : (bt a0 x3_1) > 122
      ·
       rw [if_pos c9] at H
       have c9b0 : decide (122 < (bt a0 x3_1)) = true := decide_eq_true c9
       clear c9
       obtain rfl := Option.some.inj H
       have p6 : 0 ≤ (x3_1 : Int) := of_decide_eq_true (by with_reducible assumption)
       have q6 : x3_1 < (a0.size : Int) := of_decide_eq_true (by with_reducible assumption)
       have hx6 := bt_at a0 x3_1
       replace p6 := eq_true p6
       replace q6 := eq_true q6
       have p8 : 0 ≤ (x3_1 : Int) := of_decide_eq_true (by with_reducible assumption)
       have q8 : x3_1 < (a0.size : Int) := of_decide_eq_true (by with_reducible assumption)
       have hx8 := bt_at a0 x3_1
       replace p8 := eq_true p8
       replace q8 := eq_true q8
       go_wp2
       go_ret
       exact ⟨by first | rfl | (simp; done) | (simp [*]; done), by repeat (first | exact Drawn0.refl _ | apply Drawn0.step)⟩
      rw [if_neg c9] at H
      have c9b0 : decide (122 < (bt a0 x3_1)) = false := decide_eq_false c9
      clear c9
      have H' := Aside0.mk H
      clear H
      have p6 : 0 ≤ (x3_1 : Int) := of_decide_eq_true (by with_reducible assumption)
      have q6 : x3_1 < (a0.size : Int) := of_decide_eq_true (by with_reducible assumption)
      have hx6 := bt_at a0 x3_1
      replace p6 := eq_true p6
      replace q6 := eq_true q6
      have p8 : 0 ≤ (x3_1 : Int) := of_decide_eq_true (by with_reducible assumption)
      have q8 : x3_1 < (a0.size : Int) := of_decide_eq_true (by with_reducible assumption)
      have hx8 := bt_at a0 x3_1
      replace p8 := eq_true p8
      replace q8 := eq_true q8
      go_wp2
      go_roundg k1
      case measure => have := HK1.out; omega
      case rel => exact ⟨(wrap64 (x3_1 + 1)), (by first | rfl | (simp; done) | (simp [*]; done)), H', ⟨by have := HK1.out; omega⟩, by repeat (first | exact Drawn0.refl _ | apply Drawn0.step)⟩
     rw [if_neg c5] at H
     exact absurd H (by simp)
    rw [if_neg c4] at H
    have c4b0 : decide (x3_1 < (a0.size : Int)) = false := decide_eq_false c4
    clear c4
    obtain rfl := Option.some.inj H
    go_wp2
    go_ret
    exact ⟨by first | rfl | (simp; done) | (simp [*]; done), by repeat (first | exact Drawn0.refl _ | apply Drawn0.step)⟩
 replace c3 := Bool.eq_false_iff.mpr c3
 subst c3
 rw [if_neg (show ¬ (false = true) by decide)] at H
 obtain rfl := Option.some.inj H
 go_enter Try.func169, Try.ntmps169
 go_wp2_with (first | ((with_reducible refine gate_callee (f := 111) rfl ?_); refine goesL_ (some 6) rfl rfl Try.func111 (by kernel_rfl) rfl #[.int .i64 (a0.size : Int), .int .i64 1, .int .i64 8] rfl (by (try simp only [mp_]); first | done | rfl | (simp only [List.length_drop, List.length_take]; rfl)) ?_; (with_reducible refine (impl_in.calls (a0.size : Int) 1 8 false _ A2.out).mono ?_); rintro e w' ⟨rfl, ⟨nd, rfl⟩⟩; refine ⟨_, rfl, ?_⟩))
 go_ret
 exact ⟨by first | rfl | (simp; done) | (simp [*]; done), by repeat (first | exact Drawn0.refl _ | apply Drawn0.step)⟩
def impl_LabelOk.f (k : Nat) (a0_0 : ByteArray) (a0_1 : ByteArray) : Option (Bool) := (impl_NameOk.f k a0_0).bind fun t790 => (if t790 = true then ((impl_PlainOk.f k a0_1).bind fun t791 => (some t791)) else (some false))
theorem impl_LabelOk.mono : ∀ a0 a1 k, LeO (impl_LabelOk.f k a0 a1) (impl_LabelOk.f (k + 1) a0 a1) := by
 intro a0 a1 k
 unfold impl_LabelOk.f
 repeat' first
   | (with_reducible exact impl_NameOk.mono _ _)
   | (with_reducible exact impl_PlainOk.mono _ _)
   | (with_reducible exact LeO.refl _)
   | (with_reducible exact LeO.none _)
   | (with_reducible refine LeO.ite ?_ ?_)
   | (with_reducible refine LeO.bind ?_ (fun _ => ?_))
   | exact impl_NameOk.mono _ _
   | exact impl_PlainOk.mono _ _
theorem impl_LabelOk.calls (k : Nat) (a0_0 : ByteArray) (a0_1 : ByteArray) (r : Bool) (w : World) (h : impl_LabelOk.f k a0_0 a0_1 = some r) :
  Calls Try.prog 152 #[.agg #[.string a0_0, .string a0_1]] w fun e w' => e = .returned (.bool r) ∧ Below w.heap.size w w' := by
 have hu164 := Try.underlying164
 have HB := Aside0.mk (Below.refl w.heap.size w)
 have H : ((impl_NameOk.f k a0_0).bind fun t790 => (if t790 = true then ((impl_PlainOk.f k a0_1).bind fun t791 => (some t791)) else (some false))) = some r := h
 clear h
 replace H := Option.bind_eq_some_iff.mp H
 obtain ⟨t790, A20, H⟩ := H
 have A2 := Aside0.mk A20
 clear A20
 by_cases c3 : t790 = true
 ·
  subst c3
  rw [if_pos rfl] at H
  replace H := Option.bind_eq_some_iff.mp H
  obtain ⟨t791, A40, H⟩ := H
  have A4 := Aside0.mk A40
  clear A40
  obtain rfl := Option.some.inj H
  go_enter Try.func152, Try.ntmps152
  go_wp2_with (first | ((with_reducible refine gate_dst (N := 1) rfl ?_); refine box_event ?hg (N := 1) ?hd (cs := #[.string a0_0, .string a0_1]) (t := 164) ?hr ?_; (case hd => rfl); (case hg => rfl); (case hr => first | (go_simp; done) | (go_simp; rfl)); intro gb789 hg w5 hbox hb; have n0_ := Aside0.mk (below_step (by repeat (first | (with_reducible first | exact HB.out | apply ba_ | apply bn_ | apply bd_) | exact HB.out)) hb); have BK789 := Aside0.mk (hbox); have GW789 := Aside0.mk ((by rw [hg]; exact (below_size (by repeat (first | (with_reducible first | exact HB.out | apply ba_ | apply bn_ | apply bd_) | exact HB.out))) : w.heap.size ≤ gb789)); have GE789 := GW789; clear HB; have HB := n0_; clear n0_; clear hb hbox hg; have hcz6_0 : w5.cell? ⟨gb789, 0, none⟩ = some (.string a0_0) := (blk_cell BK789.out 0).trans rfl; have hcz6_1 : w5.cell? ⟨gb789, 1, none⟩ = some (.string a0_1) := (blk_cell BK789.out 1).trans rfl; have hfz6_0 := blk_frozen BK789.out 0; have hfz6_1 := blk_frozen BK789.out 1) | ((with_reducible refine gate_callee (f := 169) rfl ?_); refine goesL_ (some 5) rfl rfl Try.func169 (by kernel_rfl) rfl #[.string a0_0] rfl (by (try simp only [mp_]); first | done | rfl | (simp only [List.length_drop, List.length_take]; rfl)) ?_; (with_reducible refine (impl_NameOk.calls k a0_0 true _ A2.out).mono ?_); rintro e w' ⟨rfl, ⟨nd, rfl⟩⟩; refine ⟨_, rfl, ?_⟩) | (go_at_call 156; (with_reducible refine (impl_PlainOk.calls k a0_1 t791 _ A4.out).mono ?_); rintro e w' ⟨rfl, ⟨nd, rfl⟩⟩))
  go_ret
  exact ⟨by first | rfl | (simp [errW_none, errW_some] <;> rfl) | (simp [*, errW_none, errW_some] <;> rfl), by repeat (first | (with_reducible first | exact HB.out | apply ba_ | apply bn_ | apply bd_ | refine below_set ?_ GE789.out) | exact HB.out)⟩
 replace c3 := Bool.eq_false_iff.mpr c3
 subst c3
 rw [if_neg (show ¬ (false = true) by decide)] at H
 obtain rfl := Option.some.inj H
 go_enter Try.func152, Try.ntmps152
 go_wp2_with (first | ((with_reducible refine gate_dst (N := 1) rfl ?_); refine box_event ?hg (N := 1) ?hd (cs := #[.string a0_0, .string a0_1]) (t := 164) ?hr ?_; (case hd => rfl); (case hg => rfl); (case hr => first | (go_simp; done) | (go_simp; rfl)); intro gb789 hg w7 hbox hb; have n0_ := Aside0.mk (below_step (by repeat (first | (with_reducible first | exact HB.out | apply ba_ | apply bn_ | apply bd_) | exact HB.out)) hb); have BK789 := Aside0.mk (hbox); have GW789 := Aside0.mk ((by rw [hg]; exact (below_size (by repeat (first | (with_reducible first | exact HB.out | apply ba_ | apply bn_ | apply bd_) | exact HB.out))) : w.heap.size ≤ gb789)); have GE789 := GW789; clear HB; have HB := n0_; clear n0_; clear hb hbox hg; have hcz8_0 : w7.cell? ⟨gb789, 0, none⟩ = some (.string a0_0) := (blk_cell BK789.out 0).trans rfl; have hcz8_1 : w7.cell? ⟨gb789, 1, none⟩ = some (.string a0_1) := (blk_cell BK789.out 1).trans rfl; have hfz8_0 := blk_frozen BK789.out 0; have hfz8_1 := blk_frozen BK789.out 1) | ((with_reducible refine gate_callee (f := 169) rfl ?_); refine goesL_ (some 5) rfl rfl Try.func169 (by kernel_rfl) rfl #[.string a0_0] rfl (by (try simp only [mp_]); first | done | rfl | (simp only [List.length_drop, List.length_take]; rfl)) ?_; (with_reducible refine (impl_NameOk.calls k a0_0 false _ A2.out).mono ?_); rintro e w' ⟨rfl, ⟨nd, rfl⟩⟩; refine ⟨_, rfl, ?_⟩))
 go_ret
 exact ⟨by first | rfl | (simp [errW_none, errW_some] <;> rfl) | (simp [*, errW_none, errW_some] <;> rfl), by repeat (first | (with_reducible first | exact HB.out | apply ba_ | apply bn_ | apply bd_ | refine below_set ?_ GE789.out) | exact HB.out)⟩
end Go.Proofs.Ytfholjcelnkleaa.Print
end
