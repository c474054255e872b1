import Derived.Test.YtanfohlpkppeiaaDoorMFnConfsCard1
import Derived.Test.YtanfohlpkppeiaaDoorMFnConfsCard3
import Derived.Laws.Cover1
import Derived.Test.YtanfohlpkppeiaaDoorMFnConfsCard2
import Derived.Shelf.Strings.Builder1
import Derived.Shelf.Strings.Builder2
import Derived.Shelf.Strings.OnBuilder
import Derived.Shelf.Strconv.Itoa0
import Derived.Shelf.Strconv.Itoa1
import Derived.Shelf.LaysM
import Derived.Shelf.Strconv.Itoa2
import Derived.Shelf.Strconv.Itoa3
import Derived.Test.YtanfohlpkppeiaaDoorProg
section
namespace Go.Proofs.YtanfohlpkppeiaaDoor.Print
open Go.RowKit Go.Proofs.YtanfohlpkppeiaaDoorV.PrintWords Go.Proofs.YtanfohlpkppeiaaDoorV.PrintLast Go.Proofs.YtanfohlpkppeiaaDoorV.PrintMore
attribute [local go_sem] max2_int min2_int max_two min_two max_three min_three max_four min_four
set_option linter.unusedVariables false
set_option linter.unusedSimpArgs false
set_option maxHeartbeats 8000000
set_option maxRecDepth 100000
def spec_DrawFits.f (k : Nat) (l0 : List Int) : Option (Int × Int × Int × Int × Int × List ByteArray × (List (S83)) × Int × Int × ByteArray) := (spec_l1New.f k l0).bind fun bt692 => ((spec_l13Any.f bt692.1 bt692.2.1 bt692.2.2).bind fun bt696 => ((spec_l4Any.f k bt692.1 bt696.2.2.2.2.2.2.1 bt696.2.2.2.2.2.2.2).bind fun bt707 => ((spec_l1Once.f bt692.1 bt707.2.2.2.2.1 bt707.2.2.2.2.2 4).bind fun bt716 => (if bt716.1 = true then ((spec_l1Int.f bt692.1 bt716.2.1 bt716.2.2 (([99899, 99900] : List Int))).bind fun bt722 => (some (bt696.1, bt696.2.1, bt696.2.2.1, bt696.2.2.2.1, bt696.2.2.2.2.1, bt696.2.2.2.2.2.1, bt707.1, bt707.2.1, bt722.1, bt707.2.2.2.1))) else (some (bt696.1, bt696.2.1, bt696.2.2.1, bt696.2.2.2.1, bt696.2.2.2.2.1, bt696.2.2.2.2.2.1, bt707.1, bt707.2.1, bt707.2.2.1, bt707.2.2.2.1))))))
theorem spec_DrawFits.mono : ∀ a0 k, LeO (spec_DrawFits.f k a0) (spec_DrawFits.f (k + 1) a0) := by
 intro a0 k
 unfold spec_DrawFits.f
 repeat' first | (with_reducible first | exact spec_l1New.mono _ _ | exact spec_l4Any.mono _ _ _ _ | exact LeO.refl _ | exact LeO.none _ | refine LeO.ite ?_ ?_ | refine LeO.bind ?_ (fun _ => ?_)) | exact spec_l1New.mono _ _ | exact spec_l4Any.mono _ _ _ _
theorem spec_DrawFits.calls (k : Nat) (A0 : Option Addr) (c0 : Nat) (l0 : List Int) (r1 : Int) (r2 : Int) (r3 : Int) (r4 : Int) (r5 : Int) (r6 : List ByteArray) (r7 : List (S83)) (r8 : Int) (r9 : Int) (r10 : ByteArray) (w : World) (hr0 : Kd.C (Kd.int .u8) w A0 l0.length l0) (hc0 : l0.length ≤ c0) (h : spec_DrawFits.f k l0 = some (r1, r2, r3, r4, r5, r6, r7, r8, r9, r10)) :
  Calls Tryd.prog 9 #[.slice A0 l0.length c0] w fun e w' => ∃ v5_ v6_ : Value, e = .returned (.tuple #[.agg #[.int .i64 r1, .int .i64 r2, .int .i64 r3, .int .i64 r4, .int .i64 r5, v5_], .agg #[v6_, .int .i64 r8, .int .i64 r9, .string r10]]) ∧ Kd.R Kd.string 9 w' w.heap.size (fun _ => True) v5_ r6 ∧ Kd.R k83 83 w' w.heap.size (fun _ => True) v6_ r7 ∧ Below w.heap.size w w' := by
 have hu26 := Tryd.underlying26
 have hu37 := Tryd.underlying37
 have HR0 := Aside0.mk hr0
 have HC0 := Aside0.mk hc0
 clear hr0 hc0
 have HB := Aside0.mk (Below.refl w.heap.size w)
 have H : ((spec_l1New.f k l0).bind fun bt692 => ((spec_l13Any.f bt692.1 bt692.2.1 bt692.2.2).bind fun bt696 => ((spec_l4Any.f k bt692.1 bt696.2.2.2.2.2.2.1 bt696.2.2.2.2.2.2.2).bind fun bt707 => ((spec_l1Once.f bt692.1 bt707.2.2.2.2.1 bt707.2.2.2.2.2 4).bind fun bt716 => (if bt716.1 = true then ((spec_l1Int.f bt692.1 bt716.2.1 bt716.2.2 (([99899, 99900] : List Int))).bind fun bt722 => (some (bt696.1, bt696.2.1, bt696.2.2.1, bt696.2.2.2.1, bt696.2.2.2.2.1, bt696.2.2.2.2.2.1, bt707.1, bt707.2.1, bt722.1, bt707.2.2.2.1))) else (some (bt696.1, bt696.2.1, bt696.2.2.1, bt696.2.2.2.1, bt696.2.2.2.2.1, bt696.2.2.2.2.2.1, bt707.1, bt707.2.1, bt707.2.2.1, bt707.2.2.2.1))))))) = some (r1, r2, r3, r4, r5, r6, r7, r8, r9, r10) := h
 clear h
 replace H := Option.bind_eq_some_iff.mp H
 obtain ⟨⟨t692, t693, t694⟩, A20, H⟩ := H
 have A2 := Aside0.mk A20
 clear A20
 replace H := Option.bind_eq_some_iff.mp H
 obtain ⟨⟨t696, t697, t698, t699, t700, t701, t704, t705⟩, A30, H⟩ := H
 have A3 := Aside0.mk A30
 clear A30
 replace H := Option.bind_eq_some_iff.mp H
 obtain ⟨⟨t707, t710, t711, t712, t713, t714⟩, A40, H⟩ := H
 have A4 := Aside0.mk A40
 clear A40
 replace H := Option.bind_eq_some_iff.mp H
 obtain ⟨⟨t716, t717, t718⟩, A50, H⟩ := H
 have A5 := Aside0.mk A50
 clear A50
 have AHz_ := Aside0.mk H
 clear H
 go_enter Tryd.func9, Tryd.ntmps9
 try go_wp2_with (first | ((with_reducible refine gd_ 2 rfl ?_); refine bv_ 2 #[.int .i64 0, .int .i64 0, .int .i64 0, .int .i64 0, .int .i64 0, .slice none 0 0] 26 ?_; intro gb690 hg w8 hbox hb; have BK690 := Aside0.mk (hbox); have GW690 := Ge_.mk ((gw_ hg (hs_ HB.out))); replace HB := st_ HB hb; have GE690 := Ge_.mk GW690.out; clear hb hbox hg) | ((with_reducible refine gd_ 3 rfl ?_); refine bv_ 3 #[.slice none 0 0, .int .i64 0, .int .i64 0, .string (⟨#[]⟩ : ByteArray)] 37 ?_; intro gb691 hg w9 hbox hb; have BK691 := Aside0.mk (hbox); have GW691 := Ge_.mk ((gw_ hg (hs_ HB.out))); replace HB := st_ HB hb; have GE691 := Ge_.mk GW691.out; have NB690_691 := nk_ BK690 hg; replace BK690 := bk2_ BK690 hb; have NB691_690 := ns_ NB690_691; clear hb hbox hg) | ((with_reducible refine gate_callee (f := 22) rfl ?_); refine gl_ (some 8) Tryd.func22 #[.slice A0 l0.length c0] ?_; (with_reducible refine (spec_l1New.calls k _ _ l0 t692 t693 t694 w _ ?side1 ?side2 ?side3 A2.out).mono ?_); (case side1 => exact hs_ HB.out); (case side2 => exact HR0.out); (case side3 => exact HC0.out); rintro e w10 ⟨g695, rfl, hi, hb, hb2⟩; refine ⟨_, rfl, ?_⟩; replace HB := Aside0.mk (hb); have HI695 := Aside0.mk (hi); have NB695_690 := Ne_.mk (IsS64.ne_blk hi (bb_ BK690.out hb2) (by decide)); have NB690_695 := Ne_.mk (Ne.symm (IsS64.ne_blk hi (bb_ BK690.out hb2) (by decide))); replace BK690 := Aside0.mk (bb_ BK690.out hb2); have NB695_691 := Ne_.mk (IsS64.ne_blk hi (bb_ BK691.out hb2) (by decide)); have NB691_695 := Ne_.mk (Ne.symm (IsS64.ne_blk hi (bb_ BK691.out hb2) (by decide))); replace BK691 := Aside0.mk (bb_ BK691.out hb2); (try clear hb); (try clear hb2); (try clear hk); (try clear hi)) | ((with_reducible refine gate_callee (f := 23) rfl ?_); refine gl_ (some 10) Tryd.func23 #[.pointer (some ⟨g695, 0, none⟩)] ?_; (with_reducible refine (spec_l13Any.calls g695 t692 t693 t694 t696 t697 t698 t699 t700 t701 t704 t705 w _ ?side1 ?side2 A3.out).mono ?_); (case side1 => exact IsS64.pk_ HI695.out); (case side2 => exact hs_ HB.out); rintro e w11 ⟨v702, rfl, ho0, hi, hb, hk⟩; refine ⟨_, rfl, ?_⟩; replace BK690 := kb_ hk BK690; replace BK691 := kb_ hk BK691; have HO703 := Aside0.mk (Kd.R_lower ho0 (below_size (hs_ HB.out))); replace HB := Aside0.mk (hb); replace HI695 := Aside0.mk (hi); (try clear hb); (try clear hb2); (try clear hk); (try clear hi); (try clear ho0)) | ((with_reducible refine gd_ 5 rfl ?_); refine bv_ 5 #[.int .i64 0, .int .i64 0, .int .i64 0, .int .i64 0, .int .i64 0, .slice none 0 0] 26 ?_; intro gb706 hg w12 hbox hb; replace HO703 := rb_ HO703 hb; have BK706 := Aside0.mk (hbox); have GW706 := Ge_.mk ((gw_ hg (hs_ HB.out))); replace HB := st_ HB hb; have GE706 := Ge_.mk GW706.out; have NB690_706 := nk_ BK690 hg; replace BK690 := bk2_ BK690 hb; have NB706_690 := ns_ NB690_706; have NB691_706 := nk_ BK691 hg; replace BK691 := bk2_ BK691 hb; have NB706_691 := ns_ NB691_706; have NB695_706 := Ne_.mk ((by rw [hg]; exact Nat.ne_of_lt (IsS64.lt (show IsS64 w _ g695 t692 t704 t705 from IsS64.pk_ HI695.out)) : g695 ≠ gb706)); replace HI695 := IsS64.bk_ HI695 hb; have NB706_695 := ns_ NB695_706; clear hb hbox hg; have hnb13 := NB706_690.out; have hnc13 := NB690_706.out; have hnb14 := NB706_691.out; have hnc14 := NB691_706.out; have hnb15 := NB706_695.out; have hnc15 := NB695_706.out; obtain ⟨z16_0, z16_1, z16_2, z16_3, z16_4, z16_5, y16_0, y16_1, y16_2, y16_3, y16_4, y16_5⟩ := bc6_ BK706.out; obtain ⟨Ao17, co17, eo17⟩ := Kd.R_slice HO703.out; subst eo17) | ((with_reducible refine gate_callee (f := 27) rfl ?_); refine gl_ (some 12) Tryd.func27 #[.pointer (some ⟨g695, 0, none⟩)] ?_; (with_reducible refine (spec_l4Any.calls k g695 t692 t704 t705 t707 t710 t711 t712 t713 t714 w _ ?side1 ?side2 A4.out).mono ?_); (case side1 => exact IsS64.pk_ HI695.out); (case side2 => exact hs_ HB.out); rintro e w18 ⟨v708, rfl, ho0, hi, hb, hk⟩; refine ⟨_, rfl, ?_⟩; replace BK690 := kc_ hk BK690 #[.int .i64 0, .int .i64 0, .int .i64 0, .int .i64 0, .int .i64 0, .slice none 0 0]; replace BK691 := kc_ hk BK691 #[.slice none 0 0, .int .i64 0, .int .i64 0, .string (⟨#[]⟩ : ByteArray)]; replace HO703 := Aside0.mk (Kd.R_mono (Kd.R_keep (IsS64.apart (show IsS64 w _ g695 t692 t704 t705 from IsS64.pk_ HI695.out) (by (with_reducible repeat (first | apply Kd.R_alloc | apply Kd.R_drewN | apply Kd.R_drew)); exact (Kd.R_mono (rf_ gb706 (Kd.R_types HO703.out BK706.out (by decide)) (fun _ hk => hk.2)) (fun _ h_ => h_.1))) (by decide)) hk (fun _ h => h.2)) (fun _ h => h.1)); replace BK706 := kc_ hk BK706 #[.int .i64 t696, .int .i64 t697, .int .i64 t698, .int .i64 t699, .int .i64 t700, .slice Ao17 t701.length co17]; have HO709 := Aside0.mk (Kd.R_lower ho0 (below_size (hs_ HB.out))); replace HB := Aside0.mk (hb); replace HI695 := Aside0.mk (hi); (try clear hb); (try clear hb2); (try clear hk); (try clear hi); (try clear ho0)) | (((with_reducible refine gd_ 6 rfl ?_); refine bv_ 6 #[.slice none 0 0, .int .i64 0, .int .i64 0, .string (⟨#[]⟩ : ByteArray)] 37 ?_; intro gb715 hg w19 hbox hb; replace HO703 := rb_ HO703 hb; replace HO709 := rb_ HO709 hb; have BK715 := Aside0.mk (hbox); have GW715 := Ge_.mk ((gw_ hg (hs_ HB.out))); replace HB := st_ HB hb; have GE715 := Ge_.mk GW715.out; have NB690_715 := nk_ BK690 hg; replace BK690 := bk2_ BK690 hb; have NB715_690 := ns_ NB690_715; have NB691_715 := nk_ BK691 hg; replace BK691 := bk2_ BK691 hb; have NB715_691 := ns_ NB691_715; have NB706_715 := nk_ BK706 hg; replace BK706 := bk2_ BK706 hb; have NB715_706 := ns_ NB706_715; have NB695_715 := Ne_.mk ((by rw [hg]; exact Nat.ne_of_lt (IsS64.lt (show IsS64 w _ g695 t692 t713 t714 from IsS64.pk_ HI695.out)) : g695 ≠ gb715)); replace HI695 := IsS64.bk_ HI695 hb; have NB715_695 := ns_ NB695_715; clear hb hbox hg; obtain ⟨Ao20, co20, eo20⟩ := Kd.R_slice HO709.out; subst eo20; have hnb21 := NB715_690.out; have hnc21 := NB690_715.out; have hnb22 := NB715_691.out; have hnc22 := NB691_715.out; have hnb23 := NB715_706.out; have hnc23 := NB706_715.out; have hnb24 := NB715_695.out; have hnc24 := NB695_715.out; obtain ⟨z25_0, z25_1, z25_2, z25_3, y25_0, y25_1, y25_2, y25_3⟩ := bc4_ BK715.out); refine Aside0.out ?_))
 have H := AHz_.out
 clear AHz_
 by_cases c6 : t716 = true
 ·
  subst c6
  rw [if_pos rfl] at H
  obtain ⟨y719, hy719⟩ : ∃ y_ : List Int, y_ = (([99899, 99900] : List Int)) := ⟨_, rfl⟩
  replace H : ((spec_l1Int.f t692 t717 t718 y719).bind fun bt722 => (some (t696, t697, t698, t699, t700, t701, t707, t710, bt722.1, t712))) = some (r1, r2, r3, r4, r5, r6, r7, r8, r9, r10) := by first | (rw [hy719]; with_reducible exact H) | (have H2_ := (Option.bind_some _ _).symm.trans H; rw [hy719]; with_reducible exact H2_) | (have H2_ := (Option.bind_some _ _).symm.trans H; with_reducible exact H2_) | with_reducible exact H | (rw [hy719]; exact H) | exact H
  have Ny719 := Aside0.mk hy719
  clear hy719
  replace H := Option.bind_eq_some_iff.mp H
  obtain ⟨⟨t722, t723, t724⟩, A70, H⟩ := H
  have A7 := Aside0.mk A70
  clear A70
  simp only [Option.some.injEq, Prod.mk.injEq] at H
  obtain ⟨rfl, rfl, rfl, rfl, rfl, rfl, rfl, rfl, rfl, rfl⟩ := H
  refine ⟨?_⟩
  try go_wp2_with (first | ((with_reducible refine gate_callee (f := 24) rfl ?_); refine gl_ (some 14) Tryd.func24 #[.pointer (some ⟨g695, 0, none⟩), .int .i64 4] ?_; (with_reducible refine (spec_l1Once.calls g695 t692 t713 t714 4 true t717 t718 w _ ?side1 ?side2 A5.out).mono ?_); (case side1 => exact IsS64.pk_ HI695.out); (case side2 => exact hs_ HB.out); rintro e w26 ⟨rfl, hi, hb, hk⟩; refine ⟨_, rfl, ?_⟩; replace BK690 := kc_ hk BK690 #[.int .i64 0, .int .i64 0, .int .i64 0, .int .i64 0, .int .i64 0, .slice none 0 0]; replace BK691 := kc_ hk BK691 #[.slice none 0 0, .int .i64 0, .int .i64 0, .string (⟨#[]⟩ : ByteArray)]; replace HO703 := Aside0.mk (Kd.R_mono (Kd.R_keep (IsS64.apart (show IsS64 w _ g695 t692 t713 t714 from IsS64.pk_ HI695.out) (by (with_reducible repeat (first | apply Kd.R_alloc | apply Kd.R_drewN | apply Kd.R_drew)); exact (Kd.R_mono (rf_ gb715 (Kd.R_types HO703.out BK715.out (by decide)) (fun _ hk => hk.2)) (fun _ h_ => h_.1))) (by decide)) hk (fun _ h => h.2)) (fun _ h => h.1)); replace BK706 := kc_ hk BK706 #[.int .i64 t696, .int .i64 t697, .int .i64 t698, .int .i64 t699, .int .i64 t700, .slice Ao17 t701.length co17]; replace HO709 := Aside0.mk (Kd.R_mono (Kd.R_keep (IsS64.apart (show IsS64 w _ g695 t692 t713 t714 from IsS64.pk_ HI695.out) (by (with_reducible repeat (first | apply Kd.R_alloc | apply Kd.R_drewN | apply Kd.R_drew)); exact (Kd.R_mono (rf_ gb715 (Kd.R_types HO709.out BK715.out (by decide)) (fun _ hk => hk.2)) (fun _ h_ => h_.1))) (by decide)) hk (fun _ h => h.2)) (fun _ h => h.1)); replace BK715 := kc_ hk BK715 #[.slice Ao20 t707.length co20, .int .i64 t710, .int .i64 t711, .string t712]; replace HB := Aside0.mk (hb); replace HI695 := Aside0.mk (hi); (try clear hb); (try clear hb2); (try clear hk); (try clear hi)) | ((with_reducible refine gd_ 16 rfl ?_); refine Kd.R_lit (Kd.int .i64) _ 3 ?hg (N := 16) ?hd (xs := ([99899, 99900] : List Int)) (inner := [.int .i64 99899, .int .i64 99900]) (ok := fun _ => True) (okp := fun _ => True) ?hr ?hp (fun _ hk => hk) trivial (Below.refl _ _) (Nat.le_refl _) (by simp) ?_; (case hd => rfl); (case hg => rfl); (case hr => first | (go_simp; done) | (go_simp; rfl)); (case hp => exact (Reps.one (show Kd.M (Kd.int .i64) _ _ _ 99899 [.int .i64 99899] from rfl) (Reps.one (show Kd.M (Kd.int .i64) _ _ _ 99900 [.int .i64 99900] from rfl) (Reps.none _ _)))); intro v720 w27 ho28 hb hg_ hnew_; clear hg_ hnew_; (first | rw [← Ny719.out] at ho28 | (simp only [Int.reduceToNat] at ho28; rw [← Ny719.out] at ho28)); replace HO703 := rb_ HO703 hb; replace HO709 := rb_ HO709 hb; have HO721 := Aside0.mk (Kd.R_lower ho28 (below_size (hs_ HB.out))); replace BK690 := bk2_ BK690 hb; replace BK691 := bk2_ BK691 hb; replace HI695 := IsS64.bk_ HI695 hb; replace BK706 := bk2_ BK706 hb; replace BK715 := bk2_ BK715 hb; replace HB := st_ HB hb; clear hb ho28; obtain ⟨Ao29, co29, eo29⟩ := Kd.R_slice HO721.out; subst eo29) | ((with_reducible refine gate_callee (f := 28) rfl ?_); refine gl_ (some 17) Tryd.func28 #[.pointer (some ⟨g695, 0, none⟩), .slice Ao29 y719.length co29] ?_; (with_reducible refine (spec_l1Int.calls g695 t692 t717 t718 _ _ y719 t722 t723 t724 w _ ?side1 ?side2 ?side3 ?side4 ?side5 A7.out).mono ?_); (case side1 => exact IsS64.pk_ HI695.out); (case side2 => exact hs_ HB.out); (case side3 => exact cp_ ((Kd.R_reads' HO721.out).2.2)); (case side4 => exact (Kd.R_reads' HO721.out).2.1); (case side5 => exact far_slice (IsS64.own_ne HI695.out HO721.out (by decide))); rintro e w30 ⟨rfl, hi, hb, hk⟩; refine ⟨_, rfl, ?_⟩; replace BK690 := kb_ hk BK690; replace BK691 := kb_ hk BK691; replace HO703 := Aside0.mk (Kd.R_mono (Kd.R_keep (IsS64.apart (show IsS64 w _ g695 t692 t717 t718 from IsS64.pk_ HI695.out) (rp_ HO703.out) (by decide)) hk (fun _ h => h.2)) (fun _ h => h.1)); replace BK706 := kb_ hk BK706; replace HO709 := Aside0.mk (Kd.R_mono (Kd.R_keep (IsS64.apart (show IsS64 w _ g695 t692 t717 t718 from IsS64.pk_ HI695.out) (rp_ HO709.out) (by decide)) hk (fun _ h => h.2)) (fun _ h => h.1)); replace BK715 := kb_ hk BK715; replace HO721 := Aside0.mk (Kd.R_mono (Kd.R_keep (IsS64.apart (show IsS64 w _ g695 t692 t717 t718 from IsS64.pk_ HI695.out) (rp_ HO721.out) (by decide)) hk (fun _ h => h.2)) (fun _ h => h.1)); replace HB := Aside0.mk (hb); replace HI695 := Aside0.mk (hi); (try clear hb); (try clear hb2); (try clear hk); (try clear hi); obtain ⟨z31_0, z31_1, z31_2, z31_3, y31_0, y31_1, y31_2, y31_3⟩ := bc4_ BK715.out))
  generalize hw_ : (w30.setCell ⟨gb715, 2, none⟩ (.int .i64 t722)) = w32
  have n0_ : Aside0 (Kd.R Kd.string 9 w32 w.heap.size (fun _ => True) (.slice Ao17 t701.length co17) t701) := ⟨by rw [← hw_]; exact (Kd.R_mono (rf_ gb715 (Kd.R_types HO703.out BK715.out (by decide)) (fun _ hk => hk.2)) (fun _ hk => trivial))⟩
  have n1_ : Aside0 (Kd.R k83 83 w32 w.heap.size (fun _ => True) (.slice Ao20 t707.length co20) t707) := ⟨by rw [← hw_]; exact (Kd.R_mono (rf_ gb715 (Kd.R_types HO709.out BK715.out (by decide)) (fun _ hk => hk.2)) (fun _ hk => trivial))⟩
  have n2_ : Aside0 (Kd.R (Kd.int .i64) 3 w32 w.heap.size (fun _ => True) (.slice Ao29 y719.length co29) y719) := ⟨by rw [← hw_]; exact (Kd.R_mono (rf_ gb715 (Kd.R_types HO721.out BK715.out (by decide)) (fun _ hk => hk.2)) (fun _ hk => trivial))⟩
  have n3_ : Aside0 (w32.heap[gb690]? = some (.cells #[.int .i64 0, .int .i64 0, .int .i64 0, .int .i64 0, .int .i64 0, .slice none 0 0] 26 (0, 0))) := ⟨by rw [← hw_]; exact (bq_ BK690.out)⟩
  have n4_ : Aside0 (w32.heap[gb691]? = some (.cells #[.slice none 0 0, .int .i64 0, .int .i64 0, .string (⟨#[]⟩ : ByteArray)] 37 (0, 0))) := ⟨by rw [← hw_]; exact (bq_ BK691.out)⟩
  have n5_ : Aside0 (w32.heap[gb706]? = some (.cells #[.int .i64 t696, .int .i64 t697, .int .i64 t698, .int .i64 t699, .int .i64 t700, .slice Ao17 t701.length co17] 26 (0, 0))) := ⟨by rw [← hw_]; exact (bq_ BK706.out)⟩
  have n6_ : Aside0 (w32.heap[gb715]? = some (.cells #[.slice Ao20 t707.length co20, .int .i64 t710, .int .i64 t722, .string t712] 37 (0, 0))) := ⟨by rw [← hw_]; exact (bp_ BK715.out)⟩
  have n7_ : Aside0 (IsS64 w w32 g695 t692 t723 t724) := ⟨by rw [← hw_]; exact (IsS64.pk_ HI695.out)⟩
  have n8_ : Aside0 (Below w.heap.size w w32) := ⟨by rw [← hw_]; exact (hs_ HB.out)⟩
  clear hw_
  (try clear HO703)
  (try clear HO709)
  (try clear HO721)
  (try clear BK690)
  (try clear BK691)
  (try clear BK706)
  (try clear BK715)
  (try clear HI695)
  (try clear HB)
  have HO703 := n0_
  have HO709 := n1_
  have HO721 := n2_
  have BK690 := n3_
  have BK691 := n4_
  have BK706 := n5_
  have BK715 := n6_
  have HI695 := n7_
  have HB := n8_
  clear n0_ n1_ n2_ n3_ n4_ n5_ n6_ n7_ n8_
  replace HO703 := Aside0.mk (Kd.R_drew HO703.out)
  replace HO709 := Aside0.mk (Kd.R_drew HO709.out)
  replace HO721 := Aside0.mk (Kd.R_drew HO721.out)
  replace BK690 := Aside0.mk (blk_drew BK690.out)
  replace BK691 := Aside0.mk (blk_drew BK691.out)
  replace BK706 := Aside0.mk (blk_drew BK706.out)
  replace BK715 := Aside0.mk (blk_drew BK715.out)
  replace HI695 := Aside0.mk (IsS64.drew HI695.out)
  replace HB := Aside0.mk (bd_ HB.out)
  refine start_ (n := 4) (S := fun w' => w'.cell? ⟨gb706, 0, none⟩ = some (.int .i64 t696) ∧ w'.cell? ⟨gb706, 1, none⟩ = some (.int .i64 t697) ∧ w'.cell? ⟨gb706, 2, none⟩ = some (.int .i64 t698) ∧ w'.cell? ⟨gb706, 3, none⟩ = some (.int .i64 t699) ∧ w'.cell? ⟨gb706, 4, none⟩ = some (.int .i64 t700) ∧ w'.cell? ⟨gb706, 5, none⟩ = some (.slice Ao17 t701.length co17) ∧ w'.cell? ⟨gb715, 0, none⟩ = some (.slice Ao20 t707.length co20) ∧ w'.cell? ⟨gb715, 1, none⟩ = some (.int .i64 t710) ∧ w'.cell? ⟨gb715, 2, none⟩ = some (.int .i64 t722) ∧ w'.cell? ⟨gb715, 3, none⟩ = some (.string t712)) (ds := []) #[false, false, false, false] (by kernel_rfl) rfl rfl ⟨bx_ BK706.out 0, bx_ BK706.out 1, bx_ BK706.out 2, bx_ BK706.out 3, bx_ BK706.out 4, bx_ BK706.out 5, bx_ BK715.out 0, bx_ BK715.out 1, bx_ BK715.out 2, bx_ BK715.out 3⟩ (fun hHeld => ?_)
  generalize w32.drew = w33 at HO703 HO709 HO721 BK690 BK691 BK706 BK715 HI695 HB hHeld ⊢
  refine take_ (i := 0) (N := some 19) (v := ?_) (a' := ?_) #[true, false, false, false] rfl rfl (by kernel_rfl) (fun _ _ _ h => h) (Or.inl ⟨by rfl, ?_⟩) hHeld ?_ ?_
  rotate_left
  ·
   rintro w' ⟨s0, s1, s2, s3, s4, s5, s6, s7, s8, s9⟩
   go_simp
   with_reducible rfl
  rotate_left
  ·
   simp only [fr_]
   rfl
  refine take_ (i := 1) (N := some 20) (v := ?_) (a' := ?_) #[true, true, false, false] rfl rfl (by kernel_rfl) (fun _ _ _ h => h) (Or.inl ⟨by rfl, ?_⟩) hHeld ?_ ?_
  rotate_left
  ·
   rintro w' ⟨s0, s1, s2, s3, s4, s5, s6, s7, s8, s9⟩
   go_simp
   with_reducible rfl
  rotate_left
  ·
   simp only [fr_]
   rfl
  refine one_ (i := 2) (N := none) #[true, true, true, false] rfl rfl (by kernel_rfl) (by decide) (fun K hK => ?_)
  have hs34 : w33.cell? ⟨gb690, 0, none⟩ = some (.int .i64 0) := bx_ BK690.out 0
  have hfs34 := blk_frozen BK690.out 0
  have hns34_1 := NB691_690.out
  have hns34_2 := NB706_690.out
  have hns34_3 := NB715_690.out
  have hms34_1 := NB690_691.out
  have hms34_2 := NB690_706.out
  have hms34_3 := NB690_715.out
  have hs35 : w33.cell? ⟨gb690, 1, none⟩ = some (.int .i64 0) := bx_ BK690.out 1
  have hfs35 := blk_frozen BK690.out 1
  have hns35_1 := NB691_690.out
  have hns35_2 := NB706_690.out
  have hns35_3 := NB715_690.out
  have hms35_1 := NB690_691.out
  have hms35_2 := NB690_706.out
  have hms35_3 := NB690_715.out
  have hs36 : w33.cell? ⟨gb690, 2, none⟩ = some (.int .i64 0) := bx_ BK690.out 2
  have hfs36 := blk_frozen BK690.out 2
  have hns36_1 := NB691_690.out
  have hns36_2 := NB706_690.out
  have hns36_3 := NB715_690.out
  have hms36_1 := NB690_691.out
  have hms36_2 := NB690_706.out
  have hms36_3 := NB690_715.out
  have hs37 : w33.cell? ⟨gb690, 3, none⟩ = some (.int .i64 0) := bx_ BK690.out 3
  have hfs37 := blk_frozen BK690.out 3
  have hns37_1 := NB691_690.out
  have hns37_2 := NB706_690.out
  have hns37_3 := NB715_690.out
  have hms37_1 := NB690_691.out
  have hms37_2 := NB690_706.out
  have hms37_3 := NB690_715.out
  have hs38 : w33.cell? ⟨gb690, 4, none⟩ = some (.int .i64 0) := bx_ BK690.out 4
  have hfs38 := blk_frozen BK690.out 4
  have hns38_1 := NB691_690.out
  have hns38_2 := NB706_690.out
  have hns38_3 := NB715_690.out
  have hms38_1 := NB690_691.out
  have hms38_2 := NB690_706.out
  have hms38_3 := NB690_715.out
  have hs39 : w33.cell? ⟨gb690, 5, none⟩ = some (.slice none 0 0) := bx_ BK690.out 5
  have hfs39 := blk_frozen BK690.out 5
  have hns39_1 := NB691_690.out
  have hns39_2 := NB706_690.out
  have hns39_3 := NB715_690.out
  have hms39_1 := NB690_691.out
  have hms39_2 := NB690_706.out
  have hms39_3 := NB690_715.out
  refine skip_ (w1 := ?_) (by rfl) rfl ?_ ?_
  rotate_left
  ·
   go_simp
   rfl
  refine hK.out _ _ ⟨(cg_ (hHeld.1)), (cg_ (hHeld.2.1)), (cg_ (hHeld.2.2.1)), (cg_ (hHeld.2.2.2.1)), (cg_ (hHeld.2.2.2.2.1)), (cg_ (hHeld.2.2.2.2.2.1)), (cg_ (hHeld.2.2.2.2.2.2.1)), (cg_ (hHeld.2.2.2.2.2.2.2.1)), (cg_ (hHeld.2.2.2.2.2.2.2.2.1)), (cg_ (hHeld.2.2.2.2.2.2.2.2.2))⟩ (fun hHeld => ?_)
  clear hK K
  refine one_ (i := 3) (N := none) #[true, true, true, true] rfl rfl (by kernel_rfl) (by decide) (fun K hK => ?_)
  have hs40 : w33.cell? ⟨gb691, 0, none⟩ = some (.slice none 0 0) := bx_ BK691.out 0
  have hfs40 := blk_frozen BK691.out 0
  have hns40_0 := NB690_691.out
  have hns40_2 := NB706_691.out
  have hns40_3 := NB715_691.out
  have hms40_0 := NB691_690.out
  have hms40_2 := NB691_706.out
  have hms40_3 := NB691_715.out
  have hs41 : w33.cell? ⟨gb691, 1, none⟩ = some (.int .i64 0) := bx_ BK691.out 1
  have hfs41 := blk_frozen BK691.out 1
  have hns41_0 := NB690_691.out
  have hns41_2 := NB706_691.out
  have hns41_3 := NB715_691.out
  have hms41_0 := NB691_690.out
  have hms41_2 := NB691_706.out
  have hms41_3 := NB691_715.out
  have hs42 : w33.cell? ⟨gb691, 2, none⟩ = some (.int .i64 0) := bx_ BK691.out 2
  have hfs42 := blk_frozen BK691.out 2
  have hns42_0 := NB690_691.out
  have hns42_2 := NB706_691.out
  have hns42_3 := NB715_691.out
  have hms42_0 := NB691_690.out
  have hms42_2 := NB691_706.out
  have hms42_3 := NB691_715.out
  have hs43 : w33.cell? ⟨gb691, 3, none⟩ = some (.string (⟨#[]⟩ : ByteArray)) := bx_ BK691.out 3
  have hfs43 := blk_frozen BK691.out 3
  have hns43_0 := NB690_691.out
  have hns43_2 := NB706_691.out
  have hns43_3 := NB715_691.out
  have hms43_0 := NB691_690.out
  have hms43_2 := NB691_706.out
  have hms43_3 := NB691_715.out
  refine skip_ (w1 := ?_) (by rfl) rfl ?_ ?_
  rotate_left
  ·
   go_simp
   rfl
  refine hK.out _ _ ⟨(cg_ (hHeld.1)), (cg_ (hHeld.2.1)), (cg_ (hHeld.2.2.1)), (cg_ (hHeld.2.2.2.1)), (cg_ (hHeld.2.2.2.2.1)), (cg_ (hHeld.2.2.2.2.2.1)), (cg_ (hHeld.2.2.2.2.2.2.1)), (cg_ (hHeld.2.2.2.2.2.2.2.1)), (cg_ (hHeld.2.2.2.2.2.2.2.2.1)), (cg_ (hHeld.2.2.2.2.2.2.2.2.2))⟩ (fun hHeld => ?_)
  clear hK K
  refine done_ (by kernel_rfl) ?_
  try go_wp2
  refine bodyPost_ret (results_cc rfl _ _ gb690 gb691 26 37 #[.int .i64 t696, .int .i64 t697, .int .i64 t698, .int .i64 t699, .int .i64 t700, .slice Ao17 t701.length co17] #[.slice Ao20 t707.length co20, .int .i64 t710, .int .i64 t722, .string t712] (0, 0) (0, 0) _ _ rfl (bp_ BK690.out) Tryd.underlying26 rfl (by kernel_rfl) rfl (bp_ BK691.out) Tryd.underlying37 rfl (by kernel_rfl)) rfl ?_
  exact ⟨_, _, by first | rfl | (simp [errW_none, errW_some] <;> rfl) | (simp [*, errW_none, errW_some] <;> rfl), by (with_reducible repeat (first | apply Kd.R_alloc | apply Kd.R_drewN | apply Kd.R_drew)); exact Kd.R_mono (rf_ gb691 (Kd.R_far (p := ⟨gb690, 5, none⟩) (Kd.R_far (p := ⟨gb690, 4, none⟩) (Kd.R_far (p := ⟨gb690, 3, none⟩) (Kd.R_far (p := ⟨gb690, 2, none⟩) (Kd.R_far (p := ⟨gb690, 1, none⟩) (Kd.R_far (p := ⟨gb690, 0, none⟩) (Kd.R_types (Kd.R_types HO703.out BK690.out (by decide)) BK691.out (by decide)) (fun _ hk => hk.1.2) (.int .i64 t696)) (fun _ hk => hk.1.2) (.int .i64 t697)) (fun _ hk => hk.1.2) (.int .i64 t698)) (fun _ hk => hk.1.2) (.int .i64 t699)) (fun _ hk => hk.1.2) (.int .i64 t700)) (fun _ hk => hk.1.2) (.slice Ao17 t701.length co17)) (fun _ hk => hk.2)) (fun _ hk => trivial), by (with_reducible repeat (first | apply Kd.R_alloc | apply Kd.R_drewN | apply Kd.R_drew)); exact Kd.R_mono (rf_ gb691 (Kd.R_far (p := ⟨gb690, 5, none⟩) (Kd.R_far (p := ⟨gb690, 4, none⟩) (Kd.R_far (p := ⟨gb690, 3, none⟩) (Kd.R_far (p := ⟨gb690, 2, none⟩) (Kd.R_far (p := ⟨gb690, 1, none⟩) (Kd.R_far (p := ⟨gb690, 0, none⟩) (Kd.R_types (Kd.R_types HO709.out BK690.out (by decide)) BK691.out (by decide)) (fun _ hk => hk.1.2) (.int .i64 t696)) (fun _ hk => hk.1.2) (.int .i64 t697)) (fun _ hk => hk.1.2) (.int .i64 t698)) (fun _ hk => hk.1.2) (.int .i64 t699)) (fun _ hk => hk.1.2) (.int .i64 t700)) (fun _ hk => hk.1.2) (.slice Ao17 t701.length co17)) (fun _ hk => hk.2)) (fun _ hk => trivial), by exact hs_ HB.out⟩
 replace c6 := Bool.eq_false_iff.mpr c6
 subst c6
 rw [if_neg (show ¬ (false = true) by decide)] at H
 simp only [Option.some.injEq, Prod.mk.injEq] at H
 obtain ⟨rfl, rfl, rfl, rfl, rfl, rfl, rfl, rfl, rfl, rfl⟩ := H
 refine ⟨?_⟩
 try go_wp2_with (first | ((with_reducible refine gate_callee (f := 24) rfl ?_); refine gl_ (some 14) Tryd.func24 #[.pointer (some ⟨g695, 0, none⟩), .int .i64 4] ?_; (with_reducible refine (spec_l1Once.calls g695 t692 t713 t714 4 false t717 t718 w _ ?side1 ?side2 A5.out).mono ?_); (case side1 => exact IsS64.pk_ HI695.out); (case side2 => exact hs_ HB.out); rintro e w62 ⟨rfl, hi, hb, hk⟩; refine ⟨_, rfl, ?_⟩; replace BK690 := kc_ hk BK690 #[.int .i64 0, .int .i64 0, .int .i64 0, .int .i64 0, .int .i64 0, .slice none 0 0]; replace BK691 := kc_ hk BK691 #[.slice none 0 0, .int .i64 0, .int .i64 0, .string (⟨#[]⟩ : ByteArray)]; replace HO703 := Aside0.mk (Kd.R_mono (Kd.R_keep (IsS64.apart (show IsS64 w _ g695 t692 t713 t714 from IsS64.pk_ HI695.out) (by (with_reducible repeat (first | apply Kd.R_alloc | apply Kd.R_drewN | apply Kd.R_drew)); exact (Kd.R_mono (rf_ gb715 (Kd.R_types HO703.out BK715.out (by decide)) (fun _ hk => hk.2)) (fun _ h_ => h_.1))) (by decide)) hk (fun _ h => h.2)) (fun _ h => h.1)); replace BK706 := kc_ hk BK706 #[.int .i64 t696, .int .i64 t697, .int .i64 t698, .int .i64 t699, .int .i64 t700, .slice Ao17 t701.length co17]; replace HO709 := Aside0.mk (Kd.R_mono (Kd.R_keep (IsS64.apart (show IsS64 w _ g695 t692 t713 t714 from IsS64.pk_ HI695.out) (by (with_reducible repeat (first | apply Kd.R_alloc | apply Kd.R_drewN | apply Kd.R_drew)); exact (Kd.R_mono (rf_ gb715 (Kd.R_types HO709.out BK715.out (by decide)) (fun _ hk => hk.2)) (fun _ h_ => h_.1))) (by decide)) hk (fun _ h => h.2)) (fun _ h => h.1)); replace BK715 := kc_ hk BK715 #[.slice Ao20 t707.length co20, .int .i64 t710, .int .i64 t711, .string t712]; replace HB := Aside0.mk (hb); replace HI695 := Aside0.mk (hi); (try clear hb); (try clear hb2); (try clear hk); (try clear hi)))
 replace HO703 := Aside0.mk (Kd.R_drew HO703.out)
 replace HO709 := Aside0.mk (Kd.R_drew HO709.out)
 replace BK690 := Aside0.mk (blk_drew BK690.out)
 replace BK691 := Aside0.mk (blk_drew BK691.out)
 replace BK706 := Aside0.mk (blk_drew BK706.out)
 replace BK715 := Aside0.mk (blk_drew BK715.out)
 replace HI695 := Aside0.mk (IsS64.drew HI695.out)
 replace HB := Aside0.mk (bd_ HB.out)
 refine start_ (n := 4) (S := fun w' => w'.cell? ⟨gb706, 0, none⟩ = some (.int .i64 t696) ∧ w'.cell? ⟨gb706, 1, none⟩ = some (.int .i64 t697) ∧ w'.cell? ⟨gb706, 2, none⟩ = some (.int .i64 t698) ∧ w'.cell? ⟨gb706, 3, none⟩ = some (.int .i64 t699) ∧ w'.cell? ⟨gb706, 4, none⟩ = some (.int .i64 t700) ∧ w'.cell? ⟨gb706, 5, none⟩ = some (.slice Ao17 t701.length co17) ∧ w'.cell? ⟨gb715, 0, none⟩ = some (.slice Ao20 t707.length co20) ∧ w'.cell? ⟨gb715, 1, none⟩ = some (.int .i64 t710) ∧ w'.cell? ⟨gb715, 2, none⟩ = some (.int .i64 t711) ∧ w'.cell? ⟨gb715, 3, none⟩ = some (.string t712)) (ds := []) #[false, false, false, false] (by kernel_rfl) rfl rfl ⟨bx_ BK706.out 0, bx_ BK706.out 1, bx_ BK706.out 2, bx_ BK706.out 3, bx_ BK706.out 4, bx_ BK706.out 5, bx_ BK715.out 0, bx_ BK715.out 1, bx_ BK715.out 2, bx_ BK715.out 3⟩ (fun hHeld => ?_)
 generalize w62.drew = w63 at HO703 HO709 BK690 BK691 BK706 BK715 HI695 HB hHeld ⊢
 refine take_ (i := 0) (N := some 19) (v := ?_) (a' := ?_) #[true, false, false, false] rfl rfl (by kernel_rfl) (fun _ _ _ h => h) (Or.inl ⟨by rfl, ?_⟩) hHeld ?_ ?_
 rotate_left
 ·
  rintro w' ⟨s0, s1, s2, s3, s4, s5, s6, s7, s8, s9⟩
  go_simp
  with_reducible rfl
 rotate_left
 ·
  simp only [fr_]
  rfl
 refine take_ (i := 1) (N := some 20) (v := ?_) (a' := ?_) #[true, true, false, false] rfl rfl (by kernel_rfl) (fun _ _ _ h => h) (Or.inl ⟨by rfl, ?_⟩) hHeld ?_ ?_
 rotate_left
 ·
  rintro w' ⟨s0, s1, s2, s3, s4, s5, s6, s7, s8, s9⟩
  go_simp
  with_reducible rfl
 rotate_left
 ·
  simp only [fr_]
  rfl
 refine one_ (i := 2) (N := none) #[true, true, true, false] rfl rfl (by kernel_rfl) (by decide) (fun K hK => ?_)
 have hs64 : w63.cell? ⟨gb690, 0, none⟩ = some (.int .i64 0) := bx_ BK690.out 0
 have hfs64 := blk_frozen BK690.out 0
 have hns64_1 := NB691_690.out
 have hns64_2 := NB706_690.out
 have hns64_3 := NB715_690.out
 have hms64_1 := NB690_691.out
 have hms64_2 := NB690_706.out
 have hms64_3 := NB690_715.out
 have hs65 : w63.cell? ⟨gb690, 1, none⟩ = some (.int .i64 0) := bx_ BK690.out 1
 have hfs65 := blk_frozen BK690.out 1
 have hns65_1 := NB691_690.out
 have hns65_2 := NB706_690.out
 have hns65_3 := NB715_690.out
 have hms65_1 := NB690_691.out
 have hms65_2 := NB690_706.out
 have hms65_3 := NB690_715.out
 have hs66 : w63.cell? ⟨gb690, 2, none⟩ = some (.int .i64 0) := bx_ BK690.out 2
 have hfs66 := blk_frozen BK690.out 2
 have hns66_1 := NB691_690.out
 have hns66_2 := NB706_690.out
 have hns66_3 := NB715_690.out
 have hms66_1 := NB690_691.out
 have hms66_2 := NB690_706.out
 have hms66_3 := NB690_715.out
 have hs67 : w63.cell? ⟨gb690, 3, none⟩ = some (.int .i64 0) := bx_ BK690.out 3
 have hfs67 := blk_frozen BK690.out 3
 have hns67_1 := NB691_690.out
 have hns67_2 := NB706_690.out
 have hns67_3 := NB715_690.out
 have hms67_1 := NB690_691.out
 have hms67_2 := NB690_706.out
 have hms67_3 := NB690_715.out
 have hs68 : w63.cell? ⟨gb690, 4, none⟩ = some (.int .i64 0) := bx_ BK690.out 4
 have hfs68 := blk_frozen BK690.out 4
 have hns68_1 := NB691_690.out
 have hns68_2 := NB706_690.out
 have hns68_3 := NB715_690.out
 have hms68_1 := NB690_691.out
 have hms68_2 := NB690_706.out
 have hms68_3 := NB690_715.out
 have hs69 : w63.cell? ⟨gb690, 5, none⟩ = some (.slice none 0 0) := bx_ BK690.out 5
 have hfs69 := blk_frozen BK690.out 5
 have hns69_1 := NB691_690.out
 have hns69_2 := NB706_690.out
 have hns69_3 := NB715_690.out
 have hms69_1 := NB690_691.out
 have hms69_2 := NB690_706.out
 have hms69_3 := NB690_715.out
 refine skip_ (w1 := ?_) (by rfl) rfl ?_ ?_
 rotate_left
 ·
  go_simp
  rfl
 refine hK.out _ _ ⟨(cg_ (hHeld.1)), (cg_ (hHeld.2.1)), (cg_ (hHeld.2.2.1)), (cg_ (hHeld.2.2.2.1)), (cg_ (hHeld.2.2.2.2.1)), (cg_ (hHeld.2.2.2.2.2.1)), (cg_ (hHeld.2.2.2.2.2.2.1)), (cg_ (hHeld.2.2.2.2.2.2.2.1)), (cg_ (hHeld.2.2.2.2.2.2.2.2.1)), (cg_ (hHeld.2.2.2.2.2.2.2.2.2))⟩ (fun hHeld => ?_)
 clear hK K
 refine one_ (i := 3) (N := none) #[true, true, true, true] rfl rfl (by kernel_rfl) (by decide) (fun K hK => ?_)
 have hs70 : w63.cell? ⟨gb691, 0, none⟩ = some (.slice none 0 0) := bx_ BK691.out 0
 have hfs70 := blk_frozen BK691.out 0
 have hns70_0 := NB690_691.out
 have hns70_2 := NB706_691.out
 have hns70_3 := NB715_691.out
 have hms70_0 := NB691_690.out
 have hms70_2 := NB691_706.out
 have hms70_3 := NB691_715.out
 have hs71 : w63.cell? ⟨gb691, 1, none⟩ = some (.int .i64 0) := bx_ BK691.out 1
 have hfs71 := blk_frozen BK691.out 1
 have hns71_0 := NB690_691.out
 have hns71_2 := NB706_691.out
 have hns71_3 := NB715_691.out
 have hms71_0 := NB691_690.out
 have hms71_2 := NB691_706.out
 have hms71_3 := NB691_715.out
 have hs72 : w63.cell? ⟨gb691, 2, none⟩ = some (.int .i64 0) := bx_ BK691.out 2
 have hfs72 := blk_frozen BK691.out 2
 have hns72_0 := NB690_691.out
 have hns72_2 := NB706_691.out
 have hns72_3 := NB715_691.out
 have hms72_0 := NB691_690.out
 have hms72_2 := NB691_706.out
 have hms72_3 := NB691_715.out
 have hs73 : w63.cell? ⟨gb691, 3, none⟩ = some (.string (⟨#[]⟩ : ByteArray)) := bx_ BK691.out 3
 have hfs73 := blk_frozen BK691.out 3
 have hns73_0 := NB690_691.out
 have hns73_2 := NB706_691.out
 have hns73_3 := NB715_691.out
 have hms73_0 := NB691_690.out
 have hms73_2 := NB691_706.out
 have hms73_3 := NB691_715.out
 refine skip_ (w1 := ?_) (by rfl) rfl ?_ ?_
 rotate_left
 ·
  go_simp
  rfl
 refine hK.out _ _ ⟨(cg_ (hHeld.1)), (cg_ (hHeld.2.1)), (cg_ (hHeld.2.2.1)), (cg_ (hHeld.2.2.2.1)), (cg_ (hHeld.2.2.2.2.1)), (cg_ (hHeld.2.2.2.2.2.1)), (cg_ (hHeld.2.2.2.2.2.2.1)), (cg_ (hHeld.2.2.2.2.2.2.2.1)), (cg_ (hHeld.2.2.2.2.2.2.2.2.1)), (cg_ (hHeld.2.2.2.2.2.2.2.2.2))⟩ (fun hHeld => ?_)
 clear hK K
 refine done_ (by kernel_rfl) ?_
 try go_wp2
 refine bodyPost_ret (results_cc rfl _ _ gb690 gb691 26 37 #[.int .i64 t696, .int .i64 t697, .int .i64 t698, .int .i64 t699, .int .i64 t700, .slice Ao17 t701.length co17] #[.slice Ao20 t707.length co20, .int .i64 t710, .int .i64 t711, .string t712] (0, 0) (0, 0) _ _ rfl (bp_ BK690.out) Tryd.underlying26 rfl (by kernel_rfl) rfl (bp_ BK691.out) Tryd.underlying37 rfl (by kernel_rfl)) rfl ?_
 exact ⟨_, _, by first | rfl | (simp [errW_none, errW_some] <;> rfl) | (simp [*, errW_none, errW_some] <;> rfl), by (with_reducible repeat (first | apply Kd.R_alloc | apply Kd.R_drewN | apply Kd.R_drew)); exact Kd.R_mono (rf_ gb691 (Kd.R_far (p := ⟨gb690, 5, none⟩) (Kd.R_far (p := ⟨gb690, 4, none⟩) (Kd.R_far (p := ⟨gb690, 3, none⟩) (Kd.R_far (p := ⟨gb690, 2, none⟩) (Kd.R_far (p := ⟨gb690, 1, none⟩) (Kd.R_far (p := ⟨gb690, 0, none⟩) (Kd.R_types (Kd.R_types HO703.out BK690.out (by decide)) BK691.out (by decide)) (fun _ hk => hk.1.2) (.int .i64 t696)) (fun _ hk => hk.1.2) (.int .i64 t697)) (fun _ hk => hk.1.2) (.int .i64 t698)) (fun _ hk => hk.1.2) (.int .i64 t699)) (fun _ hk => hk.1.2) (.int .i64 t700)) (fun _ hk => hk.1.2) (.slice Ao17 t701.length co17)) (fun _ hk => hk.2)) (fun _ hk => trivial), by (with_reducible repeat (first | apply Kd.R_alloc | apply Kd.R_drewN | apply Kd.R_drew)); exact Kd.R_mono (rf_ gb691 (Kd.R_far (p := ⟨gb690, 5, none⟩) (Kd.R_far (p := ⟨gb690, 4, none⟩) (Kd.R_far (p := ⟨gb690, 3, none⟩) (Kd.R_far (p := ⟨gb690, 2, none⟩) (Kd.R_far (p := ⟨gb690, 1, none⟩) (Kd.R_far (p := ⟨gb690, 0, none⟩) (Kd.R_types (Kd.R_types HO709.out BK690.out (by decide)) BK691.out (by decide)) (fun _ hk => hk.1.2) (.int .i64 t696)) (fun _ hk => hk.1.2) (.int .i64 t697)) (fun _ hk => hk.1.2) (.int .i64 t698)) (fun _ hk => hk.1.2) (.int .i64 t699)) (fun _ hk => hk.1.2) (.int .i64 t700)) (fun _ hk => hk.1.2) (.slice Ao17 t701.length co17)) (fun _ hk => hk.2)) (fun _ hk => trivial), by exact hs_ HB.out⟩
def impl_in.f (a0 : Int) (a1 : Int) (a2 : Int) : Option (Bool) := if a0 ≥ a1 then (some (decide (a0 ≤ a2))) else (some false)
theorem impl_in.calls (a0 : Int) (a1 : Int) (a2 : Int) (r : Bool) (w : World) (h : impl_in.f a0 a1 a2 = some r) :
  Calls Tryd.prog 29 #[.int .i64 a0, .int .i64 a1, .int .i64 a2] w fun e w' => e = .returned (.bool r) ∧ Drawn0 w w' := by
 have H : (if a0 ≥ a1 then (some (decide (a0 ≤ a2))) else (some false)) = some r := h
 clear h
 by_cases c4 : a0 ≥ a1
 ·
  rw [if_pos c4] at H
  have c4b0 : decide (a1 ≤ a0) = true := decide_eq_true c4
  clear c4
  obtain rfl := Option.some.inj H
  go_enter Tryd.func29, Tryd.ntmps29
  go_wp2
  go_ret
  exact ⟨by first | rfl | (simp; done) | (simp [*]; done), by repeat (first | exact Drawn0.refl _ | apply Drawn0.step)⟩
 rw [if_neg c4] at H
 have c4b0 : decide (a1 ≤ a0) = false := decide_eq_false c4
 clear c4
 obtain rfl := Option.some.inj H
 go_enter Tryd.func29, Tryd.ntmps29
 go_wp2
 go_ret
 exact ⟨by first | rfl | (simp; done) | (simp [*]; done), by repeat (first | exact Drawn0.refl _ | apply Drawn0.step)⟩
def impl_NameOk.l0 : Nat → ByteArray → Int → Option (Bool)
 | 0, _, _ => none
 | k + 1, x0, x3 => if x3 < (x0.size : Int) then (if 0 ≤ x3 then (if (bt x0 x3) < 97 then (some false) else (if (bt x0 x3) > 122 then (some false) else (impl_NameOk.l0 k x0 (wrap64 (x3 + 1))))) else (none)) else (some true)
def impl_NameOk.f (k : Nat) (a0 : ByteArray) : Option (Bool) := (impl_in.f (a0.size : Int) 1 8).bind fun t725 => (if t725 = true then (impl_NameOk.l0 k a0 0) else (some false))
theorem impl_NameOk.mono_l : ∀ k, (∀ y0 y1, LeO (impl_NameOk.l0 k y0 y1) (impl_NameOk.l0 (k + 1) y0 y1))
 | 0 => fun _ _ r h => by simp [impl_NameOk.l0] at h
 | k + 1 => by
  have ih0 := impl_NameOk.mono_l k
  intro y0 y1
  unfold impl_NameOk.l0
  repeat' first
  | (with_reducible exact ih0 _ _)
  | (with_reducible exact LeO.refl _)
  | (with_reducible exact LeO.none _)
  | (with_reducible refine LeO.ite ?_ ?_)
  | (with_reducible refine LeO.bind ?_ (fun _ => ?_))
  | exact ih0 _ _
theorem impl_NameOk.mono : ∀ a0 k, LeO (impl_NameOk.f k a0) (impl_NameOk.f (k + 1) a0) := by
 intro a0 k
 have ih0 := impl_NameOk.mono_l k
 unfold impl_NameOk.f
 repeat' first | (with_reducible first | exact ih0 _ _ | exact LeO.refl _ | exact LeO.none _ | refine LeO.ite ?_ ?_ | refine LeO.bind ?_ (fun _ => ?_)) | exact ih0 _ _
theorem impl_NameOk.calls (k : Nat) (a0 : ByteArray) (r : Bool) (w : World) (h : impl_NameOk.f k a0 = some r) :
  Calls Tryd.prog 52 #[.string a0] w fun e w' => e = .returned (.bool r) ∧ Drawn0 w w' := by
 have H : ((impl_in.f (a0.size : Int) 1 8).bind fun t725 => (if t725 = true then (impl_NameOk.l0 k a0 0) else (some false))) = some r := h
 clear h
 replace H := Option.bind_eq_some_iff.mp H
 obtain ⟨t725, A20, H⟩ := H
 have A2 := Aside0.mk A20
 clear A20
 by_cases c3 : t725 = true
 ·
  subst c3
  rw [if_pos rfl] at H
  have H' := Aside0.mk H
  clear H
  go_enter Tryd.func52, Tryd.ntmps52
  go_wp2_with (first | ((with_reducible refine gate_callee (f := 29) rfl ?_); refine gl_ (some 6) Tryd.func29 #[.int .i64 (a0.size : Int), .int .i64 1, .int .i64 8] ?_; (with_reducible refine (impl_in.calls (a0.size : Int) 1 8 true _ A2.out).mono ?_); rintro e w' ⟨rfl, ⟨nd, rfl⟩⟩; refine ⟨_, rfl, ?_⟩))
  go_loopg [3] k (fun kq v3 w' => ∃ (x3_1 : Int), v3 = .int .i64 x3_1 ∧ Aside0 (impl_NameOk.l0 kq a0 x3_1 = some r) ∧ Aside0 (kq ≤ k) ∧ Drawn0 w w')
  case atStart => exact ⟨(0), (by first | rfl | (simp; done) | (simp [*]; done)), H', ⟨Nat.le_refl _⟩, by repeat (first | exact Drawn0.refl _ | apply Drawn0.step)⟩
  case round =>
   clear H'
   try clear c2
   try clear p2
   try clear c3
   obtain ⟨x3_1, rfl, HA, HK1, ⟨m1, rfl⟩⟩ := hrel
   cases gk with
   | zero => exact absurd HA.out (by simp [impl_NameOk.l0])
   | succ k1 =>
    have H := HA.out
    clear HA
    simp only [impl_NameOk.l0] at H
    by_cases c4 : x3_1 < (a0.size : Int)
    ·
     rw [if_pos c4] at H
     have c4b0 := decide_eq_true c4
     clear c4
     by_cases c5 : 0 ≤ x3_1
     ·
      rw [if_pos c5] at H
      have c5b0 := decide_eq_true c5
      clear c5
      by_cases c7 : (bt a0 x3_1) < 97
      ·
       rw [if_pos c7] at H
       have c7b0 := decide_eq_true c7
       clear c7
       obtain rfl := Option.some.inj H
       have p6 : 0 ≤ (x3_1 : Int) := of_decide_eq_true (by with_reducible assumption)
       have q6 : x3_1 < (a0.size : Int) := of_decide_eq_true (by with_reducible assumption)
       have hx6 := bt_at a0 x3_1
       replace p6 := eq_true p6
       replace q6 := eq_true q6
       go_wp2
       go_ret
       exact ⟨by first | rfl | (simp; done) | (simp [*]; done), by repeat (first | exact Drawn0.refl _ | apply Drawn0.step)⟩
      rw [if_neg c7] at H
      have c7b0 : decide ((bt a0 x3_1) < 97) = false := decide_eq_false c7
      clear c7
      by_cases c9 : (bt a0 x3_1) > 122
      ·
       rw [if_pos c9] at H
       have c9b0 : decide (122 < (bt a0 x3_1)) = true := decide_eq_true c9
       clear c9
       obtain rfl := Option.some.inj H
       have p6 : 0 ≤ (x3_1 : Int) := of_decide_eq_true (by with_reducible assumption)
       have q6 : x3_1 < (a0.size : Int) := of_decide_eq_true (by with_reducible assumption)
       have hx6 := bt_at a0 x3_1
       replace p6 := eq_true p6
       replace q6 := eq_true q6
       have p8 : 0 ≤ (x3_1 : Int) := of_decide_eq_true (by with_reducible assumption)
       have q8 : x3_1 < (a0.size : Int) := of_decide_eq_true (by with_reducible assumption)
       have hx8 := bt_at a0 x3_1
       replace p8 := eq_true p8
       replace q8 := eq_true q8
       go_wp2
       go_ret
       exact ⟨by first | rfl | (simp; done) | (simp [*]; done), by repeat (first | exact Drawn0.refl _ | apply Drawn0.step)⟩
      rw [if_neg c9] at H
      have c9b0 : decide (122 < (bt a0 x3_1)) = false := decide_eq_false c9
      clear c9
      have H' := Aside0.mk H
      clear H
      have p6 : 0 ≤ (x3_1 : Int) := of_decide_eq_true (by with_reducible assumption)
      have q6 : x3_1 < (a0.size : Int) := of_decide_eq_true (by with_reducible assumption)
      have hx6 := bt_at a0 x3_1
      replace p6 := eq_true p6
      replace q6 := eq_true q6
      have p8 : 0 ≤ (x3_1 : Int) := of_decide_eq_true (by with_reducible assumption)
      have q8 : x3_1 < (a0.size : Int) := of_decide_eq_true (by with_reducible assumption)
      have hx8 := bt_at a0 x3_1
      replace p8 := eq_true p8
      replace q8 := eq_true q8
      go_wp2
      go_roundg k1
      case measure => have := HK1.out; omega
      case rel => exact ⟨(wrap64 (x3_1 + 1)), (by first | rfl | (simp; done) | (simp [*]; done)), H', ⟨by have := HK1.out; omega⟩, by repeat (first | exact Drawn0.refl _ | apply Drawn0.step)⟩
     rw [if_neg c5] at H
     exact absurd H (by simp)
    rw [if_neg c4] at H
    have c4b0 : decide (x3_1 < (a0.size : Int)) = false := decide_eq_false c4
    clear c4
    obtain rfl := Option.some.inj H
    go_wp2
    go_ret
    exact ⟨by first | rfl | (simp; done) | (simp [*]; done), by repeat (first | exact Drawn0.refl _ | apply Drawn0.step)⟩
 replace c3 := Bool.eq_false_iff.mpr c3
 subst c3
 rw [if_neg (show ¬ (false = true) by decide)] at H
 obtain rfl := Option.some.inj H
 go_enter Tryd.func52, Tryd.ntmps52
 go_wp2_with (first | ((with_reducible refine gate_callee (f := 29) rfl ?_); refine gl_ (some 6) Tryd.func29 #[.int .i64 (a0.size : Int), .int .i64 1, .int .i64 8] ?_; (with_reducible refine (impl_in.calls (a0.size : Int) 1 8 false _ A2.out).mono ?_); rintro e w' ⟨rfl, ⟨nd, rfl⟩⟩; refine ⟨_, rfl, ?_⟩))
 go_ret
 exact ⟨by first | rfl | (simp; done) | (simp [*]; done), by repeat (first | exact Drawn0.refl _ | apply Drawn0.step)⟩
def impl_InOrder.l0 : Nat → List ByteArray → Int → Option (Bool)
 | 0, _, _ => none
 | k + 1, x0, x3 => if x3 < (x0.length : Int) then (if 0 ≤ (wrap64 (x3 - 1)) then (if (wrap64 (x3 - 1)) < (x0.length : Int) then (if 0 ≤ x3 then (if ((Op.bytesLess ((rdOf ByteArray.empty x0 (wrap64 (x3 - 1))).toList) ((rdOf ByteArray.empty x0 x3).toList)) = true) then (impl_InOrder.l0 k x0 (wrap64 (x3 + 1))) else (some false)) else (none)) else (none)) else (none)) else (some true)
def impl_InOrder.f (k : Nat) (l0 : List ByteArray) : Option (Bool) := impl_InOrder.l0 k l0 1
theorem impl_InOrder.mono_l : ∀ k, (∀ y0 y1, LeO (impl_InOrder.l0 k y0 y1) (impl_InOrder.l0 (k + 1) y0 y1))
 | 0 => fun _ _ r h => by simp [impl_InOrder.l0] at h
 | k + 1 => by
  have ih0 := impl_InOrder.mono_l k
  intro y0 y1
  unfold impl_InOrder.l0
  repeat' first
  | (with_reducible exact ih0 _ _)
  | (with_reducible exact LeO.refl _)
  | (with_reducible exact LeO.none _)
  | (with_reducible refine LeO.ite ?_ ?_)
  | (with_reducible refine LeO.bind ?_ (fun _ => ?_))
  | exact ih0 _ _
theorem impl_InOrder.mono : ∀ a0 k, LeO (impl_InOrder.f k a0) (impl_InOrder.f (k + 1) a0) := by
 intro a0 k
 have ih0 := impl_InOrder.mono_l k
 unfold impl_InOrder.f
 repeat' first | (with_reducible first | exact ih0 _ _ | exact LeO.refl _ | exact LeO.none _ | refine LeO.ite ?_ ?_ | refine LeO.bind ?_ (fun _ => ?_)) | exact ih0 _ _
theorem impl_InOrder.calls (k : Nat) (A0 : Option Addr) (c0 : Nat) (l0 : List ByteArray) (r : Bool) (w : World) (hr0 : Kd.C Kd.string w A0 l0.length l0) (hc0 : l0.length ≤ c0) (h : impl_InOrder.f k l0 = some r) :
  Calls Tryd.prog 53 #[.slice A0 l0.length c0] w fun e w' => e = .returned (.bool r) ∧ Drawn0 w w' := by
 have HR0 := Aside0.mk hr0
 have HC0 := Aside0.mk hc0
 clear hr0 hc0
 have H : (impl_InOrder.l0 k l0 1) = some r := h
 clear h
 have H' := Aside0.mk H
 clear H
 go_enter Tryd.func53, Tryd.ntmps53
 go_wp2
 repeat (go_quiet (fail); try go_wp2)
 go_loopg [3] k (fun kq v3 w' => ∃ (x3_1 : Int), v3 = .int .i64 x3_1 ∧ Aside0 (impl_InOrder.l0 kq l0 x3_1 = some r) ∧ Aside0 (kq ≤ k) ∧ Drawn0 w w')
 case atStart => exact ⟨(1), (by first | rfl | (simp; done) | (simp [*]; done)), H', ⟨Nat.le_refl _⟩, by repeat (first | exact Drawn0.refl _ | apply Drawn0.step)⟩
 case round =>
  clear H'
  obtain ⟨x3_1, rfl, HA, HK1, ⟨m1, rfl⟩⟩ := hrel
  cases gk with
  | zero => exact absurd HA.out (by simp [impl_InOrder.l0])
  | succ k1 =>
   have H := HA.out
   clear HA
   simp only [impl_InOrder.l0] at H
   by_cases c2 : x3_1 < (l0.length : Int)
   ·
    rw [if_pos c2] at H
    have c2b0 := decide_eq_true c2
    clear c2
    obtain ⟨ji3, hji3⟩ : ∃ j_ : Int, (wrap64 (x3_1 - 1)) = j_ := ⟨_, rfl⟩
    replace H : (if 0 ≤ (ji3) then (if (ji3) < (l0.length : Int) then (if 0 ≤ x3_1 then (if ((Op.bytesLess ((rdOf ByteArray.empty l0 (ji3)).toList) ((rdOf ByteArray.empty l0 x3_1).toList)) = true) then (impl_InOrder.l0 k1 l0 (wrap64 (x3_1 + 1))) else (some false)) else (none)) else (none)) else (none)) = some r := by first | (rw [hji3] at H; exact H) | (simp only [hji3] at H ⊢; exact H)
    have hji3w : (IntKind.i64.wrap (x3_1 - 1)) = ji3 := (i64_w _).trans hji3
    by_cases c4 : 0 ≤ (ji3)
    ·
     rw [if_pos c4] at H
     have c4b0 := decide_eq_true c4
     clear c4
     by_cases c5 : (ji3) < (l0.length : Int)
     ·
      rw [if_pos c5] at H
      have c5b0 := decide_eq_true c5
      clear c5
      by_cases c6 : 0 ≤ x3_1
      ·
       rw [if_pos c6] at H
       have c6b0 := decide_eq_true c6
       clear c6
       by_cases c7 : ((Op.bytesLess ((rdOf ByteArray.empty l0 (ji3)).toList) ((rdOf ByteArray.empty l0 x3_1).toList)) = true)
       ·
        rw [if_pos c7] at H
        have c7b0 : (Op.bytesLess ((rdOf ByteArray.empty l0 (ji3)).toList) ((rdOf ByteArray.empty l0 x3_1).toList)) = true := c7
        clear c7
        have H' := Aside0.mk H
        clear H
        have p726 : 0 ≤ ((ji3) : Int) := of_decide_eq_true (by with_reducible assumption)
        have q726 : (ji3) < (l0.length : Int) := of_decide_eq_true (by with_reducible assumption)
        obtain ⟨ad726, e726, hx726_0⟩ := Kd.at_string HR0.out (ji3) p726 q726
        cases e726
        replace p726 := eq_true p726
        replace q726 := eq_true q726
        have p727 : 0 ≤ (x3_1 : Int) := of_decide_eq_true (by with_reducible assumption)
        have q727 : x3_1 < (l0.length : Int) := of_decide_eq_true (by with_reducible assumption)
        obtain ⟨ad727, e727, hx727_0⟩ := Kd.at_string HR0.out x3_1 p727 q727
        obtain rfl : ad726 = ad727 := (by injection e727)
        replace p727 := eq_true p727
        replace q727 := eq_true q727
        go_wp2
        repeat (go_quiet (fail); try go_wp2)
        go_roundg k1
        case measure => have := HK1.out; omega
        case rel => exact ⟨(wrap64 (x3_1 + 1)), (by first | rfl | (simp; done) | (simp [*]; done)), H', ⟨by have := HK1.out; omega⟩, by repeat (first | exact Drawn0.refl _ | apply Drawn0.step)⟩
       rw [if_neg c7] at H
       have c7b0 : (Op.bytesLess ((rdOf ByteArray.empty l0 (ji3)).toList) ((rdOf ByteArray.empty l0 x3_1).toList)) = false := by simpa using c7
       clear c7
       obtain rfl := Option.some.inj H
       have p726 : 0 ≤ ((ji3) : Int) := of_decide_eq_true (by with_reducible assumption)
       have q726 : (ji3) < (l0.length : Int) := of_decide_eq_true (by with_reducible assumption)
       obtain ⟨ad726, e726, hx726_0⟩ := Kd.at_string HR0.out (ji3) p726 q726
       cases e726
       replace p726 := eq_true p726
       replace q726 := eq_true q726
       have p727 : 0 ≤ (x3_1 : Int) := of_decide_eq_true (by with_reducible assumption)
       have q727 : x3_1 < (l0.length : Int) := of_decide_eq_true (by with_reducible assumption)
       obtain ⟨ad727, e727, hx727_0⟩ := Kd.at_string HR0.out x3_1 p727 q727
       obtain rfl : ad726 = ad727 := (by injection e727)
       replace p727 := eq_true p727
       replace q727 := eq_true q727
       go_wp2
       repeat (go_quiet (fail); try go_wp2)
       go_ret
       exact ⟨by first | rfl | (simp; done) | (simp only [← hji3] <;> (first | rfl | simp)) | (simp [*]; done), by repeat (first | exact Drawn0.refl _ | apply Drawn0.step)⟩
      rw [if_neg c6] at H
      exact absurd H (by simp)
     rw [if_neg c5] at H
     exact absurd H (by simp)
    rw [if_neg c4] at H
    exact absurd H (by simp)
   rw [if_neg c2] at H
   have c2b0 : decide (x3_1 < (l0.length : Int)) = false := decide_eq_false c2
   clear c2
   obtain rfl := Option.some.inj H
   go_wp2
   repeat (go_quiet (fail); try go_wp2)
   go_ret
   exact ⟨by first | rfl | (simp; done) | (simp [*]; done), by repeat (first | exact Drawn0.refl _ | apply Drawn0.step)⟩
def impl_ByOk.l0 : Nat → List ByteArray → List ByteArray → Int → Int → Option (Bool)
 | 0, _, _, _, _ => none
 | k + 1, x0, x5, x6, x7 => if x7 < x6 then (if 0 ≤ x7 then (if x7 < (x5.length : Int) then ((impl_NameOk.f k (rdOf ByteArray.empty x5 x7)).bind fun t729 => (if t729 = true then (impl_ByOk.l0 k x0 x5 x6 (wrap64 (x7 + 1))) else (some false))) else (none)) else (none)) else (if (x0.length : Int) ≤ 2 then ((impl_InOrder.f k x0).bind fun t730 => (some t730)) else (some false))
def impl_ByOk.f (k : Nat) (l0 : List ByteArray) : Option (Bool) := impl_ByOk.l0 k l0 l0 (l0.length : Int) 0
theorem impl_ByOk.mono_l : ∀ k, (∀ y0 y1 y2 y3, LeO (impl_ByOk.l0 k y0 y1 y2 y3) (impl_ByOk.l0 (k + 1) y0 y1 y2 y3))
 | 0 => fun _ _ _ _ r h => by simp [impl_ByOk.l0] at h
 | k + 1 => by
  have ih0 := impl_ByOk.mono_l k
  intro y0 y1 y2 y3
  unfold impl_ByOk.l0
  repeat' first
  | (with_reducible exact ih0 _ _ _ _)
  | (with_reducible exact impl_InOrder.mono _ _)
  | (with_reducible exact impl_NameOk.mono _ _)
  | (with_reducible exact LeO.refl _)
  | (with_reducible exact LeO.none _)
  | (with_reducible refine LeO.ite ?_ ?_)
  | (with_reducible refine LeO.bind ?_ (fun _ => ?_))
  | exact ih0 _ _ _ _
  | exact impl_InOrder.mono _ _
  | exact impl_NameOk.mono _ _
theorem impl_ByOk.mono : ∀ a0 k, LeO (impl_ByOk.f k a0) (impl_ByOk.f (k + 1) a0) := by
 intro a0 k
 have ih0 := impl_ByOk.mono_l k
 unfold impl_ByOk.f
 repeat' first | (with_reducible first | exact ih0 _ _ _ _ | exact impl_InOrder.mono _ _ | exact impl_NameOk.mono _ _ | exact LeO.refl _ | exact LeO.none _ | refine LeO.ite ?_ ?_ | refine LeO.bind ?_ (fun _ => ?_)) | exact ih0 _ _ _ _ | exact impl_InOrder.mono _ _ | exact impl_NameOk.mono _ _
theorem impl_ByOk.calls (k : Nat) (A0 : Option Addr) (c0 : Nat) (l0 : List ByteArray) (r : Bool) (w : World) (hr0 : Kd.C Kd.string w A0 l0.length l0) (hc0 : l0.length ≤ c0) (h : impl_ByOk.f k l0 = some r) :
  Calls Tryd.prog 30 #[.slice A0 l0.length c0] w fun e w' => e = .returned (.bool r) ∧ Drawn0 w w' := by
 have HR0 := Aside0.mk hr0
 have HC0 := Aside0.mk hc0
 clear hr0 hc0
 have H : (impl_ByOk.l0 k l0 l0 (l0.length : Int) 0) = some r := h
 clear h
 have H' := Aside0.mk H
 clear H
 go_enter Tryd.func30, Tryd.ntmps30
 go_wp2
 go_loopg [7] k (fun kq v7 w' => ∃ (x7_1 : Int), v7 = .int .i64 x7_1 ∧ Aside0 (impl_ByOk.l0 kq l0 l0 (l0.length : Int) x7_1 = some r) ∧ Aside0 (kq ≤ k) ∧ Drawn0 w w')
 case atStart => exact ⟨(0), (by first | rfl | (simp; done) | (simp [*]; done)), H', ⟨Nat.le_refl _⟩, by repeat (first | exact Drawn0.refl _ | apply Drawn0.step)⟩
 case round =>
  clear H'
  obtain ⟨x7_1, rfl, HA, HK1, ⟨m1, rfl⟩⟩ := hrel
  cases gk with
  | zero => exact absurd HA.out (by simp [impl_ByOk.l0])
  | succ k1 =>
   have H := HA.out
   clear HA
   simp only [impl_ByOk.l0] at H
   by_cases c2 : x7_1 < (l0.length : Int)
   ·
    rw [if_pos c2] at H
    have c2b0 := decide_eq_true c2
    clear c2
    by_cases c3 : 0 ≤ x7_1
    ·
     rw [if_pos c3] at H
     have c3b0 := decide_eq_true c3
     clear c3
     by_cases c4 : x7_1 < (l0.length : Int)
     ·
      rw [if_pos c4] at H
      have c4b0 := decide_eq_true c4
      clear c4
      replace H := Option.bind_eq_some_iff.mp H
      obtain ⟨t729, A50, H⟩ := H
      have A5 := Aside0.mk A50
      clear A50
      by_cases c6 : t729 = true
      ·
       subst c6
       rw [if_pos rfl] at H
       have H' := Aside0.mk H
       clear H
       have p728 : 0 ≤ (x7_1 : Int) := of_decide_eq_true (by with_reducible assumption)
       have q728 : x7_1 < (l0.length : Int) := of_decide_eq_true (by with_reducible assumption)
       obtain ⟨ad728, e728, hx728_0⟩ := Kd.at_string HR0.out x7_1 p728 q728
       cases e728
       replace p728 := eq_true p728
       replace q728 := eq_true q728
       go_wp2_with (first | ((with_reducible refine gate_callee (f := 52) rfl ?_); refine gl_ (some 12) Tryd.func52 #[.string (rdOf ByteArray.empty l0 x7_1)] ?_; (with_reducible refine (impl_NameOk.calls k1 (rdOf ByteArray.empty l0 x7_1) true _ A5.out).mono ?_); rintro e w' ⟨rfl, ⟨nd, rfl⟩⟩; refine ⟨_, rfl, ?_⟩))
       go_roundg k1
       case measure => have := HK1.out; omega
       case rel => exact ⟨(wrap64 (x7_1 + 1)), (by first | rfl | (simp; done) | (simp [*]; done)), H', ⟨by have := HK1.out; omega⟩, by repeat (first | exact Drawn0.refl _ | apply Drawn0.step)⟩
      replace c6 := Bool.eq_false_iff.mpr c6
      subst c6
      rw [if_neg (show ¬ (false = true) by decide)] at H
      obtain rfl := Option.some.inj H
      have p728 : 0 ≤ (x7_1 : Int) := of_decide_eq_true (by with_reducible assumption)
      have q728 : x7_1 < (l0.length : Int) := of_decide_eq_true (by with_reducible assumption)
      obtain ⟨ad728, e728, hx728_0⟩ := Kd.at_string HR0.out x7_1 p728 q728
      cases e728
      replace p728 := eq_true p728
      replace q728 := eq_true q728
      go_wp2_with (first | ((with_reducible refine gate_callee (f := 52) rfl ?_); refine gl_ (some 12) Tryd.func52 #[.string (rdOf ByteArray.empty l0 x7_1)] ?_; (with_reducible refine (impl_NameOk.calls k1 (rdOf ByteArray.empty l0 x7_1) false _ A5.out).mono ?_); rintro e w' ⟨rfl, ⟨nd, rfl⟩⟩; refine ⟨_, rfl, ?_⟩))
      go_ret
      exact ⟨by first | rfl | (simp; done) | (simp [*]; done), by repeat (first | exact Drawn0.refl _ | apply Drawn0.step)⟩
     rw [if_neg c4] at H
     exact absurd H (by simp)
    rw [if_neg c3] at H
    exact absurd H (by simp)
   rw [if_neg c2] at H
   have c2b0 : decide (x7_1 < (l0.length : Int)) = false := decide_eq_false c2
   clear c2
   by_cases c7 : (l0.length : Int) ≤ 2
   ·
    rw [if_pos c7] at H
    have c7b0 := decide_eq_true c7
    have c7b1 : decide (l0.length ≤ 2) = true := decide_eq_true (by omega)
    clear c7
    replace H := Option.bind_eq_some_iff.mp H
    obtain ⟨t730, A80, H⟩ := H
    have A8 := Aside0.mk A80
    clear A80
    obtain rfl := Option.some.inj H
    go_wp2_with (first | (go_at_call 53; (with_reducible refine (impl_InOrder.calls k1 _ _ l0 t730 _ ?side1 ?side2 A8.out).mono ?_); (case side1 => exact cp_ (HR0.out)); (case side2 => exact HC0.out); rintro e w' ⟨rfl, ⟨nd, rfl⟩⟩))
    go_ret
    exact ⟨by first | rfl | (simp; done) | (simp [*]; done), by repeat (first | exact Drawn0.refl _ | apply Drawn0.step)⟩
   rw [if_neg c7] at H
   have c7b0 : decide ((l0.length : Int) ≤ 2) = false := decide_eq_false c7
   have c7b1 : decide (l0.length ≤ 2) = false := decide_eq_false (by omega)
   clear c7
   obtain rfl := Option.some.inj H
   go_wp2
   go_ret
   exact ⟨by first | rfl | (simp; done) | (simp [*]; done), by repeat (first | exact Drawn0.refl _ | apply Drawn0.step)⟩
def impl_ConfOk.f (k : Nat) (a0_0 : Int) (a0_1 : Int) (a0_2 : Int) (a0_3 : Int) (a0_4 : Int) (l0_5 : List ByteArray) : Option (Bool) := (impl_in.f a0_0 1 3).bind fun t732 => (if t732 = true then ((impl_in.f a0_1 1 8).bind fun t733 => (if t733 = true then ((impl_in.f a0_2 1 2).bind fun t734 => (if t734 = true then ((impl_in.f a0_3 1 9).bind fun t735 => (if t735 = true then ((impl_in.f a0_4 1 9).bind fun t736 => (if t736 = true then ((impl_ByOk.f k l0_5).bind fun t737 => (some t737)) else (some false))) else (some false))) else (some false))) else (some false))) else (some false))
theorem impl_ConfOk.mono : ∀ a0 a1 a2 a3 a4 a5 k, LeO (impl_ConfOk.f k a0 a1 a2 a3 a4 a5) (impl_ConfOk.f (k + 1) a0 a1 a2 a3 a4 a5) := by
 intro a0 a1 a2 a3 a4 a5 k
 unfold impl_ConfOk.f
 repeat' first | (with_reducible first | exact impl_ByOk.mono _ _ | exact LeO.refl _ | exact LeO.none _ | refine LeO.ite ?_ ?_ | refine LeO.bind ?_ (fun _ => ?_)) | exact impl_ByOk.mono _ _
theorem impl_ConfOk.calls (k : Nat) (a0_0 : Int) (a0_1 : Int) (a0_2 : Int) (a0_3 : Int) (a0_4 : Int) (A0_5 : Option Addr) (c0_5 : Nat) (l0_5 : List ByteArray) (r : Bool) (w : World) (hr0_5 : Kd.C Kd.string w A0_5 l0_5.length l0_5) (hc0_5 : l0_5.length ≤ c0_5) (h : impl_ConfOk.f k a0_0 a0_1 a0_2 a0_3 a0_4 l0_5 = some r) :
  Calls Tryd.prog 10 #[.agg #[.int .i64 a0_0, .int .i64 a0_1, .int .i64 a0_2, .int .i64 a0_3, .int .i64 a0_4, .slice A0_5 l0_5.length c0_5]] w fun e w' => e = .returned (.bool r) ∧ Below w.heap.size w w' := by
 have hu26 := Tryd.underlying26
 have HR0_5 := Aside0.mk hr0_5
 have HC0_5 := Aside0.mk hc0_5
 clear hr0_5 hc0_5
 have HB := Aside0.mk (Below.refl w.heap.size w)
 have H : ((impl_in.f a0_0 1 3).bind fun t732 => (if t732 = true then ((impl_in.f a0_1 1 8).bind fun t733 => (if t733 = true then ((impl_in.f a0_2 1 2).bind fun t734 => (if t734 = true then ((impl_in.f a0_3 1 9).bind fun t735 => (if t735 = true then ((impl_in.f a0_4 1 9).bind fun t736 => (if t736 = true then ((impl_ByOk.f k l0_5).bind fun t737 => (some t737)) else (some false))) else (some false))) else (some false))) else (some false))) else (some false))) = some r := h
 clear h
 replace H := Option.bind_eq_some_iff.mp H
 obtain ⟨t732, A20, H⟩ := H
 have A2 := Aside0.mk A20
 clear A20
 have AHz_ := Aside0.mk H
 clear H
 go_enter Tryd.func10, Tryd.ntmps10
 go_wp2_with (first | (((with_reducible refine gd_ 1 rfl ?_); refine bv_ 1 #[.int .i64 a0_0, .int .i64 a0_1, .int .i64 a0_2, .int .i64 a0_3, .int .i64 a0_4, .slice A0_5 l0_5.length c0_5] 26 ?_; intro gb731 hg w13 hbox hb; have BK731 := Aside0.mk (hbox); have GW731 := Ge_.mk ((gw_ hg (hs_ HB.out))); replace HB := st_ HB hb; have GE731 := Ge_.mk GW731.out; clear hb hbox hg; obtain ⟨z14_0, z14_1, z14_2, z14_3, z14_4, z14_5, y14_0, y14_1, y14_2, y14_3, y14_4, y14_5⟩ := bc6_ BK731.out); refine Aside0.out ?_))
 have H := AHz_.out
 clear AHz_
 by_cases c3 : t732 = true
 ·
  subst c3
  rw [if_pos rfl] at H
  replace H := Option.bind_eq_some_iff.mp H
  obtain ⟨t733, A40, H⟩ := H
  have A4 := Aside0.mk A40
  clear A40
  by_cases c5 : t733 = true
  ·
   subst c5
   rw [if_pos rfl] at H
   replace H := Option.bind_eq_some_iff.mp H
   obtain ⟨t734, A60, H⟩ := H
   have A6 := Aside0.mk A60
   clear A60
   by_cases c7 : t734 = true
   ·
    subst c7
    rw [if_pos rfl] at H
    replace H := Option.bind_eq_some_iff.mp H
    obtain ⟨t735, A80, H⟩ := H
    have A8 := Aside0.mk A80
    clear A80
    have AHz_ := Aside0.mk H
    clear H
    refine ⟨?_⟩
    go_wp2_with (first | ((with_reducible refine gate_callee (f := 29) rfl ?_); refine gl_ (some 5) Tryd.func29 #[.int .i64 a0_0, .int .i64 1, .int .i64 3] ?_; (with_reducible refine (impl_in.calls a0_0 1 3 true _ A2.out).mono ?_); rintro e w' ⟨rfl, ⟨nd, rfl⟩⟩; refine ⟨_, rfl, ?_⟩) | (go_at_call 29; (with_reducible refine (impl_in.calls a0_1 1 8 true _ A4.out).mono ?_); rintro e w' ⟨rfl, ⟨nd, rfl⟩⟩) | ((go_at_call 29; (with_reducible refine (impl_in.calls a0_2 1 2 true _ A6.out).mono ?_); rintro e w' ⟨rfl, ⟨nd, rfl⟩⟩); refine Aside0.out ?_))
    have H := AHz_.out
    clear AHz_
    by_cases c9 : t735 = true
    ·
     subst c9
     rw [if_pos rfl] at H
     replace H := Option.bind_eq_some_iff.mp H
     obtain ⟨t736, A100, H⟩ := H
     have A10 := Aside0.mk A100
     clear A100
     by_cases c11 : t736 = true
     ·
      subst c11
      rw [if_pos rfl] at H
      replace H := Option.bind_eq_some_iff.mp H
      obtain ⟨t737, A120, H⟩ := H
      have A12 := Aside0.mk A120
      clear A120
      obtain rfl := Option.some.inj H
      refine ⟨?_⟩
      go_wp2_with (first | (go_at_call 29; (with_reducible refine (impl_in.calls a0_3 1 9 true _ A8.out).mono ?_); rintro e w' ⟨rfl, ⟨nd, rfl⟩⟩) | (go_at_call 29; (with_reducible refine (impl_in.calls a0_4 1 9 true _ A10.out).mono ?_); rintro e w' ⟨rfl, ⟨nd, rfl⟩⟩) | (go_at_call 30; (with_reducible refine (impl_ByOk.calls k _ _ l0_5 t737 _ ?side1 ?side2 A12.out).mono ?_); (case side1 => repeat (first | exact (Kd.C_below HR0_5.out (hs_ HB.out)) | (with_reducible first | refine ca_ ?_ _ | refine cn_ ?_ _ | refine cd_ ?_))); (case side2 => exact HC0_5.out); rintro e w' ⟨rfl, ⟨nd, rfl⟩⟩))
      go_ret
      exact an_ (by exact hs_ HB.out)
     replace c11 := Bool.eq_false_iff.mpr c11
     subst c11
     rw [if_neg (show ¬ (false = true) by decide)] at H
     obtain rfl := Option.some.inj H
     refine ⟨?_⟩
     go_wp2_with (first | (go_at_call 29; (with_reducible refine (impl_in.calls a0_3 1 9 true _ A8.out).mono ?_); rintro e w' ⟨rfl, ⟨nd, rfl⟩⟩) | (go_at_call 29; (with_reducible refine (impl_in.calls a0_4 1 9 false _ A10.out).mono ?_); rintro e w' ⟨rfl, ⟨nd, rfl⟩⟩))
     go_ret
     exact an_ (by exact hs_ HB.out)
    replace c9 := Bool.eq_false_iff.mpr c9
    subst c9
    rw [if_neg (show ¬ (false = true) by decide)] at H
    obtain rfl := Option.some.inj H
    refine ⟨?_⟩
    go_wp2_with (first | (go_at_call 29; (with_reducible refine (impl_in.calls a0_3 1 9 false _ A8.out).mono ?_); rintro e w' ⟨rfl, ⟨nd, rfl⟩⟩))
    go_ret
    exact an_ (by exact hs_ HB.out)
   replace c7 := Bool.eq_false_iff.mpr c7
   subst c7
   rw [if_neg (show ¬ (false = true) by decide)] at H
   obtain rfl := Option.some.inj H
   refine ⟨?_⟩
   go_wp2_with (first | ((with_reducible refine gate_callee (f := 29) rfl ?_); refine gl_ (some 5) Tryd.func29 #[.int .i64 a0_0, .int .i64 1, .int .i64 3] ?_; (with_reducible refine (impl_in.calls a0_0 1 3 true _ A2.out).mono ?_); rintro e w' ⟨rfl, ⟨nd, rfl⟩⟩; refine ⟨_, rfl, ?_⟩) | (go_at_call 29; (with_reducible refine (impl_in.calls a0_1 1 8 true _ A4.out).mono ?_); rintro e w' ⟨rfl, ⟨nd, rfl⟩⟩) | (go_at_call 29; (with_reducible refine (impl_in.calls a0_2 1 2 false _ A6.out).mono ?_); rintro e w' ⟨rfl, ⟨nd, rfl⟩⟩))
   go_ret
   exact an_ (by exact hs_ HB.out)
  replace c5 := Bool.eq_false_iff.mpr c5
  subst c5
  rw [if_neg (show ¬ (false = true) by decide)] at H
  obtain rfl := Option.some.inj H
  refine ⟨?_⟩
  go_wp2_with (first | ((with_reducible refine gate_callee (f := 29) rfl ?_); refine gl_ (some 5) Tryd.func29 #[.int .i64 a0_0, .int .i64 1, .int .i64 3] ?_; (with_reducible refine (impl_in.calls a0_0 1 3 true _ A2.out).mono ?_); rintro e w' ⟨rfl, ⟨nd, rfl⟩⟩; refine ⟨_, rfl, ?_⟩) | (go_at_call 29; (with_reducible refine (impl_in.calls a0_1 1 8 false _ A4.out).mono ?_); rintro e w' ⟨rfl, ⟨nd, rfl⟩⟩))
  go_ret
  exact an_ (by exact hs_ HB.out)
 replace c3 := Bool.eq_false_iff.mpr c3
 subst c3
 rw [if_neg (show ¬ (false = true) by decide)] at H
 obtain rfl := Option.some.inj H
 refine ⟨?_⟩
 go_wp2_with (first | ((with_reducible refine gate_callee (f := 29) rfl ?_); refine gl_ (some 5) Tryd.func29 #[.int .i64 a0_0, .int .i64 1, .int .i64 3] ?_; (with_reducible refine (impl_in.calls a0_0 1 3 false _ A2.out).mono ?_); rintro e w' ⟨rfl, ⟨nd, rfl⟩⟩; refine ⟨_, rfl, ?_⟩))
 go_ret
 exact an_ (by exact hs_ HB.out)
def spec_l1In.f (a0 : Int) (a1 : Int) (a2 : Int) : Option (Bool) := if a0 ≥ a1 then (some (decide (a0 ≤ a2))) else (some false)
theorem spec_l1In.calls (a0 : Int) (a1 : Int) (a2 : Int) (r : Bool) (w : World) (h : spec_l1In.f a0 a1 a2 = some r) :
  Calls Tryd.prog 31 #[.int .i64 a0, .int .i64 a1, .int .i64 a2] w fun e w' => e = .returned (.bool r) ∧ Drawn0 w w' := by
 have H : (if a0 ≥ a1 then (some (decide (a0 ≤ a2))) else (some false)) = some r := h
 clear h
 by_cases c4 : a0 ≥ a1
 ·
  rw [if_pos c4] at H
  have c4b0 : decide (a1 ≤ a0) = true := decide_eq_true c4
  clear c4
  obtain rfl := Option.some.inj H
  go_enter Tryd.func31, Tryd.ntmps31
  go_wp2
  go_ret
  exact ⟨by first | rfl | (simp; done) | (simp [*]; done), by repeat (first | exact Drawn0.refl _ | apply Drawn0.step)⟩
 rw [if_neg c4] at H
 have c4b0 : decide (a1 ≤ a0) = false := decide_eq_false c4
 clear c4
 obtain rfl := Option.some.inj H
 go_enter Tryd.func31, Tryd.ntmps31
 go_wp2
 go_ret
 exact ⟨by first | rfl | (simp; done) | (simp [*]; done), by repeat (first | exact Drawn0.refl _ | apply Drawn0.step)⟩
def spec_NameOk.l0 : Nat → ByteArray → Int → Option (Bool)
 | 0, _, _ => none
 | k + 1, x0, x3 => if x3 < (x0.size : Int) then (if 0 ≤ x3 then (if (bt x0 x3) < 97 then (some false) else (if (bt x0 x3) > 122 then (some false) else (spec_NameOk.l0 k x0 (wrap64 (x3 + 1))))) else (none)) else ((spec_l1In.f (x0.size : Int) 1 8).bind fun t738 => (some t738))
def spec_NameOk.f (k : Nat) (a0 : ByteArray) : Option (Bool) := spec_NameOk.l0 k a0 0
theorem spec_NameOk.mono_l : ∀ k, (∀ y0 y1, LeO (spec_NameOk.l0 k y0 y1) (spec_NameOk.l0 (k + 1) y0 y1))
 | 0 => fun _ _ r h => by simp [spec_NameOk.l0] at h
 | k + 1 => by
  have ih0 := spec_NameOk.mono_l k
  intro y0 y1
  unfold spec_NameOk.l0
  repeat' first
  | (with_reducible exact ih0 _ _)
  | (with_reducible exact LeO.refl _)
  | (with_reducible exact LeO.none _)
  | (with_reducible refine LeO.ite ?_ ?_)
  | (with_reducible refine LeO.bind ?_ (fun _ => ?_))
  | exact ih0 _ _
theorem spec_NameOk.mono : ∀ a0 k, LeO (spec_NameOk.f k a0) (spec_NameOk.f (k + 1) a0) := by
 intro a0 k
 have ih0 := spec_NameOk.mono_l k
 unfold spec_NameOk.f
 repeat' first | (with_reducible first | exact ih0 _ _ | exact LeO.refl _ | exact LeO.none _ | refine LeO.ite ?_ ?_ | refine LeO.bind ?_ (fun _ => ?_)) | exact ih0 _ _
theorem spec_NameOk.calls (k : Nat) (a0 : ByteArray) (r : Bool) (w : World) (h : spec_NameOk.f k a0 = some r) :
  Calls Tryd.prog 54 #[.string a0] w fun e w' => e = .returned (.bool r) ∧ Drawn0 w w' := by
 have H : (spec_NameOk.l0 k a0 0) = some r := h
 clear h
 have H' := Aside0.mk H
 clear H
 go_enter Tryd.func54, Tryd.ntmps54
 go_wp2
 go_loopg [3] k (fun kq v3 w' => ∃ (x3_1 : Int), v3 = .int .i64 x3_1 ∧ Aside0 (spec_NameOk.l0 kq a0 x3_1 = some r) ∧ Aside0 (kq ≤ k) ∧ Drawn0 w w')
 case atStart => exact ⟨(0), (by first | rfl | (simp; done) | (simp [*]; done)), H', ⟨Nat.le_refl _⟩, by repeat (first | exact Drawn0.refl _ | apply Drawn0.step)⟩
 case round =>
  clear H'
  obtain ⟨x3_1, rfl, HA, HK1, ⟨m1, rfl⟩⟩ := hrel
  cases gk with
  | zero => exact absurd HA.out (by simp [spec_NameOk.l0])
  | succ k1 =>
   have H := HA.out
   clear HA
   simp only [spec_NameOk.l0] at H
   by_cases c2 : x3_1 < (a0.size : Int)
   ·
    rw [if_pos c2] at H
    have c2b0 := decide_eq_true c2
    clear c2
    by_cases c3 : 0 ≤ x3_1
    ·
     rw [if_pos c3] at H
     have c3b0 := decide_eq_true c3
     clear c3
     by_cases c5 : (bt a0 x3_1) < 97
     ·
      rw [if_pos c5] at H
      have c5b0 := decide_eq_true c5
      clear c5
      obtain rfl := Option.some.inj H
      have p4 : 0 ≤ (x3_1 : Int) := of_decide_eq_true (by with_reducible assumption)
      have q4 : x3_1 < (a0.size : Int) := of_decide_eq_true (by with_reducible assumption)
      have hx4 := bt_at a0 x3_1
      replace p4 := eq_true p4
      replace q4 := eq_true q4
      go_wp2
      go_ret
      exact ⟨by first | rfl | (simp; done) | (simp [*]; done), by repeat (first | exact Drawn0.refl _ | apply Drawn0.step)⟩
     rw [if_neg c5] at H
     have c5b0 : decide ((bt a0 x3_1) < 97) = false := decide_eq_false c5
     clear c5
     by_cases c7 : (bt a0 x3_1) > 122
     ·
      rw [if_pos c7] at H
      have c7b0 : decide (122 < (bt a0 x3_1)) = true := decide_eq_true c7
      clear c7
      obtain rfl := Option.some.inj H
      have p4 : 0 ≤ (x3_1 : Int) := of_decide_eq_true (by with_reducible assumption)
      have q4 : x3_1 < (a0.size : Int) := of_decide_eq_true (by with_reducible assumption)
      have hx4 := bt_at a0 x3_1
      replace p4 := eq_true p4
      replace q4 := eq_true q4
      have p6 : 0 ≤ (x3_1 : Int) := of_decide_eq_true (by with_reducible assumption)
      have q6 : x3_1 < (a0.size : Int) := of_decide_eq_true (by with_reducible assumption)
      have hx6 := bt_at a0 x3_1
      replace p6 := eq_true p6
      replace q6 := eq_true q6
      go_wp2
      go_ret
      exact ⟨by first | rfl | (simp; done) | (simp [*]; done), by repeat (first | exact Drawn0.refl _ | apply Drawn0.step)⟩
     rw [if_neg c7] at H
     have c7b0 : decide (122 < (bt a0 x3_1)) = false := decide_eq_false c7
     clear c7
     have H' := Aside0.mk H
     clear H
     have p4 : 0 ≤ (x3_1 : Int) := of_decide_eq_true (by with_reducible assumption)
     have q4 : x3_1 < (a0.size : Int) := of_decide_eq_true (by with_reducible assumption)
     have hx4 := bt_at a0 x3_1
     replace p4 := eq_true p4
     replace q4 := eq_true q4
     have p6 : 0 ≤ (x3_1 : Int) := of_decide_eq_true (by with_reducible assumption)
     have q6 : x3_1 < (a0.size : Int) := of_decide_eq_true (by with_reducible assumption)
     have hx6 := bt_at a0 x3_1
     replace p6 := eq_true p6
     replace q6 := eq_true q6
     go_wp2
     go_roundg k1
     case measure => have := HK1.out; omega
     case rel => exact ⟨(wrap64 (x3_1 + 1)), (by first | rfl | (simp; done) | (simp [*]; done)), H', ⟨by have := HK1.out; omega⟩, by repeat (first | exact Drawn0.refl _ | apply Drawn0.step)⟩
    rw [if_neg c3] at H
    exact absurd H (by simp)
   rw [if_neg c2] at H
   have c2b0 : decide (x3_1 < (a0.size : Int)) = false := decide_eq_false c2
   clear c2
   replace H := Option.bind_eq_some_iff.mp H
   obtain ⟨t738, A80, H⟩ := H
   have A8 := Aside0.mk A80
   clear A80
   obtain rfl := Option.some.inj H
   go_wp2_with (first | ((with_reducible refine gate_callee (f := 31) rfl ?_); refine gl_ (some 22) Tryd.func31 #[.int .i64 (a0.size : Int), .int .i64 1, .int .i64 8] ?_; (with_reducible refine (spec_l1In.calls (a0.size : Int) 1 8 t738 _ A8.out).mono ?_); rintro e w' ⟨rfl, ⟨nd, rfl⟩⟩; refine ⟨_, rfl, ?_⟩))
   go_ret
   exact ⟨by first | rfl | (simp; done) | (simp [*]; done), by repeat (first | exact Drawn0.refl _ | apply Drawn0.step)⟩
def spec_InOrder.l0 : Nat → List ByteArray → Int → Option (Bool)
 | 0, _, _ => none
 | k + 1, x0, x3 => if x3 < (x0.length : Int) then (if 0 ≤ (wrap64 (x3 - 1)) then (if (wrap64 (x3 - 1)) < (x0.length : Int) then (if 0 ≤ x3 then ((spec_Less.f (rdOf ByteArray.empty x0 (wrap64 (x3 - 1))) (rdOf ByteArray.empty x0 x3)).bind fun t741 => (if t741 = true then (spec_InOrder.l0 k x0 (wrap64 (x3 + 1))) else (some false))) else (none)) else (none)) else (none)) else (some true)
def spec_InOrder.f (k : Nat) (l0 : List ByteArray) : Option (Bool) := spec_InOrder.l0 k l0 1
theorem spec_InOrder.mono_l : ∀ k, (∀ y0 y1, LeO (spec_InOrder.l0 k y0 y1) (spec_InOrder.l0 (k + 1) y0 y1))
 | 0 => fun _ _ r h => by simp [spec_InOrder.l0] at h
 | k + 1 => by
  have ih0 := spec_InOrder.mono_l k
  intro y0 y1
  unfold spec_InOrder.l0
  repeat' first
  | (with_reducible exact ih0 _ _)
  | (with_reducible exact LeO.refl _)
  | (with_reducible exact LeO.none _)
  | (with_reducible refine LeO.ite ?_ ?_)
  | (with_reducible refine LeO.bind ?_ (fun _ => ?_))
  | exact ih0 _ _
theorem spec_InOrder.mono : ∀ a0 k, LeO (spec_InOrder.f k a0) (spec_InOrder.f (k + 1) a0) := by
 intro a0 k
 have ih0 := spec_InOrder.mono_l k
 unfold spec_InOrder.f
 repeat' first | (with_reducible first | exact ih0 _ _ | exact LeO.refl _ | exact LeO.none _ | refine LeO.ite ?_ ?_ | refine LeO.bind ?_ (fun _ => ?_)) | exact ih0 _ _
theorem spec_InOrder.calls (k : Nat) (A0 : Option Addr) (c0 : Nat) (l0 : List ByteArray) (r : Bool) (w : World) (hr0 : Kd.C Kd.string w A0 l0.length l0) (hc0 : l0.length ≤ c0) (h : spec_InOrder.f k l0 = some r) :
  Calls Tryd.prog 55 #[.slice A0 l0.length c0] w fun e w' => e = .returned (.bool r) ∧ Drawn0 w w' := by
 have HR0 := Aside0.mk hr0
 have HC0 := Aside0.mk hc0
 clear hr0 hc0
 have H : (spec_InOrder.l0 k l0 1) = some r := h
 clear h
 have H' := Aside0.mk H
 clear H
 go_enter Tryd.func55, Tryd.ntmps55
 go_wp2
 repeat (go_quiet (fail); try go_wp2)
 go_loopg [3] k (fun kq v3 w' => ∃ (x3_1 : Int), v3 = .int .i64 x3_1 ∧ Aside0 (spec_InOrder.l0 kq l0 x3_1 = some r) ∧ Aside0 (kq ≤ k) ∧ Drawn0 w w')
 case atStart => exact ⟨(1), (by first | rfl | (simp; done) | (simp [*]; done)), H', ⟨Nat.le_refl _⟩, by repeat (first | exact Drawn0.refl _ | apply Drawn0.step)⟩
 case round =>
  clear H'
  obtain ⟨x3_1, rfl, HA, HK1, ⟨m1, rfl⟩⟩ := hrel
  cases gk with
  | zero => exact absurd HA.out (by simp [spec_InOrder.l0])
  | succ k1 =>
   have H := HA.out
   clear HA
   simp only [spec_InOrder.l0] at H
   by_cases c2 : x3_1 < (l0.length : Int)
   ·
    rw [if_pos c2] at H
    have c2b0 := decide_eq_true c2
    clear c2
    obtain ⟨ji3, hji3⟩ : ∃ j_ : Int, (wrap64 (x3_1 - 1)) = j_ := ⟨_, rfl⟩
    replace H : (if 0 ≤ (ji3) then (if (ji3) < (l0.length : Int) then (if 0 ≤ x3_1 then ((spec_Less.f (rdOf ByteArray.empty l0 (ji3)) (rdOf ByteArray.empty l0 x3_1)).bind fun t741 => (if t741 = true then (spec_InOrder.l0 k1 l0 (wrap64 (x3_1 + 1))) else (some false))) else (none)) else (none)) else (none)) = some r := by first | (rw [hji3] at H; exact H) | (simp only [hji3] at H ⊢; exact H)
    have hji3w : (IntKind.i64.wrap (x3_1 - 1)) = ji3 := (i64_w _).trans hji3
    by_cases c4 : 0 ≤ (ji3)
    ·
     rw [if_pos c4] at H
     have c4b0 := decide_eq_true c4
     clear c4
     by_cases c5 : (ji3) < (l0.length : Int)
     ·
      rw [if_pos c5] at H
      have c5b0 := decide_eq_true c5
      clear c5
      by_cases c6 : 0 ≤ x3_1
      ·
       rw [if_pos c6] at H
       have c6b0 := decide_eq_true c6
       clear c6
       replace H := Option.bind_eq_some_iff.mp H
       obtain ⟨t741, A70, H⟩ := H
       have A7 := Aside0.mk A70
       clear A70
       by_cases c8 : t741 = true
       ·
        subst c8
        rw [if_pos rfl] at H
        have H' := Aside0.mk H
        clear H
        have p739 : 0 ≤ ((ji3) : Int) := of_decide_eq_true (by with_reducible assumption)
        have q739 : (ji3) < (l0.length : Int) := of_decide_eq_true (by with_reducible assumption)
        obtain ⟨ad739, e739, hx739_0⟩ := Kd.at_string HR0.out (ji3) p739 q739
        cases e739
        replace p739 := eq_true p739
        replace q739 := eq_true q739
        have p740 : 0 ≤ (x3_1 : Int) := of_decide_eq_true (by with_reducible assumption)
        have q740 : x3_1 < (l0.length : Int) := of_decide_eq_true (by with_reducible assumption)
        obtain ⟨ad740, e740, hx740_0⟩ := Kd.at_string HR0.out x3_1 p740 q740
        obtain rfl : ad739 = ad740 := (by injection e740)
        replace p740 := eq_true p740
        replace q740 := eq_true q740
        go_wp2_with (first | (go_at_call 76; (with_reducible refine (spec_Less.calls (rdOf ByteArray.empty l0 (ji3)) (rdOf ByteArray.empty l0 x3_1) true _ A7.out).mono ?_); rintro e w' ⟨rfl, ⟨nd, rfl⟩⟩; (try first | exact ⟨rfl, _, World.drewN_drewN _ _ _⟩ | exact ⟨rfl, _, Eq.trans (World.drewN_drewN _ _ _) (congrArg (World.drewN _) (Nat.add_assoc _ _ _))⟩)))
        repeat (go_quiet (first | (go_at_call 76; (with_reducible refine (spec_Less.calls (rdOf ByteArray.empty l0 (ji3)) (rdOf ByteArray.empty l0 x3_1) true _ A7.out).mono ?_); rintro e w' ⟨rfl, ⟨nd, rfl⟩⟩; (try first | exact ⟨rfl, _, World.drewN_drewN _ _ _⟩ | exact ⟨rfl, _, Eq.trans (World.drewN_drewN _ _ _) (congrArg (World.drewN _) (Nat.add_assoc _ _ _))⟩))); try go_wp2_with (first | (go_at_call 76; (with_reducible refine (spec_Less.calls (rdOf ByteArray.empty l0 (ji3)) (rdOf ByteArray.empty l0 x3_1) true _ A7.out).mono ?_); rintro e w' ⟨rfl, ⟨nd, rfl⟩⟩; (try first | exact ⟨rfl, _, World.drewN_drewN _ _ _⟩ | exact ⟨rfl, _, Eq.trans (World.drewN_drewN _ _ _) (congrArg (World.drewN _) (Nat.add_assoc _ _ _))⟩))))
        go_roundg k1
        case measure => have := HK1.out; omega
        case rel => exact ⟨(wrap64 (x3_1 + 1)), (by first | rfl | (simp; done) | (simp [*]; done)), H', ⟨by have := HK1.out; omega⟩, by repeat (first | exact Drawn0.refl _ | apply Drawn0.step)⟩
       replace c8 := Bool.eq_false_iff.mpr c8
       subst c8
       rw [if_neg (show ¬ (false = true) by decide)] at H
       obtain rfl := Option.some.inj H
       have p739 : 0 ≤ ((ji3) : Int) := of_decide_eq_true (by with_reducible assumption)
       have q739 : (ji3) < (l0.length : Int) := of_decide_eq_true (by with_reducible assumption)
       obtain ⟨ad739, e739, hx739_0⟩ := Kd.at_string HR0.out (ji3) p739 q739
       cases e739
       replace p739 := eq_true p739
       replace q739 := eq_true q739
       have p740 : 0 ≤ (x3_1 : Int) := of_decide_eq_true (by with_reducible assumption)
       have q740 : x3_1 < (l0.length : Int) := of_decide_eq_true (by with_reducible assumption)
       obtain ⟨ad740, e740, hx740_0⟩ := Kd.at_string HR0.out x3_1 p740 q740
       obtain rfl : ad739 = ad740 := (by injection e740)
       replace p740 := eq_true p740
       replace q740 := eq_true q740
       go_wp2_with (first | (go_at_call 76; (with_reducible refine (spec_Less.calls (rdOf ByteArray.empty l0 (ji3)) (rdOf ByteArray.empty l0 x3_1) false _ A7.out).mono ?_); rintro e w' ⟨rfl, ⟨nd, rfl⟩⟩; (try first | exact ⟨rfl, _, World.drewN_drewN _ _ _⟩ | exact ⟨rfl, _, Eq.trans (World.drewN_drewN _ _ _) (congrArg (World.drewN _) (Nat.add_assoc _ _ _))⟩)))
       repeat (go_quiet (first | (go_at_call 76; (with_reducible refine (spec_Less.calls (rdOf ByteArray.empty l0 (ji3)) (rdOf ByteArray.empty l0 x3_1) false _ A7.out).mono ?_); rintro e w' ⟨rfl, ⟨nd, rfl⟩⟩; (try first | exact ⟨rfl, _, World.drewN_drewN _ _ _⟩ | exact ⟨rfl, _, Eq.trans (World.drewN_drewN _ _ _) (congrArg (World.drewN _) (Nat.add_assoc _ _ _))⟩))); try go_wp2_with (first | (go_at_call 76; (with_reducible refine (spec_Less.calls (rdOf ByteArray.empty l0 (ji3)) (rdOf ByteArray.empty l0 x3_1) false _ A7.out).mono ?_); rintro e w' ⟨rfl, ⟨nd, rfl⟩⟩; (try first | exact ⟨rfl, _, World.drewN_drewN _ _ _⟩ | exact ⟨rfl, _, Eq.trans (World.drewN_drewN _ _ _) (congrArg (World.drewN _) (Nat.add_assoc _ _ _))⟩))))
       go_ret
       exact ⟨by first | rfl | (simp; done) | (simp only [← hji3] <;> (first | rfl | simp)) | (simp [*]; done), by repeat (first | exact Drawn0.refl _ | apply Drawn0.step)⟩
      rw [if_neg c6] at H
      exact absurd H (by simp)
     rw [if_neg c5] at H
     exact absurd H (by simp)
    rw [if_neg c4] at H
    exact absurd H (by simp)
   rw [if_neg c2] at H
   have c2b0 : decide (x3_1 < (l0.length : Int)) = false := decide_eq_false c2
   clear c2
   obtain rfl := Option.some.inj H
   go_wp2
   repeat (go_quiet (fail); try go_wp2)
   go_ret
   exact ⟨by first | rfl | (simp; done) | (simp [*]; done), by repeat (first | exact Drawn0.refl _ | apply Drawn0.step)⟩
def spec_ByOk.l0 : Nat → List ByteArray → Int → Option (Bool)
 | 0, _, _ => none
 | k + 1, x0, x3 => if x3 < (x0.length : Int) then (if 0 ≤ x3 then ((spec_NameOk.f k (rdOf ByteArray.empty x0 x3)).bind fun t743 => (if t743 = true then (spec_ByOk.l0 k x0 (wrap64 (x3 + 1))) else (some false))) else (none)) else (if (x0.length : Int) ≤ 2 then ((spec_InOrder.f k x0).bind fun t744 => (some t744)) else (some false))
def spec_ByOk.f (k : Nat) (l0 : List ByteArray) : Option (Bool) := spec_ByOk.l0 k l0 0
theorem spec_ByOk.mono_l : ∀ k, (∀ y0 y1, LeO (spec_ByOk.l0 k y0 y1) (spec_ByOk.l0 (k + 1) y0 y1))
 | 0 => fun _ _ r h => by simp [spec_ByOk.l0] at h
 | k + 1 => by
  have ih0 := spec_ByOk.mono_l k
  intro y0 y1
  unfold spec_ByOk.l0
  repeat' first
  | (with_reducible exact ih0 _ _)
  | (with_reducible exact spec_InOrder.mono _ _)
  | (with_reducible exact spec_NameOk.mono _ _)
  | (with_reducible exact LeO.refl _)
  | (with_reducible exact LeO.none _)
  | (with_reducible refine LeO.ite ?_ ?_)
  | (with_reducible refine LeO.bind ?_ (fun _ => ?_))
  | exact ih0 _ _
  | exact spec_InOrder.mono _ _
  | exact spec_NameOk.mono _ _
theorem spec_ByOk.mono : ∀ a0 k, LeO (spec_ByOk.f k a0) (spec_ByOk.f (k + 1) a0) := by
 intro a0 k
 have ih0 := spec_ByOk.mono_l k
 unfold spec_ByOk.f
 repeat' first | (with_reducible first | exact ih0 _ _ | exact spec_InOrder.mono _ _ | exact spec_NameOk.mono _ _ | exact LeO.refl _ | exact LeO.none _ | refine LeO.ite ?_ ?_ | refine LeO.bind ?_ (fun _ => ?_)) | exact ih0 _ _ | exact spec_InOrder.mono _ _ | exact spec_NameOk.mono _ _
theorem spec_ByOk.calls (k : Nat) (A0 : Option Addr) (c0 : Nat) (l0 : List ByteArray) (r : Bool) (w : World) (hr0 : Kd.C Kd.string w A0 l0.length l0) (hc0 : l0.length ≤ c0) (h : spec_ByOk.f k l0 = some r) :
  Calls Tryd.prog 32 #[.slice A0 l0.length c0] w fun e w' => e = .returned (.bool r) ∧ Drawn0 w w' := by
 have HR0 := Aside0.mk hr0
 have HC0 := Aside0.mk hc0
 clear hr0 hc0
 have H : (spec_ByOk.l0 k l0 0) = some r := h
 clear h
 have H' := Aside0.mk H
 clear H
 go_enter Tryd.func32, Tryd.ntmps32
 go_wp2
 go_loopg [3] k (fun kq v3 w' => ∃ (x3_1 : Int), v3 = .int .i64 x3_1 ∧ Aside0 (spec_ByOk.l0 kq l0 x3_1 = some r) ∧ Aside0 (kq ≤ k) ∧ Drawn0 w w')
 case atStart => exact ⟨(0), (by first | rfl | (simp; done) | (simp [*]; done)), H', ⟨Nat.le_refl _⟩, by repeat (first | exact Drawn0.refl _ | apply Drawn0.step)⟩
 case round =>
  clear H'
  obtain ⟨x3_1, rfl, HA, HK1, ⟨m1, rfl⟩⟩ := hrel
  cases gk with
  | zero => exact absurd HA.out (by simp [spec_ByOk.l0])
  | succ k1 =>
   have H := HA.out
   clear HA
   simp only [spec_ByOk.l0] at H
   by_cases c2 : x3_1 < (l0.length : Int)
   ·
    rw [if_pos c2] at H
    have c2b0 := decide_eq_true c2
    clear c2
    by_cases c3 : 0 ≤ x3_1
    ·
     rw [if_pos c3] at H
     have c3b0 := decide_eq_true c3
     clear c3
     replace H := Option.bind_eq_some_iff.mp H
     obtain ⟨t743, A40, H⟩ := H
     have A4 := Aside0.mk A40
     clear A40
     by_cases c5 : t743 = true
     ·
      subst c5
      rw [if_pos rfl] at H
      have H' := Aside0.mk H
      clear H
      have p742 : 0 ≤ (x3_1 : Int) := of_decide_eq_true (by with_reducible assumption)
      have q742 : x3_1 < (l0.length : Int) := of_decide_eq_true (by with_reducible assumption)
      obtain ⟨ad742, e742, hx742_0⟩ := Kd.at_string HR0.out x3_1 p742 q742
      cases e742
      replace p742 := eq_true p742
      replace q742 := eq_true q742
      go_wp2_with (first | ((with_reducible refine gate_callee (f := 54) rfl ?_); refine gl_ (some 14) Tryd.func54 #[.string (rdOf ByteArray.empty l0 x3_1)] ?_; (with_reducible refine (spec_NameOk.calls k1 (rdOf ByteArray.empty l0 x3_1) true _ A4.out).mono ?_); rintro e w' ⟨rfl, ⟨nd, rfl⟩⟩; refine ⟨_, rfl, ?_⟩))
      go_roundg k1
      case measure => have := HK1.out; omega
      case rel => exact ⟨(wrap64 (x3_1 + 1)), (by first | rfl | (simp; done) | (simp [*]; done)), H', ⟨by have := HK1.out; omega⟩, by repeat (first | exact Drawn0.refl _ | apply Drawn0.step)⟩
     replace c5 := Bool.eq_false_iff.mpr c5
     subst c5
     rw [if_neg (show ¬ (false = true) by decide)] at H
     obtain rfl := Option.some.inj H
     have p742 : 0 ≤ (x3_1 : Int) := of_decide_eq_true (by with_reducible assumption)
     have q742 : x3_1 < (l0.length : Int) := of_decide_eq_true (by with_reducible assumption)
     obtain ⟨ad742, e742, hx742_0⟩ := Kd.at_string HR0.out x3_1 p742 q742
     cases e742
     replace p742 := eq_true p742
     replace q742 := eq_true q742
     go_wp2_with (first | ((with_reducible refine gate_callee (f := 54) rfl ?_); refine gl_ (some 14) Tryd.func54 #[.string (rdOf ByteArray.empty l0 x3_1)] ?_; (with_reducible refine (spec_NameOk.calls k1 (rdOf ByteArray.empty l0 x3_1) false _ A4.out).mono ?_); rintro e w' ⟨rfl, ⟨nd, rfl⟩⟩; refine ⟨_, rfl, ?_⟩))
     go_ret
     exact ⟨by first | rfl | (simp; done) | (simp [*]; done), by repeat (first | exact Drawn0.refl _ | apply Drawn0.step)⟩
    rw [if_neg c3] at H
    exact absurd H (by simp)
   rw [if_neg c2] at H
   have c2b0 : decide (x3_1 < (l0.length : Int)) = false := decide_eq_false c2
   clear c2
   by_cases c6 : (l0.length : Int) ≤ 2
   ·
    rw [if_pos c6] at H
    have c6b0 := decide_eq_true c6
    have c6b1 : decide (l0.length ≤ 2) = true := decide_eq_true (by omega)
    clear c6
    replace H := Option.bind_eq_some_iff.mp H
    obtain ⟨t744, A70, H⟩ := H
    have A7 := Aside0.mk A70
    clear A70
    obtain rfl := Option.some.inj H
    go_wp2_with (first | (go_at_call 55; (with_reducible refine (spec_InOrder.calls k1 _ _ l0 t744 _ ?side1 ?side2 A7.out).mono ?_); (case side1 => exact cp_ (HR0.out)); (case side2 => exact HC0.out); rintro e w' ⟨rfl, ⟨nd, rfl⟩⟩))
    go_ret
    exact ⟨by first | rfl | (simp; done) | (simp [*]; done), by repeat (first | exact Drawn0.refl _ | apply Drawn0.step)⟩
   rw [if_neg c6] at H
   have c6b0 : decide ((l0.length : Int) ≤ 2) = false := decide_eq_false c6
   have c6b1 : decide (l0.length ≤ 2) = false := decide_eq_false (by omega)
   clear c6
   obtain rfl := Option.some.inj H
   go_wp2
   go_ret
   exact ⟨by first | rfl | (simp; done) | (simp [*]; done), by repeat (first | exact Drawn0.refl _ | apply Drawn0.step)⟩
def spec_ConfOk.f (k : Nat) (a0_0 : Int) (a0_1 : Int) (a0_2 : Int) (a0_3 : Int) (a0_4 : Int) (l0_5 : List ByteArray) : Option (Bool) := (spec_l1In.f a0_0 1 3).bind fun t746 => (if t746 = true then ((spec_l1In.f a0_1 1 8).bind fun t747 => (if t747 = true then ((spec_l1In.f a0_2 1 2).bind fun t748 => (if t748 = true then ((spec_l1In.f a0_3 1 9).bind fun t749 => (if t749 = true then ((spec_l1In.f a0_4 1 9).bind fun t750 => (if t750 = true then ((spec_ByOk.f k l0_5).bind fun t751 => (some t751)) else (some false))) else (some false))) else (some false))) else (some false))) else (some false))
theorem spec_ConfOk.mono : ∀ a0 a1 a2 a3 a4 a5 k, LeO (spec_ConfOk.f k a0 a1 a2 a3 a4 a5) (spec_ConfOk.f (k + 1) a0 a1 a2 a3 a4 a5) := by
 intro a0 a1 a2 a3 a4 a5 k
 unfold spec_ConfOk.f
 repeat' first | (with_reducible first | exact spec_ByOk.mono _ _ | exact LeO.refl _ | exact LeO.none _ | refine LeO.ite ?_ ?_ | refine LeO.bind ?_ (fun _ => ?_)) | exact spec_ByOk.mono _ _
theorem spec_ConfOk.calls (k : Nat) (a0_0 : Int) (a0_1 : Int) (a0_2 : Int) (a0_3 : Int) (a0_4 : Int) (A0_5 : Option Addr) (c0_5 : Nat) (l0_5 : List ByteArray) (r : Bool) (w : World) (hr0_5 : Kd.C Kd.string w A0_5 l0_5.length l0_5) (hc0_5 : l0_5.length ≤ c0_5) (h : spec_ConfOk.f k a0_0 a0_1 a0_2 a0_3 a0_4 l0_5 = some r) :
  Calls Tryd.prog 11 #[.agg #[.int .i64 a0_0, .int .i64 a0_1, .int .i64 a0_2, .int .i64 a0_3, .int .i64 a0_4, .slice A0_5 l0_5.length c0_5]] w fun e w' => e = .returned (.bool r) ∧ Below w.heap.size w w' := by
 have hu26 := Tryd.underlying26
 have HR0_5 := Aside0.mk hr0_5
 have HC0_5 := Aside0.mk hc0_5
 clear hr0_5 hc0_5
 have HB := Aside0.mk (Below.refl w.heap.size w)
 have H : ((spec_l1In.f a0_0 1 3).bind fun t746 => (if t746 = true then ((spec_l1In.f a0_1 1 8).bind fun t747 => (if t747 = true then ((spec_l1In.f a0_2 1 2).bind fun t748 => (if t748 = true then ((spec_l1In.f a0_3 1 9).bind fun t749 => (if t749 = true then ((spec_l1In.f a0_4 1 9).bind fun t750 => (if t750 = true then ((spec_ByOk.f k l0_5).bind fun t751 => (some t751)) else (some false))) else (some false))) else (some false))) else (some false))) else (some false))) = some r := h
 clear h
 replace H := Option.bind_eq_some_iff.mp H
 obtain ⟨t746, A20, H⟩ := H
 have A2 := Aside0.mk A20
 clear A20
 have AHz_ := Aside0.mk H
 clear H
 go_enter Tryd.func11, Tryd.ntmps11
 go_wp2_with (first | (((with_reducible refine gd_ 1 rfl ?_); refine bv_ 1 #[.int .i64 a0_0, .int .i64 a0_1, .int .i64 a0_2, .int .i64 a0_3, .int .i64 a0_4, .slice A0_5 l0_5.length c0_5] 26 ?_; intro gb745 hg w13 hbox hb; have BK745 := Aside0.mk (hbox); have GW745 := Ge_.mk ((gw_ hg (hs_ HB.out))); replace HB := st_ HB hb; have GE745 := Ge_.mk GW745.out; clear hb hbox hg; obtain ⟨z14_0, z14_1, z14_2, z14_3, z14_4, z14_5, y14_0, y14_1, y14_2, y14_3, y14_4, y14_5⟩ := bc6_ BK745.out); refine Aside0.out ?_))
 have H := AHz_.out
 clear AHz_
 by_cases c3 : t746 = true
 ·
  subst c3
  rw [if_pos rfl] at H
  replace H := Option.bind_eq_some_iff.mp H
  obtain ⟨t747, A40, H⟩ := H
  have A4 := Aside0.mk A40
  clear A40
  by_cases c5 : t747 = true
  ·
   subst c5
   rw [if_pos rfl] at H
   replace H := Option.bind_eq_some_iff.mp H
   obtain ⟨t748, A60, H⟩ := H
   have A6 := Aside0.mk A60
   clear A60
   by_cases c7 : t748 = true
   ·
    subst c7
    rw [if_pos rfl] at H
    replace H := Option.bind_eq_some_iff.mp H
    obtain ⟨t749, A80, H⟩ := H
    have A8 := Aside0.mk A80
    clear A80
    have AHz_ := Aside0.mk H
    clear H
    refine ⟨?_⟩
    go_wp2_with (first | ((with_reducible refine gate_callee (f := 31) rfl ?_); refine gl_ (some 5) Tryd.func31 #[.int .i64 a0_0, .int .i64 1, .int .i64 3] ?_; (with_reducible refine (spec_l1In.calls a0_0 1 3 true _ A2.out).mono ?_); rintro e w' ⟨rfl, ⟨nd, rfl⟩⟩; refine ⟨_, rfl, ?_⟩) | (go_at_call 31; (with_reducible refine (spec_l1In.calls a0_1 1 8 true _ A4.out).mono ?_); rintro e w' ⟨rfl, ⟨nd, rfl⟩⟩) | ((go_at_call 31; (with_reducible refine (spec_l1In.calls a0_2 1 2 true _ A6.out).mono ?_); rintro e w' ⟨rfl, ⟨nd, rfl⟩⟩); refine Aside0.out ?_))
    have H := AHz_.out
    clear AHz_
    by_cases c9 : t749 = true
    ·
     subst c9
     rw [if_pos rfl] at H
     replace H := Option.bind_eq_some_iff.mp H
     obtain ⟨t750, A100, H⟩ := H
     have A10 := Aside0.mk A100
     clear A100
     by_cases c11 : t750 = true
     ·
      subst c11
      rw [if_pos rfl] at H
      replace H := Option.bind_eq_some_iff.mp H
      obtain ⟨t751, A120, H⟩ := H
      have A12 := Aside0.mk A120
      clear A120
      obtain rfl := Option.some.inj H
      refine ⟨?_⟩
      go_wp2_with (first | (go_at_call 31; (with_reducible refine (spec_l1In.calls a0_3 1 9 true _ A8.out).mono ?_); rintro e w' ⟨rfl, ⟨nd, rfl⟩⟩) | (go_at_call 31; (with_reducible refine (spec_l1In.calls a0_4 1 9 true _ A10.out).mono ?_); rintro e w' ⟨rfl, ⟨nd, rfl⟩⟩) | (go_at_call 32; (with_reducible refine (spec_ByOk.calls k _ _ l0_5 t751 _ ?side1 ?side2 A12.out).mono ?_); (case side1 => repeat (first | exact (Kd.C_below HR0_5.out (hs_ HB.out)) | (with_reducible first | refine ca_ ?_ _ | refine cn_ ?_ _ | refine cd_ ?_))); (case side2 => exact HC0_5.out); rintro e w' ⟨rfl, ⟨nd, rfl⟩⟩))
      go_ret
      exact an_ (by exact hs_ HB.out)
     replace c11 := Bool.eq_false_iff.mpr c11
     subst c11
     rw [if_neg (show ¬ (false = true) by decide)] at H
     obtain rfl := Option.some.inj H
     refine ⟨?_⟩
     go_wp2_with (first | (go_at_call 31; (with_reducible refine (spec_l1In.calls a0_3 1 9 true _ A8.out).mono ?_); rintro e w' ⟨rfl, ⟨nd, rfl⟩⟩) | (go_at_call 31; (with_reducible refine (spec_l1In.calls a0_4 1 9 false _ A10.out).mono ?_); rintro e w' ⟨rfl, ⟨nd, rfl⟩⟩))
     go_ret
     exact an_ (by exact hs_ HB.out)
    replace c9 := Bool.eq_false_iff.mpr c9
    subst c9
    rw [if_neg (show ¬ (false = true) by decide)] at H
    obtain rfl := Option.some.inj H
    refine ⟨?_⟩
    go_wp2_with (first | (go_at_call 31; (with_reducible refine (spec_l1In.calls a0_3 1 9 false _ A8.out).mono ?_); rintro e w' ⟨rfl, ⟨nd, rfl⟩⟩))
    go_ret
    exact an_ (by exact hs_ HB.out)
   replace c7 := Bool.eq_false_iff.mpr c7
   subst c7
   rw [if_neg (show ¬ (false = true) by decide)] at H
   obtain rfl := Option.some.inj H
   refine ⟨?_⟩
   go_wp2_with (first | ((with_reducible refine gate_callee (f := 31) rfl ?_); refine gl_ (some 5) Tryd.func31 #[.int .i64 a0_0, .int .i64 1, .int .i64 3] ?_; (with_reducible refine (spec_l1In.calls a0_0 1 3 true _ A2.out).mono ?_); rintro e w' ⟨rfl, ⟨nd, rfl⟩⟩; refine ⟨_, rfl, ?_⟩) | (go_at_call 31; (with_reducible refine (spec_l1In.calls a0_1 1 8 true _ A4.out).mono ?_); rintro e w' ⟨rfl, ⟨nd, rfl⟩⟩) | (go_at_call 31; (with_reducible refine (spec_l1In.calls a0_2 1 2 false _ A6.out).mono ?_); rintro e w' ⟨rfl, ⟨nd, rfl⟩⟩))
   go_ret
   exact an_ (by exact hs_ HB.out)
  replace c5 := Bool.eq_false_iff.mpr c5
  subst c5
  rw [if_neg (show ¬ (false = true) by decide)] at H
  obtain rfl := Option.some.inj H
  refine ⟨?_⟩
  go_wp2_with (first | ((with_reducible refine gate_callee (f := 31) rfl ?_); refine gl_ (some 5) Tryd.func31 #[.int .i64 a0_0, .int .i64 1, .int .i64 3] ?_; (with_reducible refine (spec_l1In.calls a0_0 1 3 true _ A2.out).mono ?_); rintro e w' ⟨rfl, ⟨nd, rfl⟩⟩; refine ⟨_, rfl, ?_⟩) | (go_at_call 31; (with_reducible refine (spec_l1In.calls a0_1 1 8 false _ A4.out).mono ?_); rintro e w' ⟨rfl, ⟨nd, rfl⟩⟩))
  go_ret
  exact an_ (by exact hs_ HB.out)
 replace c3 := Bool.eq_false_iff.mpr c3
 subst c3
 rw [if_neg (show ¬ (false = true) by decide)] at H
 obtain rfl := Option.some.inj H
 refine ⟨?_⟩
 go_wp2_with (first | ((with_reducible refine gate_callee (f := 31) rfl ?_); refine gl_ (some 5) Tryd.func31 #[.int .i64 a0_0, .int .i64 1, .int .i64 3] ?_; (with_reducible refine (spec_l1In.calls a0_0 1 3 false _ A2.out).mono ?_); rintro e w' ⟨rfl, ⟨nd, rfl⟩⟩; refine ⟨_, rfl, ?_⟩))
 go_ret
 exact an_ (by exact hs_ HB.out)
def impl_sameTexts.l0 : Nat → List ByteArray → List ByteArray → Int → Int → Option (Bool)
 | 0, _, _, _, _ => none
 | k + 1, x0, x1, x12, x13 => if x13 < x12 then (if 0 ≤ x13 then (if x13 < (x0.length : Int) then (if x13 < (x1.length : Int) then (if (rdOf ByteArray.empty x0 x13).toList = (rdOf ByteArray.empty x1 x13).toList then (impl_sameTexts.l0 k x0 x1 x12 (wrap64 (x13 + 1))) else (some false)) else (none)) else (none)) else (none)) else (some true)
def impl_sameTexts.f (k : Nat) (l0 : List ByteArray) (l1 : List ByteArray) : Option (Bool) := if (l0.length : Int) = (l1.length : Int) then (impl_sameTexts.l0 k l0 l1 (l0.length : Int) 0) else (some false)
theorem impl_sameTexts.mono_l : ∀ k, (∀ y0 y1 y2 y3, LeO (impl_sameTexts.l0 k y0 y1 y2 y3) (impl_sameTexts.l0 (k + 1) y0 y1 y2 y3))
 | 0 => fun _ _ _ _ r h => by simp [impl_sameTexts.l0] at h
 | k + 1 => by
  have ih0 := impl_sameTexts.mono_l k
  intro y0 y1 y2 y3
  unfold impl_sameTexts.l0
  repeat' first
  | (with_reducible exact ih0 _ _ _ _)
  | (with_reducible exact LeO.refl _)
  | (with_reducible exact LeO.none _)
  | (with_reducible refine LeO.ite ?_ ?_)
  | (with_reducible refine LeO.bind ?_ (fun _ => ?_))
  | exact ih0 _ _ _ _
theorem impl_sameTexts.mono : ∀ a0 a1 k, LeO (impl_sameTexts.f k a0 a1) (impl_sameTexts.f (k + 1) a0 a1) := by
 intro a0 a1 k
 have ih0 := impl_sameTexts.mono_l k
 unfold impl_sameTexts.f
 repeat' first | (with_reducible first | exact ih0 _ _ _ _ | exact LeO.refl _ | exact LeO.none _ | refine LeO.ite ?_ ?_ | refine LeO.bind ?_ (fun _ => ?_)) | exact ih0 _ _ _ _
theorem impl_sameTexts.calls (k : Nat) (A0 : Option Addr) (c0 : Nat) (l0 : List ByteArray) (A1 : Option Addr) (c1 : Nat) (l1 : List ByteArray) (r : Bool) (w : World) (hr0 : Kd.C Kd.string w A0 l0.length l0) (hc0 : l0.length ≤ c0) (hr1 : Kd.C Kd.string w A1 l1.length l1) (hc1 : l1.length ≤ c1) (h : impl_sameTexts.f k l0 l1 = some r) :
  Calls Tryd.prog 33 #[.slice A0 l0.length c0, .slice A1 l1.length c1] w fun e w' => e = .returned (.bool r) ∧ Drawn0 w w' := by
 have HR0 := Aside0.mk hr0
 have HC0 := Aside0.mk hc0
 clear hr0 hc0
 have HR1 := Aside0.mk hr1
 have HC1 := Aside0.mk hc1
 clear hr1 hc1
 have H : (if (l0.length : Int) = (l1.length : Int) then (impl_sameTexts.l0 k l0 l1 (l0.length : Int) 0) else (some false)) = some r := h
 clear h
 by_cases c3 : (l0.length : Int) = (l1.length : Int)
 ·
  rw [if_pos c3] at H
  have c3b0 : ((l0.length : Int) == (l1.length : Int)) = true := beq_iff_eq.mpr c3
  have c3b1 : ((l0.length : Int) != (l1.length : Int)) = false := bne_eq_false_iff_eq.mpr c3
  have c3b2 : (l0.length == l1.length) = true := by first | simpa using c3 | (simp at c3 ⊢; omega)
  clear c3
  have H' := Aside0.mk H
  clear H
  go_enter Tryd.func33, Tryd.ntmps33
  go_wp2
  repeat (go_quiet (fail); try go_wp2)
  go_loopg [13] k (fun kq v13 w' => ∃ (x13_1 : Int), v13 = .int .i64 x13_1 ∧ Aside0 (impl_sameTexts.l0 kq l0 l1 (l0.length : Int) x13_1 = some r) ∧ Aside0 (kq ≤ k) ∧ Drawn0 w w')
  case atStart => exact ⟨(0), (by first | rfl | (simp; done) | (simp [*]; done)), H', ⟨Nat.le_refl _⟩, by repeat (first | exact Drawn0.refl _ | apply Drawn0.step)⟩
  case round =>
   clear H'
   try clear c1
   try clear p2
   try clear c3
   try clear c3b0
   try clear c3b1
   try clear c3b2
   obtain ⟨x13_1, rfl, HA, HK1, ⟨m1, rfl⟩⟩ := hrel
   cases gk with
   | zero => exact absurd HA.out (by simp [impl_sameTexts.l0])
   | succ k1 =>
    have H := HA.out
    clear HA
    simp only [impl_sameTexts.l0] at H
    by_cases c4 : x13_1 < (l0.length : Int)
    ·
     rw [if_pos c4] at H
     have c4b0 := decide_eq_true c4
     clear c4
     by_cases c5 : 0 ≤ x13_1
     ·
      rw [if_pos c5] at H
      have c5b0 := decide_eq_true c5
      clear c5
      by_cases c6 : x13_1 < (l0.length : Int)
      ·
       rw [if_pos c6] at H
       have c6b0 := decide_eq_true c6
       clear c6
       by_cases c7 : x13_1 < (l1.length : Int)
       ·
        rw [if_pos c7] at H
        have c7b0 := decide_eq_true c7
        clear c7
        by_cases c8 : (rdOf ByteArray.empty l0 x13_1).toList = (rdOf ByteArray.empty l1 x13_1).toList
        ·
         rw [if_pos c8] at H
         have c8b0 : ((rdOf ByteArray.empty l0 x13_1).toList == (rdOf ByteArray.empty l1 x13_1).toList) = true := beq_iff_eq.mpr c8
         have c8b1 : ((rdOf ByteArray.empty l0 x13_1).toList != (rdOf ByteArray.empty l1 x13_1).toList) = false := bne_eq_false_iff_eq.mpr c8
         clear c8
         have H' := Aside0.mk H
         clear H
         have p752 : 0 ≤ (x13_1 : Int) := of_decide_eq_true (by with_reducible assumption)
         have q752 : x13_1 < (l0.length : Int) := of_decide_eq_true (by with_reducible assumption)
         obtain ⟨ad752, e752, hx752_0⟩ := Kd.at_string HR0.out x13_1 p752 q752
         cases e752
         replace p752 := eq_true p752
         replace q752 := eq_true q752
         have p753 : 0 ≤ (x13_1 : Int) := of_decide_eq_true (by with_reducible assumption)
         have q753 : x13_1 < (l1.length : Int) := of_decide_eq_true (by with_reducible assumption)
         obtain ⟨ad753, e753, hx753_0⟩ := Kd.at_string HR1.out x13_1 p753 q753
         cases e753
         replace p753 := eq_true p753
         replace q753 := eq_true q753
         go_wp2
         repeat (go_quiet (fail); try go_wp2)
         go_roundg k1
         case measure => have := HK1.out; omega
         case rel => exact ⟨(wrap64 (x13_1 + 1)), (by first | rfl | (simp; done) | (simp [*]; done)), H', ⟨by have := HK1.out; omega⟩, by repeat (first | exact Drawn0.refl _ | apply Drawn0.step)⟩
        rw [if_neg c8] at H
        have c8b0 : ((rdOf ByteArray.empty l0 x13_1).toList == (rdOf ByteArray.empty l1 x13_1).toList) = false := beq_eq_false_iff_ne.mpr c8
        have c8b1 : ((rdOf ByteArray.empty l0 x13_1).toList != (rdOf ByteArray.empty l1 x13_1).toList) = true := bne_iff_ne.mpr c8
        obtain rfl := Option.some.inj H
        have p752 : 0 ≤ (x13_1 : Int) := of_decide_eq_true (by with_reducible assumption)
        have q752 : x13_1 < (l0.length : Int) := of_decide_eq_true (by with_reducible assumption)
        obtain ⟨ad752, e752, hx752_0⟩ := Kd.at_string HR0.out x13_1 p752 q752
        cases e752
        replace p752 := eq_true p752
        replace q752 := eq_true q752
        have p753 : 0 ≤ (x13_1 : Int) := of_decide_eq_true (by with_reducible assumption)
        have q753 : x13_1 < (l1.length : Int) := of_decide_eq_true (by with_reducible assumption)
        obtain ⟨ad753, e753, hx753_0⟩ := Kd.at_string HR1.out x13_1 p753 q753
        cases e753
        replace p753 := eq_true p753
        replace q753 := eq_true q753
        go_wp2
        repeat (go_quiet (fail); try go_wp2)
        go_ret
        exact ⟨by first | rfl | (simp; done) | (simp [*]; done), by repeat (first | exact Drawn0.refl _ | apply Drawn0.step)⟩
       rw [if_neg c7] at H
       exact absurd H (by simp)
      rw [if_neg c6] at H
      exact absurd H (by simp)
     rw [if_neg c5] at H
     exact absurd H (by simp)
    rw [if_neg c4] at H
    have c4b0 : decide (x13_1 < (l0.length : Int)) = false := decide_eq_false c4
    clear c4
    obtain rfl := Option.some.inj H
    go_wp2
    repeat (go_quiet (fail); try go_wp2)
    go_ret
    exact ⟨by first | rfl | (simp; done) | (simp [*]; done), by repeat (first | exact Drawn0.refl _ | apply Drawn0.step)⟩
 rw [if_neg c3] at H
 have c3b0 : ((l0.length : Int) == (l1.length : Int)) = false := beq_eq_false_iff_ne.mpr c3
 have c3b1 : ((l0.length : Int) != (l1.length : Int)) = true := bne_iff_ne.mpr c3
 have c3b2 : (l0.length == l1.length) = false := by first | simpa using c3 | (simp at c3 ⊢; omega)
 obtain rfl := Option.some.inj H
 go_enter Tryd.func33, Tryd.ntmps33
 go_wp2
 repeat (go_quiet (fail); try go_wp2)
 go_ret
 exact ⟨by first | rfl | (simp; done) | (simp [*]; done), by repeat (first | exact Drawn0.refl _ | apply Drawn0.step)⟩
def impl_SameConf.f (k : Nat) (a0_0 : Int) (a0_1 : Int) (a0_2 : Int) (a0_3 : Int) (a0_4 : Int) (l0_5 : List ByteArray) (a1_0 : Int) (a1_1 : Int) (a1_2 : Int) (a1_3 : Int) (a1_4 : Int) (l1_5 : List ByteArray) : Option (Bool) := if a0_0 = a1_0 then (if a0_1 = a1_1 then (if a0_2 = a1_2 then (if a0_3 = a1_3 then (if a0_4 = a1_4 then ((impl_sameTexts.f k l0_5 l1_5).bind fun t756 => (some t756)) else (some false)) else (some false)) else (some false)) else (some false)) else (some false)
theorem impl_SameConf.mono : ∀ a0 a1 a2 a3 a4 a5 a6 a7 a8 a9 a10 a11 k, LeO (impl_SameConf.f k a0 a1 a2 a3 a4 a5 a6 a7 a8 a9 a10 a11) (impl_SameConf.f (k + 1) a0 a1 a2 a3 a4 a5 a6 a7 a8 a9 a10 a11) := by
 intro a0 a1 a2 a3 a4 a5 a6 a7 a8 a9 a10 a11 k
 unfold impl_SameConf.f
 repeat' first | (with_reducible first | exact impl_sameTexts.mono _ _ _ | exact LeO.refl _ | exact LeO.none _ | refine LeO.ite ?_ ?_ | refine LeO.bind ?_ (fun _ => ?_)) | exact impl_sameTexts.mono _ _ _
theorem impl_SameConf.calls (k : Nat) (a0_0 : Int) (a0_1 : Int) (a0_2 : Int) (a0_3 : Int) (a0_4 : Int) (A0_5 : Option Addr) (c0_5 : Nat) (l0_5 : List ByteArray) (a1_0 : Int) (a1_1 : Int) (a1_2 : Int) (a1_3 : Int) (a1_4 : Int) (A1_5 : Option Addr) (c1_5 : Nat) (l1_5 : List ByteArray) (r : Bool) (w : World) (hr0_5 : Kd.C Kd.string w A0_5 l0_5.length l0_5) (hc0_5 : l0_5.length ≤ c0_5) (hr1_5 : Kd.C Kd.string w A1_5 l1_5.length l1_5) (hc1_5 : l1_5.length ≤ c1_5) (h : impl_SameConf.f k a0_0 a0_1 a0_2 a0_3 a0_4 l0_5 a1_0 a1_1 a1_2 a1_3 a1_4 l1_5 = some r) :
  Calls Tryd.prog 12 #[.agg #[.int .i64 a0_0, .int .i64 a0_1, .int .i64 a0_2, .int .i64 a0_3, .int .i64 a0_4, .slice A0_5 l0_5.length c0_5], .agg #[.int .i64 a1_0, .int .i64 a1_1, .int .i64 a1_2, .int .i64 a1_3, .int .i64 a1_4, .slice A1_5 l1_5.length c1_5]] w fun e w' => e = .returned (.bool r) ∧ Below w.heap.size w w' := by
 have hu26 := Tryd.underlying26
 have HR0_5 := Aside0.mk hr0_5
 have HC0_5 := Aside0.mk hc0_5
 clear hr0_5 hc0_5
 have HR1_5 := Aside0.mk hr1_5
 have HC1_5 := Aside0.mk hc1_5
 clear hr1_5 hc1_5
 have HB := Aside0.mk (Below.refl w.heap.size w)
 have H : (if a0_0 = a1_0 then (if a0_1 = a1_1 then (if a0_2 = a1_2 then (if a0_3 = a1_3 then (if a0_4 = a1_4 then ((impl_sameTexts.f k l0_5 l1_5).bind fun t756 => (some t756)) else (some false)) else (some false)) else (some false)) else (some false)) else (some false)) = some r := h
 clear h
 have AHz_ := Aside0.mk H
 clear H
 go_enter Tryd.func12, Tryd.ntmps12
 go_wp2_with (first | ((with_reducible refine gd_ 2 rfl ?_); refine bv_ 2 #[.int .i64 a0_0, .int .i64 a0_1, .int .i64 a0_2, .int .i64 a0_3, .int .i64 a0_4, .slice A0_5 l0_5.length c0_5] 26 ?_; intro gb754 hg w9 hbox hb; have BK754 := Aside0.mk (hbox); have GW754 := Ge_.mk ((gw_ hg (hs_ HB.out))); replace HB := st_ HB hb; have GE754 := Ge_.mk GW754.out; clear hb hbox hg) | (((with_reducible refine gd_ 3 rfl ?_); refine bv_ 3 #[.int .i64 a1_0, .int .i64 a1_1, .int .i64 a1_2, .int .i64 a1_3, .int .i64 a1_4, .slice A1_5 l1_5.length c1_5] 26 ?_; intro gb755 hg w10 hbox hb; have BK755 := Aside0.mk (hbox); have GW755 := Ge_.mk ((gw_ hg (hs_ HB.out))); replace HB := st_ HB hb; have GE755 := Ge_.mk GW755.out; have NB754_755 := nk_ BK754 hg; replace BK754 := bk2_ BK754 hb; have NB755_754 := ns_ NB754_755; clear hb hbox hg; have hnb11 := NB754_755.out; have hnc11 := NB755_754.out; obtain ⟨z12_0, z12_1, z12_2, z12_3, z12_4, z12_5, y12_0, y12_1, y12_2, y12_3, y12_4, y12_5⟩ := bc6_ BK754.out; obtain ⟨z13_0, z13_1, z13_2, z13_3, z13_4, z13_5, y13_0, y13_1, y13_2, y13_3, y13_4, y13_5⟩ := bc6_ BK755.out); refine Aside0.out ?_))
 have H := AHz_.out
 clear AHz_
 by_cases c3 : a0_0 = a1_0
 ·
  rw [if_pos c3] at H
  have c3b0 : (a0_0 == a1_0) = true := beq_iff_eq.mpr c3
  have c3b1 : (a0_0 != a1_0) = false := bne_eq_false_iff_eq.mpr c3
  clear c3
  by_cases c4 : a0_1 = a1_1
  ·
   rw [if_pos c4] at H
   have c4b0 : (a0_1 == a1_1) = true := beq_iff_eq.mpr c4
   have c4b1 : (a0_1 != a1_1) = false := bne_eq_false_iff_eq.mpr c4
   clear c4
   by_cases c5 : a0_2 = a1_2
   ·
    rw [if_pos c5] at H
    have c5b0 : (a0_2 == a1_2) = true := beq_iff_eq.mpr c5
    have c5b1 : (a0_2 != a1_2) = false := bne_eq_false_iff_eq.mpr c5
    clear c5
    by_cases c6 : a0_3 = a1_3
    ·
     rw [if_pos c6] at H
     have c6b0 : (a0_3 == a1_3) = true := beq_iff_eq.mpr c6
     have c6b1 : (a0_3 != a1_3) = false := bne_eq_false_iff_eq.mpr c6
     clear c6
     by_cases c7 : a0_4 = a1_4
     ·
      rw [if_pos c7] at H
      have c7b0 : (a0_4 == a1_4) = true := beq_iff_eq.mpr c7
      have c7b1 : (a0_4 != a1_4) = false := bne_eq_false_iff_eq.mpr c7
      clear c7
      replace H := Option.bind_eq_some_iff.mp H
      obtain ⟨t756, A80, H⟩ := H
      have A8 := Aside0.mk A80
      clear A80
      obtain rfl := Option.some.inj H
      refine ⟨?_⟩
      go_wp2_with (first | (go_at_call 33; (with_reducible refine (impl_sameTexts.calls k _ _ l0_5 _ _ l1_5 t756 _ ?side1 ?side2 ?side3 ?side4 A8.out).mono ?_); (case side1 => exact cp_ ((Kd.C_below HR0_5.out HB.out))); (case side2 => exact HC0_5.out); (case side3 => exact cp_ ((Kd.C_below HR1_5.out HB.out))); (case side4 => exact HC1_5.out); rintro e w' ⟨rfl, ⟨nd, rfl⟩⟩))
      go_ret
      exact an_ (by exact hs_ HB.out)
     rw [if_neg c7] at H
     have c7b0 : (a0_4 == a1_4) = false := beq_eq_false_iff_ne.mpr c7
     have c7b1 : (a0_4 != a1_4) = true := bne_iff_ne.mpr c7
     obtain rfl := Option.some.inj H
     refine ⟨?_⟩
     go_wp2
     go_ret
     exact an_ (by exact hs_ HB.out)
    rw [if_neg c6] at H
    have c6b0 : (a0_3 == a1_3) = false := beq_eq_false_iff_ne.mpr c6
    have c6b1 : (a0_3 != a1_3) = true := bne_iff_ne.mpr c6
    obtain rfl := Option.some.inj H
    refine ⟨?_⟩
    go_wp2
    go_ret
    exact an_ (by exact hs_ HB.out)
   rw [if_neg c5] at H
   have c5b0 : (a0_2 == a1_2) = false := beq_eq_false_iff_ne.mpr c5
   have c5b1 : (a0_2 != a1_2) = true := bne_iff_ne.mpr c5
   obtain rfl := Option.some.inj H
   refine ⟨?_⟩
   go_wp2
   go_ret
   exact an_ (by exact hs_ HB.out)
  rw [if_neg c4] at H
  have c4b0 : (a0_1 == a1_1) = false := beq_eq_false_iff_ne.mpr c4
  have c4b1 : (a0_1 != a1_1) = true := bne_iff_ne.mpr c4
  obtain rfl := Option.some.inj H
  refine ⟨?_⟩
  go_wp2
  go_ret
  exact an_ (by exact hs_ HB.out)
 rw [if_neg c3] at H
 have c3b0 : (a0_0 == a1_0) = false := beq_eq_false_iff_ne.mpr c3
 have c3b1 : (a0_0 != a1_0) = true := bne_iff_ne.mpr c3
 obtain rfl := Option.some.inj H
 refine ⟨?_⟩
 go_wp2
 go_ret
 exact an_ (by exact hs_ HB.out)
def spec_l13By.l0 : Nat → List ByteArray → List ByteArray → Int → Option (Bool)
 | 0, _, _, _ => none
 | k + 1, x0, x1, x5 => if x5 < (x0.length : Int) then (if 0 ≤ x5 then (if x5 < (x1.length : Int) then (if (rdOf ByteArray.empty x0 x5).toList = (rdOf ByteArray.empty x1 x5).toList then (spec_l13By.l0 k x0 x1 (wrap64 (x5 + 1))) else (some false)) else (none)) else (none)) else (some true)
def spec_l13By.f (k : Nat) (l0 : List ByteArray) (l1 : List ByteArray) : Option (Bool) := if (l0.length : Int) = (l1.length : Int) then (spec_l13By.l0 k l0 l1 0) else (some false)
theorem spec_l13By.mono_l : ∀ k, (∀ y0 y1 y2, LeO (spec_l13By.l0 k y0 y1 y2) (spec_l13By.l0 (k + 1) y0 y1 y2))
 | 0 => fun _ _ _ r h => by simp [spec_l13By.l0] at h
 | k + 1 => by
  have ih0 := spec_l13By.mono_l k
  intro y0 y1 y2
  unfold spec_l13By.l0
  repeat' first
  | (with_reducible exact ih0 _ _ _)
  | (with_reducible exact LeO.refl _)
  | (with_reducible exact LeO.none _)
  | (with_reducible refine LeO.ite ?_ ?_)
  | (with_reducible refine LeO.bind ?_ (fun _ => ?_))
  | exact ih0 _ _ _
theorem spec_l13By.mono : ∀ a0 a1 k, LeO (spec_l13By.f k a0 a1) (spec_l13By.f (k + 1) a0 a1) := by
 intro a0 a1 k
 have ih0 := spec_l13By.mono_l k
 unfold spec_l13By.f
 repeat' first | (with_reducible first | exact ih0 _ _ _ | exact LeO.refl _ | exact LeO.none _ | refine LeO.ite ?_ ?_ | refine LeO.bind ?_ (fun _ => ?_)) | exact ih0 _ _ _
theorem spec_l13By.calls (k : Nat) (A0 : Option Addr) (c0 : Nat) (l0 : List ByteArray) (A1 : Option Addr) (c1 : Nat) (l1 : List ByteArray) (r : Bool) (w : World) (hr0 : Kd.C Kd.string w A0 l0.length l0) (hc0 : l0.length ≤ c0) (hr1 : Kd.C Kd.string w A1 l1.length l1) (hc1 : l1.length ≤ c1) (h : spec_l13By.f k l0 l1 = some r) :
  Calls Tryd.prog 34 #[.slice A0 l0.length c0, .slice A1 l1.length c1] w fun e w' => e = .returned (.bool r) ∧ Drawn0 w w' := by
 have HR0 := Aside0.mk hr0
 have HC0 := Aside0.mk hc0
 clear hr0 hc0
 have HR1 := Aside0.mk hr1
 have HC1 := Aside0.mk hc1
 clear hr1 hc1
 have H : (if (l0.length : Int) = (l1.length : Int) then (spec_l13By.l0 k l0 l1 0) else (some false)) = some r := h
 clear h
 by_cases c3 : (l0.length : Int) = (l1.length : Int)
 ·
  rw [if_pos c3] at H
  have c3b0 : ((l0.length : Int) == (l1.length : Int)) = true := beq_iff_eq.mpr c3
  have c3b1 : ((l0.length : Int) != (l1.length : Int)) = false := bne_eq_false_iff_eq.mpr c3
  have c3b2 : (l0.length == l1.length) = true := by first | simpa using c3 | (simp at c3 ⊢; omega)
  clear c3
  have H' := Aside0.mk H
  clear H
  go_enter Tryd.func34, Tryd.ntmps34
  go_wp2
  repeat (go_quiet (fail); try go_wp2)
  go_loopg [5] k (fun kq v5 w' => ∃ (x5_1 : Int), v5 = .int .i64 x5_1 ∧ Aside0 (spec_l13By.l0 kq l0 l1 x5_1 = some r) ∧ Aside0 (kq ≤ k) ∧ Drawn0 w w')
  case atStart => exact ⟨(0), (by first | rfl | (simp; done) | (simp [*]; done)), H', ⟨Nat.le_refl _⟩, by repeat (first | exact Drawn0.refl _ | apply Drawn0.step)⟩
  case round =>
   clear H'
   try clear c1
   try clear p2
   try clear c3
   try clear c3b0
   try clear c3b1
   try clear c3b2
   obtain ⟨x5_1, rfl, HA, HK1, ⟨m1, rfl⟩⟩ := hrel
   cases gk with
   | zero => exact absurd HA.out (by simp [spec_l13By.l0])
   | succ k1 =>
    have H := HA.out
    clear HA
    simp only [spec_l13By.l0] at H
    by_cases c4 : x5_1 < (l0.length : Int)
    ·
     rw [if_pos c4] at H
     have c4b0 := decide_eq_true c4
     clear c4
     by_cases c5 : 0 ≤ x5_1
     ·
      rw [if_pos c5] at H
      have c5b0 := decide_eq_true c5
      clear c5
      by_cases c6 : x5_1 < (l1.length : Int)
      ·
       rw [if_pos c6] at H
       have c6b0 := decide_eq_true c6
       clear c6
       by_cases c7 : (rdOf ByteArray.empty l0 x5_1).toList = (rdOf ByteArray.empty l1 x5_1).toList
       ·
        rw [if_pos c7] at H
        have c7b0 : ((rdOf ByteArray.empty l0 x5_1).toList == (rdOf ByteArray.empty l1 x5_1).toList) = true := beq_iff_eq.mpr c7
        have c7b1 : ((rdOf ByteArray.empty l0 x5_1).toList != (rdOf ByteArray.empty l1 x5_1).toList) = false := bne_eq_false_iff_eq.mpr c7
        clear c7
        have H' := Aside0.mk H
        clear H
        have p757 : 0 ≤ (x5_1 : Int) := of_decide_eq_true (by with_reducible assumption)
        have q757 : x5_1 < (l0.length : Int) := of_decide_eq_true (by with_reducible assumption)
        obtain ⟨ad757, e757, hx757_0⟩ := Kd.at_string HR0.out x5_1 p757 q757
        cases e757
        replace p757 := eq_true p757
        replace q757 := eq_true q757
        have p758 : 0 ≤ (x5_1 : Int) := of_decide_eq_true (by with_reducible assumption)
        have q758 : x5_1 < (l1.length : Int) := of_decide_eq_true (by with_reducible assumption)
        obtain ⟨ad758, e758, hx758_0⟩ := Kd.at_string HR1.out x5_1 p758 q758
        cases e758
        replace p758 := eq_true p758
        replace q758 := eq_true q758
        go_wp2
        repeat (go_quiet (fail); try go_wp2)
        go_roundg k1
        case measure => have := HK1.out; omega
        case rel => exact ⟨(wrap64 (x5_1 + 1)), (by first | rfl | (simp; done) | (simp [*]; done)), H', ⟨by have := HK1.out; omega⟩, by repeat (first | exact Drawn0.refl _ | apply Drawn0.step)⟩
       rw [if_neg c7] at H
       have c7b0 : ((rdOf ByteArray.empty l0 x5_1).toList == (rdOf ByteArray.empty l1 x5_1).toList) = false := beq_eq_false_iff_ne.mpr c7
       have c7b1 : ((rdOf ByteArray.empty l0 x5_1).toList != (rdOf ByteArray.empty l1 x5_1).toList) = true := bne_iff_ne.mpr c7
       obtain rfl := Option.some.inj H
       have p757 : 0 ≤ (x5_1 : Int) := of_decide_eq_true (by with_reducible assumption)
       have q757 : x5_1 < (l0.length : Int) := of_decide_eq_true (by with_reducible assumption)
       obtain ⟨ad757, e757, hx757_0⟩ := Kd.at_string HR0.out x5_1 p757 q757
       cases e757
       replace p757 := eq_true p757
       replace q757 := eq_true q757
       have p758 : 0 ≤ (x5_1 : Int) := of_decide_eq_true (by with_reducible assumption)
       have q758 : x5_1 < (l1.length : Int) := of_decide_eq_true (by with_reducible assumption)
       obtain ⟨ad758, e758, hx758_0⟩ := Kd.at_string HR1.out x5_1 p758 q758
       cases e758
       replace p758 := eq_true p758
       replace q758 := eq_true q758
       go_wp2
       repeat (go_quiet (fail); try go_wp2)
       go_ret
       exact ⟨by first | rfl | (simp; done) | (simp [*]; done), by repeat (first | exact Drawn0.refl _ | apply Drawn0.step)⟩
      rw [if_neg c6] at H
      exact absurd H (by simp)
     rw [if_neg c5] at H
     exact absurd H (by simp)
    rw [if_neg c4] at H
    have c4b0 : decide (x5_1 < (l0.length : Int)) = false := decide_eq_false c4
    clear c4
    obtain rfl := Option.some.inj H
    go_wp2
    repeat (go_quiet (fail); try go_wp2)
    go_ret
    exact ⟨by first | rfl | (simp; done) | (simp [*]; done), by repeat (first | exact Drawn0.refl _ | apply Drawn0.step)⟩
 rw [if_neg c3] at H
 have c3b0 : ((l0.length : Int) == (l1.length : Int)) = false := beq_eq_false_iff_ne.mpr c3
 have c3b1 : ((l0.length : Int) != (l1.length : Int)) = true := bne_iff_ne.mpr c3
 have c3b2 : (l0.length == l1.length) = false := by first | simpa using c3 | (simp at c3 ⊢; omega)
 obtain rfl := Option.some.inj H
 go_enter Tryd.func34, Tryd.ntmps34
 go_wp2
 repeat (go_quiet (fail); try go_wp2)
 go_ret
 exact ⟨by first | rfl | (simp; done) | (simp [*]; done), by repeat (first | exact Drawn0.refl _ | apply Drawn0.step)⟩
def spec_SameConf.f (k : Nat) (a0_0 : Int) (a0_1 : Int) (a0_2 : Int) (a0_3 : Int) (a0_4 : Int) (l0_5 : List ByteArray) (a1_0 : Int) (a1_1 : Int) (a1_2 : Int) (a1_3 : Int) (a1_4 : Int) (l1_5 : List ByteArray) : Option (Bool) := if a0_0 = a1_0 then (if a0_1 = a1_1 then (if a0_2 = a1_2 then (if a0_3 = a1_3 then (if a0_4 = a1_4 then ((spec_l13By.f k l0_5 l1_5).bind fun t761 => (some t761)) else (some false)) else (some false)) else (some false)) else (some false)) else (some false)
theorem spec_SameConf.mono : ∀ a0 a1 a2 a3 a4 a5 a6 a7 a8 a9 a10 a11 k, LeO (spec_SameConf.f k a0 a1 a2 a3 a4 a5 a6 a7 a8 a9 a10 a11) (spec_SameConf.f (k + 1) a0 a1 a2 a3 a4 a5 a6 a7 a8 a9 a10 a11) := by
 intro a0 a1 a2 a3 a4 a5 a6 a7 a8 a9 a10 a11 k
 unfold spec_SameConf.f
 repeat' first | (with_reducible first | exact spec_l13By.mono _ _ _ | exact LeO.refl _ | exact LeO.none _ | refine LeO.ite ?_ ?_ | refine LeO.bind ?_ (fun _ => ?_)) | exact spec_l13By.mono _ _ _
theorem spec_SameConf.calls (k : Nat) (a0_0 : Int) (a0_1 : Int) (a0_2 : Int) (a0_3 : Int) (a0_4 : Int) (A0_5 : Option Addr) (c0_5 : Nat) (l0_5 : List ByteArray) (a1_0 : Int) (a1_1 : Int) (a1_2 : Int) (a1_3 : Int) (a1_4 : Int) (A1_5 : Option Addr) (c1_5 : Nat) (l1_5 : List ByteArray) (r : Bool) (w : World) (hr0_5 : Kd.C Kd.string w A0_5 l0_5.length l0_5) (hc0_5 : l0_5.length ≤ c0_5) (hr1_5 : Kd.C Kd.string w A1_5 l1_5.length l1_5) (hc1_5 : l1_5.length ≤ c1_5) (h : spec_SameConf.f k a0_0 a0_1 a0_2 a0_3 a0_4 l0_5 a1_0 a1_1 a1_2 a1_3 a1_4 l1_5 = some r) :
  Calls Tryd.prog 13 #[.agg #[.int .i64 a0_0, .int .i64 a0_1, .int .i64 a0_2, .int .i64 a0_3, .int .i64 a0_4, .slice A0_5 l0_5.length c0_5], .agg #[.int .i64 a1_0, .int .i64 a1_1, .int .i64 a1_2, .int .i64 a1_3, .int .i64 a1_4, .slice A1_5 l1_5.length c1_5]] w fun e w' => e = .returned (.bool r) ∧ Below w.heap.size w w' := by
 have hu26 := Tryd.underlying26
 have HR0_5 := Aside0.mk hr0_5
 have HC0_5 := Aside0.mk hc0_5
 clear hr0_5 hc0_5
 have HR1_5 := Aside0.mk hr1_5
 have HC1_5 := Aside0.mk hc1_5
 clear hr1_5 hc1_5
 have HB := Aside0.mk (Below.refl w.heap.size w)
 have H : (if a0_0 = a1_0 then (if a0_1 = a1_1 then (if a0_2 = a1_2 then (if a0_3 = a1_3 then (if a0_4 = a1_4 then ((spec_l13By.f k l0_5 l1_5).bind fun t761 => (some t761)) else (some false)) else (some false)) else (some false)) else (some false)) else (some false)) = some r := h
 clear h
 have AHz_ := Aside0.mk H
 clear H
 go_enter Tryd.func13, Tryd.ntmps13
 go_wp2_with (first | ((with_reducible refine gd_ 2 rfl ?_); refine bv_ 2 #[.int .i64 a0_0, .int .i64 a0_1, .int .i64 a0_2, .int .i64 a0_3, .int .i64 a0_4, .slice A0_5 l0_5.length c0_5] 26 ?_; intro gb759 hg w9 hbox hb; have BK759 := Aside0.mk (hbox); have GW759 := Ge_.mk ((gw_ hg (hs_ HB.out))); replace HB := st_ HB hb; have GE759 := Ge_.mk GW759.out; clear hb hbox hg) | (((with_reducible refine gd_ 3 rfl ?_); refine bv_ 3 #[.int .i64 a1_0, .int .i64 a1_1, .int .i64 a1_2, .int .i64 a1_3, .int .i64 a1_4, .slice A1_5 l1_5.length c1_5] 26 ?_; intro gb760 hg w10 hbox hb; have BK760 := Aside0.mk (hbox); have GW760 := Ge_.mk ((gw_ hg (hs_ HB.out))); replace HB := st_ HB hb; have GE760 := Ge_.mk GW760.out; have NB759_760 := nk_ BK759 hg; replace BK759 := bk2_ BK759 hb; have NB760_759 := ns_ NB759_760; clear hb hbox hg; have hnb11 := NB759_760.out; have hnc11 := NB760_759.out; obtain ⟨z12_0, z12_1, z12_2, z12_3, z12_4, z12_5, y12_0, y12_1, y12_2, y12_3, y12_4, y12_5⟩ := bc6_ BK759.out; obtain ⟨z13_0, z13_1, z13_2, z13_3, z13_4, z13_5, y13_0, y13_1, y13_2, y13_3, y13_4, y13_5⟩ := bc6_ BK760.out); refine Aside0.out ?_))
 have H := AHz_.out
 clear AHz_
 by_cases c3 : a0_0 = a1_0
 ·
  rw [if_pos c3] at H
  have c3b0 : (a0_0 == a1_0) = true := beq_iff_eq.mpr c3
  have c3b1 : (a0_0 != a1_0) = false := bne_eq_false_iff_eq.mpr c3
  clear c3
  by_cases c4 : a0_1 = a1_1
  ·
   rw [if_pos c4] at H
   have c4b0 : (a0_1 == a1_1) = true := beq_iff_eq.mpr c4
   have c4b1 : (a0_1 != a1_1) = false := bne_eq_false_iff_eq.mpr c4
   clear c4
   by_cases c5 : a0_2 = a1_2
   ·
    rw [if_pos c5] at H
    have c5b0 : (a0_2 == a1_2) = true := beq_iff_eq.mpr c5
    have c5b1 : (a0_2 != a1_2) = false := bne_eq_false_iff_eq.mpr c5
    clear c5
    by_cases c6 : a0_3 = a1_3
    ·
     rw [if_pos c6] at H
     have c6b0 : (a0_3 == a1_3) = true := beq_iff_eq.mpr c6
     have c6b1 : (a0_3 != a1_3) = false := bne_eq_false_iff_eq.mpr c6
     clear c6
     by_cases c7 : a0_4 = a1_4
     ·
      rw [if_pos c7] at H
      have c7b0 : (a0_4 == a1_4) = true := beq_iff_eq.mpr c7
      have c7b1 : (a0_4 != a1_4) = false := bne_eq_false_iff_eq.mpr c7
      clear c7
      replace H := Option.bind_eq_some_iff.mp H
      obtain ⟨t761, A80, H⟩ := H
      have A8 := Aside0.mk A80
      clear A80
      obtain rfl := Option.some.inj H
      refine ⟨?_⟩
      go_wp2_with (first | (go_at_call 34; (with_reducible refine (spec_l13By.calls k _ _ l0_5 _ _ l1_5 t761 _ ?side1 ?side2 ?side3 ?side4 A8.out).mono ?_); (case side1 => exact cp_ ((Kd.C_below HR0_5.out HB.out))); (case side2 => exact HC0_5.out); (case side3 => exact cp_ ((Kd.C_below HR1_5.out HB.out))); (case side4 => exact HC1_5.out); rintro e w' ⟨rfl, ⟨nd, rfl⟩⟩))
      go_ret
      exact an_ (by exact hs_ HB.out)
     rw [if_neg c7] at H
     have c7b0 : (a0_4 == a1_4) = false := beq_eq_false_iff_ne.mpr c7
     have c7b1 : (a0_4 != a1_4) = true := bne_iff_ne.mpr c7
     obtain rfl := Option.some.inj H
     refine ⟨?_⟩
     go_wp2
     go_ret
     exact an_ (by exact hs_ HB.out)
    rw [if_neg c6] at H
    have c6b0 : (a0_3 == a1_3) = false := beq_eq_false_iff_ne.mpr c6
    have c6b1 : (a0_3 != a1_3) = true := bne_iff_ne.mpr c6
    obtain rfl := Option.some.inj H
    refine ⟨?_⟩
    go_wp2
    go_ret
    exact an_ (by exact hs_ HB.out)
   rw [if_neg c5] at H
   have c5b0 : (a0_2 == a1_2) = false := beq_eq_false_iff_ne.mpr c5
   have c5b1 : (a0_2 != a1_2) = true := bne_iff_ne.mpr c5
   obtain rfl := Option.some.inj H
   refine ⟨?_⟩
   go_wp2
   go_ret
   exact an_ (by exact hs_ HB.out)
  rw [if_neg c4] at H
  have c4b0 : (a0_1 == a1_1) = false := beq_eq_false_iff_ne.mpr c4
  have c4b1 : (a0_1 != a1_1) = true := bne_iff_ne.mpr c4
  obtain rfl := Option.some.inj H
  refine ⟨?_⟩
  go_wp2
  go_ret
  exact an_ (by exact hs_ HB.out)
 rw [if_neg c3] at H
 have c3b0 : (a0_0 == a1_0) = false := beq_eq_false_iff_ne.mpr c3
 have c3b1 : (a0_0 != a1_0) = true := bne_iff_ne.mpr c3
 obtain rfl := Option.some.inj H
 refine ⟨?_⟩
 go_wp2
 go_ret
 exact an_ (by exact hs_ HB.out)
end Go.Proofs.YtanfohlpkppeiaaDoor.Print
end
section
namespace Go.Proofs
open Go.Shelf
def Tryd.lays156_ren : Go.Shelf.Ren := ⟨fun | 156 => 35 | 165 => 56 | 166 => 57 | 169 => 58 | 240 => 77 | 241 => 78 | 276 => 83 | 277 => 84 | n => n, fun | 31 => 24 | 9 => 9 | 3 => 3 | 4 => 4 | 0 => 0 | 20 => 20 | 72 => 75 | 76 => 79 | 70 => 73 | 37 => 22 | 75 => 78 | 127 => 92 | 164 => 95 | 5 => 5 | 80 => 81 | n => n, fun | n => n⟩
theorem Tryd.lays156 : Go.Proofs.Lays.n156 Tryd.prog Tryd.lays156_ren := {
  mixed := by kernel_rfl
  f156 := Tryd.func35.trans (congrArg some (by kernel_rfl))
  f165 := Tryd.func56.trans (congrArg some (by kernel_rfl))
  f166 := Tryd.func57.trans (congrArg some (by kernel_rfl))
  f169 := Tryd.func58.trans (congrArg some (by kernel_rfl))
  f240 := Tryd.func77.trans (congrArg some (by kernel_rfl))
  f241 := Tryd.func78.trans (congrArg some (by kernel_rfl))
  f276 := Tryd.func83.trans (congrArg some (by kernel_rfl))
  f277 := Tryd.func84.trans (congrArg some (by kernel_rfl))
  t0 := Tryd.underlying0
  a0 := Tryd.isAgg0
  z0 := Tryd.sizeOf0
  v0 := Tryd.zeroValue0
  t3 := Tryd.underlying3
  a3 := Tryd.isAgg3
  z3 := Tryd.sizeOf3
  v3 := Tryd.zeroValue3
  t4 := Tryd.underlying4
  a4 := Tryd.isAgg4
  z4 := Tryd.sizeOf4
  v4 := Tryd.zeroValue4
  t9 := Tryd.underlying9
  a9 := Tryd.isAgg9
  z9 := Tryd.sizeOf9
  v9 := Tryd.zeroValue9
  t20 := Tryd.underlying20
  a20 := Tryd.isAgg20
  z20 := Tryd.sizeOf20
  v20 := Tryd.zeroValue20
  t31 := Tryd.underlying24
  a31 := Tryd.isAgg24
  z31 := Tryd.sizeOf24
  v31 := Tryd.zeroValue24
  t37 := Tryd.underlying22
  a37 := Tryd.isAgg22
  z37 := Tryd.sizeOf22
  v37 := Tryd.zeroValue22
  t70 := Tryd.underlying73
  a70 := Tryd.isAgg73
  z70 := Tryd.sizeOf73
  v70 := Tryd.zeroValue73
  t72 := Tryd.underlying75
  a72 := Tryd.isAgg75
  z72 := Tryd.sizeOf75
  v72 := Tryd.zeroValue75
  t75 := Tryd.underlying78
  a75 := Tryd.isAgg78
  z75 := Tryd.sizeOf78
  v75 := Tryd.zeroValue78
  t76 := Tryd.underlying79
  a76 := Tryd.isAgg79
  z76 := Tryd.sizeOf79
  v76 := Tryd.zeroValue79
  t127 := Tryd.underlying92
  a127 := Tryd.isAgg92
  z127 := Tryd.sizeOf92
  v127 := Tryd.zeroValue92
  t164 := Tryd.underlying95
  a164 := Tryd.isAgg95
  z164 := Tryd.sizeOf95
  v164 := Tryd.zeroValue95 }
theorem Tryd.Builder_Extra_156 : Builder.Extra Tryd.prog Tryd.lays156_ren := {
  sizeBuilder := by kernel_rfl
  liesBuilder := by kernel_rfl
  t5 := Tryd.underlying5
  a5 := Tryd.isAgg5
  z5 := Tryd.sizeOf5
  v5 := Tryd.zeroValue5
  infoByte := by kernel_rfl
  cellsByte := by kernel_rfl
  sizeByte := by kernel_rfl
  neB5 := by decide }
open Go.RowKit in
theorem Tryd.strings_Join_none (a : Option Addr) (c : Nat) (sep : ByteArray) (w : World) :
    Calls Tryd.prog 35 #[.slice a 0 c, .string sep] w fun e w' => e = .returned (.string ⟨#[]⟩) ∧ w' = w := Any.strings_Join_none Tryd.lays156 Tryd.Builder_Extra_156 a c sep w
open Go.RowKit in
theorem Tryd.strings_Join (bk o c : Nat) (xs : List ByteArray) (sep : ByteArray) (w : World) (hcells : ∀ (j : Nat) x, xs[j]? = some x → w.cell? ⟨bk, o + j, none⟩ = some (.string x)) (hbk : bk < w.heap.size) (hN : xs.length ≤ 140737488355328) (hcap : xs.length ≤ c) (hlen : (Lib.join (xs.map (·.data.toList)) sep.data.toList).length ≤ 140737488355328) :
    Calls Tryd.prog 35 #[.slice (some ⟨bk, o, none⟩) xs.length c, .string sep] w fun e w' => e = .returned (.string ⟨(Lib.join (xs.map (·.data.toList)) sep.data.toList).toArray⟩) ∧ Below w.heap.size w w' := Any.strings_Join Tryd.lays156 Tryd.Builder_Extra_156 bk o c xs sep w hcells hbk hN hcap hlen
def Tryd.lays171_ren : Go.Shelf.Ren := ⟨fun | 171 => 59 | 243 => 79 | 246 => 85 | 283 => 86 | 284 => 87 | 285 => 88 | 286 => 89 | 129 => 91 | 317 => 90 | 318 => 92 | 319 => 93 | 320 => 94 | 337 => 95 | 338 => 96 | n => n, fun | 3 => 3 | 9 => 9 | 2 => 2 | 4 => 4 | 171 => 99 | 0 => 0 | 53 => 100 | 37 => 22 | 5 => 5 | 173 => 103 | 212 => 107 | 51 => 108 | 20 => 20 | 213 => 109 | 46 => 93 | 232 => 113 | 233 => 114 | n => n, fun | 17 => 1 | 18 => 2 | 19 => 3 | n => n⟩
theorem Tryd.lays171 : Go.Proofs.Lays.n171 Tryd.prog Tryd.lays171_ren := {
  mixed := by kernel_rfl
  f129 := Tryd.func91.trans (congrArg some (by kernel_rfl))
  f171 := Tryd.func59.trans (congrArg some (by kernel_rfl))
  f243 := Tryd.func79.trans (congrArg some (by kernel_rfl))
  f246 := Tryd.func85.trans (congrArg some (by kernel_rfl))
  f283 := Tryd.func86.trans (congrArg some (by kernel_rfl))
  f284 := Tryd.func87.trans (congrArg some (by kernel_rfl))
  f285 := Tryd.func88.trans (congrArg some (by kernel_rfl))
  f286 := Tryd.func89.trans (congrArg some (by kernel_rfl))
  f317 := Tryd.func90.trans (congrArg some (by kernel_rfl))
  f318 := Tryd.func92.trans (congrArg some (by kernel_rfl))
  f319 := Tryd.func93.trans (congrArg some (by kernel_rfl))
  f320 := Tryd.func94.trans (congrArg some (by kernel_rfl))
  f337 := Tryd.func95.trans (congrArg some (by kernel_rfl))
  f338 := Tryd.func96.trans (congrArg some (by kernel_rfl))
  t0 := Tryd.underlying0
  a0 := Tryd.isAgg0
  z0 := Tryd.sizeOf0
  v0 := Tryd.zeroValue0
  t2 := Tryd.underlying2
  a2 := Tryd.isAgg2
  z2 := Tryd.sizeOf2
  v2 := Tryd.zeroValue2
  t3 := Tryd.underlying3
  a3 := Tryd.isAgg3
  z3 := Tryd.sizeOf3
  v3 := Tryd.zeroValue3
  t4 := Tryd.underlying4
  a4 := Tryd.isAgg4
  z4 := Tryd.sizeOf4
  v4 := Tryd.zeroValue4
  t5 := Tryd.underlying5
  a5 := Tryd.isAgg5
  z5 := Tryd.sizeOf5
  v5 := Tryd.zeroValue5
  t9 := Tryd.underlying9
  a9 := Tryd.isAgg9
  z9 := Tryd.sizeOf9
  v9 := Tryd.zeroValue9
  t20 := Tryd.underlying20
  a20 := Tryd.isAgg20
  z20 := Tryd.sizeOf20
  v20 := Tryd.zeroValue20
  t37 := Tryd.underlying22
  a37 := Tryd.isAgg22
  z37 := Tryd.sizeOf22
  v37 := Tryd.zeroValue22
  t46 := Tryd.underlying93
  a46 := Tryd.isAgg93
  z46 := Tryd.sizeOf93
  v46 := Tryd.zeroValue93
  t51 := Tryd.underlying108
  a51 := Tryd.isAgg108
  z51 := Tryd.sizeOf108
  v51 := Tryd.zeroValue108
  t53 := Tryd.underlying100
  a53 := Tryd.isAgg100
  z53 := Tryd.sizeOf100
  v53 := Tryd.zeroValue100
  t171 := Tryd.underlying99
  a171 := Tryd.isAgg99
  z171 := Tryd.sizeOf99
  v171 := Tryd.zeroValue99
  t173 := Tryd.underlying103
  a173 := Tryd.isAgg103
  z173 := Tryd.sizeOf103
  v173 := Tryd.zeroValue103
  t212 := Tryd.underlying107
  a212 := Tryd.isAgg107
  z212 := Tryd.sizeOf107
  v212 := Tryd.zeroValue107
  t213 := Tryd.underlying109
  a213 := Tryd.isAgg109
  z213 := Tryd.sizeOf109
  t232 := Tryd.underlying113
  a232 := Tryd.isAgg113
  z232 := Tryd.sizeOf113
  v232 := Tryd.zeroValue113
  t233 := Tryd.underlying114
  a233 := Tryd.isAgg114
  z233 := Tryd.sizeOf114
  v233 := Tryd.zeroValue114
  g17 := by kernel_rfl
  g18 := by kernel_rfl
  g19 := by kernel_rfl }
open Go.RowKit Go.Sort Go.Lib in
theorem Tryd.strconv_Itoa_small (i : Nat) (hi : i < 100) (w : World) :
    Calls Tryd.prog 59 #[.int .i64 i] w fun e w' => e = .returned (.string ⟨(Lib.decDigits i).toArray⟩) ∧ w' = w := Any.strconv_Itoa_small Tryd.lays171 i hi w
end Go.Proofs
end
section
namespace Go.Proofs.YtanfohlpkppeiaaDoor.Print
open Go.RowKit Go.Proofs.YtanfohlpkppeiaaDoorV.PrintWords Go.Proofs.YtanfohlpkppeiaaDoorV.PrintLast Go.Proofs.YtanfohlpkppeiaaDoorV.PrintMore
attribute [local go_sem] max2_int min2_int max_two min_two max_three min_three max_four min_four
set_option linter.unusedVariables false
set_option linter.unusedSimpArgs false
set_option maxHeartbeats 8000000
set_option maxRecDepth 100000
def strings_Join.f (l0 : List ByteArray) (a1 : ByteArray) : Option ByteArray := if l0.length ≤ 140737488355328 ∧ (Lib.join (l0.map (·.data.toList)) a1.data.toList).length ≤ 140737488355328 then some ⟨(Lib.join (l0.map (·.data.toList)) a1.data.toList).toArray⟩ else none
theorem strings_Join.calls (A0 : Option Addr) (c0 : Nat) (l0 : List ByteArray) (a1 : ByteArray) (r : ByteArray) (w : World) (hr0 : Kd.C Kd.string w A0 l0.length l0) (hc0 : l0.length ≤ c0) (h : strings_Join.f l0 a1 = some r) :
 Calls Tryd.prog 35 #[.slice A0 l0.length c0, .string a1] w fun e w' => e = .returned (.string r) ∧ Below w.heap.size w w' := by
 unfold strings_Join.f at h
 split at h
 ·
  rename_i hb
  injection h with h
  subst h
  by_cases h0 : l0 = []
  ·
   subst h0
   exact (Tryd.strings_Join_none A0 c0 a1 w).mono fun e w' ⟨he, hw⟩ => ⟨he, hw ▸ Below.refl _ _⟩
  obtain ⟨ad, rfl, hcell⟩ := hr0.2.2 (List.length_pos_iff.2 h0)
  have hc : ∀ (j : Nat) x, l0[j]? = some x → w.cell? (ad.add j) = some (.string x) := by
   intro j x hx
   obtain ⟨c, hl, hk, hu⟩ := hcell j x hx
   have := hu 0 (.string x) (by rw [show c = [.string x] from hk]; rfl)
   simpa [Kd.string, Kd.scalar] using this
  have hp : 0 < l0.length := List.length_pos_iff.2 h0
  have hs := hc 0 l0[0] (List.getElem?_eq_getElem hp)
  have hb0 : ad.block < w.heap.size := by
   have h1 := hs
   rw [show ad.add 0 = ad from rfl] at h1
   unfold World.cell? at h1
   by_cases hlt : ad.block < w.heap.size
   ·
    exact hlt
   rw [Array.getElem?_eq_none (by omega)] at h1; simp at h1
  have hspot : ad = ⟨ad.block, ad.off, none⟩ := by
   have h1 := hs
   rw [show ad.add 0 = ad from rfl] at h1
   unfold World.cell? at h1
   rcases ad with ⟨b, o, s⟩
   cases s with
   | none => rfl
   | some s => simp only [Option.isSome_some, if_true] at h1; split at h1 <;> simp at h1
  have hcells : ∀ (j : Nat) x, l0[j]? = some x → w.cell? ⟨ad.block, ad.off + j, none⟩ = some (.string x) := by
   intro j x hx
   have := hc j x hx
   unfold Addr.add at this
   by_cases hj : j = 0
   ·
    subst hj; rw [if_pos rfl] at this; rw [hspot] at this; exact this
   rw [if_neg hj] at this; exact this
  rw [show (some ad : Option Addr) = some ⟨ad.block, ad.off, none⟩ from by rw [← hspot]]
  exact Tryd.strings_Join ad.block ad.off c0 l0 a1 w hcells hb0 hb.1 hc0 hb.2
 exact absurd h (by simp)
def strconv_Itoa_59.f (a0 : Int) : Option ByteArray := if 0 ≤ a0 ∧ a0 < 100 then some ⟨(Lib.decDigits a0.toNat).toArray⟩ else none
theorem strconv_Itoa_59.calls (a0 : Int) (r : ByteArray) (w : World) (h : strconv_Itoa_59.f a0 = some r) :
 Calls Tryd.prog 59 #[.int .i64 a0] w fun e w' => e = .returned (.string r) ∧ Below w.heap.size w w' := by
 unfold strconv_Itoa_59.f at h
 split at h
 ·
  rename_i hb
  injection h with h
  subst h
  obtain ⟨n, rfl⟩ : ∃ n : Nat, a0 = (n : Int) := ⟨a0.toNat, by omega⟩
  exact (Tryd.strconv_Itoa_small n (by omega) w).mono fun e w' ⟨he, hw⟩ => ⟨by rw [he, Int.toNat_natCast], hw ▸ Below.refl _ _⟩
 exact absurd h (by simp)
def impl_NumText.f (a0 : Int) : Option (ByteArray) := (strconv_Itoa_59.f a0).bind fun t781 => (some t781)
theorem impl_NumText.calls (a0 : Int) (r : ByteArray) (w : World) (h : impl_NumText.f a0 = some r) :
  Calls Tryd.prog 36 #[.int .i64 a0] w fun e w' => e = .returned (.string r) ∧ Below w.heap.size w w' := by
 have HB := Aside0.mk (Below.refl w.heap.size w)
 have H : ((strconv_Itoa_59.f a0).bind fun t781 => (some t781)) = some r := h
 clear h
 replace H := Option.bind_eq_some_iff.mp H
 obtain ⟨t781, A20, H⟩ := H
 have A2 := Aside0.mk A20
 clear A20
 obtain rfl := Option.some.inj H
 go_enter Tryd.func36, Tryd.ntmps36
 go_wp2_with (first | ((with_reducible refine gate_callee (f := 59) rfl ?_); refine gl_ (some 4) Tryd.func59 #[.int .i64 a0] ?_; (with_reducible refine (strconv_Itoa_59.calls a0 t781 _ A2.out).mono ?_); rintro e w3 ⟨rfl, hb⟩; refine ⟨_, rfl, ?_⟩; replace HB := st_ HB hb; (try clear hb); (try clear hk)))
 go_ret
 exact an_ (by exact hs_ HB.out)
def impl_ConfText.j0 : Nat → ByteArray → Int → Int → Int → Int → Int → List ByteArray → Option (ByteArray)
 | 0, _, _, _, _, _, _, _ => none
 | k + 1, x3, x783000, x783001, x783002, x783003, x783004, x783005 => (impl_NumText.f x783000).bind fun t785 => (if 6 + t785.size ≤ 9223372036854775807 then (if ((⟨#[112, 97, 114, 116, 115, 32]⟩ : ByteArray) ++ t785).size + 5 ≤ 9223372036854775807 then ((impl_NumText.f x783001).bind fun t786 => (if (((⟨#[112, 97, 114, 116, 115, 32]⟩ : ByteArray) ++ t785) ++ (⟨#[32, 99, 97, 112, 32]⟩ : ByteArray)).size + t786.size ≤ 9223372036854775807 then (if ((((⟨#[112, 97, 114, 116, 115, 32]⟩ : ByteArray) ++ t785) ++ (⟨#[32, 99, 97, 112, 32]⟩ : ByteArray)) ++ t786).size + 6 ≤ 9223372036854775807 then ((impl_NumText.f x783002).bind fun t787 => (if (((((⟨#[112, 97, 114, 116, 115, 32]⟩ : ByteArray) ++ t785) ++ (⟨#[32, 99, 97, 112, 32]⟩ : ByteArray)) ++ t786) ++ (⟨#[32, 115, 117, 98, 115, 32]⟩ : ByteArray)).size + t787.size ≤ 9223372036854775807 then (if ((((((⟨#[112, 97, 114, 116, 115, 32]⟩ : ByteArray) ++ t785) ++ (⟨#[32, 99, 97, 112, 32]⟩ : ByteArray)) ++ t786) ++ (⟨#[32, 115, 117, 98, 115, 32]⟩ : ByteArray)) ++ t787).size + 6 ≤ 9223372036854775807 then ((impl_NumText.f x783003).bind fun t788 => (if (((((((⟨#[112, 97, 114, 116, 115, 32]⟩ : ByteArray) ++ t785) ++ (⟨#[32, 99, 97, 112, 32]⟩ : ByteArray)) ++ t786) ++ (⟨#[32, 115, 117, 98, 115, 32]⟩ : ByteArray)) ++ t787) ++ (⟨#[32, 119, 97, 105, 116, 32]⟩ : ByteArray)).size + t788.size ≤ 9223372036854775807 then (if ((((((((⟨#[112, 97, 114, 116, 115, 32]⟩ : ByteArray) ++ t785) ++ (⟨#[32, 99, 97, 112, 32]⟩ : ByteArray)) ++ t786) ++ (⟨#[32, 115, 117, 98, 115, 32]⟩ : ByteArray)) ++ t787) ++ (⟨#[32, 119, 97, 105, 116, 32]⟩ : ByteArray)) ++ t788).size + 7 ≤ 9223372036854775807 then ((impl_NumText.f x783004).bind fun t789 => (if (((((((((⟨#[112, 97, 114, 116, 115, 32]⟩ : ByteArray) ++ t785) ++ (⟨#[32, 99, 97, 112, 32]⟩ : ByteArray)) ++ t786) ++ (⟨#[32, 115, 117, 98, 115, 32]⟩ : ByteArray)) ++ t787) ++ (⟨#[32, 119, 97, 105, 116, 32]⟩ : ByteArray)) ++ t788) ++ (⟨#[32, 101, 118, 101, 114, 121, 32]⟩ : ByteArray)).size + t789.size ≤ 9223372036854775807 then (if ((((((((((⟨#[112, 97, 114, 116, 115, 32]⟩ : ByteArray) ++ t785) ++ (⟨#[32, 99, 97, 112, 32]⟩ : ByteArray)) ++ t786) ++ (⟨#[32, 115, 117, 98, 115, 32]⟩ : ByteArray)) ++ t787) ++ (⟨#[32, 119, 97, 105, 116, 32]⟩ : ByteArray)) ++ t788) ++ (⟨#[32, 101, 118, 101, 114, 121, 32]⟩ : ByteArray)) ++ t789).size + 4 ≤ 9223372036854775807 then (if (((((((((((⟨#[112, 97, 114, 116, 115, 32]⟩ : ByteArray) ++ t785) ++ (⟨#[32, 99, 97, 112, 32]⟩ : ByteArray)) ++ t786) ++ (⟨#[32, 115, 117, 98, 115, 32]⟩ : ByteArray)) ++ t787) ++ (⟨#[32, 119, 97, 105, 116, 32]⟩ : ByteArray)) ++ t788) ++ (⟨#[32, 101, 118, 101, 114, 121, 32]⟩ : ByteArray)) ++ t789) ++ (⟨#[32, 98, 121, 32]⟩ : ByteArray)).size + x3.size ≤ 9223372036854775807 then (some ((((((((((((⟨#[112, 97, 114, 116, 115, 32]⟩ : ByteArray) ++ t785) ++ (⟨#[32, 99, 97, 112, 32]⟩ : ByteArray)) ++ t786) ++ (⟨#[32, 115, 117, 98, 115, 32]⟩ : ByteArray)) ++ t787) ++ (⟨#[32, 119, 97, 105, 116, 32]⟩ : ByteArray)) ++ t788) ++ (⟨#[32, 101, 118, 101, 114, 121, 32]⟩ : ByteArray)) ++ t789) ++ (⟨#[32, 98, 121, 32]⟩ : ByteArray)) ++ x3)) else (none)) else (none)) else (none))) else (none)) else (none))) else (none)) else (none))) else (none)) else (none))) else (none)) else (none))
def impl_ConfText.f (k : Nat) (a0_0 : Int) (a0_1 : Int) (a0_2 : Int) (a0_3 : Int) (a0_4 : Int) (l0_5 : List ByteArray) : Option (ByteArray) := (impl_ConfOk.f k a0_0 a0_1 a0_2 a0_3 a0_4 l0_5).bind fun t783 => (if t783 = true then ((strings_Join.f l0_5 (⟨#[44]⟩ : ByteArray)).bind fun t784 => (if t784.toList = ([] : List UInt8) then (impl_ConfText.j0 k (⟨#[45]⟩ : ByteArray) a0_0 a0_1 a0_2 a0_3 a0_4 l0_5) else (impl_ConfText.j0 k t784 a0_0 a0_1 a0_2 a0_3 a0_4 l0_5))) else (some (⟨#[]⟩ : ByteArray)))
theorem impl_ConfText.mono_l : ∀ k, (∀ y0 y1 y2 y3 y4 y5 y6, LeO (impl_ConfText.j0 k y0 y1 y2 y3 y4 y5 y6) (impl_ConfText.j0 (k + 1) y0 y1 y2 y3 y4 y5 y6))
 | 0 => fun _ _ _ _ _ _ _ r h => by simp [impl_ConfText.j0] at h
 | k + 1 => by
  have ih0 := impl_ConfText.mono_l k
  intro y0 y1 y2 y3 y4 y5 y6
  unfold impl_ConfText.j0
  repeat' first
  | (with_reducible exact ih0 _ _ _ _ _ _ _)
  | (with_reducible exact impl_ConfOk.mono _ _ _ _ _ _ _)
  | (with_reducible exact LeO.refl _)
  | (with_reducible exact LeO.none _)
  | (with_reducible refine LeO.ite ?_ ?_)
  | (with_reducible refine LeO.bind ?_ (fun _ => ?_))
  | exact ih0 _ _ _ _ _ _ _
  | exact impl_ConfOk.mono _ _ _ _ _ _ _
theorem impl_ConfText.mono : ∀ a0 a1 a2 a3 a4 a5 k, LeO (impl_ConfText.f k a0 a1 a2 a3 a4 a5) (impl_ConfText.f (k + 1) a0 a1 a2 a3 a4 a5) := by
 intro a0 a1 a2 a3 a4 a5 k
 have ih0 := impl_ConfText.mono_l k
 unfold impl_ConfText.f
 repeat' first | (with_reducible first | exact ih0 _ _ _ _ _ _ _ | exact impl_ConfOk.mono _ _ _ _ _ _ _ | exact LeO.refl _ | exact LeO.none _ | refine LeO.ite ?_ ?_ | refine LeO.bind ?_ (fun _ => ?_)) | exact ih0 _ _ _ _ _ _ _ | exact impl_ConfOk.mono _ _ _ _ _ _ _
def impl_ConfText.T6 : Bool × List (List Nat × List Nat) := (true, [([], []), ([0], [0]), ([1], [1]), ([2], [2]), ([3], [3]), ([], []), ([5], [5]), ([6, 2], [6]), ([4, 7], [4, 7]), ([8], [8]), ([], []), ([10], [10]), ([11, 7], [11]), ([9, 12], [9, 12]), ([13], [13]), ([], []), ([15], [15]), ([16, 12], [16]), ([14, 17], [14, 17]), ([18], [18]), ([], []), ([20], [20]), ([21, 17], [21]), ([19, 22], [19, 22]), ([23], [23]), ([], []), ([24, 25], [24, 25]), ([26, 22, 0, 1, 2, 3, 4, 5, 6, 7, 8, 9, 10, 11, 12, 13, 14, 15, 16, 17, 18, 19, 20, 21, 22, 23, 24, 25, 26], [26])])
def impl_ConfText.B6 : List Nat := [0, 1, 3, 7, 15, 0, 32, 103, 255, 511, 0, 1024, 3303, 8191, 16383, 0, 32768, 105703, 262143, 524287, 0, 1048576, 3382503, 8388607, 16777215, 0, 67108863, 134217727]
theorem impl_ConfText.tab6 : rtab .any (opsOf Tryd.f14 6) = impl_ConfText.T6 := by kernel_rfl
theorem impl_ConfText.bits6 : waitsOk impl_ConfText.T6.2 impl_ConfText.B6 = true := by kernel_rfl
theorem impl_ConfText.calls (k : Nat) (a0_0 : Int) (a0_1 : Int) (a0_2 : Int) (a0_3 : Int) (a0_4 : Int) (A0_5 : Option Addr) (c0_5 : Nat) (l0_5 : List ByteArray) (r : ByteArray) (w : World) (hr0_5 : Kd.C Kd.string w A0_5 l0_5.length l0_5) (hc0_5 : l0_5.length ≤ c0_5) (h : impl_ConfText.f k a0_0 a0_1 a0_2 a0_3 a0_4 l0_5 = some r) :
  Calls Tryd.prog 14 #[.agg #[.int .i64 a0_0, .int .i64 a0_1, .int .i64 a0_2, .int .i64 a0_3, .int .i64 a0_4, .slice A0_5 l0_5.length c0_5]] w fun e w' => e = .returned (.string r) ∧ Below w.heap.size w w' := by
 have hu26 := Tryd.underlying26
 have HR0_5 := Aside0.mk hr0_5
 have HC0_5 := Aside0.mk hc0_5
 clear hr0_5 hc0_5
 have HB := Aside0.mk (Below.refl w.heap.size w)
 have H : ((impl_ConfOk.f k a0_0 a0_1 a0_2 a0_3 a0_4 l0_5).bind fun t783 => (if t783 = true then ((strings_Join.f l0_5 (⟨#[44]⟩ : ByteArray)).bind fun t784 => (if t784.toList = ([] : List UInt8) then (impl_ConfText.j0 k (⟨#[45]⟩ : ByteArray) a0_0 a0_1 a0_2 a0_3 a0_4 l0_5) else (impl_ConfText.j0 k t784 a0_0 a0_1 a0_2 a0_3 a0_4 l0_5))) else (some (⟨#[]⟩ : ByteArray)))) = some r := h
 clear h
 replace H := Option.bind_eq_some_iff.mp H
 obtain ⟨t783, A20, H⟩ := H
 have A2 := Aside0.mk A20
 clear A20
 by_cases c3 : t783 = true
 ·
  subst c3
  rw [if_pos rfl] at H
  replace H := Option.bind_eq_some_iff.mp H
  obtain ⟨t784, A40, H⟩ := H
  have A4 := Aside0.mk A40
  clear A40
  have HC5 := Aside0.mk H
  clear H
  go_enter Tryd.func14, Tryd.ntmps14
  go_upto_if 11 with (first | ((with_reducible refine gd_ 1 rfl ?_); refine bv_ 1 #[.int .i64 a0_0, .int .i64 a0_1, .int .i64 a0_2, .int .i64 a0_3, .int .i64 a0_4, .slice A0_5 l0_5.length c0_5] 26 ?_; intro gb782 hg w6 hbox hb; have BK782 := Aside0.mk (hbox); have GW782 := Ge_.mk ((gw_ hg (hs_ HB.out))); replace HB := st_ HB hb; have GE782 := Ge_.mk GW782.out; clear hb hbox hg; obtain ⟨z7_0, z7_1, z7_2, z7_3, z7_4, z7_5, y7_0, y7_1, y7_2, y7_3, y7_4, y7_5⟩ := bc6_ BK782.out) | ((with_reducible refine gate_callee (f := 10) rfl ?_); refine gl_ (some 5) Tryd.func10 #[.agg #[.int .i64 a0_0, .int .i64 a0_1, .int .i64 a0_2, .int .i64 a0_3, .int .i64 a0_4, .slice A0_5 l0_5.length c0_5]] ?_; (with_reducible refine (impl_ConfOk.calls k a0_0 a0_1 a0_2 a0_3 a0_4 _ _ l0_5 true _ ?side1 ?side2 A2.out).mono ?_); (case side1 => exact cp_ ((Kd.C_below HR0_5.out HB.out))); (case side2 => exact HC0_5.out); rintro e w8 ⟨rfl, hb⟩; refine ⟨_, rfl, ?_⟩; replace BK782 := bk2_ BK782 hb; replace HB := st_ HB hb; (try clear hb); (try clear hk); obtain ⟨z9_0, z9_1, z9_2, z9_3, z9_4, z9_5, y9_0, y9_1, y9_2, y9_3, y9_4, y9_5⟩ := bc6_ BK782.out) | ((with_reducible refine gate_callee (f := 35) rfl ?_); refine gl_ (some 9) Tryd.func35 #[.slice A0_5 l0_5.length c0_5, .string (⟨#[44]⟩ : ByteArray)] ?_; (with_reducible refine (strings_Join.calls _ _ l0_5 (⟨#[44]⟩ : ByteArray) t784 _ ?side1 ?side2 A4.out).mono ?_); (case side1 => exact cp_ ((Kd.C_below HR0_5.out HB.out))); (case side2 => exact HC0_5.out); rintro e w10 ⟨rfl, hb⟩; refine ⟨_, rfl, ?_⟩; replace BK782 := bk2_ BK782 hb; replace HB := st_ HB hb; (try clear hb); (try clear hk)))
  (try simp only [Act.put, List.setIfInBounds_toArray, List.set_cons_zero, List.set_cons_succ])
  go_cut [3] (fun v3 wc => ∃ (kq : Nat) (x3_4 : ByteArray), v3 = .string x3_4 ∧ Aside0 (impl_ConfText.j0 kq x3_4 a0_0 a0_1 a0_2 a0_3 a0_4 l0_5 = some r) ∧ Aside0 (kq ≤ k) ∧ Aside0 (wc.heap[gb782]? = some (.cells #[.int .i64 a0_0, .int .i64 a0_1, .int .i64 a0_2, .int .i64 a0_3, .int .i64 a0_4, (.slice A0_5 l0_5.length c0_5)] 26 (0, 0))) ∧ Aside0 (Below w.heap.size w wc))
  case first =>
   have H := HC5.out
   clear HC5
   by_cases c11 : t784.toList = ([] : List UInt8)
   ·
    rw [if_pos c11] at H
    have c11b0 : (t784.toList == ([] : List UInt8)) = true := beq_iff_eq.mpr c11
    have c11b1 : (t784.toList != ([] : List UInt8)) = false := bne_eq_false_iff_eq.mpr c11
    clear c11
    (first | rw [c11b0] | rw [show t784.toList.isEmpty = true from by rw [← c11b0]; cases t784.toList <;> rfl] | (simp only [i64_w, i32_w]; rw [c11b0]) | skip)
    have H' := Aside0.mk H
    clear H
    go_wp2
    go_meet
    case rel => exact ⟨_, ((⟨#[45]⟩ : ByteArray)), (by first | rfl | (simp; done) | (simp [*]; done)), H', ⟨by first | omega | exact Nat.le_refl _⟩, ⟨bq_ BK782.out⟩, ⟨by exact hs_ HB.out⟩⟩
   rw [if_neg c11] at H
   have c11b0 : (t784.toList == ([] : List UInt8)) = false := beq_eq_false_iff_ne.mpr c11
   have c11b1 : (t784.toList != ([] : List UInt8)) = true := bne_iff_ne.mpr c11
   (first | rw [c11b0] | rw [show t784.toList.isEmpty = false from by rw [← c11b0]; cases t784.toList <;> rfl] | (simp only [i64_w, i32_w]; rw [c11b0]) | skip)
   have H' := Aside0.mk H
   clear H
   go_wp2
   go_meet
   case rel => exact ⟨_, (t784), (by first | rfl | (simp; done) | (simp [*]; done)), H', ⟨by first | omega | exact Nat.le_refl _⟩, ⟨bq_ BK782.out⟩, ⟨by exact hs_ HB.out⟩⟩
  case rest =>
   clear HC5
   try clear c1
   try clear p2
   try clear c3
   try clear c10
   try clear c11
   try clear c11b0
   try clear c11b1
   try clear z7_0 z7_1 z7_2 z7_3 z7_4 z7_5
   try clear z9_0 z9_1 z9_2 z9_3 z9_4 z9_5
   try clear y7_0 y7_1 y7_2 y7_3 y7_4 y7_5
   try clear y9_0 y9_1 y9_2 y9_3 y9_4 y9_5
   obtain ⟨kq, x3_4, rfl, HA, HJ4, BK782, HB⟩ := hcut
   cases kq with
   | zero => exact absurd HA.out (by simp [impl_ConfText.j0])
   | succ kj4 =>
    have H := HA.out
    clear HA
    simp only [impl_ConfText.j0] at H
    replace H := Option.bind_eq_some_iff.mp H
    obtain ⟨t785, A120, H⟩ := H
    have A12 := Aside0.mk A120
    clear A120
    by_cases c13 : 6 + t785.size ≤ 9223372036854775807
    ·
     rw [if_pos c13] at H
     have c13b0 := eq_true c13
     have c13b1 := decide_eq_true c13
     try have c13b2 : (9223372036854775807 < 6 + t785.size) = False := eq_false (Nat.not_lt.2 c13)
     by_cases c14 : ((⟨#[112, 97, 114, 116, 115, 32]⟩ : ByteArray) ++ t785).size + 5 ≤ 9223372036854775807
     ·
      rw [if_pos c14] at H
      have c14b0 := eq_true c14
      have c14b1 := decide_eq_true c14
      try have c14b2 : (9223372036854775807 < ((⟨#[112, 97, 114, 116, 115, 32]⟩ : ByteArray) ++ t785).size + 5) = False := eq_false (Nat.not_lt.2 c14)
      have c14s := c14
      simp only [ByteArray.size_append, show (⟨#[112, 97, 114, 116, 115, 32]⟩ : ByteArray).size = 6 from rfl] at c14s
      have c14b3 := eq_false (Nat.not_lt.2 c14s)
      have c14b4 := decide_eq_true c14s
      have c14b5 := eq_true c14s
      clear c14s
      replace H := Option.bind_eq_some_iff.mp H
      obtain ⟨t786, A150, H⟩ := H
      have A15 := Aside0.mk A150
      clear A150
      by_cases c16 : (((⟨#[112, 97, 114, 116, 115, 32]⟩ : ByteArray) ++ t785) ++ (⟨#[32, 99, 97, 112, 32]⟩ : ByteArray)).size + t786.size ≤ 9223372036854775807
      ·
       rw [if_pos c16] at H
       have c16b0 := eq_true c16
       have c16b1 := decide_eq_true c16
       try have c16b2 : (9223372036854775807 < (((⟨#[112, 97, 114, 116, 115, 32]⟩ : ByteArray) ++ t785) ++ (⟨#[32, 99, 97, 112, 32]⟩ : ByteArray)).size + t786.size) = False := eq_false (Nat.not_lt.2 c16)
       have c16s := c16
       simp only [ByteArray.size_append, show (⟨#[112, 97, 114, 116, 115, 32]⟩ : ByteArray).size = 6 from rfl, show (⟨#[32, 99, 97, 112, 32]⟩ : ByteArray).size = 5 from rfl] at c16s
       have c16b3 := eq_false (Nat.not_lt.2 c16s)
       have c16b4 := decide_eq_true c16s
       have c16b5 := eq_true c16s
       clear c16s
       by_cases c17 : ((((⟨#[112, 97, 114, 116, 115, 32]⟩ : ByteArray) ++ t785) ++ (⟨#[32, 99, 97, 112, 32]⟩ : ByteArray)) ++ t786).size + 6 ≤ 9223372036854775807
       ·
        rw [if_pos c17] at H
        have c17b0 := eq_true c17
        have c17b1 := decide_eq_true c17
        try have c17b2 : (9223372036854775807 < ((((⟨#[112, 97, 114, 116, 115, 32]⟩ : ByteArray) ++ t785) ++ (⟨#[32, 99, 97, 112, 32]⟩ : ByteArray)) ++ t786).size + 6) = False := eq_false (Nat.not_lt.2 c17)
        have c17s := c17
        simp only [ByteArray.size_append, show (⟨#[112, 97, 114, 116, 115, 32]⟩ : ByteArray).size = 6 from rfl, show (⟨#[32, 99, 97, 112, 32]⟩ : ByteArray).size = 5 from rfl] at c17s
        have c17b3 := eq_false (Nat.not_lt.2 c17s)
        have c17b4 := decide_eq_true c17s
        have c17b5 := eq_true c17s
        clear c17s
        replace H := Option.bind_eq_some_iff.mp H
        obtain ⟨t787, A180, H⟩ := H
        have A18 := Aside0.mk A180
        clear A180
        by_cases c19 : (((((⟨#[112, 97, 114, 116, 115, 32]⟩ : ByteArray) ++ t785) ++ (⟨#[32, 99, 97, 112, 32]⟩ : ByteArray)) ++ t786) ++ (⟨#[32, 115, 117, 98, 115, 32]⟩ : ByteArray)).size + t787.size ≤ 9223372036854775807
        ·
         rw [if_pos c19] at H
         have c19b0 := eq_true c19
         have c19b1 := decide_eq_true c19
         try have c19b2 : (9223372036854775807 < (((((⟨#[112, 97, 114, 116, 115, 32]⟩ : ByteArray) ++ t785) ++ (⟨#[32, 99, 97, 112, 32]⟩ : ByteArray)) ++ t786) ++ (⟨#[32, 115, 117, 98, 115, 32]⟩ : ByteArray)).size + t787.size) = False := eq_false (Nat.not_lt.2 c19)
         have c19s := c19
         simp only [ByteArray.size_append, show (⟨#[112, 97, 114, 116, 115, 32]⟩ : ByteArray).size = 6 from rfl, show (⟨#[32, 99, 97, 112, 32]⟩ : ByteArray).size = 5 from rfl, show (⟨#[32, 115, 117, 98, 115, 32]⟩ : ByteArray).size = 6 from rfl] at c19s
         have c19b3 := eq_false (Nat.not_lt.2 c19s)
         have c19b4 := decide_eq_true c19s
         have c19b5 := eq_true c19s
         clear c19s
         by_cases c20 : ((((((⟨#[112, 97, 114, 116, 115, 32]⟩ : ByteArray) ++ t785) ++ (⟨#[32, 99, 97, 112, 32]⟩ : ByteArray)) ++ t786) ++ (⟨#[32, 115, 117, 98, 115, 32]⟩ : ByteArray)) ++ t787).size + 6 ≤ 9223372036854775807
         ·
          rw [if_pos c20] at H
          have c20b0 := eq_true c20
          have c20b1 := decide_eq_true c20
          try have c20b2 : (9223372036854775807 < ((((((⟨#[112, 97, 114, 116, 115, 32]⟩ : ByteArray) ++ t785) ++ (⟨#[32, 99, 97, 112, 32]⟩ : ByteArray)) ++ t786) ++ (⟨#[32, 115, 117, 98, 115, 32]⟩ : ByteArray)) ++ t787).size + 6) = False := eq_false (Nat.not_lt.2 c20)
          have c20s := c20
          simp only [ByteArray.size_append, show (⟨#[112, 97, 114, 116, 115, 32]⟩ : ByteArray).size = 6 from rfl, show (⟨#[32, 99, 97, 112, 32]⟩ : ByteArray).size = 5 from rfl, show (⟨#[32, 115, 117, 98, 115, 32]⟩ : ByteArray).size = 6 from rfl] at c20s
          have c20b3 := eq_false (Nat.not_lt.2 c20s)
          have c20b4 := decide_eq_true c20s
          have c20b5 := eq_true c20s
          clear c20s
          replace H := Option.bind_eq_some_iff.mp H
          obtain ⟨t788, A210, H⟩ := H
          have A21 := Aside0.mk A210
          clear A210
          by_cases c22 : (((((((⟨#[112, 97, 114, 116, 115, 32]⟩ : ByteArray) ++ t785) ++ (⟨#[32, 99, 97, 112, 32]⟩ : ByteArray)) ++ t786) ++ (⟨#[32, 115, 117, 98, 115, 32]⟩ : ByteArray)) ++ t787) ++ (⟨#[32, 119, 97, 105, 116, 32]⟩ : ByteArray)).size + t788.size ≤ 9223372036854775807
          ·
           rw [if_pos c22] at H
           have c22b0 := eq_true c22
           have c22b1 := decide_eq_true c22
           try have c22b2 : (9223372036854775807 < (((((((⟨#[112, 97, 114, 116, 115, 32]⟩ : ByteArray) ++ t785) ++ (⟨#[32, 99, 97, 112, 32]⟩ : ByteArray)) ++ t786) ++ (⟨#[32, 115, 117, 98, 115, 32]⟩ : ByteArray)) ++ t787) ++ (⟨#[32, 119, 97, 105, 116, 32]⟩ : ByteArray)).size + t788.size) = False := eq_false (Nat.not_lt.2 c22)
           have c22s := c22
           simp only [ByteArray.size_append, show (⟨#[112, 97, 114, 116, 115, 32]⟩ : ByteArray).size = 6 from rfl, show (⟨#[32, 99, 97, 112, 32]⟩ : ByteArray).size = 5 from rfl, show (⟨#[32, 115, 117, 98, 115, 32]⟩ : ByteArray).size = 6 from rfl, show (⟨#[32, 119, 97, 105, 116, 32]⟩ : ByteArray).size = 6 from rfl] at c22s
           have c22b3 := eq_false (Nat.not_lt.2 c22s)
           have c22b4 := decide_eq_true c22s
           have c22b5 := eq_true c22s
           clear c22s
           by_cases c23 : ((((((((⟨#[112, 97, 114, 116, 115, 32]⟩ : ByteArray) ++ t785) ++ (⟨#[32, 99, 97, 112, 32]⟩ : ByteArray)) ++ t786) ++ (⟨#[32, 115, 117, 98, 115, 32]⟩ : ByteArray)) ++ t787) ++ (⟨#[32, 119, 97, 105, 116, 32]⟩ : ByteArray)) ++ t788).size + 7 ≤ 9223372036854775807
           ·
            rw [if_pos c23] at H
            have c23b0 := eq_true c23
            have c23b1 := decide_eq_true c23
            try have c23b2 : (9223372036854775807 < ((((((((⟨#[112, 97, 114, 116, 115, 32]⟩ : ByteArray) ++ t785) ++ (⟨#[32, 99, 97, 112, 32]⟩ : ByteArray)) ++ t786) ++ (⟨#[32, 115, 117, 98, 115, 32]⟩ : ByteArray)) ++ t787) ++ (⟨#[32, 119, 97, 105, 116, 32]⟩ : ByteArray)) ++ t788).size + 7) = False := eq_false (Nat.not_lt.2 c23)
            have c23s := c23
            simp only [ByteArray.size_append, show (⟨#[112, 97, 114, 116, 115, 32]⟩ : ByteArray).size = 6 from rfl, show (⟨#[32, 99, 97, 112, 32]⟩ : ByteArray).size = 5 from rfl, show (⟨#[32, 115, 117, 98, 115, 32]⟩ : ByteArray).size = 6 from rfl, show (⟨#[32, 119, 97, 105, 116, 32]⟩ : ByteArray).size = 6 from rfl] at c23s
            have c23b3 := eq_false (Nat.not_lt.2 c23s)
            have c23b4 := decide_eq_true c23s
            have c23b5 := eq_true c23s
            clear c23s
            replace H := Option.bind_eq_some_iff.mp H
            obtain ⟨t789, A240, H⟩ := H
            have A24 := Aside0.mk A240
            clear A240
            by_cases c25 : (((((((((⟨#[112, 97, 114, 116, 115, 32]⟩ : ByteArray) ++ t785) ++ (⟨#[32, 99, 97, 112, 32]⟩ : ByteArray)) ++ t786) ++ (⟨#[32, 115, 117, 98, 115, 32]⟩ : ByteArray)) ++ t787) ++ (⟨#[32, 119, 97, 105, 116, 32]⟩ : ByteArray)) ++ t788) ++ (⟨#[32, 101, 118, 101, 114, 121, 32]⟩ : ByteArray)).size + t789.size ≤ 9223372036854775807
            ·
             rw [if_pos c25] at H
             have c25b0 := eq_true c25
             have c25b1 := decide_eq_true c25
             try have c25b2 : (9223372036854775807 < (((((((((⟨#[112, 97, 114, 116, 115, 32]⟩ : ByteArray) ++ t785) ++ (⟨#[32, 99, 97, 112, 32]⟩ : ByteArray)) ++ t786) ++ (⟨#[32, 115, 117, 98, 115, 32]⟩ : ByteArray)) ++ t787) ++ (⟨#[32, 119, 97, 105, 116, 32]⟩ : ByteArray)) ++ t788) ++ (⟨#[32, 101, 118, 101, 114, 121, 32]⟩ : ByteArray)).size + t789.size) = False := eq_false (Nat.not_lt.2 c25)
             have c25s := c25
             simp only [ByteArray.size_append, show (⟨#[112, 97, 114, 116, 115, 32]⟩ : ByteArray).size = 6 from rfl, show (⟨#[32, 99, 97, 112, 32]⟩ : ByteArray).size = 5 from rfl, show (⟨#[32, 115, 117, 98, 115, 32]⟩ : ByteArray).size = 6 from rfl, show (⟨#[32, 119, 97, 105, 116, 32]⟩ : ByteArray).size = 6 from rfl, show (⟨#[32, 101, 118, 101, 114, 121, 32]⟩ : ByteArray).size = 7 from rfl] at c25s
             have c25b3 := eq_false (Nat.not_lt.2 c25s)
             have c25b4 := decide_eq_true c25s
             have c25b5 := eq_true c25s
             clear c25s
             by_cases c26 : ((((((((((⟨#[112, 97, 114, 116, 115, 32]⟩ : ByteArray) ++ t785) ++ (⟨#[32, 99, 97, 112, 32]⟩ : ByteArray)) ++ t786) ++ (⟨#[32, 115, 117, 98, 115, 32]⟩ : ByteArray)) ++ t787) ++ (⟨#[32, 119, 97, 105, 116, 32]⟩ : ByteArray)) ++ t788) ++ (⟨#[32, 101, 118, 101, 114, 121, 32]⟩ : ByteArray)) ++ t789).size + 4 ≤ 9223372036854775807
             ·
              rw [if_pos c26] at H
              have c26b0 := eq_true c26
              have c26b1 := decide_eq_true c26
              try have c26b2 : (9223372036854775807 < ((((((((((⟨#[112, 97, 114, 116, 115, 32]⟩ : ByteArray) ++ t785) ++ (⟨#[32, 99, 97, 112, 32]⟩ : ByteArray)) ++ t786) ++ (⟨#[32, 115, 117, 98, 115, 32]⟩ : ByteArray)) ++ t787) ++ (⟨#[32, 119, 97, 105, 116, 32]⟩ : ByteArray)) ++ t788) ++ (⟨#[32, 101, 118, 101, 114, 121, 32]⟩ : ByteArray)) ++ t789).size + 4) = False := eq_false (Nat.not_lt.2 c26)
              have c26s := c26
              simp only [ByteArray.size_append, show (⟨#[112, 97, 114, 116, 115, 32]⟩ : ByteArray).size = 6 from rfl, show (⟨#[32, 99, 97, 112, 32]⟩ : ByteArray).size = 5 from rfl, show (⟨#[32, 115, 117, 98, 115, 32]⟩ : ByteArray).size = 6 from rfl, show (⟨#[32, 119, 97, 105, 116, 32]⟩ : ByteArray).size = 6 from rfl, show (⟨#[32, 101, 118, 101, 114, 121, 32]⟩ : ByteArray).size = 7 from rfl] at c26s
              have c26b3 := eq_false (Nat.not_lt.2 c26s)
              have c26b4 := decide_eq_true c26s
              have c26b5 := eq_true c26s
              clear c26s
              by_cases c27 : (((((((((((⟨#[112, 97, 114, 116, 115, 32]⟩ : ByteArray) ++ t785) ++ (⟨#[32, 99, 97, 112, 32]⟩ : ByteArray)) ++ t786) ++ (⟨#[32, 115, 117, 98, 115, 32]⟩ : ByteArray)) ++ t787) ++ (⟨#[32, 119, 97, 105, 116, 32]⟩ : ByteArray)) ++ t788) ++ (⟨#[32, 101, 118, 101, 114, 121, 32]⟩ : ByteArray)) ++ t789) ++ (⟨#[32, 98, 121, 32]⟩ : ByteArray)).size + x3_4.size ≤ 9223372036854775807
              ·
               rw [if_pos c27] at H
               have c27b0 := eq_true c27
               have c27b1 := decide_eq_true c27
               try have c27b2 : (9223372036854775807 < (((((((((((⟨#[112, 97, 114, 116, 115, 32]⟩ : ByteArray) ++ t785) ++ (⟨#[32, 99, 97, 112, 32]⟩ : ByteArray)) ++ t786) ++ (⟨#[32, 115, 117, 98, 115, 32]⟩ : ByteArray)) ++ t787) ++ (⟨#[32, 119, 97, 105, 116, 32]⟩ : ByteArray)) ++ t788) ++ (⟨#[32, 101, 118, 101, 114, 121, 32]⟩ : ByteArray)) ++ t789) ++ (⟨#[32, 98, 121, 32]⟩ : ByteArray)).size + x3_4.size) = False := eq_false (Nat.not_lt.2 c27)
               have c27s := c27
               simp only [ByteArray.size_append, show (⟨#[112, 97, 114, 116, 115, 32]⟩ : ByteArray).size = 6 from rfl, show (⟨#[32, 99, 97, 112, 32]⟩ : ByteArray).size = 5 from rfl, show (⟨#[32, 115, 117, 98, 115, 32]⟩ : ByteArray).size = 6 from rfl, show (⟨#[32, 119, 97, 105, 116, 32]⟩ : ByteArray).size = 6 from rfl, show (⟨#[32, 101, 118, 101, 114, 121, 32]⟩ : ByteArray).size = 7 from rfl, show (⟨#[32, 98, 121, 32]⟩ : ByteArray).size = 4 from rfl] at c27s
               have c27b3 := eq_false (Nat.not_lt.2 c27s)
               have c27b4 := decide_eq_true c27s
               have c27b5 := eq_true c27s
               clear c27s
               obtain rfl := Option.some.inj H
               try go_wp2
               replace BK782 := Aside0.mk (blk_drew BK782.out)
               replace HB := Aside0.mk (bd_ HB.out)
               refine start_ (n := 28) (S := fun w' => w'.cell? ⟨gb782, 0, none⟩ = some (.int .i64 a0_0) ∧ w'.cell? ⟨gb782, 1, none⟩ = some (.int .i64 a0_1) ∧ w'.cell? ⟨gb782, 2, none⟩ = some (.int .i64 a0_2) ∧ w'.cell? ⟨gb782, 3, none⟩ = some (.int .i64 a0_3) ∧ w'.cell? ⟨gb782, 4, none⟩ = some (.int .i64 a0_4) ∧ w'.cell? ⟨gb782, 5, none⟩ = some (.slice A0_5 l0_5.length c0_5)) (ds := []) (b_ 0 28) (by kernel_rfl) rfl rfl ⟨bx_ BK782.out 0, bx_ BK782.out 1, bx_ BK782.out 2, bx_ BK782.out 3, bx_ BK782.out 4, bx_ BK782.out 5⟩ (fun hHeld => ?_); refine with_tabW impl_ConfText.tab6 impl_ConfText.bits6 (fun HT_ HW_ => ?_)
               generalize wc.drew = w28 at BK782 HB hHeld ⊢
               refine pw_ 0 12 (b_ 1 27) rfl rfl HT_.out ?_
               refine pw_ 5 17 #[t_,f_,f_,f_,f_,t_,f_,f_,f_,f_,f_,f_,f_,f_,f_,f_,f_,f_,f_,f_,f_,f_,f_,f_,f_,f_,f_,f_] rfl rfl HT_.out ?_
               refine pw_ 10 22 #[t_,f_,f_,f_,f_,t_,f_,f_,f_,f_,t_,f_,f_,f_,f_,f_,f_,f_,f_,f_,f_,f_,f_,f_,f_,f_,f_,f_] rfl rfl HT_.out ?_
               refine pw_ 15 27 #[t_,f_,f_,f_,f_,t_,f_,f_,f_,f_,t_,f_,f_,f_,f_,t_,f_,f_,f_,f_,f_,f_,f_,f_,f_,f_,f_,f_] rfl rfl HT_.out ?_
               refine pw_ 20 32 #[t_,f_,f_,f_,f_,t_,f_,f_,f_,f_,t_,f_,f_,f_,f_,t_,f_,f_,f_,f_,t_,f_,f_,f_,f_,f_,f_,f_] rfl rfl HT_.out ?_
               refine pw_ 25 37 #[t_,f_,f_,f_,f_,t_,f_,f_,f_,f_,t_,f_,f_,f_,f_,t_,f_,f_,f_,f_,t_,f_,f_,f_,f_,t_,f_,f_] rfl rfl HT_.out ?_
               refine take_ (i := 1) (N := some 13) (v := ?_) (a' := ?_) #[t_,t_,f_,f_,f_,t_,f_,f_,f_,f_,t_,f_,f_,f_,f_,t_,f_,f_,f_,f_,t_,f_,f_,f_,f_,t_,f_,f_] rfl rfl (take_ofW HT_.out HW_.out (by kernel_rfl)) (fun _ _ _ h => h) (Or.inl ⟨by rfl, ?_⟩) hHeld ?_ ?_
               rotate_left
               ·
                rintro w' ⟨s0, s1, s2, s3, s4, s5⟩
                go_simp
                with_reducible rfl
               rotate_left
               ·
                simp only [fr_]
                rfl
               refine take_ (i := 6) (N := some 18) (v := ?_) (a' := ?_) #[t_,t_,f_,f_,f_,t_,t_,f_,f_,f_,t_,f_,f_,f_,f_,t_,f_,f_,f_,f_,t_,f_,f_,f_,f_,t_,f_,f_] rfl rfl (take_ofW HT_.out HW_.out (by kernel_rfl)) (fun _ _ _ h => h) (Or.inl ⟨by rfl, ?_⟩) hHeld ?_ ?_
               rotate_left
               ·
                rintro w' ⟨s0, s1, s2, s3, s4, s5⟩
                go_simp
                with_reducible rfl
               rotate_left
               ·
                simp only [fr_]
                rfl
               refine take_ (i := 11) (N := some 23) (v := ?_) (a' := ?_) #[t_,t_,f_,f_,f_,t_,t_,f_,f_,f_,t_,t_,f_,f_,f_,t_,f_,f_,f_,f_,t_,f_,f_,f_,f_,t_,f_,f_] rfl rfl (take_ofW HT_.out HW_.out (by kernel_rfl)) (fun _ _ _ h => h) (Or.inl ⟨by rfl, ?_⟩) hHeld ?_ ?_
               rotate_left
               ·
                rintro w' ⟨s0, s1, s2, s3, s4, s5⟩
                go_simp
                with_reducible rfl
               rotate_left
               ·
                simp only [fr_]
                rfl
               refine take_ (i := 16) (N := some 28) (v := ?_) (a' := ?_) #[t_,t_,f_,f_,f_,t_,t_,f_,f_,f_,t_,t_,f_,f_,f_,t_,t_,f_,f_,f_,t_,f_,f_,f_,f_,t_,f_,f_] rfl rfl (take_ofW HT_.out HW_.out (by kernel_rfl)) (fun _ _ _ h => h) (Or.inl ⟨by rfl, ?_⟩) hHeld ?_ ?_
               rotate_left
               ·
                rintro w' ⟨s0, s1, s2, s3, s4, s5⟩
                go_simp
                with_reducible rfl
               rotate_left
               ·
                simp only [fr_]
                rfl
               refine take_ (i := 21) (N := some 33) (v := ?_) (a' := ?_) #[t_,t_,f_,f_,f_,t_,t_,f_,f_,f_,t_,t_,f_,f_,f_,t_,t_,f_,f_,f_,t_,t_,f_,f_,f_,t_,f_,f_] rfl rfl (take_ofW HT_.out HW_.out (by kernel_rfl)) (fun _ _ _ h => h) (Or.inl ⟨by rfl, ?_⟩) hHeld ?_ ?_
               rotate_left
               ·
                rintro w' ⟨s0, s1, s2, s3, s4, s5⟩
                go_simp
                with_reducible rfl
               rotate_left
               ·
                simp only [fr_]
                rfl
               refine one_ (i := 2) (N := some 14) #[t_,t_,t_,f_,f_,t_,t_,f_,f_,f_,t_,t_,f_,f_,f_,t_,t_,f_,f_,f_,t_,t_,f_,f_,f_,t_,f_,f_] rfl rfl (one_of HT_.out (by kernel_rfl)) (by decide) (fun K hK => ?_)
               refine gs_ Tryd.func36 #[.int .i64 a0_0] ?_
               with_reducible refine (impl_NumText.calls a0_0 t785 _ A12.out).mono ?_
               rintro e w29 ⟨rfl, hb⟩
               refine ⟨_, rfl, ?_⟩
               replace BK782 := bk2_ BK782 hb
               replace HB := st_ HB hb
               (try clear hb)
               (try clear hk)
               refine hK.out _ _ (e6_ BK782.out) (fun hHeld => ?_)
               clear hK K
               refine norm_ (a' := ?_) ?_ ?_
               rotate_left
               ·
                show Act.put _ (some 14) _ = _
                simp only [fr_]
                rfl
               refine pw_ 3 15 #[t_,t_,t_,t_,f_,t_,t_,f_,f_,f_,t_,t_,f_,f_,f_,t_,t_,f_,f_,f_,t_,t_,f_,f_,f_,t_,f_,f_] rfl rfl HT_.out ?_
               refine pw_ 4 16 #[t_,t_,t_,t_,t_,t_,t_,f_,f_,f_,t_,t_,f_,f_,f_,t_,t_,f_,f_,f_,t_,t_,f_,f_,f_,t_,f_,f_] rfl rfl HT_.out ?_
               refine one_ (i := 7) (N := some 19) #[t_,t_,t_,t_,t_,t_,t_,t_,f_,f_,t_,t_,f_,f_,f_,t_,t_,f_,f_,f_,t_,t_,f_,f_,f_,t_,f_,f_] rfl rfl (one_of HT_.out (by kernel_rfl)) (by decide) (fun K hK => ?_)
               refine gs_ Tryd.func36 #[.int .i64 a0_1] ?_
               with_reducible refine (impl_NumText.calls a0_1 t786 _ A15.out).mono ?_
               rintro e w30 ⟨rfl, hb⟩
               refine ⟨_, rfl, ?_⟩
               replace BK782 := bk2_ BK782 hb
               replace HB := st_ HB hb
               (try clear hb)
               (try clear hk)
               refine hK.out _ _ (e6_ BK782.out) (fun hHeld => ?_)
               clear hK K
               refine norm_ (a' := ?_) ?_ ?_
               rotate_left
               ·
                show Act.put _ (some 19) _ = _
                simp only [fr_]
                rfl
               refine pw_ 8 20 #[t_,t_,t_,t_,t_,t_,t_,t_,t_,f_,t_,t_,f_,f_,f_,t_,t_,f_,f_,f_,t_,t_,f_,f_,f_,t_,f_,f_] rfl rfl HT_.out ?_
               refine pw_ 9 21 #[t_,t_,t_,t_,t_,t_,t_,t_,t_,t_,t_,t_,f_,f_,f_,t_,t_,f_,f_,f_,t_,t_,f_,f_,f_,t_,f_,f_] rfl rfl HT_.out ?_
               refine one_ (i := 12) (N := some 24) #[t_,t_,t_,t_,t_,t_,t_,t_,t_,t_,t_,t_,t_,f_,f_,t_,t_,f_,f_,f_,t_,t_,f_,f_,f_,t_,f_,f_] rfl rfl (one_of HT_.out (by kernel_rfl)) (by decide) (fun K hK => ?_)
               refine gs_ Tryd.func36 #[.int .i64 a0_2] ?_
               with_reducible refine (impl_NumText.calls a0_2 t787 _ A18.out).mono ?_
               rintro e w31 ⟨rfl, hb⟩
               refine ⟨_, rfl, ?_⟩
               replace BK782 := bk2_ BK782 hb
               replace HB := st_ HB hb
               (try clear hb)
               (try clear hk)
               refine hK.out _ _ (e6_ BK782.out) (fun hHeld => ?_)
               clear hK K
               refine norm_ (a' := ?_) ?_ ?_
               rotate_left
               ·
                show Act.put _ (some 24) _ = _
                simp only [fr_]
                rfl
               refine pw_ 13 25 #[t_,t_,t_,t_,t_,t_,t_,t_,t_,t_,t_,t_,t_,t_,f_,t_,t_,f_,f_,f_,t_,t_,f_,f_,f_,t_,f_,f_] rfl rfl HT_.out ?_
               refine pw_ 14 26 #[t_,t_,t_,t_,t_,t_,t_,t_,t_,t_,t_,t_,t_,t_,t_,t_,t_,f_,f_,f_,t_,t_,f_,f_,f_,t_,f_,f_] rfl rfl HT_.out ?_
               refine one_ (i := 17) (N := some 29) #[t_,t_,t_,t_,t_,t_,t_,t_,t_,t_,t_,t_,t_,t_,t_,t_,t_,t_,f_,f_,t_,t_,f_,f_,f_,t_,f_,f_] rfl rfl (one_of HT_.out (by kernel_rfl)) (by decide) (fun K hK => ?_)
               refine gs_ Tryd.func36 #[.int .i64 a0_3] ?_
               with_reducible refine (impl_NumText.calls a0_3 t788 _ A21.out).mono ?_
               rintro e w32 ⟨rfl, hb⟩
               refine ⟨_, rfl, ?_⟩
               replace BK782 := bk2_ BK782 hb
               replace HB := st_ HB hb
               (try clear hb)
               (try clear hk)
               refine hK.out _ _ (e6_ BK782.out) (fun hHeld => ?_)
               clear hK K
               refine norm_ (a' := ?_) ?_ ?_
               rotate_left
               ·
                show Act.put _ (some 29) _ = _
                simp only [fr_]
                rfl
               refine pw_ 18 30 #[t_,t_,t_,t_,t_,t_,t_,t_,t_,t_,t_,t_,t_,t_,t_,t_,t_,t_,t_,f_,t_,t_,f_,f_,f_,t_,f_,f_] rfl rfl HT_.out ?_
               refine pw_ 19 31 #[t_,t_,t_,t_,t_,t_,t_,t_,t_,t_,t_,t_,t_,t_,t_,t_,t_,t_,t_,t_,t_,t_,f_,f_,f_,t_,f_,f_] rfl rfl HT_.out ?_
               refine one_ (i := 22) (N := some 34) #[t_,t_,t_,t_,t_,t_,t_,t_,t_,t_,t_,t_,t_,t_,t_,t_,t_,t_,t_,t_,t_,t_,t_,f_,f_,t_,f_,f_] rfl rfl (one_of HT_.out (by kernel_rfl)) (by decide) (fun K hK => ?_)
               refine gs_ Tryd.func36 #[.int .i64 a0_4] ?_
               with_reducible refine (impl_NumText.calls a0_4 t789 _ A24.out).mono ?_
               rintro e w33 ⟨rfl, hb⟩
               refine ⟨_, rfl, ?_⟩
               replace BK782 := bk2_ BK782 hb
               replace HB := st_ HB hb
               (try clear hb)
               (try clear hk)
               refine hK.out _ _ (e6_ BK782.out) (fun hHeld => ?_)
               clear hK K
               refine norm_ (a' := ?_) ?_ ?_
               rotate_left
               ·
                show Act.put _ (some 34) _ = _
                simp only [fr_]
                rfl
               refine pw_ 23 35 #[t_,t_,t_,t_,t_,t_,t_,t_,t_,t_,t_,t_,t_,t_,t_,t_,t_,t_,t_,t_,t_,t_,t_,t_,f_,t_,f_,f_] rfl rfl HT_.out ?_
               refine pw_ 24 36 (b_ 26 2) rfl rfl HT_.out ?_
               refine pw_ 26 38 (b_ 27 1) rfl rfl HT_.out ?_
               refine pw_ 27 2 (b_ 28 0) rfl rfl HT_.out ?_
               refine done_ (done_of HT_.out (by kernel_rfl)) ?_
               try go_wp2
               go_ret
               exact an_ (by exact hs_ HB.out)
              rw [if_neg c27] at H
              exact absurd H (by simp)
             rw [if_neg c26] at H
             exact absurd H (by simp)
            rw [if_neg c25] at H
            exact absurd H (by simp)
           rw [if_neg c23] at H
           exact absurd H (by simp)
          rw [if_neg c22] at H
          exact absurd H (by simp)
         rw [if_neg c20] at H
         exact absurd H (by simp)
        rw [if_neg c19] at H
        exact absurd H (by simp)
       rw [if_neg c17] at H
       exact absurd H (by simp)
      rw [if_neg c16] at H
      exact absurd H (by simp)
     rw [if_neg c14] at H
     exact absurd H (by simp)
    rw [if_neg c13] at H
    exact absurd H (by simp)
 replace c3 := Bool.eq_false_iff.mpr c3
 subst c3
 rw [if_neg (show ¬ (false = true) by decide)] at H
 obtain rfl := Option.some.inj H
 go_enter Tryd.func14, Tryd.ntmps14
 go_wp2_with (first | ((with_reducible refine gd_ 1 rfl ?_); refine bv_ 1 #[.int .i64 a0_0, .int .i64 a0_1, .int .i64 a0_2, .int .i64 a0_3, .int .i64 a0_4, .slice A0_5 l0_5.length c0_5] 26 ?_; intro gb782 hg w34 hbox hb; have BK782 := Aside0.mk (hbox); have GW782 := Ge_.mk ((gw_ hg (hs_ HB.out))); replace HB := st_ HB hb; have GE782 := Ge_.mk GW782.out; clear hb hbox hg; obtain ⟨z35_0, z35_1, z35_2, z35_3, z35_4, z35_5, y35_0, y35_1, y35_2, y35_3, y35_4, y35_5⟩ := bc6_ BK782.out) | ((with_reducible refine gate_callee (f := 10) rfl ?_); refine gl_ (some 5) Tryd.func10 #[.agg #[.int .i64 a0_0, .int .i64 a0_1, .int .i64 a0_2, .int .i64 a0_3, .int .i64 a0_4, .slice A0_5 l0_5.length c0_5]] ?_; (with_reducible refine (impl_ConfOk.calls k a0_0 a0_1 a0_2 a0_3 a0_4 _ _ l0_5 false _ ?side1 ?side2 A2.out).mono ?_); (case side1 => exact cp_ ((Kd.C_below HR0_5.out HB.out))); (case side2 => exact HC0_5.out); rintro e w36 ⟨rfl, hb⟩; refine ⟨_, rfl, ?_⟩; replace BK782 := bk2_ BK782 hb; replace HB := st_ HB hb; (try clear hb); (try clear hk)))
 go_ret
 exact an_ (by exact hs_ HB.out)
def spec_NumText.l0 : Nat → Int → ByteArray → Int → Option (ByteArray)
 | 0, _, _, _ => none
 | k + 1, x0, x3, x4 => if x4 = 0 then (if x0 < 0 then (if 1 + x3.size ≤ 9223372036854775807 then (some ((⟨#[45]⟩ : ByteArray) ++ x3)) else (none)) else (some x3)) else (if (Int.tmod x4 10) < 0 then ((some (([(wrap64 (48 + (wrap64 (-(Int.tmod x4 10))))) % 256] : List Int) : List Int)).bind fun y790 => (if (strOfNums y790).size + x3.size ≤ 9223372036854775807 then (spec_NumText.l0 k x0 ((strOfNums y790) ++ x3) (wrap64 (Int.tdiv x4 10))) else (none))) else ((some (([(wrap64 (48 + (Int.tmod x4 10))) % 256] : List Int) : List Int)).bind fun y793 => (if (strOfNums y793).size + x3.size ≤ 9223372036854775807 then (spec_NumText.l0 k x0 ((strOfNums y793) ++ x3) (wrap64 (Int.tdiv x4 10))) else (none))))
def spec_NumText.f (k : Nat) (a0 : Int) : Option (ByteArray) := if a0 = 0 then (some (⟨#[48]⟩ : ByteArray)) else (spec_NumText.l0 k a0 (⟨#[]⟩ : ByteArray) a0)
theorem spec_NumText.mono_l : ∀ k, (∀ y0 y1 y2, LeO (spec_NumText.l0 k y0 y1 y2) (spec_NumText.l0 (k + 1) y0 y1 y2))
 | 0 => fun _ _ _ r h => by simp [spec_NumText.l0] at h
 | k + 1 => by
  have ih0 := spec_NumText.mono_l k
  intro y0 y1 y2
  unfold spec_NumText.l0
  repeat' first
  | (with_reducible exact ih0 _ _ _)
  | (with_reducible exact LeO.refl _)
  | (with_reducible exact LeO.none _)
  | (with_reducible refine LeO.ite ?_ ?_)
  | (with_reducible refine LeO.bind ?_ (fun _ => ?_))
  | exact ih0 _ _ _
theorem spec_NumText.mono : ∀ a0 k, LeO (spec_NumText.f k a0) (spec_NumText.f (k + 1) a0) := by
 intro a0 k
 have ih0 := spec_NumText.mono_l k
 unfold spec_NumText.f
 repeat' first | (with_reducible first | exact ih0 _ _ _ | exact LeO.refl _ | exact LeO.none _ | refine LeO.ite ?_ ?_ | refine LeO.bind ?_ (fun _ => ?_)) | exact ih0 _ _ _
theorem spec_NumText.calls (k : Nat) (a0 : Int) (r : ByteArray) (w : World) (h : spec_NumText.f k a0 = some r) :
  Calls Tryd.prog 37 #[.int .i64 a0] w fun e w' => e = .returned (.string r) ∧ Below w.heap.size w w' := by
 have HB := Aside0.mk (Below.refl w.heap.size w)
 have H : (if a0 = 0 then (some (⟨#[48]⟩ : ByteArray)) else (spec_NumText.l0 k a0 (⟨#[]⟩ : ByteArray) a0)) = some r := h
 clear h
 by_cases c2 : a0 = 0
 ·
  rw [if_pos c2] at H
  have c2b0 : (a0 == 0) = true := beq_iff_eq.mpr c2
  have c2b1 : (a0 != 0) = false := bne_eq_false_iff_eq.mpr c2
  clear c2
  obtain rfl := Option.some.inj H
  go_enter Tryd.func37, Tryd.ntmps37
  go_wp2
  go_ret
  exact an_ (by exact hs_ HB.out)
 rw [if_neg c2] at H
 have c2b0 : (a0 == 0) = false := beq_eq_false_iff_ne.mpr c2
 have c2b1 : (a0 != 0) = true := bne_iff_ne.mpr c2
 have H' := Aside0.mk H
 clear H
 go_enter Tryd.func37, Tryd.ntmps37
 go_wp2
 go_loopg [3, 4] k (fun kq v3 v4 w' => ∃ (x3_1 : ByteArray) (x4_1 : Int), v3 = .string x3_1 ∧ v4 = .int .i64 x4_1 ∧ Aside0 (spec_NumText.l0 kq a0 x3_1 x4_1 = some r) ∧ Aside0 (kq ≤ k) ∧ Aside0 (Below w.heap.size w w'))
 case atStart => exact ⟨((⟨#[]⟩ : ByteArray)), (a0), (by first | rfl | (simp; done) | (simp [*]; done)), (by first | rfl | (simp; done) | (simp [*]; done)), H', ⟨Nat.le_refl _⟩, ⟨by exact hs_ HB.out⟩⟩
 case round =>
  clear H'
  try clear c2
  try clear c2b0
  try clear c2b1
  try clear p2
  obtain ⟨x3_1, x4_1, rfl, rfl, HA, HK1, HB⟩ := hrel
  cases gk with
  | zero => exact absurd HA.out (by simp [spec_NumText.l0])
  | succ k1 =>
   have H := HA.out
   clear HA
   simp only [spec_NumText.l0] at H
   by_cases c3 : x4_1 = 0
   ·
    rw [if_pos c3] at H
    have c3b0 : (x4_1 == 0) = true := beq_iff_eq.mpr c3
    have c3b1 : (x4_1 != 0) = false := bne_eq_false_iff_eq.mpr c3
    clear c3
    by_cases c4 : a0 < 0
    ·
     rw [if_pos c4] at H
     have c4b0 := decide_eq_true c4
     clear c4
     by_cases c5 : 1 + x3_1.size ≤ 9223372036854775807
     ·
      rw [if_pos c5] at H
      have c5b0 := eq_true c5
      have c5b1 := decide_eq_true c5
      try have c5b2 : (9223372036854775807 < 1 + x3_1.size) = False := eq_false (Nat.not_lt.2 c5)
      obtain rfl := Option.some.inj H
      go_wp2
      go_ret
      exact an_ (by exact hs_ HB.out)
     rw [if_neg c5] at H
     exact absurd H (by simp)
    rw [if_neg c4] at H
    have c4b0 : decide (a0 < 0) = false := decide_eq_false c4
    clear c4
    obtain rfl := Option.some.inj H
    go_wp2
    go_ret
    exact an_ (by exact hs_ HB.out)
   rw [if_neg c3] at H
   have c3b0 : (x4_1 == 0) = false := beq_eq_false_iff_ne.mpr c3
   have c3b1 : (x4_1 != 0) = true := bne_iff_ne.mpr c3
   by_cases c6 : (Int.tmod x4_1 10) < 0
   ·
    rw [if_pos c6] at H
    have c6b0 := decide_eq_true c6
    clear c6
    obtain ⟨y790, hy790⟩ : ∃ y_ : List Int, y_ = (([(wrap64 (48 + (wrap64 (-(Int.tmod x4_1 10))))) % 256] : List Int)) := ⟨_, rfl⟩
    replace H : (if (strOfNums y790).size + x3_1.size ≤ 9223372036854775807 then (spec_NumText.l0 k1 a0 ((strOfNums y790) ++ x3_1) (wrap64 (Int.tdiv x4_1 10))) else (none)) = some r := by first | (rw [hy790]; with_reducible exact H) | (have H2_ := (Option.bind_some _ _).symm.trans H; rw [hy790]; with_reducible exact H2_) | (have H2_ := (Option.bind_some _ _).symm.trans H; with_reducible exact H2_) | with_reducible exact H | (rw [hy790]; exact H) | exact H
    have Ny790 := Aside0.mk hy790
    clear hy790
    by_cases c7 : (strOfNums y790).size + x3_1.size ≤ 9223372036854775807
    ·
     rw [if_pos c7] at H
     have c7b0 := eq_true c7
     have c7b1 := decide_eq_true c7
     try have c7b2 : (9223372036854775807 < (strOfNums y790).size + x3_1.size) = False := eq_false (Nat.not_lt.2 c7)
     have H' := Aside0.mk H
     clear H
     go_wp2_with (first | ((with_reducible refine gd_ 22 rfl ?_); refine Kd.R_lit (Kd.int .u8) _ 5 ?hg (N := 22) ?hd (xs := ([(wrap64 (48 + (wrap64 (-(Int.tmod x4_1 10))))) % 256] : List Int)) (inner := [.int .u8 ((wrap64 (48 + (wrap64 (-(Int.tmod x4_1 10))))) % 256)]) (ok := fun _ => True) (okp := fun _ => True) ?hr ?hp (fun _ hk => hk) trivial (Below.refl _ _) (Nat.le_refl _) (by simp) ?_; (case hd => rfl); (case hg => rfl); (case hr => first | (go_simp; done) | (go_simp; rfl)); (case hp => exact (Reps.one (show Kd.M (Kd.int .u8) _ _ _ ((wrap64 (48 + (wrap64 (-(Int.tmod x4_1 10))))) % 256) [.int .u8 ((wrap64 (48 + (wrap64 (-(Int.tmod x4_1 10))))) % 256)] from rfl) (Reps.none _ _))); intro v791 w8 ho9 hb hg_ hnew_; clear hg_ hnew_; (first | rw [← Ny790.out] at ho9 | (simp only [Int.reduceToNat] at ho9; rw [← Ny790.out] at ho9)); have HO792 := Aside0.mk (Kd.R_lower ho9 (below_size (hs_ HB.out))); have n1_ := st_ HB hb; clear HB; have HB := n1_; clear n1_; clear hb ho9; have hcv10 := own_string (P := Tryd.prog) Tryd.underlying22 Tryd.underlying5 Tryd.underlying9 (Kd.own_of_R HO792.out)))
     go_roundg k1
     case measure => have := HK1.out; omega
     case rel => exact ⟨((strOfNums y790) ++ x3_1), (wrap64 (Int.tdiv x4_1 10)), (by first | rfl | (simp; done) | (simp [*]; done)), (by first | rfl | (simp; done) | (simp [*]; done)), H', ⟨by have := HK1.out; omega⟩, ⟨by exact hs_ HB.out⟩⟩
    rw [if_neg c7] at H
    exact absurd H (by simp)
   rw [if_neg c6] at H
   have c6b0 : decide ((Int.tmod x4_1 10) < 0) = false := decide_eq_false c6
   clear c6
   obtain ⟨y793, hy793⟩ : ∃ y_ : List Int, y_ = (([(wrap64 (48 + (Int.tmod x4_1 10))) % 256] : List Int)) := ⟨_, rfl⟩
   replace H : (if (strOfNums y793).size + x3_1.size ≤ 9223372036854775807 then (spec_NumText.l0 k1 a0 ((strOfNums y793) ++ x3_1) (wrap64 (Int.tdiv x4_1 10))) else (none)) = some r := by first | (rw [hy793]; with_reducible exact H) | (have H2_ := (Option.bind_some _ _).symm.trans H; rw [hy793]; with_reducible exact H2_) | (have H2_ := (Option.bind_some _ _).symm.trans H; with_reducible exact H2_) | with_reducible exact H | (rw [hy793]; exact H) | exact H
   have Ny793 := Aside0.mk hy793
   clear hy793
   by_cases c11 : (strOfNums y793).size + x3_1.size ≤ 9223372036854775807
   ·
    rw [if_pos c11] at H
    have c11b0 := eq_true c11
    have c11b1 := decide_eq_true c11
    try have c11b2 : (9223372036854775807 < (strOfNums y793).size + x3_1.size) = False := eq_false (Nat.not_lt.2 c11)
    have H' := Aside0.mk H
    clear H
    go_wp2_with (first | ((with_reducible refine gd_ 22 rfl ?_); refine Kd.R_lit (Kd.int .u8) _ 5 ?hg (N := 22) ?hd (xs := ([(wrap64 (48 + (Int.tmod x4_1 10))) % 256] : List Int)) (inner := [.int .u8 ((wrap64 (48 + (Int.tmod x4_1 10))) % 256)]) (ok := fun _ => True) (okp := fun _ => True) ?hr ?hp (fun _ hk => hk) trivial (Below.refl _ _) (Nat.le_refl _) (by simp) ?_; (case hd => rfl); (case hg => rfl); (case hr => first | (go_simp; done) | (go_simp; rfl)); (case hp => exact (Reps.one (show Kd.M (Kd.int .u8) _ _ _ ((wrap64 (48 + (Int.tmod x4_1 10))) % 256) [.int .u8 ((wrap64 (48 + (Int.tmod x4_1 10))) % 256)] from rfl) (Reps.none _ _))); intro v794 w12 ho13 hb hg_ hnew_; clear hg_ hnew_; (first | rw [← Ny793.out] at ho13 | (simp only [Int.reduceToNat] at ho13; rw [← Ny793.out] at ho13)); have HO795 := Aside0.mk (Kd.R_lower ho13 (below_size (hs_ HB.out))); have n1_ := st_ HB hb; clear HB; have HB := n1_; clear n1_; clear hb ho13; have hcv14 := own_string (P := Tryd.prog) Tryd.underlying22 Tryd.underlying5 Tryd.underlying9 (Kd.own_of_R HO795.out)))
    go_roundg k1
    case measure => have := HK1.out; omega
    case rel => exact ⟨((strOfNums y793) ++ x3_1), (wrap64 (Int.tdiv x4_1 10)), (by first | rfl | (simp; done) | (simp [*]; done)), (by first | rfl | (simp; done) | (simp [*]; done)), H', ⟨by have := HK1.out; omega⟩, ⟨by exact hs_ HB.out⟩⟩
   rw [if_neg c11] at H
   exact absurd H (by simp)
def spec_ConfText.l0 : Nat → ByteArray → Int → Int → Int → Int → Int → Int → List ByteArray → Option (ByteArray)
 | 0, _, _, _, _, _, _, _, _ => none
 | k + 1, x3, x4, x797000, x797001, x797002, x797003, x797004, x797005 => if x4 < (x797005.length : Int) then (if x4 = 0 then (if 0 ≤ x4 then (spec_ConfText.l0 k (rdOf ByteArray.empty x797005 x4) (wrap64 (x4 + 1)) x797000 x797001 x797002 x797003 x797004 x797005) else (none)) else (if x3.size + 1 ≤ 9223372036854775807 then (if 0 ≤ x4 then (if (x3 ++ (⟨#[44]⟩ : ByteArray)).size + (rdOf ByteArray.empty x797005 x4).size ≤ 9223372036854775807 then (spec_ConfText.l0 k ((x3 ++ (⟨#[44]⟩ : ByteArray)) ++ (rdOf ByteArray.empty x797005 x4)) (wrap64 (x4 + 1)) x797000 x797001 x797002 x797003 x797004 x797005) else (none)) else (none)) else (none))) else ((spec_NumText.f k x797000).bind fun t800 => (if 6 + t800.size ≤ 9223372036854775807 then (if ((⟨#[112, 97, 114, 116, 115, 32]⟩ : ByteArray) ++ t800).size + 5 ≤ 9223372036854775807 then ((spec_NumText.f k x797001).bind fun t801 => (if (((⟨#[112, 97, 114, 116, 115, 32]⟩ : ByteArray) ++ t800) ++ (⟨#[32, 99, 97, 112, 32]⟩ : ByteArray)).size + t801.size ≤ 9223372036854775807 then (if ((((⟨#[112, 97, 114, 116, 115, 32]⟩ : ByteArray) ++ t800) ++ (⟨#[32, 99, 97, 112, 32]⟩ : ByteArray)) ++ t801).size + 6 ≤ 9223372036854775807 then ((spec_NumText.f k x797002).bind fun t802 => (if (((((⟨#[112, 97, 114, 116, 115, 32]⟩ : ByteArray) ++ t800) ++ (⟨#[32, 99, 97, 112, 32]⟩ : ByteArray)) ++ t801) ++ (⟨#[32, 115, 117, 98, 115, 32]⟩ : ByteArray)).size + t802.size ≤ 9223372036854775807 then (if ((((((⟨#[112, 97, 114, 116, 115, 32]⟩ : ByteArray) ++ t800) ++ (⟨#[32, 99, 97, 112, 32]⟩ : ByteArray)) ++ t801) ++ (⟨#[32, 115, 117, 98, 115, 32]⟩ : ByteArray)) ++ t802).size + 6 ≤ 9223372036854775807 then ((spec_NumText.f k x797003).bind fun t803 => (if (((((((⟨#[112, 97, 114, 116, 115, 32]⟩ : ByteArray) ++ t800) ++ (⟨#[32, 99, 97, 112, 32]⟩ : ByteArray)) ++ t801) ++ (⟨#[32, 115, 117, 98, 115, 32]⟩ : ByteArray)) ++ t802) ++ (⟨#[32, 119, 97, 105, 116, 32]⟩ : ByteArray)).size + t803.size ≤ 9223372036854775807 then (if ((((((((⟨#[112, 97, 114, 116, 115, 32]⟩ : ByteArray) ++ t800) ++ (⟨#[32, 99, 97, 112, 32]⟩ : ByteArray)) ++ t801) ++ (⟨#[32, 115, 117, 98, 115, 32]⟩ : ByteArray)) ++ t802) ++ (⟨#[32, 119, 97, 105, 116, 32]⟩ : ByteArray)) ++ t803).size + 7 ≤ 9223372036854775807 then ((spec_NumText.f k x797004).bind fun t804 => (if (((((((((⟨#[112, 97, 114, 116, 115, 32]⟩ : ByteArray) ++ t800) ++ (⟨#[32, 99, 97, 112, 32]⟩ : ByteArray)) ++ t801) ++ (⟨#[32, 115, 117, 98, 115, 32]⟩ : ByteArray)) ++ t802) ++ (⟨#[32, 119, 97, 105, 116, 32]⟩ : ByteArray)) ++ t803) ++ (⟨#[32, 101, 118, 101, 114, 121, 32]⟩ : ByteArray)).size + t804.size ≤ 9223372036854775807 then (if ((((((((((⟨#[112, 97, 114, 116, 115, 32]⟩ : ByteArray) ++ t800) ++ (⟨#[32, 99, 97, 112, 32]⟩ : ByteArray)) ++ t801) ++ (⟨#[32, 115, 117, 98, 115, 32]⟩ : ByteArray)) ++ t802) ++ (⟨#[32, 119, 97, 105, 116, 32]⟩ : ByteArray)) ++ t803) ++ (⟨#[32, 101, 118, 101, 114, 121, 32]⟩ : ByteArray)) ++ t804).size + 4 ≤ 9223372036854775807 then (if (((((((((((⟨#[112, 97, 114, 116, 115, 32]⟩ : ByteArray) ++ t800) ++ (⟨#[32, 99, 97, 112, 32]⟩ : ByteArray)) ++ t801) ++ (⟨#[32, 115, 117, 98, 115, 32]⟩ : ByteArray)) ++ t802) ++ (⟨#[32, 119, 97, 105, 116, 32]⟩ : ByteArray)) ++ t803) ++ (⟨#[32, 101, 118, 101, 114, 121, 32]⟩ : ByteArray)) ++ t804) ++ (⟨#[32, 98, 121, 32]⟩ : ByteArray)).size + x3.size ≤ 9223372036854775807 then (some ((((((((((((⟨#[112, 97, 114, 116, 115, 32]⟩ : ByteArray) ++ t800) ++ (⟨#[32, 99, 97, 112, 32]⟩ : ByteArray)) ++ t801) ++ (⟨#[32, 115, 117, 98, 115, 32]⟩ : ByteArray)) ++ t802) ++ (⟨#[32, 119, 97, 105, 116, 32]⟩ : ByteArray)) ++ t803) ++ (⟨#[32, 101, 118, 101, 114, 121, 32]⟩ : ByteArray)) ++ t804) ++ (⟨#[32, 98, 121, 32]⟩ : ByteArray)) ++ x3)) else (none)) else (none)) else (none))) else (none)) else (none))) else (none)) else (none))) else (none)) else (none))) else (none)) else (none)))
def spec_ConfText.f (k : Nat) (a0_0 : Int) (a0_1 : Int) (a0_2 : Int) (a0_3 : Int) (a0_4 : Int) (l0_5 : List ByteArray) : Option (ByteArray) := (spec_ConfOk.f k a0_0 a0_1 a0_2 a0_3 a0_4 l0_5).bind fun t797 => (if t797 = true then (spec_ConfText.l0 k (⟨#[45]⟩ : ByteArray) 0 a0_0 a0_1 a0_2 a0_3 a0_4 l0_5) else (some (⟨#[]⟩ : ByteArray)))
theorem spec_ConfText.mono_l : ∀ k, (∀ y0 y1 y2 y3 y4 y5 y6 y7, LeO (spec_ConfText.l0 k y0 y1 y2 y3 y4 y5 y6 y7) (spec_ConfText.l0 (k + 1) y0 y1 y2 y3 y4 y5 y6 y7))
 | 0 => fun _ _ _ _ _ _ _ _ r h => by simp [spec_ConfText.l0] at h
 | k + 1 => by
  have ih0 := spec_ConfText.mono_l k
  intro y0 y1 y2 y3 y4 y5 y6 y7
  unfold spec_ConfText.l0
  repeat' first
  | (with_reducible exact ih0 _ _ _ _ _ _ _ _)
  | (with_reducible exact spec_ConfOk.mono _ _ _ _ _ _ _)
  | (with_reducible exact spec_NumText.mono _ _)
  | (with_reducible exact LeO.refl _)
  | (with_reducible exact LeO.none _)
  | (with_reducible refine LeO.ite ?_ ?_)
  | (with_reducible refine LeO.bind ?_ (fun _ => ?_))
  | exact ih0 _ _ _ _ _ _ _ _
  | exact spec_ConfOk.mono _ _ _ _ _ _ _
  | exact spec_NumText.mono _ _
theorem spec_ConfText.mono : ∀ a0 a1 a2 a3 a4 a5 k, LeO (spec_ConfText.f k a0 a1 a2 a3 a4 a5) (spec_ConfText.f (k + 1) a0 a1 a2 a3 a4 a5) := by
 intro a0 a1 a2 a3 a4 a5 k
 have ih0 := spec_ConfText.mono_l k
 unfold spec_ConfText.f
 repeat' first | (with_reducible first | exact ih0 _ _ _ _ _ _ _ _ | exact spec_ConfOk.mono _ _ _ _ _ _ _ | exact spec_NumText.mono _ _ | exact LeO.refl _ | exact LeO.none _ | refine LeO.ite ?_ ?_ | refine LeO.bind ?_ (fun _ => ?_)) | exact ih0 _ _ _ _ _ _ _ _ | exact spec_ConfOk.mono _ _ _ _ _ _ _ | exact spec_NumText.mono _ _
def spec_ConfText.T10 : Bool × List (List Nat × List Nat) := (true, [([], []), ([0], [0]), ([1], [1]), ([2], [2]), ([3], [3]), ([], []), ([5], [5]), ([6, 2], [6]), ([4, 7], [4, 7]), ([8], [8]), ([], []), ([10], [10]), ([11, 7], [11]), ([9, 12], [9, 12]), ([13], [13]), ([], []), ([15], [15]), ([16, 12], [16]), ([14, 17], [14, 17]), ([18], [18]), ([], []), ([20], [20]), ([21, 17], [21]), ([19, 22], [19, 22]), ([23], [23]), ([], []), ([24, 25], [24, 25]), ([26, 22, 0, 1, 2, 3, 4, 5, 6, 7, 8, 9, 10, 11, 12, 13, 14, 15, 16, 17, 18, 19, 20, 21, 22, 23, 24, 25, 26], [26])])
def spec_ConfText.B10 : List Nat := [0, 1, 3, 7, 15, 0, 32, 103, 255, 511, 0, 1024, 3303, 8191, 16383, 0, 32768, 105703, 262143, 524287, 0, 1048576, 3382503, 8388607, 16777215, 0, 67108863, 134217727]
theorem spec_ConfText.tab10 : rtab .any (opsOf Tryd.f15 10) = spec_ConfText.T10 := by kernel_rfl
theorem spec_ConfText.bits10 : waitsOk spec_ConfText.T10.2 spec_ConfText.B10 = true := by kernel_rfl
theorem spec_ConfText.calls (k : Nat) (a0_0 : Int) (a0_1 : Int) (a0_2 : Int) (a0_3 : Int) (a0_4 : Int) (A0_5 : Option Addr) (c0_5 : Nat) (l0_5 : List ByteArray) (r : ByteArray) (w : World) (hr0_5 : Kd.C Kd.string w A0_5 l0_5.length l0_5) (hc0_5 : l0_5.length ≤ c0_5) (h : spec_ConfText.f k a0_0 a0_1 a0_2 a0_3 a0_4 l0_5 = some r) :
  Calls Tryd.prog 15 #[.agg #[.int .i64 a0_0, .int .i64 a0_1, .int .i64 a0_2, .int .i64 a0_3, .int .i64 a0_4, .slice A0_5 l0_5.length c0_5]] w fun e w' => e = .returned (.string r) ∧ Below w.heap.size w w' := by
 have hu26 := Tryd.underlying26
 have HR0_5 := Aside0.mk hr0_5
 have HC0_5 := Aside0.mk hc0_5
 clear hr0_5 hc0_5
 have HB := Aside0.mk (Below.refl w.heap.size w)
 have H : ((spec_ConfOk.f k a0_0 a0_1 a0_2 a0_3 a0_4 l0_5).bind fun t797 => (if t797 = true then (spec_ConfText.l0 k (⟨#[45]⟩ : ByteArray) 0 a0_0 a0_1 a0_2 a0_3 a0_4 l0_5) else (some (⟨#[]⟩ : ByteArray)))) = some r := h
 clear h
 replace H := Option.bind_eq_some_iff.mp H
 obtain ⟨t797, A20, H⟩ := H
 have A2 := Aside0.mk A20
 clear A20
 have AHz_ := Aside0.mk H
 clear H
 go_enter Tryd.func15, Tryd.ntmps15
 go_wp2_with (first | (((with_reducible refine gd_ 1 rfl ?_); refine bv_ 1 #[.int .i64 a0_0, .int .i64 a0_1, .int .i64 a0_2, .int .i64 a0_3, .int .i64 a0_4, .slice A0_5 l0_5.length c0_5] 26 ?_; intro gb796 hg w4 hbox hb; have BK796 := Aside0.mk (hbox); have GW796 := Ge_.mk ((gw_ hg (hs_ HB.out))); replace HB := st_ HB hb; have GE796 := Ge_.mk GW796.out; clear hb hbox hg; obtain ⟨z5_0, z5_1, z5_2, z5_3, z5_4, z5_5, y5_0, y5_1, y5_2, y5_3, y5_4, y5_5⟩ := bc6_ BK796.out); refine Aside0.out ?_))
 have H := AHz_.out
 clear AHz_
 by_cases c3 : t797 = true
 ·
  subst c3
  rw [if_pos rfl] at H
  have H' := Aside0.mk H
  clear H
  refine ⟨?_⟩
  go_wp2_with (first | ((with_reducible refine gate_callee (f := 11) rfl ?_); refine gl_ (some 6) Tryd.func11 #[.agg #[.int .i64 a0_0, .int .i64 a0_1, .int .i64 a0_2, .int .i64 a0_3, .int .i64 a0_4, .slice A0_5 l0_5.length c0_5]] ?_; (with_reducible refine (spec_ConfOk.calls k a0_0 a0_1 a0_2 a0_3 a0_4 _ _ l0_5 true _ ?side1 ?side2 A2.out).mono ?_); (case side1 => exact cp_ ((Kd.C_below HR0_5.out HB.out))); (case side2 => exact HC0_5.out); rintro e w6 ⟨rfl, hb⟩; refine ⟨_, rfl, ?_⟩; replace BK796 := bk2_ BK796 hb; replace HB := st_ HB hb; (try clear hb); (try clear hk)))
  go_loopg [3, 4] k (fun kq v3 v4 w' => ∃ (x3_1 : ByteArray) (x4_1 : Int), v3 = .string x3_1 ∧ v4 = .int .i64 x4_1 ∧ Aside0 (spec_ConfText.l0 kq x3_1 x4_1 a0_0 a0_1 a0_2 a0_3 a0_4 l0_5 = some r) ∧ Aside0 (kq ≤ k) ∧ Aside0 (w'.heap[gb796]? = some (.cells #[.int .i64 a0_0, .int .i64 a0_1, .int .i64 a0_2, .int .i64 a0_3, .int .i64 a0_4, (.slice A0_5 l0_5.length c0_5)] 26 (0, 0))) ∧ Aside0 (Below w.heap.size w w'))
  case atStart => exact ⟨((⟨#[45]⟩ : ByteArray)), (0), (by first | rfl | (simp; done) | (simp [*]; done)), (by first | rfl | (simp; done) | (simp [*]; done)), H', ⟨Nat.le_refl _⟩, ⟨bq_ BK796.out⟩, ⟨by exact hs_ HB.out⟩⟩
  case round =>
   clear H'
   try clear c1
   try clear p2
   try clear c3
   try clear z5_0 z5_1 z5_2 z5_3 z5_4 z5_5 y5_0 y5_1 y5_2 y5_3 y5_4 y5_5
   obtain ⟨x3_1, x4_1, rfl, rfl, HA, HK1, BK796, HB⟩ := hrel
   cases gk with
   | zero => exact absurd HA.out (by simp [spec_ConfText.l0])
   | succ k1 =>
    have H := HA.out
    clear HA
    simp only [spec_ConfText.l0] at H
    by_cases c7 : x4_1 < (l0_5.length : Int)
    ·
     rw [if_pos c7] at H
     have c7b0 := decide_eq_true c7
     clear c7
     by_cases c8 : x4_1 = 0
     ·
      rw [if_pos c8] at H
      have c8b0 : (x4_1 == 0) = true := beq_iff_eq.mpr c8
      have c8b1 : (x4_1 != 0) = false := bne_eq_false_iff_eq.mpr c8
      clear c8
      by_cases c9 : 0 ≤ x4_1
      ·
       rw [if_pos c9] at H
       have c9b0 := decide_eq_true c9
       clear c9
       have H' := Aside0.mk H
       clear H
       obtain ⟨z10_0, z10_1, z10_2, z10_3, z10_4, z10_5, y10_0, y10_1, y10_2, y10_3, y10_4, y10_5⟩ := bc6_ BK796.out
       have p798 : 0 ≤ (x4_1 : Int) := of_decide_eq_true (by with_reducible assumption)
       have q798 : x4_1 < (l0_5.length : Int) := of_decide_eq_true (by with_reducible assumption)
       obtain ⟨ad798, e798, hx798_0⟩ := Kd.at_string HR0_5.out x4_1 p798 q798
       cases e798
       replace hx798_0 := cl_ HB.out hx798_0
       replace p798 := eq_true p798
       replace q798 := eq_true q798
       go_wp2
       go_roundg k1
       case measure => have := HK1.out; omega
       case rel => exact ⟨(rdOf ByteArray.empty l0_5 x4_1), (wrap64 (x4_1 + 1)), (by first | rfl | (simp; done) | (simp [*]; done)), (by first | rfl | (simp; done) | (simp [*]; done)), H', ⟨by have := HK1.out; omega⟩, ⟨bq_ BK796.out⟩, ⟨by exact hs_ HB.out⟩⟩
      rw [if_neg c9] at H
      exact absurd H (by simp)
     rw [if_neg c8] at H
     have c8b0 : (x4_1 == 0) = false := beq_eq_false_iff_ne.mpr c8
     have c8b1 : (x4_1 != 0) = true := bne_iff_ne.mpr c8
     by_cases c11 : x3_1.size + 1 ≤ 9223372036854775807
     ·
      rw [if_pos c11] at H
      have c11b0 := eq_true c11
      have c11b1 := decide_eq_true c11
      try have c11b2 : (9223372036854775807 < x3_1.size + 1) = False := eq_false (Nat.not_lt.2 c11)
      by_cases c12 : 0 ≤ x4_1
      ·
       rw [if_pos c12] at H
       have c12b0 := decide_eq_true c12
       clear c12
       by_cases c13 : (x3_1 ++ (⟨#[44]⟩ : ByteArray)).size + (rdOf ByteArray.empty l0_5 x4_1).size ≤ 9223372036854775807
       ·
        rw [if_pos c13] at H
        have c13b0 := eq_true c13
        have c13b1 := decide_eq_true c13
        try have c13b2 : (9223372036854775807 < (x3_1 ++ (⟨#[44]⟩ : ByteArray)).size + (rdOf ByteArray.empty l0_5 x4_1).size) = False := eq_false (Nat.not_lt.2 c13)
        have c13s := c13
        simp only [ByteArray.size_append, show (⟨#[44]⟩ : ByteArray).size = 1 from rfl] at c13s
        have c13b3 := eq_false (Nat.not_lt.2 c13s)
        have c13b4 := decide_eq_true c13s
        have c13b5 := eq_true c13s
        clear c13s
        have H' := Aside0.mk H
        clear H
        obtain ⟨z14_0, z14_1, z14_2, z14_3, z14_4, z14_5, y14_0, y14_1, y14_2, y14_3, y14_4, y14_5⟩ := bc6_ BK796.out
        have p799 : 0 ≤ (x4_1 : Int) := of_decide_eq_true (by with_reducible assumption)
        have q799 : x4_1 < (l0_5.length : Int) := of_decide_eq_true (by with_reducible assumption)
        obtain ⟨ad799, e799, hx799_0⟩ := Kd.at_string HR0_5.out x4_1 p799 q799
        cases e799
        replace hx799_0 := cl_ HB.out hx799_0
        replace p799 := eq_true p799
        replace q799 := eq_true q799
        go_wp2
        go_roundg k1
        case measure => have := HK1.out; omega
        case rel => exact ⟨((x3_1 ++ (⟨#[44]⟩ : ByteArray)) ++ (rdOf ByteArray.empty l0_5 x4_1)), (wrap64 (x4_1 + 1)), (by first | rfl | (simp; done) | (simp [*]; done)), (by first | rfl | (simp; done) | (simp [*]; done)), H', ⟨by have := HK1.out; omega⟩, ⟨bq_ BK796.out⟩, ⟨by exact hs_ HB.out⟩⟩
       rw [if_neg c13] at H
       exact absurd H (by simp)
      rw [if_neg c12] at H
      exact absurd H (by simp)
     rw [if_neg c11] at H
     exact absurd H (by simp)
    rw [if_neg c7] at H
    have c7b0 : decide (x4_1 < (l0_5.length : Int)) = false := decide_eq_false c7
    clear c7
    replace H := Option.bind_eq_some_iff.mp H
    obtain ⟨t800, A150, H⟩ := H
    have A15 := Aside0.mk A150
    clear A150
    by_cases c16 : 6 + t800.size ≤ 9223372036854775807
    ·
     rw [if_pos c16] at H
     have c16b0 := eq_true c16
     have c16b1 := decide_eq_true c16
     try have c16b2 : (9223372036854775807 < 6 + t800.size) = False := eq_false (Nat.not_lt.2 c16)
     by_cases c17 : ((⟨#[112, 97, 114, 116, 115, 32]⟩ : ByteArray) ++ t800).size + 5 ≤ 9223372036854775807
     ·
      rw [if_pos c17] at H
      have c17b0 := eq_true c17
      have c17b1 := decide_eq_true c17
      try have c17b2 : (9223372036854775807 < ((⟨#[112, 97, 114, 116, 115, 32]⟩ : ByteArray) ++ t800).size + 5) = False := eq_false (Nat.not_lt.2 c17)
      have c17s := c17
      simp only [ByteArray.size_append, show (⟨#[112, 97, 114, 116, 115, 32]⟩ : ByteArray).size = 6 from rfl] at c17s
      have c17b3 := eq_false (Nat.not_lt.2 c17s)
      have c17b4 := decide_eq_true c17s
      have c17b5 := eq_true c17s
      clear c17s
      replace H := Option.bind_eq_some_iff.mp H
      obtain ⟨t801, A180, H⟩ := H
      have A18 := Aside0.mk A180
      clear A180
      by_cases c19 : (((⟨#[112, 97, 114, 116, 115, 32]⟩ : ByteArray) ++ t800) ++ (⟨#[32, 99, 97, 112, 32]⟩ : ByteArray)).size + t801.size ≤ 9223372036854775807
      ·
       rw [if_pos c19] at H
       have c19b0 := eq_true c19
       have c19b1 := decide_eq_true c19
       try have c19b2 : (9223372036854775807 < (((⟨#[112, 97, 114, 116, 115, 32]⟩ : ByteArray) ++ t800) ++ (⟨#[32, 99, 97, 112, 32]⟩ : ByteArray)).size + t801.size) = False := eq_false (Nat.not_lt.2 c19)
       have c19s := c19
       simp only [ByteArray.size_append, show (⟨#[112, 97, 114, 116, 115, 32]⟩ : ByteArray).size = 6 from rfl, show (⟨#[32, 99, 97, 112, 32]⟩ : ByteArray).size = 5 from rfl] at c19s
       have c19b3 := eq_false (Nat.not_lt.2 c19s)
       have c19b4 := decide_eq_true c19s
       have c19b5 := eq_true c19s
       clear c19s
       by_cases c20 : ((((⟨#[112, 97, 114, 116, 115, 32]⟩ : ByteArray) ++ t800) ++ (⟨#[32, 99, 97, 112, 32]⟩ : ByteArray)) ++ t801).size + 6 ≤ 9223372036854775807
       ·
        rw [if_pos c20] at H
        have c20b0 := eq_true c20
        have c20b1 := decide_eq_true c20
        try have c20b2 : (9223372036854775807 < ((((⟨#[112, 97, 114, 116, 115, 32]⟩ : ByteArray) ++ t800) ++ (⟨#[32, 99, 97, 112, 32]⟩ : ByteArray)) ++ t801).size + 6) = False := eq_false (Nat.not_lt.2 c20)
        have c20s := c20
        simp only [ByteArray.size_append, show (⟨#[112, 97, 114, 116, 115, 32]⟩ : ByteArray).size = 6 from rfl, show (⟨#[32, 99, 97, 112, 32]⟩ : ByteArray).size = 5 from rfl] at c20s
        have c20b3 := eq_false (Nat.not_lt.2 c20s)
        have c20b4 := decide_eq_true c20s
        have c20b5 := eq_true c20s
        clear c20s
        replace H := Option.bind_eq_some_iff.mp H
        obtain ⟨t802, A210, H⟩ := H
        have A21 := Aside0.mk A210
        clear A210
        by_cases c22 : (((((⟨#[112, 97, 114, 116, 115, 32]⟩ : ByteArray) ++ t800) ++ (⟨#[32, 99, 97, 112, 32]⟩ : ByteArray)) ++ t801) ++ (⟨#[32, 115, 117, 98, 115, 32]⟩ : ByteArray)).size + t802.size ≤ 9223372036854775807
        ·
         rw [if_pos c22] at H
         have c22b0 := eq_true c22
         have c22b1 := decide_eq_true c22
         try have c22b2 : (9223372036854775807 < (((((⟨#[112, 97, 114, 116, 115, 32]⟩ : ByteArray) ++ t800) ++ (⟨#[32, 99, 97, 112, 32]⟩ : ByteArray)) ++ t801) ++ (⟨#[32, 115, 117, 98, 115, 32]⟩ : ByteArray)).size + t802.size) = False := eq_false (Nat.not_lt.2 c22)
         have c22s := c22
         simp only [ByteArray.size_append, show (⟨#[112, 97, 114, 116, 115, 32]⟩ : ByteArray).size = 6 from rfl, show (⟨#[32, 99, 97, 112, 32]⟩ : ByteArray).size = 5 from rfl, show (⟨#[32, 115, 117, 98, 115, 32]⟩ : ByteArray).size = 6 from rfl] at c22s
         have c22b3 := eq_false (Nat.not_lt.2 c22s)
         have c22b4 := decide_eq_true c22s
         have c22b5 := eq_true c22s
         clear c22s
         by_cases c23 : ((((((⟨#[112, 97, 114, 116, 115, 32]⟩ : ByteArray) ++ t800) ++ (⟨#[32, 99, 97, 112, 32]⟩ : ByteArray)) ++ t801) ++ (⟨#[32, 115, 117, 98, 115, 32]⟩ : ByteArray)) ++ t802).size + 6 ≤ 9223372036854775807
         ·
          rw [if_pos c23] at H
          have c23b0 := eq_true c23
          have c23b1 := decide_eq_true c23
          try have c23b2 : (9223372036854775807 < ((((((⟨#[112, 97, 114, 116, 115, 32]⟩ : ByteArray) ++ t800) ++ (⟨#[32, 99, 97, 112, 32]⟩ : ByteArray)) ++ t801) ++ (⟨#[32, 115, 117, 98, 115, 32]⟩ : ByteArray)) ++ t802).size + 6) = False := eq_false (Nat.not_lt.2 c23)
          have c23s := c23
          simp only [ByteArray.size_append, show (⟨#[112, 97, 114, 116, 115, 32]⟩ : ByteArray).size = 6 from rfl, show (⟨#[32, 99, 97, 112, 32]⟩ : ByteArray).size = 5 from rfl, show (⟨#[32, 115, 117, 98, 115, 32]⟩ : ByteArray).size = 6 from rfl] at c23s
          have c23b3 := eq_false (Nat.not_lt.2 c23s)
          have c23b4 := decide_eq_true c23s
          have c23b5 := eq_true c23s
          clear c23s
          replace H := Option.bind_eq_some_iff.mp H
          obtain ⟨t803, A240, H⟩ := H
          have A24 := Aside0.mk A240
          clear A240
          by_cases c25 : (((((((⟨#[112, 97, 114, 116, 115, 32]⟩ : ByteArray) ++ t800) ++ (⟨#[32, 99, 97, 112, 32]⟩ : ByteArray)) ++ t801) ++ (⟨#[32, 115, 117, 98, 115, 32]⟩ : ByteArray)) ++ t802) ++ (⟨#[32, 119, 97, 105, 116, 32]⟩ : ByteArray)).size + t803.size ≤ 9223372036854775807
          ·
           rw [if_pos c25] at H
           have c25b0 := eq_true c25
           have c25b1 := decide_eq_true c25
           try have c25b2 : (9223372036854775807 < (((((((⟨#[112, 97, 114, 116, 115, 32]⟩ : ByteArray) ++ t800) ++ (⟨#[32, 99, 97, 112, 32]⟩ : ByteArray)) ++ t801) ++ (⟨#[32, 115, 117, 98, 115, 32]⟩ : ByteArray)) ++ t802) ++ (⟨#[32, 119, 97, 105, 116, 32]⟩ : ByteArray)).size + t803.size) = False := eq_false (Nat.not_lt.2 c25)
           have c25s := c25
           simp only [ByteArray.size_append, show (⟨#[112, 97, 114, 116, 115, 32]⟩ : ByteArray).size = 6 from rfl, show (⟨#[32, 99, 97, 112, 32]⟩ : ByteArray).size = 5 from rfl, show (⟨#[32, 115, 117, 98, 115, 32]⟩ : ByteArray).size = 6 from rfl, show (⟨#[32, 119, 97, 105, 116, 32]⟩ : ByteArray).size = 6 from rfl] at c25s
           have c25b3 := eq_false (Nat.not_lt.2 c25s)
           have c25b4 := decide_eq_true c25s
           have c25b5 := eq_true c25s
           clear c25s
           by_cases c26 : ((((((((⟨#[112, 97, 114, 116, 115, 32]⟩ : ByteArray) ++ t800) ++ (⟨#[32, 99, 97, 112, 32]⟩ : ByteArray)) ++ t801) ++ (⟨#[32, 115, 117, 98, 115, 32]⟩ : ByteArray)) ++ t802) ++ (⟨#[32, 119, 97, 105, 116, 32]⟩ : ByteArray)) ++ t803).size + 7 ≤ 9223372036854775807
           ·
            rw [if_pos c26] at H
            have c26b0 := eq_true c26
            have c26b1 := decide_eq_true c26
            try have c26b2 : (9223372036854775807 < ((((((((⟨#[112, 97, 114, 116, 115, 32]⟩ : ByteArray) ++ t800) ++ (⟨#[32, 99, 97, 112, 32]⟩ : ByteArray)) ++ t801) ++ (⟨#[32, 115, 117, 98, 115, 32]⟩ : ByteArray)) ++ t802) ++ (⟨#[32, 119, 97, 105, 116, 32]⟩ : ByteArray)) ++ t803).size + 7) = False := eq_false (Nat.not_lt.2 c26)
            have c26s := c26
            simp only [ByteArray.size_append, show (⟨#[112, 97, 114, 116, 115, 32]⟩ : ByteArray).size = 6 from rfl, show (⟨#[32, 99, 97, 112, 32]⟩ : ByteArray).size = 5 from rfl, show (⟨#[32, 115, 117, 98, 115, 32]⟩ : ByteArray).size = 6 from rfl, show (⟨#[32, 119, 97, 105, 116, 32]⟩ : ByteArray).size = 6 from rfl] at c26s
            have c26b3 := eq_false (Nat.not_lt.2 c26s)
            have c26b4 := decide_eq_true c26s
            have c26b5 := eq_true c26s
            clear c26s
            replace H := Option.bind_eq_some_iff.mp H
            obtain ⟨t804, A270, H⟩ := H
            have A27 := Aside0.mk A270
            clear A270
            by_cases c28 : (((((((((⟨#[112, 97, 114, 116, 115, 32]⟩ : ByteArray) ++ t800) ++ (⟨#[32, 99, 97, 112, 32]⟩ : ByteArray)) ++ t801) ++ (⟨#[32, 115, 117, 98, 115, 32]⟩ : ByteArray)) ++ t802) ++ (⟨#[32, 119, 97, 105, 116, 32]⟩ : ByteArray)) ++ t803) ++ (⟨#[32, 101, 118, 101, 114, 121, 32]⟩ : ByteArray)).size + t804.size ≤ 9223372036854775807
            ·
             rw [if_pos c28] at H
             have c28b0 := eq_true c28
             have c28b1 := decide_eq_true c28
             try have c28b2 : (9223372036854775807 < (((((((((⟨#[112, 97, 114, 116, 115, 32]⟩ : ByteArray) ++ t800) ++ (⟨#[32, 99, 97, 112, 32]⟩ : ByteArray)) ++ t801) ++ (⟨#[32, 115, 117, 98, 115, 32]⟩ : ByteArray)) ++ t802) ++ (⟨#[32, 119, 97, 105, 116, 32]⟩ : ByteArray)) ++ t803) ++ (⟨#[32, 101, 118, 101, 114, 121, 32]⟩ : ByteArray)).size + t804.size) = False := eq_false (Nat.not_lt.2 c28)
             have c28s := c28
             simp only [ByteArray.size_append, show (⟨#[112, 97, 114, 116, 115, 32]⟩ : ByteArray).size = 6 from rfl, show (⟨#[32, 99, 97, 112, 32]⟩ : ByteArray).size = 5 from rfl, show (⟨#[32, 115, 117, 98, 115, 32]⟩ : ByteArray).size = 6 from rfl, show (⟨#[32, 119, 97, 105, 116, 32]⟩ : ByteArray).size = 6 from rfl, show (⟨#[32, 101, 118, 101, 114, 121, 32]⟩ : ByteArray).size = 7 from rfl] at c28s
             have c28b3 := eq_false (Nat.not_lt.2 c28s)
             have c28b4 := decide_eq_true c28s
             have c28b5 := eq_true c28s
             clear c28s
             by_cases c29 : ((((((((((⟨#[112, 97, 114, 116, 115, 32]⟩ : ByteArray) ++ t800) ++ (⟨#[32, 99, 97, 112, 32]⟩ : ByteArray)) ++ t801) ++ (⟨#[32, 115, 117, 98, 115, 32]⟩ : ByteArray)) ++ t802) ++ (⟨#[32, 119, 97, 105, 116, 32]⟩ : ByteArray)) ++ t803) ++ (⟨#[32, 101, 118, 101, 114, 121, 32]⟩ : ByteArray)) ++ t804).size + 4 ≤ 9223372036854775807
             ·
              rw [if_pos c29] at H
              have c29b0 := eq_true c29
              have c29b1 := decide_eq_true c29
              try have c29b2 : (9223372036854775807 < ((((((((((⟨#[112, 97, 114, 116, 115, 32]⟩ : ByteArray) ++ t800) ++ (⟨#[32, 99, 97, 112, 32]⟩ : ByteArray)) ++ t801) ++ (⟨#[32, 115, 117, 98, 115, 32]⟩ : ByteArray)) ++ t802) ++ (⟨#[32, 119, 97, 105, 116, 32]⟩ : ByteArray)) ++ t803) ++ (⟨#[32, 101, 118, 101, 114, 121, 32]⟩ : ByteArray)) ++ t804).size + 4) = False := eq_false (Nat.not_lt.2 c29)
              have c29s := c29
              simp only [ByteArray.size_append, show (⟨#[112, 97, 114, 116, 115, 32]⟩ : ByteArray).size = 6 from rfl, show (⟨#[32, 99, 97, 112, 32]⟩ : ByteArray).size = 5 from rfl, show (⟨#[32, 115, 117, 98, 115, 32]⟩ : ByteArray).size = 6 from rfl, show (⟨#[32, 119, 97, 105, 116, 32]⟩ : ByteArray).size = 6 from rfl, show (⟨#[32, 101, 118, 101, 114, 121, 32]⟩ : ByteArray).size = 7 from rfl] at c29s
              have c29b3 := eq_false (Nat.not_lt.2 c29s)
              have c29b4 := decide_eq_true c29s
              have c29b5 := eq_true c29s
              clear c29s
              by_cases c30 : (((((((((((⟨#[112, 97, 114, 116, 115, 32]⟩ : ByteArray) ++ t800) ++ (⟨#[32, 99, 97, 112, 32]⟩ : ByteArray)) ++ t801) ++ (⟨#[32, 115, 117, 98, 115, 32]⟩ : ByteArray)) ++ t802) ++ (⟨#[32, 119, 97, 105, 116, 32]⟩ : ByteArray)) ++ t803) ++ (⟨#[32, 101, 118, 101, 114, 121, 32]⟩ : ByteArray)) ++ t804) ++ (⟨#[32, 98, 121, 32]⟩ : ByteArray)).size + x3_1.size ≤ 9223372036854775807
              ·
               rw [if_pos c30] at H
               have c30b0 := eq_true c30
               have c30b1 := decide_eq_true c30
               try have c30b2 : (9223372036854775807 < (((((((((((⟨#[112, 97, 114, 116, 115, 32]⟩ : ByteArray) ++ t800) ++ (⟨#[32, 99, 97, 112, 32]⟩ : ByteArray)) ++ t801) ++ (⟨#[32, 115, 117, 98, 115, 32]⟩ : ByteArray)) ++ t802) ++ (⟨#[32, 119, 97, 105, 116, 32]⟩ : ByteArray)) ++ t803) ++ (⟨#[32, 101, 118, 101, 114, 121, 32]⟩ : ByteArray)) ++ t804) ++ (⟨#[32, 98, 121, 32]⟩ : ByteArray)).size + x3_1.size) = False := eq_false (Nat.not_lt.2 c30)
               have c30s := c30
               simp only [ByteArray.size_append, show (⟨#[112, 97, 114, 116, 115, 32]⟩ : ByteArray).size = 6 from rfl, show (⟨#[32, 99, 97, 112, 32]⟩ : ByteArray).size = 5 from rfl, show (⟨#[32, 115, 117, 98, 115, 32]⟩ : ByteArray).size = 6 from rfl, show (⟨#[32, 119, 97, 105, 116, 32]⟩ : ByteArray).size = 6 from rfl, show (⟨#[32, 101, 118, 101, 114, 121, 32]⟩ : ByteArray).size = 7 from rfl, show (⟨#[32, 98, 121, 32]⟩ : ByteArray).size = 4 from rfl] at c30s
               have c30b3 := eq_false (Nat.not_lt.2 c30s)
               have c30b4 := decide_eq_true c30s
               have c30b5 := eq_true c30s
               clear c30s
               obtain rfl := Option.some.inj H
               obtain ⟨z31_0, z31_1, z31_2, z31_3, z31_4, z31_5, y31_0, y31_1, y31_2, y31_3, y31_4, y31_5⟩ := bc6_ BK796.out
               try go_wp2
               replace BK796 := Aside0.mk (blk_drew BK796.out)
               replace HB := Aside0.mk (bd_ HB.out)
               refine start_ (n := 28) (S := fun w' => w'.cell? ⟨gb796, 0, none⟩ = some (.int .i64 a0_0) ∧ w'.cell? ⟨gb796, 1, none⟩ = some (.int .i64 a0_1) ∧ w'.cell? ⟨gb796, 2, none⟩ = some (.int .i64 a0_2) ∧ w'.cell? ⟨gb796, 3, none⟩ = some (.int .i64 a0_3) ∧ w'.cell? ⟨gb796, 4, none⟩ = some (.int .i64 a0_4) ∧ w'.cell? ⟨gb796, 5, none⟩ = some (.slice A0_5 l0_5.length c0_5)) (ds := []) (b_ 0 28) (by kernel_rfl) rfl rfl ⟨bx_ BK796.out 0, bx_ BK796.out 1, bx_ BK796.out 2, bx_ BK796.out 3, bx_ BK796.out 4, bx_ BK796.out 5⟩ (fun hHeld => ?_); refine with_tabW spec_ConfText.tab10 spec_ConfText.bits10 (fun HT_ HW_ => ?_)
               generalize wr.drew = w32 at BK796 HB hHeld ⊢
               refine pw_ 0 30 (b_ 1 27) rfl rfl HT_.out ?_
               refine pw_ 5 35 #[t_,f_,f_,f_,f_,t_,f_,f_,f_,f_,f_,f_,f_,f_,f_,f_,f_,f_,f_,f_,f_,f_,f_,f_,f_,f_,f_,f_] rfl rfl HT_.out ?_
               refine pw_ 10 40 #[t_,f_,f_,f_,f_,t_,f_,f_,f_,f_,t_,f_,f_,f_,f_,f_,f_,f_,f_,f_,f_,f_,f_,f_,f_,f_,f_,f_] rfl rfl HT_.out ?_
               refine pw_ 15 45 #[t_,f_,f_,f_,f_,t_,f_,f_,f_,f_,t_,f_,f_,f_,f_,t_,f_,f_,f_,f_,f_,f_,f_,f_,f_,f_,f_,f_] rfl rfl HT_.out ?_
               refine pw_ 20 50 #[t_,f_,f_,f_,f_,t_,f_,f_,f_,f_,t_,f_,f_,f_,f_,t_,f_,f_,f_,f_,t_,f_,f_,f_,f_,f_,f_,f_] rfl rfl HT_.out ?_
               refine pw_ 25 55 #[t_,f_,f_,f_,f_,t_,f_,f_,f_,f_,t_,f_,f_,f_,f_,t_,f_,f_,f_,f_,t_,f_,f_,f_,f_,t_,f_,f_] rfl rfl HT_.out ?_
               refine take_ (i := 1) (N := some 31) (v := ?_) (a' := ?_) #[t_,t_,f_,f_,f_,t_,f_,f_,f_,f_,t_,f_,f_,f_,f_,t_,f_,f_,f_,f_,t_,f_,f_,f_,f_,t_,f_,f_] rfl rfl (take_ofW HT_.out HW_.out (by kernel_rfl)) (fun _ _ _ h => h) (Or.inl ⟨by rfl, ?_⟩) hHeld ?_ ?_
               rotate_left
               ·
                rintro w' ⟨s0, s1, s2, s3, s4, s5⟩
                go_simp
                with_reducible rfl
               rotate_left
               ·
                simp only [fr_]
                rfl
               refine take_ (i := 6) (N := some 36) (v := ?_) (a' := ?_) #[t_,t_,f_,f_,f_,t_,t_,f_,f_,f_,t_,f_,f_,f_,f_,t_,f_,f_,f_,f_,t_,f_,f_,f_,f_,t_,f_,f_] rfl rfl (take_ofW HT_.out HW_.out (by kernel_rfl)) (fun _ _ _ h => h) (Or.inl ⟨by rfl, ?_⟩) hHeld ?_ ?_
               rotate_left
               ·
                rintro w' ⟨s0, s1, s2, s3, s4, s5⟩
                go_simp
                with_reducible rfl
               rotate_left
               ·
                simp only [fr_]
                rfl
               refine take_ (i := 11) (N := some 41) (v := ?_) (a' := ?_) #[t_,t_,f_,f_,f_,t_,t_,f_,f_,f_,t_,t_,f_,f_,f_,t_,f_,f_,f_,f_,t_,f_,f_,f_,f_,t_,f_,f_] rfl rfl (take_ofW HT_.out HW_.out (by kernel_rfl)) (fun _ _ _ h => h) (Or.inl ⟨by rfl, ?_⟩) hHeld ?_ ?_
               rotate_left
               ·
                rintro w' ⟨s0, s1, s2, s3, s4, s5⟩
                go_simp
                with_reducible rfl
               rotate_left
               ·
                simp only [fr_]
                rfl
               refine take_ (i := 16) (N := some 46) (v := ?_) (a' := ?_) #[t_,t_,f_,f_,f_,t_,t_,f_,f_,f_,t_,t_,f_,f_,f_,t_,t_,f_,f_,f_,t_,f_,f_,f_,f_,t_,f_,f_] rfl rfl (take_ofW HT_.out HW_.out (by kernel_rfl)) (fun _ _ _ h => h) (Or.inl ⟨by rfl, ?_⟩) hHeld ?_ ?_
               rotate_left
               ·
                rintro w' ⟨s0, s1, s2, s3, s4, s5⟩
                go_simp
                with_reducible rfl
               rotate_left
               ·
                simp only [fr_]
                rfl
               refine take_ (i := 21) (N := some 51) (v := ?_) (a' := ?_) #[t_,t_,f_,f_,f_,t_,t_,f_,f_,f_,t_,t_,f_,f_,f_,t_,t_,f_,f_,f_,t_,t_,f_,f_,f_,t_,f_,f_] rfl rfl (take_ofW HT_.out HW_.out (by kernel_rfl)) (fun _ _ _ h => h) (Or.inl ⟨by rfl, ?_⟩) hHeld ?_ ?_
               rotate_left
               ·
                rintro w' ⟨s0, s1, s2, s3, s4, s5⟩
                go_simp
                with_reducible rfl
               rotate_left
               ·
                simp only [fr_]
                rfl
               refine one_ (i := 2) (N := some 32) #[t_,t_,t_,f_,f_,t_,t_,f_,f_,f_,t_,t_,f_,f_,f_,t_,t_,f_,f_,f_,t_,t_,f_,f_,f_,t_,f_,f_] rfl rfl (one_of HT_.out (by kernel_rfl)) (by decide) (fun K hK => ?_)
               refine gs_ Tryd.func37 #[.int .i64 a0_0] ?_
               with_reducible refine (spec_NumText.calls k1 a0_0 t800 _ A15.out).mono ?_
               rintro e w33 ⟨rfl, hb⟩
               refine ⟨_, rfl, ?_⟩
               replace BK796 := bk2_ BK796 hb
               replace HB := st_ HB hb
               (try clear hb)
               (try clear hk)
               refine hK.out _ _ (e6_ BK796.out) (fun hHeld => ?_)
               clear hK K
               refine norm_ (a' := ?_) ?_ ?_
               rotate_left
               ·
                show Act.put _ (some 32) _ = _
                simp only [fr_]
                rfl
               refine pw_ 3 33 #[t_,t_,t_,t_,f_,t_,t_,f_,f_,f_,t_,t_,f_,f_,f_,t_,t_,f_,f_,f_,t_,t_,f_,f_,f_,t_,f_,f_] rfl rfl HT_.out ?_
               refine pw_ 4 34 #[t_,t_,t_,t_,t_,t_,t_,f_,f_,f_,t_,t_,f_,f_,f_,t_,t_,f_,f_,f_,t_,t_,f_,f_,f_,t_,f_,f_] rfl rfl HT_.out ?_
               refine one_ (i := 7) (N := some 37) #[t_,t_,t_,t_,t_,t_,t_,t_,f_,f_,t_,t_,f_,f_,f_,t_,t_,f_,f_,f_,t_,t_,f_,f_,f_,t_,f_,f_] rfl rfl (one_of HT_.out (by kernel_rfl)) (by decide) (fun K hK => ?_)
               refine gs_ Tryd.func37 #[.int .i64 a0_1] ?_
               with_reducible refine (spec_NumText.calls k1 a0_1 t801 _ A18.out).mono ?_
               rintro e w34 ⟨rfl, hb⟩
               refine ⟨_, rfl, ?_⟩
               replace BK796 := bk2_ BK796 hb
               replace HB := st_ HB hb
               (try clear hb)
               (try clear hk)
               refine hK.out _ _ (e6_ BK796.out) (fun hHeld => ?_)
               clear hK K
               refine norm_ (a' := ?_) ?_ ?_
               rotate_left
               ·
                show Act.put _ (some 37) _ = _
                simp only [fr_]
                rfl
               refine pw_ 8 38 #[t_,t_,t_,t_,t_,t_,t_,t_,t_,f_,t_,t_,f_,f_,f_,t_,t_,f_,f_,f_,t_,t_,f_,f_,f_,t_,f_,f_] rfl rfl HT_.out ?_
               refine pw_ 9 39 #[t_,t_,t_,t_,t_,t_,t_,t_,t_,t_,t_,t_,f_,f_,f_,t_,t_,f_,f_,f_,t_,t_,f_,f_,f_,t_,f_,f_] rfl rfl HT_.out ?_
               refine one_ (i := 12) (N := some 42) #[t_,t_,t_,t_,t_,t_,t_,t_,t_,t_,t_,t_,t_,f_,f_,t_,t_,f_,f_,f_,t_,t_,f_,f_,f_,t_,f_,f_] rfl rfl (one_of HT_.out (by kernel_rfl)) (by decide) (fun K hK => ?_)
               refine gs_ Tryd.func37 #[.int .i64 a0_2] ?_
               with_reducible refine (spec_NumText.calls k1 a0_2 t802 _ A21.out).mono ?_
               rintro e w35 ⟨rfl, hb⟩
               refine ⟨_, rfl, ?_⟩
               replace BK796 := bk2_ BK796 hb
               replace HB := st_ HB hb
               (try clear hb)
               (try clear hk)
               refine hK.out _ _ (e6_ BK796.out) (fun hHeld => ?_)
               clear hK K
               refine norm_ (a' := ?_) ?_ ?_
               rotate_left
               ·
                show Act.put _ (some 42) _ = _
                simp only [fr_]
                rfl
               refine pw_ 13 43 #[t_,t_,t_,t_,t_,t_,t_,t_,t_,t_,t_,t_,t_,t_,f_,t_,t_,f_,f_,f_,t_,t_,f_,f_,f_,t_,f_,f_] rfl rfl HT_.out ?_
               refine pw_ 14 44 #[t_,t_,t_,t_,t_,t_,t_,t_,t_,t_,t_,t_,t_,t_,t_,t_,t_,f_,f_,f_,t_,t_,f_,f_,f_,t_,f_,f_] rfl rfl HT_.out ?_
               refine one_ (i := 17) (N := some 47) #[t_,t_,t_,t_,t_,t_,t_,t_,t_,t_,t_,t_,t_,t_,t_,t_,t_,t_,f_,f_,t_,t_,f_,f_,f_,t_,f_,f_] rfl rfl (one_of HT_.out (by kernel_rfl)) (by decide) (fun K hK => ?_)
               refine gs_ Tryd.func37 #[.int .i64 a0_3] ?_
               with_reducible refine (spec_NumText.calls k1 a0_3 t803 _ A24.out).mono ?_
               rintro e w36 ⟨rfl, hb⟩
               refine ⟨_, rfl, ?_⟩
               replace BK796 := bk2_ BK796 hb
               replace HB := st_ HB hb
               (try clear hb)
               (try clear hk)
               refine hK.out _ _ (e6_ BK796.out) (fun hHeld => ?_)
               clear hK K
               refine norm_ (a' := ?_) ?_ ?_
               rotate_left
               ·
                show Act.put _ (some 47) _ = _
                simp only [fr_]
                rfl
               refine pw_ 18 48 #[t_,t_,t_,t_,t_,t_,t_,t_,t_,t_,t_,t_,t_,t_,t_,t_,t_,t_,t_,f_,t_,t_,f_,f_,f_,t_,f_,f_] rfl rfl HT_.out ?_
               refine pw_ 19 49 #[t_,t_,t_,t_,t_,t_,t_,t_,t_,t_,t_,t_,t_,t_,t_,t_,t_,t_,t_,t_,t_,t_,f_,f_,f_,t_,f_,f_] rfl rfl HT_.out ?_
               refine one_ (i := 22) (N := some 52) #[t_,t_,t_,t_,t_,t_,t_,t_,t_,t_,t_,t_,t_,t_,t_,t_,t_,t_,t_,t_,t_,t_,t_,f_,f_,t_,f_,f_] rfl rfl (one_of HT_.out (by kernel_rfl)) (by decide) (fun K hK => ?_)
               refine gs_ Tryd.func37 #[.int .i64 a0_4] ?_
               with_reducible refine (spec_NumText.calls k1 a0_4 t804 _ A27.out).mono ?_
               rintro e w37 ⟨rfl, hb⟩
               refine ⟨_, rfl, ?_⟩
               replace BK796 := bk2_ BK796 hb
               replace HB := st_ HB hb
               (try clear hb)
               (try clear hk)
               refine hK.out _ _ (e6_ BK796.out) (fun hHeld => ?_)
               clear hK K
               refine norm_ (a' := ?_) ?_ ?_
               rotate_left
               ·
                show Act.put _ (some 52) _ = _
                simp only [fr_]
                rfl
               refine pw_ 23 53 #[t_,t_,t_,t_,t_,t_,t_,t_,t_,t_,t_,t_,t_,t_,t_,t_,t_,t_,t_,t_,t_,t_,t_,t_,f_,t_,f_,f_] rfl rfl HT_.out ?_
               refine pw_ 24 54 (b_ 26 2) rfl rfl HT_.out ?_
               refine pw_ 26 56 (b_ 27 1) rfl rfl HT_.out ?_
               refine pw_ 27 2 (b_ 28 0) rfl rfl HT_.out ?_
               refine done_ (done_of HT_.out (by kernel_rfl)) ?_
               try go_wp2
               go_ret
               exact an_ (by exact hs_ HB.out)
              rw [if_neg c30] at H
              exact absurd H (by simp)
             rw [if_neg c29] at H
             exact absurd H (by simp)
            rw [if_neg c28] at H
            exact absurd H (by simp)
           rw [if_neg c26] at H
           exact absurd H (by simp)
          rw [if_neg c25] at H
          exact absurd H (by simp)
         rw [if_neg c23] at H
         exact absurd H (by simp)
        rw [if_neg c22] at H
        exact absurd H (by simp)
       rw [if_neg c20] at H
       exact absurd H (by simp)
      rw [if_neg c19] at H
      exact absurd H (by simp)
     rw [if_neg c17] at H
     exact absurd H (by simp)
    rw [if_neg c16] at H
    exact absurd H (by simp)
 replace c3 := Bool.eq_false_iff.mpr c3
 subst c3
 rw [if_neg (show ¬ (false = true) by decide)] at H
 obtain rfl := Option.some.inj H
 refine ⟨?_⟩
 go_wp2_with (first | ((with_reducible refine gate_callee (f := 11) rfl ?_); refine gl_ (some 6) Tryd.func11 #[.agg #[.int .i64 a0_0, .int .i64 a0_1, .int .i64 a0_2, .int .i64 a0_3, .int .i64 a0_4, .slice A0_5 l0_5.length c0_5]] ?_; (with_reducible refine (spec_ConfOk.calls k a0_0 a0_1 a0_2 a0_3 a0_4 _ _ l0_5 false _ ?side1 ?side2 A2.out).mono ?_); (case side1 => exact cp_ ((Kd.C_below HR0_5.out HB.out))); (case side2 => exact HC0_5.out); rintro e w40 ⟨rfl, hb⟩; refine ⟨_, rfl, ?_⟩; replace BK796 := bk2_ BK796 hb; replace HB := st_ HB hb; (try clear hb); (try clear hk)))
 go_ret
 exact an_ (by exact hs_ HB.out)
def impl_NextDue.f (a0_0 : Int) (l0_1 : List (S83)) (a0_2 : Int) (a0_3 : Int) (l0_4 : List (S37)) (a1 : Int) (a2 : Int) : Option (Int) := if a0_3 = (-1) then (some (wrap64 (a0_2 + a1))) else (some (wrap64 (a0_3 + a2)))
theorem impl_NextDue.calls (a0_0 : Int) (A0_1 : Option Addr) (c0_1 : Nat) (l0_1 : List (S83)) (a0_2 : Int) (a0_3 : Int) (A0_4 : Option Addr) (c0_4 : Nat) (l0_4 : List (S37)) (a1 : Int) (a2 : Int) (r : Int) (w : World) (hr0_1 : Kd.C k83 w A0_1 l0_1.length l0_1) (hc0_1 : l0_1.length ≤ c0_1) (hr0_4 : Kd.C k37 w A0_4 l0_4.length l0_4) (hc0_4 : l0_4.length ≤ c0_4) (h : impl_NextDue.f a0_0 l0_1 a0_2 a0_3 l0_4 a1 a2 = some r) :
  Calls Tryd.prog 18 #[.agg #[.int .i64 a0_0, .slice A0_1 l0_1.length c0_1, .int .i64 a0_2, .int .i64 a0_3, .slice A0_4 l0_4.length c0_4], .int .i64 a1, .int .i64 a2] w fun e w' => e = .returned (.int .i64 r) ∧ Below w.heap.size w w' := by
 have hu33 := Tryd.underlying33
 have HR0_1 := Aside0.mk hr0_1
 have HC0_1 := Aside0.mk hc0_1
 clear hr0_1 hc0_1
 have HR0_4 := Aside0.mk hr0_4
 have HC0_4 := Aside0.mk hc0_4
 clear hr0_4 hc0_4
 have HB := Aside0.mk (Below.refl w.heap.size w)
 have H : (if a0_3 = (-1) then (some (wrap64 (a0_2 + a1))) else (some (wrap64 (a0_3 + a2)))) = some r := h
 clear h
 have AHz_ := Aside0.mk H
 clear H
 go_enter Tryd.func18, Tryd.ntmps18
 go_wp2_with (first | (((with_reducible refine gd_ 3 rfl ?_); refine bv_ 3 #[.int .i64 a0_0, .slice A0_1 l0_1.length c0_1, .int .i64 a0_2, .int .i64 a0_3, .slice A0_4 l0_4.length c0_4] 33 ?_; intro gb805 hg w5 hbox hb; have BK805 := Aside0.mk (hbox); have GW805 := Ge_.mk ((gw_ hg (hs_ HB.out))); replace HB := st_ HB hb; have GE805 := Ge_.mk GW805.out; clear hb hbox hg; obtain ⟨z6_0, z6_1, z6_2, z6_3, z6_4, y6_0, y6_1, y6_2, y6_3, y6_4⟩ := bc5_ BK805.out); refine Aside0.out ?_))
 have H := AHz_.out
 clear AHz_
 by_cases c4 : a0_3 = (-1)
 ·
  rw [if_pos c4] at H
  have c4b0 : (a0_3 == (-1)) = true := beq_iff_eq.mpr c4
  have c4b1 : (a0_3 != (-1)) = false := bne_eq_false_iff_eq.mpr c4
  clear c4
  obtain rfl := Option.some.inj H
  refine ⟨?_⟩
  go_wp2
  go_ret
  exact an_ (by exact hs_ HB.out)
 rw [if_neg c4] at H
 have c4b0 : (a0_3 == (-1)) = false := beq_eq_false_iff_ne.mpr c4
 have c4b1 : (a0_3 != (-1)) = true := bne_iff_ne.mpr c4
 obtain rfl := Option.some.inj H
 refine ⟨?_⟩
 go_wp2
 go_ret
 exact an_ (by exact hs_ HB.out)
def impl_Due.f (a0_0 : Int) (a0_1 : Int) (a0_2 : Int) (a0_3 : Int) (a0_4 : Int) (l0_5 : List ByteArray) (a1_0 : Int) (l1_1 : List (S83)) (a1_2 : Int) (a1_3 : Int) (l1_4 : List (S37)) : Option (Int) := (impl_NextDue.f a1_0 l1_1 a1_2 a1_3 l1_4 a0_3 a0_4).bind fun t808 => (some t808)
theorem impl_Due.calls (a0_0 : Int) (a0_1 : Int) (a0_2 : Int) (a0_3 : Int) (a0_4 : Int) (A0_5 : Option Addr) (c0_5 : Nat) (l0_5 : List ByteArray) (a1_0 : Int) (A1_1 : Option Addr) (c1_1 : Nat) (l1_1 : List (S83)) (a1_2 : Int) (a1_3 : Int) (A1_4 : Option Addr) (c1_4 : Nat) (l1_4 : List (S37)) (r : Int) (w : World) (hr0_5 : Kd.C Kd.string w A0_5 l0_5.length l0_5) (hc0_5 : l0_5.length ≤ c0_5) (hr1_1 : Kd.C k83 w A1_1 l1_1.length l1_1) (hc1_1 : l1_1.length ≤ c1_1) (hr1_4 : Kd.C k37 w A1_4 l1_4.length l1_4) (hc1_4 : l1_4.length ≤ c1_4) (h : impl_Due.f a0_0 a0_1 a0_2 a0_3 a0_4 l0_5 a1_0 l1_1 a1_2 a1_3 l1_4 = some r) :
  Calls Tryd.prog 16 #[.agg #[.int .i64 a0_0, .int .i64 a0_1, .int .i64 a0_2, .int .i64 a0_3, .int .i64 a0_4, .slice A0_5 l0_5.length c0_5], .agg #[.int .i64 a1_0, .slice A1_1 l1_1.length c1_1, .int .i64 a1_2, .int .i64 a1_3, .slice A1_4 l1_4.length c1_4]] w fun e w' => e = .returned (.int .i64 r) ∧ Below w.heap.size w w' := by
 have hu26 := Tryd.underlying26
 have hu33 := Tryd.underlying33
 have HR0_5 := Aside0.mk hr0_5
 have HC0_5 := Aside0.mk hc0_5
 clear hr0_5 hc0_5
 have HR1_1 := Aside0.mk hr1_1
 have HC1_1 := Aside0.mk hc1_1
 clear hr1_1 hc1_1
 have HR1_4 := Aside0.mk hr1_4
 have HC1_4 := Aside0.mk hc1_4
 clear hr1_4 hc1_4
 have HB := Aside0.mk (Below.refl w.heap.size w)
 have H : ((impl_NextDue.f a1_0 l1_1 a1_2 a1_3 l1_4 a0_3 a0_4).bind fun t808 => (some t808)) = some r := h
 clear h
 replace H := Option.bind_eq_some_iff.mp H
 obtain ⟨t808, A30, H⟩ := H
 have A3 := Aside0.mk A30
 clear A30
 obtain rfl := Option.some.inj H
 go_enter Tryd.func16, Tryd.ntmps16
 go_wp2_with (first | ((with_reducible refine gd_ 2 rfl ?_); refine bv_ 2 #[.int .i64 a0_0, .int .i64 a0_1, .int .i64 a0_2, .int .i64 a0_3, .int .i64 a0_4, .slice A0_5 l0_5.length c0_5] 26 ?_; intro gb806 hg w4 hbox hb; have BK806 := Aside0.mk (hbox); have GW806 := Ge_.mk ((gw_ hg (hs_ HB.out))); replace HB := st_ HB hb; have GE806 := Ge_.mk GW806.out; clear hb hbox hg) | ((with_reducible refine gd_ 3 rfl ?_); refine bv_ 3 #[.int .i64 a1_0, .slice A1_1 l1_1.length c1_1, .int .i64 a1_2, .int .i64 a1_3, .slice A1_4 l1_4.length c1_4] 33 ?_; intro gb807 hg w5 hbox hb; have BK807 := Aside0.mk (hbox); have GW807 := Ge_.mk ((gw_ hg (hs_ HB.out))); replace HB := st_ HB hb; have GE807 := Ge_.mk GW807.out; have NB806_807 := nk_ BK806 hg; replace BK806 := bk2_ BK806 hb; have NB807_806 := ns_ NB806_807; clear hb hbox hg; have hnb6 := NB807_806.out; have hnc6 := NB806_807.out; obtain ⟨z7_0, z7_1, z7_2, z7_3, z7_4, y7_0, y7_1, y7_2, y7_3, y7_4⟩ := bc5_ BK807.out; obtain ⟨z8_0, z8_1, z8_2, z8_3, z8_4, z8_5, y8_0, y8_1, y8_2, y8_3, y8_4, y8_5⟩ := bc6_ BK806.out) | ((with_reducible refine gate_callee (f := 18) rfl ?_); refine gl_ (some 10) Tryd.func18 #[.agg #[.int .i64 a1_0, .slice A1_1 l1_1.length c1_1, .int .i64 a1_2, .int .i64 a1_3, .slice A1_4 l1_4.length c1_4], .int .i64 a0_3, .int .i64 a0_4] ?_; (with_reducible refine (impl_NextDue.calls a1_0 _ _ l1_1 a1_2 a1_3 _ _ l1_4 a0_3 a0_4 t808 _ ?side1 ?side2 ?side3 ?side4 A3.out).mono ?_); (case side1 => exact cp_ ((Kd.C_below HR1_1.out HB.out))); (case side2 => exact HC1_1.out); (case side3 => exact cp_ ((Kd.C_below HR1_4.out HB.out))); (case side4 => exact HC1_4.out); rintro e w9 ⟨rfl, hb⟩; refine ⟨_, rfl, ?_⟩; replace BK806 := bk2_ BK806 hb; replace BK807 := bk2_ BK807 hb; replace HB := st_ HB hb; (try clear hb); (try clear hk)))
 go_ret
 exact an_ (by exact hs_ HB.out)
def spec_NextDue.f (a0_0 : Int) (l0_1 : List (S83)) (a0_2 : Int) (a0_3 : Int) (l0_4 : List (S37)) (a1 : Int) (a2 : Int) : Option (Int) := if a0_3 = (-1) then (some (wrap64 (a0_2 + a1))) else (some (wrap64 (a0_3 + a2)))
theorem spec_NextDue.calls (a0_0 : Int) (A0_1 : Option Addr) (c0_1 : Nat) (l0_1 : List (S83)) (a0_2 : Int) (a0_3 : Int) (A0_4 : Option Addr) (c0_4 : Nat) (l0_4 : List (S37)) (a1 : Int) (a2 : Int) (r : Int) (w : World) (hr0_1 : Kd.C k83 w A0_1 l0_1.length l0_1) (hc0_1 : l0_1.length ≤ c0_1) (hr0_4 : Kd.C k37 w A0_4 l0_4.length l0_4) (hc0_4 : l0_4.length ≤ c0_4) (h : spec_NextDue.f a0_0 l0_1 a0_2 a0_3 l0_4 a1 a2 = some r) :
  Calls Tryd.prog 38 #[.agg #[.int .i64 a0_0, .slice A0_1 l0_1.length c0_1, .int .i64 a0_2, .int .i64 a0_3, .slice A0_4 l0_4.length c0_4], .int .i64 a1, .int .i64 a2] w fun e w' => e = .returned (.int .i64 r) ∧ Below w.heap.size w w' := by
 have hu33 := Tryd.underlying33
 have HR0_1 := Aside0.mk hr0_1
 have HC0_1 := Aside0.mk hc0_1
 clear hr0_1 hc0_1
 have HR0_4 := Aside0.mk hr0_4
 have HC0_4 := Aside0.mk hc0_4
 clear hr0_4 hc0_4
 have HB := Aside0.mk (Below.refl w.heap.size w)
 have H : (if a0_3 = (-1) then (some (wrap64 (a0_2 + a1))) else (some (wrap64 (a0_3 + a2)))) = some r := h
 clear h
 have AHz_ := Aside0.mk H
 clear H
 go_enter Tryd.func38, Tryd.ntmps38
 go_wp2_with (first | (((with_reducible refine gd_ 3 rfl ?_); refine bv_ 3 #[.int .i64 a0_0, .slice A0_1 l0_1.length c0_1, .int .i64 a0_2, .int .i64 a0_3, .slice A0_4 l0_4.length c0_4] 33 ?_; intro gb809 hg w5 hbox hb; have BK809 := Aside0.mk (hbox); have GW809 := Ge_.mk ((gw_ hg (hs_ HB.out))); replace HB := st_ HB hb; have GE809 := Ge_.mk GW809.out; clear hb hbox hg; obtain ⟨z6_0, z6_1, z6_2, z6_3, z6_4, y6_0, y6_1, y6_2, y6_3, y6_4⟩ := bc5_ BK809.out); refine Aside0.out ?_))
 have H := AHz_.out
 clear AHz_
 by_cases c4 : a0_3 = (-1)
 ·
  rw [if_pos c4] at H
  have c4b0 : (a0_3 == (-1)) = true := beq_iff_eq.mpr c4
  have c4b1 : (a0_3 != (-1)) = false := bne_eq_false_iff_eq.mpr c4
  clear c4
  obtain rfl := Option.some.inj H
  refine ⟨?_⟩
  go_wp2
  go_ret
  exact an_ (by exact hs_ HB.out)
 rw [if_neg c4] at H
 have c4b0 : (a0_3 == (-1)) = false := beq_eq_false_iff_ne.mpr c4
 have c4b1 : (a0_3 != (-1)) = true := bne_iff_ne.mpr c4
 obtain rfl := Option.some.inj H
 refine ⟨?_⟩
 go_wp2
 go_ret
 exact an_ (by exact hs_ HB.out)
def spec_Due.f (a0_0 : Int) (a0_1 : Int) (a0_2 : Int) (a0_3 : Int) (a0_4 : Int) (l0_5 : List ByteArray) (a1_0 : Int) (l1_1 : List (S83)) (a1_2 : Int) (a1_3 : Int) (l1_4 : List (S37)) : Option (Int) := (spec_NextDue.f a1_0 l1_1 a1_2 a1_3 l1_4 a0_3 a0_4).bind fun t812 => (some t812)
theorem spec_Due.calls (a0_0 : Int) (a0_1 : Int) (a0_2 : Int) (a0_3 : Int) (a0_4 : Int) (A0_5 : Option Addr) (c0_5 : Nat) (l0_5 : List ByteArray) (a1_0 : Int) (A1_1 : Option Addr) (c1_1 : Nat) (l1_1 : List (S83)) (a1_2 : Int) (a1_3 : Int) (A1_4 : Option Addr) (c1_4 : Nat) (l1_4 : List (S37)) (r : Int) (w : World) (hr0_5 : Kd.C Kd.string w A0_5 l0_5.length l0_5) (hc0_5 : l0_5.length ≤ c0_5) (hr1_1 : Kd.C k83 w A1_1 l1_1.length l1_1) (hc1_1 : l1_1.length ≤ c1_1) (hr1_4 : Kd.C k37 w A1_4 l1_4.length l1_4) (hc1_4 : l1_4.length ≤ c1_4) (h : spec_Due.f a0_0 a0_1 a0_2 a0_3 a0_4 l0_5 a1_0 l1_1 a1_2 a1_3 l1_4 = some r) :
  Calls Tryd.prog 17 #[.agg #[.int .i64 a0_0, .int .i64 a0_1, .int .i64 a0_2, .int .i64 a0_3, .int .i64 a0_4, .slice A0_5 l0_5.length c0_5], .agg #[.int .i64 a1_0, .slice A1_1 l1_1.length c1_1, .int .i64 a1_2, .int .i64 a1_3, .slice A1_4 l1_4.length c1_4]] w fun e w' => e = .returned (.int .i64 r) ∧ Below w.heap.size w w' := by
 have hu26 := Tryd.underlying26
 have hu33 := Tryd.underlying33
 have HR0_5 := Aside0.mk hr0_5
 have HC0_5 := Aside0.mk hc0_5
 clear hr0_5 hc0_5
 have HR1_1 := Aside0.mk hr1_1
 have HC1_1 := Aside0.mk hc1_1
 clear hr1_1 hc1_1
 have HR1_4 := Aside0.mk hr1_4
 have HC1_4 := Aside0.mk hc1_4
 clear hr1_4 hc1_4
 have HB := Aside0.mk (Below.refl w.heap.size w)
 have H : ((spec_NextDue.f a1_0 l1_1 a1_2 a1_3 l1_4 a0_3 a0_4).bind fun t812 => (some t812)) = some r := h
 clear h
 replace H := Option.bind_eq_some_iff.mp H
 obtain ⟨t812, A30, H⟩ := H
 have A3 := Aside0.mk A30
 clear A30
 obtain rfl := Option.some.inj H
 go_enter Tryd.func17, Tryd.ntmps17
 go_wp2_with (first | ((with_reducible refine gd_ 2 rfl ?_); refine bv_ 2 #[.int .i64 a0_0, .int .i64 a0_1, .int .i64 a0_2, .int .i64 a0_3, .int .i64 a0_4, .slice A0_5 l0_5.length c0_5] 26 ?_; intro gb810 hg w4 hbox hb; have BK810 := Aside0.mk (hbox); have GW810 := Ge_.mk ((gw_ hg (hs_ HB.out))); replace HB := st_ HB hb; have GE810 := Ge_.mk GW810.out; clear hb hbox hg) | ((with_reducible refine gd_ 3 rfl ?_); refine bv_ 3 #[.int .i64 a1_0, .slice A1_1 l1_1.length c1_1, .int .i64 a1_2, .int .i64 a1_3, .slice A1_4 l1_4.length c1_4] 33 ?_; intro gb811 hg w5 hbox hb; have BK811 := Aside0.mk (hbox); have GW811 := Ge_.mk ((gw_ hg (hs_ HB.out))); replace HB := st_ HB hb; have GE811 := Ge_.mk GW811.out; have NB810_811 := nk_ BK810 hg; replace BK810 := bk2_ BK810 hb; have NB811_810 := ns_ NB810_811; clear hb hbox hg; have hnb6 := NB811_810.out; have hnc6 := NB810_811.out; obtain ⟨z7_0, z7_1, z7_2, z7_3, z7_4, y7_0, y7_1, y7_2, y7_3, y7_4⟩ := bc5_ BK811.out; obtain ⟨z8_0, z8_1, z8_2, z8_3, z8_4, z8_5, y8_0, y8_1, y8_2, y8_3, y8_4, y8_5⟩ := bc6_ BK810.out) | ((with_reducible refine gate_callee (f := 38) rfl ?_); refine gl_ (some 10) Tryd.func38 #[.agg #[.int .i64 a1_0, .slice A1_1 l1_1.length c1_1, .int .i64 a1_2, .int .i64 a1_3, .slice A1_4 l1_4.length c1_4], .int .i64 a0_3, .int .i64 a0_4] ?_; (with_reducible refine (spec_NextDue.calls a1_0 _ _ l1_1 a1_2 a1_3 _ _ l1_4 a0_3 a0_4 t812 _ ?side1 ?side2 ?side3 ?side4 A3.out).mono ?_); (case side1 => exact cp_ ((Kd.C_below HR1_1.out HB.out))); (case side2 => exact HC1_1.out); (case side3 => exact cp_ ((Kd.C_below HR1_4.out HB.out))); (case side4 => exact HC1_4.out); rintro e w9 ⟨rfl, hb⟩; refine ⟨_, rfl, ?_⟩; replace BK810 := bk2_ BK810 hb; replace BK811 := bk2_ BK811 hb; replace HB := st_ HB hb; (try clear hb); (try clear hk)))
 go_ret
 exact an_ (by exact hs_ HB.out)
def impl_PlainOk.l0 : Nat → ByteArray → Int → Option (Bool)
 | 0, _, _ => none
 | k + 1, x0, x3 => if x3 < (x0.size : Int) then (if 0 ≤ x3 then (if (bt x0 x3) < 32 then (some false) else (if (bt x0 x3) > 126 then (some false) else (if (bt x0 x3) = 34 then (some false) else (if (bt x0 x3) = 92 then (some false) else (impl_PlainOk.l0 k x0 (wrap64 (x3 + 1))))))) else (none)) else (some true)
def impl_PlainOk.f (k : Nat) (a0 : ByteArray) : Option (Bool) := if (a0.size : Int) > 12 then (some false) else (impl_PlainOk.l0 k a0 0)
theorem impl_PlainOk.mono_l : ∀ k, (∀ y0 y1, LeO (impl_PlainOk.l0 k y0 y1) (impl_PlainOk.l0 (k + 1) y0 y1))
 | 0 => fun _ _ r h => by simp [impl_PlainOk.l0] at h
 | k + 1 => by
  have ih0 := impl_PlainOk.mono_l k
  intro y0 y1
  unfold impl_PlainOk.l0
  repeat' first
  | (with_reducible exact ih0 _ _)
  | (with_reducible exact LeO.refl _)
  | (with_reducible exact LeO.none _)
  | (with_reducible refine LeO.ite ?_ ?_)
  | (with_reducible refine LeO.bind ?_ (fun _ => ?_))
  | exact ih0 _ _
theorem impl_PlainOk.mono : ∀ a0 k, LeO (impl_PlainOk.f k a0) (impl_PlainOk.f (k + 1) a0) := by
 intro a0 k
 have ih0 := impl_PlainOk.mono_l k
 unfold impl_PlainOk.f
 repeat' first | (with_reducible first | exact ih0 _ _ | exact LeO.refl _ | exact LeO.none _ | refine LeO.ite ?_ ?_ | refine LeO.bind ?_ (fun _ => ?_)) | exact ih0 _ _
theorem impl_PlainOk.calls (k : Nat) (a0 : ByteArray) (r : Bool) (w : World) (h : impl_PlainOk.f k a0 = some r) :
  Calls Tryd.prog 41 #[.string a0] w fun e w' => e = .returned (.bool r) ∧ Drawn0 w w' := by
 have H : (if (a0.size : Int) > 12 then (some false) else (impl_PlainOk.l0 k a0 0)) = some r := h
 clear h
 by_cases c2 : (a0.size : Int) > 12
 ·
  rw [if_pos c2] at H
  have c2b0 : decide (12 < (a0.size : Int)) = true := decide_eq_true c2
  have c2b1 : decide (12 < a0.size) = true := decide_eq_true (by omega)
  clear c2
  obtain rfl := Option.some.inj H
  go_enter Tryd.func41, Tryd.ntmps41
  go_wp2
  go_ret
  exact ⟨by first | rfl | (simp; done) | (simp [*]; done), by repeat (first | exact Drawn0.refl _ | apply Drawn0.step)⟩
 rw [if_neg c2] at H
 have c2b0 : decide (12 < (a0.size : Int)) = false := decide_eq_false c2
 have c2b1 : decide (12 < a0.size) = false := decide_eq_false (by omega)
 clear c2
 have H' := Aside0.mk H
 clear H
 go_enter Tryd.func41, Tryd.ntmps41
 go_wp2
 go_loopg [3] k (fun kq v3 w' => ∃ (x3_1 : Int), v3 = .int .i64 x3_1 ∧ Aside0 (impl_PlainOk.l0 kq a0 x3_1 = some r) ∧ Aside0 (kq ≤ k) ∧ Drawn0 w w')
 case atStart => exact ⟨(0), (by first | rfl | (simp; done) | (simp [*]; done)), H', ⟨Nat.le_refl _⟩, by repeat (first | exact Drawn0.refl _ | apply Drawn0.step)⟩
 case round =>
  clear H'
  try clear c2
  try clear c2b0
  try clear c2b1
  try clear p2
  obtain ⟨x3_1, rfl, HA, HK1, ⟨m1, rfl⟩⟩ := hrel
  cases gk with
  | zero => exact absurd HA.out (by simp [impl_PlainOk.l0])
  | succ k1 =>
   have H := HA.out
   clear HA
   simp only [impl_PlainOk.l0] at H
   by_cases c3 : x3_1 < (a0.size : Int)
   ·
    rw [if_pos c3] at H
    have c3b0 := decide_eq_true c3
    clear c3
    by_cases c4 : 0 ≤ x3_1
    ·
     rw [if_pos c4] at H
     have c4b0 := decide_eq_true c4
     clear c4
     by_cases c6 : (bt a0 x3_1) < 32
     ·
      rw [if_pos c6] at H
      have c6b0 := decide_eq_true c6
      clear c6
      obtain rfl := Option.some.inj H
      have p5 : 0 ≤ (x3_1 : Int) := of_decide_eq_true (by with_reducible assumption)
      have q5 : x3_1 < (a0.size : Int) := of_decide_eq_true (by with_reducible assumption)
      have hx5 := bt_at a0 x3_1
      replace p5 := eq_true p5
      replace q5 := eq_true q5
      go_wp2
      go_ret
      exact ⟨by first | rfl | (simp; done) | (simp [*]; done), by repeat (first | exact Drawn0.refl _ | apply Drawn0.step)⟩
     rw [if_neg c6] at H
     have c6b0 : decide ((bt a0 x3_1) < 32) = false := decide_eq_false c6
     clear c6
     by_cases c7 : (bt a0 x3_1) > 126
     ·
      rw [if_pos c7] at H
      have c7b0 : decide (126 < (bt a0 x3_1)) = true := decide_eq_true c7
      clear c7
      obtain rfl := Option.some.inj H
      have p5 : 0 ≤ (x3_1 : Int) := of_decide_eq_true (by with_reducible assumption)
      have q5 : x3_1 < (a0.size : Int) := of_decide_eq_true (by with_reducible assumption)
      have hx5 := bt_at a0 x3_1
      replace p5 := eq_true p5
      replace q5 := eq_true q5
      go_wp2
      go_ret
      exact ⟨by first | rfl | (simp; done) | (simp [*]; done), by repeat (first | exact Drawn0.refl _ | apply Drawn0.step)⟩
     rw [if_neg c7] at H
     have c7b0 : decide (126 < (bt a0 x3_1)) = false := decide_eq_false c7
     clear c7
     by_cases c8 : (bt a0 x3_1) = 34
     ·
      rw [if_pos c8] at H
      have c8b0 : ((bt a0 x3_1) == 34) = true := beq_iff_eq.mpr c8
      have c8b1 : ((bt a0 x3_1) != 34) = false := bne_eq_false_iff_eq.mpr c8
      clear c8
      obtain rfl := Option.some.inj H
      have p5 : 0 ≤ (x3_1 : Int) := of_decide_eq_true (by with_reducible assumption)
      have q5 : x3_1 < (a0.size : Int) := of_decide_eq_true (by with_reducible assumption)
      have hx5 := bt_at a0 x3_1
      replace p5 := eq_true p5
      replace q5 := eq_true q5
      go_wp2
      go_ret
      exact ⟨by first | rfl | (simp; done) | (simp [*]; done), by repeat (first | exact Drawn0.refl _ | apply Drawn0.step)⟩
     rw [if_neg c8] at H
     have c8b0 : ((bt a0 x3_1) == 34) = false := beq_eq_false_iff_ne.mpr c8
     have c8b1 : ((bt a0 x3_1) != 34) = true := bne_iff_ne.mpr c8
     by_cases c9 : (bt a0 x3_1) = 92
     ·
      rw [if_pos c9] at H
      have c9b0 : ((bt a0 x3_1) == 92) = true := beq_iff_eq.mpr c9
      have c9b1 : ((bt a0 x3_1) != 92) = false := bne_eq_false_iff_eq.mpr c9
      clear c9
      obtain rfl := Option.some.inj H
      have p5 : 0 ≤ (x3_1 : Int) := of_decide_eq_true (by with_reducible assumption)
      have q5 : x3_1 < (a0.size : Int) := of_decide_eq_true (by with_reducible assumption)
      have hx5 := bt_at a0 x3_1
      replace p5 := eq_true p5
      replace q5 := eq_true q5
      go_wp2
      go_ret
      exact ⟨by first | rfl | (simp; done) | (simp [*]; done), by repeat (first | exact Drawn0.refl _ | apply Drawn0.step)⟩
     rw [if_neg c9] at H
     have c9b0 : ((bt a0 x3_1) == 92) = false := beq_eq_false_iff_ne.mpr c9
     have c9b1 : ((bt a0 x3_1) != 92) = true := bne_iff_ne.mpr c9
     have H' := Aside0.mk H
     clear H
     have p5 : 0 ≤ (x3_1 : Int) := of_decide_eq_true (by with_reducible assumption)
     have q5 : x3_1 < (a0.size : Int) := of_decide_eq_true (by with_reducible assumption)
     have hx5 := bt_at a0 x3_1
     replace p5 := eq_true p5
     replace q5 := eq_true q5
     go_wp2
     go_roundg k1
     case measure => have := HK1.out; omega
     case rel => exact ⟨(wrap64 (x3_1 + 1)), (by first | rfl | (simp; done) | (simp [*]; done)), H', ⟨by have := HK1.out; omega⟩, by repeat (first | exact Drawn0.refl _ | apply Drawn0.step)⟩
    rw [if_neg c4] at H
    exact absurd H (by simp)
   rw [if_neg c3] at H
   have c3b0 : decide (x3_1 < (a0.size : Int)) = false := decide_eq_false c3
   clear c3
   obtain rfl := Option.some.inj H
   go_wp2
   go_ret
   exact ⟨by first | rfl | (simp; done) | (simp [*]; done), by repeat (first | exact Drawn0.refl _ | apply Drawn0.step)⟩
def impl_LabelOk.f (k : Nat) (a0_0 : ByteArray) (a0_1 : ByteArray) : Option (Bool) := (impl_NameOk.f k a0_0).bind fun t814 => (if t814 = true then ((impl_PlainOk.f k a0_1).bind fun t815 => (some t815)) else (some false))
theorem impl_LabelOk.mono : ∀ a0 a1 k, LeO (impl_LabelOk.f k a0 a1) (impl_LabelOk.f (k + 1) a0 a1) := by
 intro a0 a1 k
 unfold impl_LabelOk.f
 repeat' first | (with_reducible first | exact impl_NameOk.mono _ _ | exact impl_PlainOk.mono _ _ | exact LeO.refl _ | exact LeO.none _ | refine LeO.ite ?_ ?_ | refine LeO.bind ?_ (fun _ => ?_)) | exact impl_NameOk.mono _ _ | exact impl_PlainOk.mono _ _
theorem impl_LabelOk.calls (k : Nat) (a0_0 : ByteArray) (a0_1 : ByteArray) (r : Bool) (w : World) (h : impl_LabelOk.f k a0_0 a0_1 = some r) :
  Calls Tryd.prog 62 #[.agg #[.string a0_0, .string a0_1]] w fun e w' => e = .returned (.bool r) ∧ Below w.heap.size w w' := by
 have hu83 := Tryd.underlying83
 have HB := Aside0.mk (Below.refl w.heap.size w)
 have H : ((impl_NameOk.f k a0_0).bind fun t814 => (if t814 = true then ((impl_PlainOk.f k a0_1).bind fun t815 => (some t815)) else (some false))) = some r := h
 clear h
 replace H := Option.bind_eq_some_iff.mp H
 obtain ⟨t814, A20, H⟩ := H
 have A2 := Aside0.mk A20
 clear A20
 have AHz_ := Aside0.mk H
 clear H
 go_enter Tryd.func62, Tryd.ntmps62
 go_wp2_with (first | (((with_reducible refine gd_ 1 rfl ?_); refine bv_ 1 #[.string a0_0, .string a0_1] 83 ?_; intro gb813 hg w5 hbox hb; have BK813 := Aside0.mk (hbox); have GW813 := Ge_.mk ((gw_ hg (hs_ HB.out))); replace HB := st_ HB hb; have GE813 := Ge_.mk GW813.out; clear hb hbox hg; obtain ⟨z6_0, z6_1, y6_0, y6_1⟩ := bc2_ BK813.out); refine Aside0.out ?_))
 have H := AHz_.out
 clear AHz_
 by_cases c3 : t814 = true
 ·
  subst c3
  rw [if_pos rfl] at H
  replace H := Option.bind_eq_some_iff.mp H
  obtain ⟨t815, A40, H⟩ := H
  have A4 := Aside0.mk A40
  clear A40
  obtain rfl := Option.some.inj H
  refine ⟨?_⟩
  go_wp2_with (first | ((with_reducible refine gate_callee (f := 52) rfl ?_); refine gl_ (some 5) Tryd.func52 #[.string a0_0] ?_; (with_reducible refine (impl_NameOk.calls k a0_0 true _ A2.out).mono ?_); rintro e w' ⟨rfl, ⟨nd, rfl⟩⟩; refine ⟨_, rfl, ?_⟩) | (go_at_call 41; (with_reducible refine (impl_PlainOk.calls k a0_1 t815 _ A4.out).mono ?_); rintro e w' ⟨rfl, ⟨nd, rfl⟩⟩))
  go_ret
  exact an_ (by exact hs_ HB.out)
 replace c3 := Bool.eq_false_iff.mpr c3
 subst c3
 rw [if_neg (show ¬ (false = true) by decide)] at H
 obtain rfl := Option.some.inj H
 refine ⟨?_⟩
 go_wp2_with (first | ((with_reducible refine gate_callee (f := 52) rfl ?_); refine gl_ (some 5) Tryd.func52 #[.string a0_0] ?_; (with_reducible refine (impl_NameOk.calls k a0_0 false _ A2.out).mono ?_); rintro e w' ⟨rfl, ⟨nd, rfl⟩⟩; refine ⟨_, rfl, ?_⟩))
 go_ret
 exact an_ (by exact hs_ HB.out)
end Go.Proofs.YtanfohlpkppeiaaDoor.Print
end
