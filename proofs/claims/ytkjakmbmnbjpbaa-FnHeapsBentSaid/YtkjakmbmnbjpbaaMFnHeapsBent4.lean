import Derived.Test.YtkjakmbmnbjpbaaMFnHeapsBent1
import Derived.Test.YtkjakmbmnbjpbaaMFnHeapsBent3
section
namespace Go.Proofs.Ytkjakmbmnbjpbaa.Print
open Go.RowKit Go.Proofs.YtkjakmbmnbjpbaaV.PrintWords Go.Proofs.YtkjakmbmnbjpbaaV.PrintLast Go.Proofs.YtkjakmbmnbjpbaaV.PrintMore
attribute [local go_sem] max2_int min2_int max_two min_two max_three min_three max_four min_four
set_option linter.unusedVariables false
set_option linter.unusedSimpArgs false
set_option maxHeartbeats 8000000
set_option maxRecDepth 100000
def spec_l10Any.l0 : Nat → List (S25) → List Int → Int → Int → Option ((List (S25)) × Int × Int)
 | 0, _, _, _, _ => none
 | k + 1, x3, x1000, x1001, x1002 => if (x3.length : Int) < 17 then (if x3.length < 8796093022208 then (spec_l10Any.l0 k (x3 ++ [(⟨20, 0⟩ : S25)]) x1000 x1001 x1002) else (none)) else (some (x3, x1001, x1002))
def spec_l10Any.f (k : Nat) (s0_0 : List Int) (s0_1 : Int) (s0_2 : Int) : Option ((List (S25)) × Int × Int) := (spec_l10Draw.f k s0_0 s0_1 s0_2).bind fun bt796 => ((spec_l1Below.f s0_0 bt796.2.1 bt796.2.2 8).bind fun bt801 => (if bt801.1 = 0 then ((spec_l10Timer.f s0_0 bt801.2.1 bt801.2.2).bind fun bt804 => (if bt796.1.length < 8796093022208 then (some ((bt796.1 ++ [(⟨bt804.1, bt804.2.1⟩ : S25)]), bt804.2.2.1, bt804.2.2.2)) else (none))) else (if bt801.1 = 1 then (if bt796.1.length < 8796093022208 then (some ((bt796.1 ++ [(⟨(-1), 0⟩ : S25)]), bt801.2.1, bt801.2.2)) else (none)) else (if bt801.1 = 2 then (spec_l10Any.l0 k bt796.1 s0_0 bt801.2.1 bt801.2.2) else (some (bt796.1, bt801.2.1, bt801.2.2))))))
theorem spec_l10Any.mono_l : ∀ k, (∀ y0 y1 y2 y3, LeO (spec_l10Any.l0 k y0 y1 y2 y3) (spec_l10Any.l0 (k + 1) y0 y1 y2 y3))
 | 0 => fun _ _ _ _ r h => by simp [spec_l10Any.l0] at h
 | k + 1 => by
  have ih0 := spec_l10Any.mono_l k
  intro y0 y1 y2 y3
  unfold spec_l10Any.l0
  repeat' first
  | (with_reducible exact ih0 _ _ _ _)
  | (with_reducible exact spec_l10Draw.mono _ _ _ _)
  | (with_reducible exact LeO.refl _)
  | (with_reducible exact LeO.none _)
  | (with_reducible refine LeO.ite ?_ ?_)
  | (with_reducible refine LeO.bind ?_ (fun _ => ?_))
  | exact ih0 _ _ _ _
  | exact spec_l10Draw.mono _ _ _ _
theorem spec_l10Any.mono : ∀ a0 a1 a2 k, LeO (spec_l10Any.f k a0 a1 a2) (spec_l10Any.f (k + 1) a0 a1 a2) := by
 intro a0 a1 a2 k
 have ih0 := spec_l10Any.mono_l k
 unfold spec_l10Any.f
 repeat' first
   | (with_reducible exact ih0 _ _ _ _)
   | (with_reducible exact spec_l10Draw.mono _ _ _ _)
   | (with_reducible exact LeO.refl _)
   | (with_reducible exact LeO.none _)
   | (with_reducible refine LeO.ite ?_ ?_)
   | (with_reducible refine LeO.bind ?_ (fun _ => ?_))
   | exact ih0 _ _ _ _
   | exact spec_l10Draw.mono _ _ _ _
theorem spec_l10Any.calls (k : Nat) (g : Nat) (s0_0 : List Int) (s0_1 : Int) (s0_2 : Int) (r1 : List (S25)) (r2 : Int) (r3 : Int) (w0 w : World) (hI : IsS93 w0 w g s0_0 s0_1 s0_2) (hB : Below w0.heap.size w0 w) (h : spec_l10Any.f k s0_0 s0_1 s0_2 = some (r1, r2, r3)) :
  Calls Try.prog 73 #[.pointer (some ⟨g, 0, none⟩)] w fun e w' => ∃ v0_ : Value, e = .returned (v0_) ∧ Kd.R k25 25 w' w.heap.size (fun _ => True) v0_ r1 ∧ IsS93 w0 w' g s0_0 r2 r3 ∧ Below w0.heap.size w0 w' ∧ KeepBut w w' g none := by
 have hu25 := Try.underlying25
 have HI0 := Aside0.mk hI
 have HK := Aside0.mk (KeepBut.refl w g none)
 have HL := Aside0.mk hB.size
 clear hI
 have HW0 := Aside0.mk hB.size
 have HB := Aside0.mk hB
 clear hB
 have H : ((spec_l10Draw.f k s0_0 s0_1 s0_2).bind fun bt796 => ((spec_l1Below.f s0_0 bt796.2.1 bt796.2.2 8).bind fun bt801 => (if bt801.1 = 0 then ((spec_l10Timer.f s0_0 bt801.2.1 bt801.2.2).bind fun bt804 => (if bt796.1.length < 8796093022208 then (some ((bt796.1 ++ [(⟨bt804.1, bt804.2.1⟩ : S25)]), bt804.2.2.1, bt804.2.2.2)) else (none))) else (if bt801.1 = 1 then (if bt796.1.length < 8796093022208 then (some ((bt796.1 ++ [(⟨(-1), 0⟩ : S25)]), bt801.2.1, bt801.2.2)) else (none)) else (if bt801.1 = 2 then (spec_l10Any.l0 k bt796.1 s0_0 bt801.2.1 bt801.2.2) else (some (bt796.1, bt801.2.1, bt801.2.2))))))) = some (r1, r2, r3) := h
 clear h
 replace H := Option.bind_eq_some_iff.mp H
 obtain ⟨⟨t796, t799, t800⟩, A20, H⟩ := H
 have A2 := Aside0.mk A20
 clear A20
 replace H := Option.bind_eq_some_iff.mp H
 obtain ⟨⟨t801, t802, t803⟩, A30, H⟩ := H
 have A3 := Aside0.mk A30
 clear A30
 by_cases c4 : t801 = 0
 ·
  rw [if_pos c4] at H
  have c4b0 : (t801 == 0) = true := beq_iff_eq.mpr c4
  have c4b1 : (t801 != 0) = false := bne_eq_false_iff_eq.mpr c4
  clear c4
  replace H := Option.bind_eq_some_iff.mp H
  obtain ⟨⟨t804, t805, t806, t807⟩, A50, H⟩ := H
  have A5 := Aside0.mk A50
  clear A50
  by_cases c6 : t796.length < 8796093022208
  ·
   rw [if_pos c6] at H
   have LMc6 := Aside0.mk c6
   clear c6
   obtain ⟨y808, hy808⟩ : ∃ y_ : List (S25), y_ = (t796 ++ [(⟨t804, t805⟩ : S25)]) := ⟨_, rfl⟩
   replace H : (some (y808, t806, t807)) = some (r1, r2, r3) := by first | (rw [hy808]; with_reducible exact H) | (have H2_ := (Option.bind_some _ _).symm.trans H; rw [hy808]; with_reducible exact H2_) | (have H2_ := (Option.bind_some _ _).symm.trans H; with_reducible exact H2_) | with_reducible exact H | (rw [hy808]; exact H) | exact H
   have Ny808 := Aside0.mk hy808
   clear hy808
   simp only [Option.some.injEq, Prod.mk.injEq] at H
   obtain ⟨rfl, rfl, rfl⟩ := H
   go_enter Try.func73, Try.ntmps73
   go_wp2_with (first | ((with_reducible refine gate_callee (f := 61) rfl ?_); refine goesL_ (some 5) rfl rfl Try.func61 (by kernel_rfl) rfl #[.pointer (some ⟨g, 0, none⟩)] rfl (by (try simp only [mp_]); first | done | rfl | (simp only [List.length_drop, List.length_take]; rfl)) ?_; (with_reducible refine (spec_l10Draw.calls k g s0_0 s0_1 s0_2 t796 t799 t800 w0 _ ?side1 ?side2 A2.out).mono ?_); (case side1 => repeat (first | (with_reducible first | exact HI0.out | apply IsS93.alloc | apply IsS93.drewN | apply IsS93.drew | apply IsS93.set_1 | apply IsS93.set_2) | exact HI0.out)); (case side2 => repeat (first | (with_reducible first | exact HB.out | apply ba_ | apply bn_ | apply bd_ | refine below_set ?_ (IsS93.ge HI0.out)) | exact HB.out)); rintro e w7 ⟨v797, rfl, ho0, hi, hb, hk⟩; refine ⟨_, rfl, ?_⟩; have HO798 := Aside0.mk (Kd.R_lower ho0 (keep_size (w := w) (g := g) (row := none) (by repeat (first | (with_reducible first | exact HK.out | apply KeepBut.set_ | apply keep_drewN | apply keep_drew | apply keep_alloc) | exact HK.out)))); have n1_ := Aside0.mk (KeepBut.trans (by repeat (first | (with_reducible first | exact HK.out | apply KeepBut.set_ | apply keep_drewN | apply keep_drew | apply keep_alloc) | exact HK.out)) hk (.inl rfl)); have n2_ := Aside0.mk (hb); have n3_ := Aside0.mk (hi); clear HK HB HI0; have HK := n1_; have HB := n2_; have HI0 := n3_; clear n1_ n2_ n3_; (try clear hb); (try clear hb2); (try clear hk); (try clear hi); (try clear ho0)) | ((with_reducible refine gate_callee (f := 74) rfl ?_); refine goesL_ (some 7) rfl rfl Try.func74 (by kernel_rfl) rfl #[.pointer (some ⟨g, 0, none⟩), .int .i64 8] rfl (by (try simp only [mp_]); first | done | rfl | (simp only [List.length_drop, List.length_take]; rfl)) ?_; (with_reducible refine (spec_l1Below.calls g s0_0 t799 t800 8 t801 t802 t803 w0 _ ?side1 ?side2 A3.out).mono ?_); (case side1 => repeat (first | (with_reducible first | exact HI0.out | apply IsS93.alloc | apply IsS93.drewN | apply IsS93.drew | apply IsS93.set_1 | apply IsS93.set_2) | exact HI0.out)); (case side2 => repeat (first | (with_reducible first | exact HB.out | apply ba_ | apply bn_ | apply bd_ | refine below_set ?_ (IsS93.ge HI0.out)) | exact HB.out)); rintro e w8 ⟨rfl, hi, hb, hk⟩; refine ⟨_, rfl, ?_⟩; have n0_ := Aside0.mk (Kd.R_mono (Kd.R_keep (IsS93.apart (show IsS93 w0 _ g s0_0 t799 t800 from by repeat (first | (with_reducible first | exact HI0.out | apply IsS93.alloc | apply IsS93.drewN | apply IsS93.drew | apply IsS93.set_1 | apply IsS93.set_2) | exact HI0.out)) (rp_ HO798.out) (by decide)) hk (fun _ h => h.2)) (fun _ h => h.1)); have n1_ := Aside0.mk (KeepBut.trans (by repeat (first | (with_reducible first | exact HK.out | apply KeepBut.set_ | apply keep_drewN | apply keep_drew | apply keep_alloc) | exact HK.out)) hk (.inl rfl)); have n2_ := Aside0.mk (hb); have n3_ := Aside0.mk (hi); clear HO798 HK HB HI0; have HO798 := n0_; have HK := n1_; have HB := n2_; have HI0 := n3_; clear n0_ n1_ n2_ n3_; (try clear hb); (try clear hb2); (try clear hk); (try clear hi)) | ((with_reducible refine gate_callee (f := 62) rfl ?_); refine goesL_ (some 12) rfl rfl Try.func62 (by kernel_rfl) rfl #[.pointer (some ⟨g, 0, none⟩)] rfl (by (try simp only [mp_]); first | done | rfl | (simp only [List.length_drop, List.length_take]; rfl)) ?_; (with_reducible refine (spec_l10Timer.calls g s0_0 t802 t803 t804 t805 t806 t807 w0 _ ?side1 ?side2 A5.out).mono ?_); (case side1 => repeat (first | (with_reducible first | exact HI0.out | apply IsS93.alloc | apply IsS93.drewN | apply IsS93.drew | apply IsS93.set_1 | apply IsS93.set_2) | exact HI0.out)); (case side2 => repeat (first | (with_reducible first | exact HB.out | apply ba_ | apply bn_ | apply bd_ | refine below_set ?_ (IsS93.ge HI0.out)) | exact HB.out)); rintro e w9 ⟨rfl, hi, hb, hk⟩; refine ⟨_, rfl, ?_⟩; have n0_ := Aside0.mk (Kd.R_mono (Kd.R_keep (IsS93.apart (show IsS93 w0 _ g s0_0 t802 t803 from by repeat (first | (with_reducible first | exact HI0.out | apply IsS93.alloc | apply IsS93.drewN | apply IsS93.drew | apply IsS93.set_1 | apply IsS93.set_2) | exact HI0.out)) (rp_ HO798.out) (by decide)) hk (fun _ h => h.2)) (fun _ h => h.1)); have n1_ := Aside0.mk (KeepBut.trans (by repeat (first | (with_reducible first | exact HK.out | apply KeepBut.set_ | apply keep_drewN | apply keep_drew | apply keep_alloc) | exact HK.out)) hk (.inl rfl)); have n2_ := Aside0.mk (hb); have n3_ := Aside0.mk (hi); clear HO798 HK HB HI0; have HO798 := n0_; have HK := n1_; have HB := n2_; have HI0 := n3_; clear n0_ n1_ n2_ n3_; (try clear hb); (try clear hb2); (try clear hk); (try clear hi)) | ((with_reducible refine gate_builtin (b := .append) (xs := #[.tmp 10, .tmp 13]) rfl ?_); at_builtin; refine Kd.R_append k25 w.heap.size rfl (.tmp 10) (.tmp 13) 31 25 (.agg #[(.int .i64 0), (.int .i64 0)]) 16 rfl Try.underlying31 info25 rfl (by decide) (by omega) v797 t796 (⟨t804, t805⟩ : S25) [.int .i64 t804, .int .i64 t805] (fun _ => True) (fun _ => False) rfl rfl ?aP (fun _ hk => hk.elim) ?aF ?aO (Below.refl _ _) ?aS ?aL ?_; (case aP => exact k25_mkM _ _ _ (⟨t804, t805⟩ : S25)); (case aF => exact (fun _ _ => trivial)); (case aO => exact (rp_ HO798.out)); (case aS => exact (keep_size (w := w) (g := g) (row := none) (by repeat (first | (with_reducible first | exact HK.out | apply KeepBut.set_ | apply keep_drewN | apply keep_drew | apply keep_alloc) | exact HK.out)))); (case aL => have := LMc6.out; omega); intro v809 w10 ho hb hg hat; rw [← Ny808.out] at ho; have n0_ := Aside0.mk (IsS93.grown (by repeat (first | (with_reducible first | exact HI0.out | apply IsS93.alloc | apply IsS93.drewN | apply IsS93.drew | apply IsS93.set_1 | apply IsS93.set_2) | exact HI0.out)) hg (IsS93.own_ne HI0.out HO798.out (by decide))); have n1_ := Aside0.mk (below_weaken (by repeat (first | (with_reducible first | exact HB.out | apply ba_ | apply bn_ | apply bd_ | refine below_set ?_ (IsS93.ge HI0.out)) | exact HB.out)) HL.out hb); have n2_ := Aside0.mk (KeepBut.trans (by repeat (first | (with_reducible first | exact HK.out | apply KeepBut.set_ | apply keep_drewN | apply keep_drew | apply keep_alloc) | exact HK.out)) (KeepBut.of_grown hg g) (Kd.R_base2 HO798.out)); have HO810 := Aside0.mk (ho); clear HI0 HB HK HO798; have HI0 := n0_; have HB := n1_; have HK := n2_; clear n0_ n1_ n2_; clear ho hb hg hat))
   go_ret
   exact ⟨_, by first | rfl | (simp [errW_none, errW_some] <;> rfl) | (simp [*, errW_none, errW_some] <;> rfl), by (with_reducible repeat (first | apply Kd.R_alloc | apply Kd.R_drewN | apply Kd.R_drew)); exact HO810.out, by repeat (first | (with_reducible first | exact HI0.out | apply IsS93.alloc | apply IsS93.drewN | apply IsS93.drew | apply IsS93.set_1 | apply IsS93.set_2) | exact HI0.out), by repeat (first | (with_reducible first | exact HB.out | apply ba_ | apply bn_ | apply bd_ | refine below_set ?_ (IsS93.ge HI0.out)) | exact HB.out), by repeat (first | (with_reducible first | exact HK.out | apply KeepBut.set_ | apply keep_drewN | apply keep_drew | apply keep_alloc) | exact HK.out)⟩
  rw [if_neg c6] at H
  exact absurd H (by simp)
 rw [if_neg c4] at H
 have c4b0 : (t801 == 0) = false := beq_eq_false_iff_ne.mpr c4
 have c4b1 : (t801 != 0) = true := bne_iff_ne.mpr c4
 by_cases c11 : t801 = 1
 ·
  rw [if_pos c11] at H
  have c11b0 : (t801 == 1) = true := beq_iff_eq.mpr c11
  have c11b1 : (t801 != 1) = false := bne_eq_false_iff_eq.mpr c11
  clear c11
  by_cases c12 : t796.length < 8796093022208
  ·
   rw [if_pos c12] at H
   have LMc12 := Aside0.mk c12
   clear c12
   obtain ⟨y811, hy811⟩ : ∃ y_ : List (S25), y_ = (t796 ++ [(⟨(-1), 0⟩ : S25)]) := ⟨_, rfl⟩
   replace H : (some (y811, t802, t803)) = some (r1, r2, r3) := by first | (rw [hy811]; with_reducible exact H) | (have H2_ := (Option.bind_some _ _).symm.trans H; rw [hy811]; with_reducible exact H2_) | (have H2_ := (Option.bind_some _ _).symm.trans H; with_reducible exact H2_) | with_reducible exact H | (rw [hy811]; exact H) | exact H
   have Ny811 := Aside0.mk hy811
   clear hy811
   simp only [Option.some.injEq, Prod.mk.injEq] at H
   obtain ⟨rfl, rfl, rfl⟩ := H
   go_enter Try.func73, Try.ntmps73
   go_wp2_with (first | ((with_reducible refine gate_callee (f := 61) rfl ?_); refine goesL_ (some 5) rfl rfl Try.func61 (by kernel_rfl) rfl #[.pointer (some ⟨g, 0, none⟩)] rfl (by (try simp only [mp_]); first | done | rfl | (simp only [List.length_drop, List.length_take]; rfl)) ?_; (with_reducible refine (spec_l10Draw.calls k g s0_0 s0_1 s0_2 t796 t799 t800 w0 _ ?side1 ?side2 A2.out).mono ?_); (case side1 => repeat (first | (with_reducible first | exact HI0.out | apply IsS93.alloc | apply IsS93.drewN | apply IsS93.drew | apply IsS93.set_1 | apply IsS93.set_2) | exact HI0.out)); (case side2 => repeat (first | (with_reducible first | exact HB.out | apply ba_ | apply bn_ | apply bd_ | refine below_set ?_ (IsS93.ge HI0.out)) | exact HB.out)); rintro e w13 ⟨v797, rfl, ho0, hi, hb, hk⟩; refine ⟨_, rfl, ?_⟩; have HO798 := Aside0.mk (Kd.R_lower ho0 (keep_size (w := w) (g := g) (row := none) (by repeat (first | (with_reducible first | exact HK.out | apply KeepBut.set_ | apply keep_drewN | apply keep_drew | apply keep_alloc) | exact HK.out)))); have n1_ := Aside0.mk (KeepBut.trans (by repeat (first | (with_reducible first | exact HK.out | apply KeepBut.set_ | apply keep_drewN | apply keep_drew | apply keep_alloc) | exact HK.out)) hk (.inl rfl)); have n2_ := Aside0.mk (hb); have n3_ := Aside0.mk (hi); clear HK HB HI0; have HK := n1_; have HB := n2_; have HI0 := n3_; clear n1_ n2_ n3_; (try clear hb); (try clear hb2); (try clear hk); (try clear hi); (try clear ho0)) | ((with_reducible refine gate_callee (f := 74) rfl ?_); refine goesL_ (some 7) rfl rfl Try.func74 (by kernel_rfl) rfl #[.pointer (some ⟨g, 0, none⟩), .int .i64 8] rfl (by (try simp only [mp_]); first | done | rfl | (simp only [List.length_drop, List.length_take]; rfl)) ?_; (with_reducible refine (spec_l1Below.calls g s0_0 t799 t800 8 t801 t802 t803 w0 _ ?side1 ?side2 A3.out).mono ?_); (case side1 => repeat (first | (with_reducible first | exact HI0.out | apply IsS93.alloc | apply IsS93.drewN | apply IsS93.drew | apply IsS93.set_1 | apply IsS93.set_2) | exact HI0.out)); (case side2 => repeat (first | (with_reducible first | exact HB.out | apply ba_ | apply bn_ | apply bd_ | refine below_set ?_ (IsS93.ge HI0.out)) | exact HB.out)); rintro e w14 ⟨rfl, hi, hb, hk⟩; refine ⟨_, rfl, ?_⟩; have n0_ := Aside0.mk (Kd.R_mono (Kd.R_keep (IsS93.apart (show IsS93 w0 _ g s0_0 t799 t800 from by repeat (first | (with_reducible first | exact HI0.out | apply IsS93.alloc | apply IsS93.drewN | apply IsS93.drew | apply IsS93.set_1 | apply IsS93.set_2) | exact HI0.out)) (rp_ HO798.out) (by decide)) hk (fun _ h => h.2)) (fun _ h => h.1)); have n1_ := Aside0.mk (KeepBut.trans (by repeat (first | (with_reducible first | exact HK.out | apply KeepBut.set_ | apply keep_drewN | apply keep_drew | apply keep_alloc) | exact HK.out)) hk (.inl rfl)); have n2_ := Aside0.mk (hb); have n3_ := Aside0.mk (hi); clear HO798 HK HB HI0; have HO798 := n0_; have HK := n1_; have HB := n2_; have HI0 := n3_; clear n0_ n1_ n2_ n3_; (try clear hb); (try clear hb2); (try clear hk); (try clear hi)) | ((with_reducible refine gate_builtin (b := .append) (xs := #[.tmp 17, .tmp 19]) rfl ?_); at_builtin; refine Kd.R_append k25 w.heap.size rfl (.tmp 17) (.tmp 19) 31 25 (.agg #[(.int .i64 0), (.int .i64 0)]) 16 rfl Try.underlying31 info25 rfl (by decide) (by omega) v797 t796 (⟨(-1), 0⟩ : S25) [.int .i64 (-1), .int .i64 0] (fun _ => True) (fun _ => False) rfl rfl ?aP (fun _ hk => hk.elim) ?aF ?aO (Below.refl _ _) ?aS ?aL ?_; (case aP => exact k25_mkM _ _ _ (⟨(-1), 0⟩ : S25)); (case aF => exact (fun _ _ => trivial)); (case aO => exact (rp_ HO798.out)); (case aS => exact (keep_size (w := w) (g := g) (row := none) (by repeat (first | (with_reducible first | exact HK.out | apply KeepBut.set_ | apply keep_drewN | apply keep_drew | apply keep_alloc) | exact HK.out)))); (case aL => have := LMc12.out; omega); intro v812 w15 ho hb hg hat; rw [← Ny811.out] at ho; have n0_ := Aside0.mk (IsS93.grown (by repeat (first | (with_reducible first | exact HI0.out | apply IsS93.alloc | apply IsS93.drewN | apply IsS93.drew | apply IsS93.set_1 | apply IsS93.set_2) | exact HI0.out)) hg (IsS93.own_ne HI0.out HO798.out (by decide))); have n1_ := Aside0.mk (below_weaken (by repeat (first | (with_reducible first | exact HB.out | apply ba_ | apply bn_ | apply bd_ | refine below_set ?_ (IsS93.ge HI0.out)) | exact HB.out)) HL.out hb); have n2_ := Aside0.mk (KeepBut.trans (by repeat (first | (with_reducible first | exact HK.out | apply KeepBut.set_ | apply keep_drewN | apply keep_drew | apply keep_alloc) | exact HK.out)) (KeepBut.of_grown hg g) (Kd.R_base2 HO798.out)); have HO813 := Aside0.mk (ho); clear HI0 HB HK HO798; have HI0 := n0_; have HB := n1_; have HK := n2_; clear n0_ n1_ n2_; clear ho hb hg hat))
   go_ret
   exact ⟨_, by first | rfl | (simp [errW_none, errW_some] <;> rfl) | (simp [*, errW_none, errW_some] <;> rfl), by (with_reducible repeat (first | apply Kd.R_alloc | apply Kd.R_drewN | apply Kd.R_drew)); exact HO813.out, by repeat (first | (with_reducible first | exact HI0.out | apply IsS93.alloc | apply IsS93.drewN | apply IsS93.drew | apply IsS93.set_1 | apply IsS93.set_2) | exact HI0.out), by repeat (first | (with_reducible first | exact HB.out | apply ba_ | apply bn_ | apply bd_ | refine below_set ?_ (IsS93.ge HI0.out)) | exact HB.out), by repeat (first | (with_reducible first | exact HK.out | apply KeepBut.set_ | apply keep_drewN | apply keep_drew | apply keep_alloc) | exact HK.out)⟩
  rw [if_neg c12] at H
  exact absurd H (by simp)
 rw [if_neg c11] at H
 have c11b0 : (t801 == 1) = false := beq_eq_false_iff_ne.mpr c11
 have c11b1 : (t801 != 1) = true := bne_iff_ne.mpr c11
 by_cases c16 : t801 = 2
 ·
  rw [if_pos c16] at H
  have c16b0 : (t801 == 2) = true := beq_iff_eq.mpr c16
  have c16b1 : (t801 != 2) = false := bne_eq_false_iff_eq.mpr c16
  clear c16
  have H' := Aside0.mk H
  clear H
  go_enter Try.func73, Try.ntmps73
  go_wp2_with (first | ((with_reducible refine gate_callee (f := 61) rfl ?_); refine goesL_ (some 5) rfl rfl Try.func61 (by kernel_rfl) rfl #[.pointer (some ⟨g, 0, none⟩)] rfl (by (try simp only [mp_]); first | done | rfl | (simp only [List.length_drop, List.length_take]; rfl)) ?_; (with_reducible refine (spec_l10Draw.calls k g s0_0 s0_1 s0_2 t796 t799 t800 w0 _ ?side1 ?side2 A2.out).mono ?_); (case side1 => repeat (first | (with_reducible first | exact HI0.out | apply IsS93.alloc | apply IsS93.drewN | apply IsS93.drew | apply IsS93.set_1 | apply IsS93.set_2) | exact HI0.out)); (case side2 => repeat (first | (with_reducible first | exact HB.out | apply ba_ | apply bn_ | apply bd_ | refine below_set ?_ (IsS93.ge HI0.out)) | exact HB.out)); rintro e w17 ⟨v797, rfl, ho0, hi, hb, hk⟩; refine ⟨_, rfl, ?_⟩; have HO798 := Aside0.mk (Kd.R_lower ho0 (keep_size (w := w) (g := g) (row := none) (by repeat (first | (with_reducible first | exact HK.out | apply KeepBut.set_ | apply keep_drewN | apply keep_drew | apply keep_alloc) | exact HK.out)))); have n1_ := Aside0.mk (KeepBut.trans (by repeat (first | (with_reducible first | exact HK.out | apply KeepBut.set_ | apply keep_drewN | apply keep_drew | apply keep_alloc) | exact HK.out)) hk (.inl rfl)); have n2_ := Aside0.mk (hb); have n3_ := Aside0.mk (hi); clear HK HB HI0; have HK := n1_; have HB := n2_; have HI0 := n3_; clear n1_ n2_ n3_; (try clear hb); (try clear hb2); (try clear hk); (try clear hi); (try clear ho0)) | ((with_reducible refine gate_callee (f := 74) rfl ?_); refine goesL_ (some 7) rfl rfl Try.func74 (by kernel_rfl) rfl #[.pointer (some ⟨g, 0, none⟩), .int .i64 8] rfl (by (try simp only [mp_]); first | done | rfl | (simp only [List.length_drop, List.length_take]; rfl)) ?_; (with_reducible refine (spec_l1Below.calls g s0_0 t799 t800 8 t801 t802 t803 w0 _ ?side1 ?side2 A3.out).mono ?_); (case side1 => repeat (first | (with_reducible first | exact HI0.out | apply IsS93.alloc | apply IsS93.drewN | apply IsS93.drew | apply IsS93.set_1 | apply IsS93.set_2) | exact HI0.out)); (case side2 => repeat (first | (with_reducible first | exact HB.out | apply ba_ | apply bn_ | apply bd_ | refine below_set ?_ (IsS93.ge HI0.out)) | exact HB.out)); rintro e w18 ⟨rfl, hi, hb, hk⟩; refine ⟨_, rfl, ?_⟩; have n0_ := Aside0.mk (Kd.R_mono (Kd.R_keep (IsS93.apart (show IsS93 w0 _ g s0_0 t799 t800 from by repeat (first | (with_reducible first | exact HI0.out | apply IsS93.alloc | apply IsS93.drewN | apply IsS93.drew | apply IsS93.set_1 | apply IsS93.set_2) | exact HI0.out)) (rp_ HO798.out) (by decide)) hk (fun _ h => h.2)) (fun _ h => h.1)); have n1_ := Aside0.mk (KeepBut.trans (by repeat (first | (with_reducible first | exact HK.out | apply KeepBut.set_ | apply keep_drewN | apply keep_drew | apply keep_alloc) | exact HK.out)) hk (.inl rfl)); have n2_ := Aside0.mk (hb); have n3_ := Aside0.mk (hi); clear HO798 HK HB HI0; have HO798 := n0_; have HK := n1_; have HB := n2_; have HI0 := n3_; clear n0_ n1_ n2_ n3_; (try clear hb); (try clear hb2); (try clear hk); (try clear hi)))
  go_loopg [3] k (fun kq v3 w' => ∃ (x3_1 : List (S25)), Aside0 (spec_l10Any.l0 kq x3_1 s0_0 t802 t803 = some (r1, r2, r3)) ∧ Aside0 (kq ≤ k) ∧ Aside0 (Kd.R k25 25 w' w.heap.size (fun _ => True) v3 x3_1) ∧ Aside0 (IsS93 w0 w' g s0_0 t802 t803) ∧ Aside0 (KeepBut w w' g none) ∧ Aside0 (Below w0.heap.size w0 w'))
  case atStart => exact ⟨(t796), H', ⟨Nat.le_refl _⟩, ⟨by (with_reducible repeat (first | apply Kd.R_alloc | apply Kd.R_drewN | apply Kd.R_drew)); exact HO798.out⟩, ⟨by repeat (first | (with_reducible first | exact HI0.out | apply IsS93.alloc | apply IsS93.drewN | apply IsS93.drew | apply IsS93.set_1 | apply IsS93.set_2) | exact HI0.out)⟩, ⟨by repeat (first | (with_reducible first | exact HK.out | apply KeepBut.set_ | apply keep_drewN | apply keep_drew | apply keep_alloc) | exact HK.out)⟩, ⟨by repeat (first | (with_reducible first | exact HB.out | apply ba_ | apply bn_ | apply bd_ | refine below_set ?_ (IsS93.ge HI0.out)) | exact HB.out)⟩⟩
  case round =>
   clear H'
   try clear c1
   try clear p2
   try clear c4
   try clear c4b0
   try clear c4b1
   try clear c6
   try clear c7
   try clear c11
   try clear c11b0
   try clear c11b1
   try clear c12
   try clear c16
   try clear c16b0
   try clear c16b1
   obtain ⟨x3_1, HA, HK1, HO_3, HI0, HK, HB⟩ := hrel
   cases gk with
   | zero => exact absurd HA.out (by simp [spec_l10Any.l0])
   | succ k1 =>
    have H := HA.out
    clear HA
    simp only [spec_l10Any.l0] at H
    by_cases c19 : (x3_1.length : Int) < 17
    ·
     rw [if_pos c19] at H
     have c19b0 := decide_eq_true c19
     have c19b1 : decide (x3_1.length < 17) = true := decide_eq_true (by omega)
     clear c19
     by_cases c20 : x3_1.length < 8796093022208
     ·
      rw [if_pos c20] at H
      have LMc20 := Aside0.mk c20
      clear c20
      obtain ⟨y814, hy814⟩ : ∃ y_ : List (S25), y_ = (x3_1 ++ [(⟨20, 0⟩ : S25)]) := ⟨_, rfl⟩
      replace H : (spec_l10Any.l0 k1 y814 s0_0 t802 t803) = some (r1, r2, r3) := by first | (rw [hy814]; with_reducible exact H) | (have H2_ := (Option.bind_some _ _).symm.trans H; rw [hy814]; with_reducible exact H2_) | (have H2_ := (Option.bind_some _ _).symm.trans H; with_reducible exact H2_) | with_reducible exact H | (rw [hy814]; exact H) | exact H
      have Ny814 := Aside0.mk hy814
      clear hy814
      have H' := Aside0.mk H
      clear H
      obtain ⟨Ao21, co21, eo21⟩ := Kd.R_slice HO_3.out
      subst eo21
      go_wp2_with (first | ((with_reducible refine gate_builtin (b := .append) (xs := #[.tmp 26, .tmp 28]) rfl ?_); at_builtin; refine Kd.R_append k25 w.heap.size rfl (.tmp 26) (.tmp 28) 31 25 (.agg #[(.int .i64 0), (.int .i64 0)]) 16 rfl Try.underlying31 info25 rfl (by decide) (by omega) (.slice Ao21 x3_1.length co21) x3_1 (⟨20, 0⟩ : S25) [.int .i64 20, .int .i64 0] (fun _ => True) (fun _ => False) rfl rfl ?aP (fun _ hk => hk.elim) ?aF ?aO (Below.refl _ _) ?aS ?aL ?_; (case aP => exact k25_mkM _ _ _ (⟨20, 0⟩ : S25)); (case aF => exact (fun _ _ => trivial)); (case aO => exact (rp_ HO_3.out)); (case aS => exact (keep_size (w := w) (g := g) (row := none) (by repeat (first | (with_reducible first | exact HK.out | apply KeepBut.set_ | apply keep_drewN | apply keep_drew | apply keep_alloc) | exact HK.out)))); (case aL => have := LMc20.out; omega); intro v815 w22 ho hb hg hat; rw [← Ny814.out] at ho; have n0_ := Aside0.mk (IsS93.grown (by repeat (first | (with_reducible first | exact HI0.out | apply IsS93.alloc | apply IsS93.drewN | apply IsS93.drew | apply IsS93.set_1 | apply IsS93.set_2) | exact HI0.out)) hg (IsS93.own_ne HI0.out HO_3.out (by decide))); have n1_ := Aside0.mk (below_weaken (by repeat (first | (with_reducible first | exact HB.out | apply ba_ | apply bn_ | apply bd_ | refine below_set ?_ (IsS93.ge HI0.out)) | exact HB.out)) HL.out hb); have n2_ := Aside0.mk (KeepBut.trans (by repeat (first | (with_reducible first | exact HK.out | apply KeepBut.set_ | apply keep_drewN | apply keep_drew | apply keep_alloc) | exact HK.out)) (KeepBut.of_grown hg g) (Kd.R_base2 HO_3.out)); have HO816 := Aside0.mk (ho); clear HI0 HB HK HO_3; have HI0 := n0_; have HB := n1_; have HK := n2_; clear n0_ n1_ n2_; clear ho hb hg hat))
      go_roundg k1
      case measure => have := HK1.out; omega
      case rel => exact ⟨(y814), H', ⟨by have := HK1.out; omega⟩, ⟨by (with_reducible repeat (first | apply Kd.R_alloc | apply Kd.R_drewN | apply Kd.R_drew)); exact HO816.out⟩, ⟨by repeat (first | (with_reducible first | exact HI0.out | apply IsS93.alloc | apply IsS93.drewN | apply IsS93.drew | apply IsS93.set_1 | apply IsS93.set_2) | exact HI0.out)⟩, ⟨by repeat (first | (with_reducible first | exact HK.out | apply KeepBut.set_ | apply keep_drewN | apply keep_drew | apply keep_alloc) | exact HK.out)⟩, ⟨by repeat (first | (with_reducible first | exact HB.out | apply ba_ | apply bn_ | apply bd_ | refine below_set ?_ (IsS93.ge HI0.out)) | exact HB.out)⟩⟩
     rw [if_neg c20] at H
     exact absurd H (by simp)
    rw [if_neg c19] at H
    have c19b0 : decide ((x3_1.length : Int) < 17) = false := decide_eq_false c19
    have c19b1 : decide (x3_1.length < 17) = false := decide_eq_false (by omega)
    clear c19
    simp only [Option.some.injEq, Prod.mk.injEq] at H
    obtain ⟨rfl, rfl, rfl⟩ := H
    obtain ⟨Ao23, co23, eo23⟩ := Kd.R_slice HO_3.out
    subst eo23
    go_wp2
    go_ret
    exact ⟨_, by first | rfl | (simp [errW_none, errW_some] <;> rfl) | (simp [*, errW_none, errW_some] <;> rfl), by (with_reducible repeat (first | apply Kd.R_alloc | apply Kd.R_drewN | apply Kd.R_drew)); exact HO_3.out, by repeat (first | (with_reducible first | exact HI0.out | apply IsS93.alloc | apply IsS93.drewN | apply IsS93.drew | apply IsS93.set_1 | apply IsS93.set_2) | exact HI0.out), by repeat (first | (with_reducible first | exact HB.out | apply ba_ | apply bn_ | apply bd_ | refine below_set ?_ (IsS93.ge HI0.out)) | exact HB.out), by repeat (first | (with_reducible first | exact HK.out | apply KeepBut.set_ | apply keep_drewN | apply keep_drew | apply keep_alloc) | exact HK.out)⟩
 rw [if_neg c16] at H
 have c16b0 : (t801 == 2) = false := beq_eq_false_iff_ne.mpr c16
 have c16b1 : (t801 != 2) = true := bne_iff_ne.mpr c16
 simp only [Option.some.injEq, Prod.mk.injEq] at H
 obtain ⟨rfl, rfl, rfl⟩ := H
 go_enter Try.func73, Try.ntmps73
 go_wp2_with (first | ((with_reducible refine gate_callee (f := 61) rfl ?_); refine goesL_ (some 5) rfl rfl Try.func61 (by kernel_rfl) rfl #[.pointer (some ⟨g, 0, none⟩)] rfl (by (try simp only [mp_]); first | done | rfl | (simp only [List.length_drop, List.length_take]; rfl)) ?_; (with_reducible refine (spec_l10Draw.calls k g s0_0 s0_1 s0_2 t796 t799 t800 w0 _ ?side1 ?side2 A2.out).mono ?_); (case side1 => repeat (first | (with_reducible first | exact HI0.out | apply IsS93.alloc | apply IsS93.drewN | apply IsS93.drew | apply IsS93.set_1 | apply IsS93.set_2) | exact HI0.out)); (case side2 => repeat (first | (with_reducible first | exact HB.out | apply ba_ | apply bn_ | apply bd_ | refine below_set ?_ (IsS93.ge HI0.out)) | exact HB.out)); rintro e w24 ⟨v797, rfl, ho0, hi, hb, hk⟩; refine ⟨_, rfl, ?_⟩; have HO798 := Aside0.mk (Kd.R_lower ho0 (keep_size (w := w) (g := g) (row := none) (by repeat (first | (with_reducible first | exact HK.out | apply KeepBut.set_ | apply keep_drewN | apply keep_drew | apply keep_alloc) | exact HK.out)))); have n1_ := Aside0.mk (KeepBut.trans (by repeat (first | (with_reducible first | exact HK.out | apply KeepBut.set_ | apply keep_drewN | apply keep_drew | apply keep_alloc) | exact HK.out)) hk (.inl rfl)); have n2_ := Aside0.mk (hb); have n3_ := Aside0.mk (hi); clear HK HB HI0; have HK := n1_; have HB := n2_; have HI0 := n3_; clear n1_ n2_ n3_; (try clear hb); (try clear hb2); (try clear hk); (try clear hi); (try clear ho0)) | ((with_reducible refine gate_callee (f := 74) rfl ?_); refine goesL_ (some 7) rfl rfl Try.func74 (by kernel_rfl) rfl #[.pointer (some ⟨g, 0, none⟩), .int .i64 8] rfl (by (try simp only [mp_]); first | done | rfl | (simp only [List.length_drop, List.length_take]; rfl)) ?_; (with_reducible refine (spec_l1Below.calls g s0_0 t799 t800 8 t801 t802 t803 w0 _ ?side1 ?side2 A3.out).mono ?_); (case side1 => repeat (first | (with_reducible first | exact HI0.out | apply IsS93.alloc | apply IsS93.drewN | apply IsS93.drew | apply IsS93.set_1 | apply IsS93.set_2) | exact HI0.out)); (case side2 => repeat (first | (with_reducible first | exact HB.out | apply ba_ | apply bn_ | apply bd_ | refine below_set ?_ (IsS93.ge HI0.out)) | exact HB.out)); rintro e w25 ⟨rfl, hi, hb, hk⟩; refine ⟨_, rfl, ?_⟩; have n0_ := Aside0.mk (Kd.R_mono (Kd.R_keep (IsS93.apart (show IsS93 w0 _ g s0_0 t799 t800 from by repeat (first | (with_reducible first | exact HI0.out | apply IsS93.alloc | apply IsS93.drewN | apply IsS93.drew | apply IsS93.set_1 | apply IsS93.set_2) | exact HI0.out)) (rp_ HO798.out) (by decide)) hk (fun _ h => h.2)) (fun _ h => h.1)); have n1_ := Aside0.mk (KeepBut.trans (by repeat (first | (with_reducible first | exact HK.out | apply KeepBut.set_ | apply keep_drewN | apply keep_drew | apply keep_alloc) | exact HK.out)) hk (.inl rfl)); have n2_ := Aside0.mk (hb); have n3_ := Aside0.mk (hi); clear HO798 HK HB HI0; have HO798 := n0_; have HK := n1_; have HB := n2_; have HI0 := n3_; clear n0_ n1_ n2_ n3_; (try clear hb); (try clear hb2); (try clear hk); (try clear hi)))
 go_ret
 exact ⟨_, by first | rfl | (simp [errW_none, errW_some] <;> rfl) | (simp [*, errW_none, errW_some] <;> rfl), by (with_reducible repeat (first | apply Kd.R_alloc | apply Kd.R_drewN | apply Kd.R_drew)); exact HO798.out, by repeat (first | (with_reducible first | exact HI0.out | apply IsS93.alloc | apply IsS93.drewN | apply IsS93.drew | apply IsS93.set_1 | apply IsS93.set_2) | exact HI0.out), by repeat (first | (with_reducible first | exact HB.out | apply ba_ | apply bn_ | apply bd_ | refine below_set ?_ (IsS93.ge HI0.out)) | exact HB.out), by repeat (first | (with_reducible first | exact HK.out | apply KeepBut.set_ | apply keep_drewN | apply keep_drew | apply keep_alloc) | exact HK.out)⟩
def spec_DrawHeapPut.f (k : Nat) (l0 : List Int) : Option ((List (S25)) × Int × Int) := (spec_l1New.f k l0).bind fun bt818 => ((spec_l10Any.f k bt818.1 bt818.2.1 bt818.2.2).bind fun bt822 => ((spec_l10Timer.f bt818.1 bt822.2.1 bt822.2.2).bind fun bt827 => (some (bt822.1, bt827.1, bt827.2.1))))
theorem spec_DrawHeapPut.mono : ∀ a0 k, LeO (spec_DrawHeapPut.f k a0) (spec_DrawHeapPut.f (k + 1) a0) := by
 intro a0 k
 unfold spec_DrawHeapPut.f
 repeat' first
   | (with_reducible exact spec_l10Any.mono _ _ _ _)
   | (with_reducible exact spec_l1New.mono _ _)
   | (with_reducible exact LeO.refl _)
   | (with_reducible exact LeO.none _)
   | (with_reducible refine LeO.ite ?_ ?_)
   | (with_reducible refine LeO.bind ?_ (fun _ => ?_))
   | exact spec_l10Any.mono _ _ _ _
   | exact spec_l1New.mono _ _
theorem spec_DrawHeapPut.calls (k : Nat) (A0 : Option Addr) (c0 : Nat) (l0 : List Int) (r1 : List (S25)) (r2 : Int) (r3 : Int) (w : World) (hr0 : Kd.C (Kd.int .u8) w A0 l0.length l0) (hc0 : l0.length ≤ c0) (h : spec_DrawHeapPut.f k l0 = some (r1, r2, r3)) :
  Calls Try.prog 48 #[.slice A0 l0.length c0] w fun e w' => ∃ v0_ : Value, e = .returned (.tuple #[v0_, .agg #[.int .i64 r2, .int .i64 r3]]) ∧ Kd.R k25 25 w' w.heap.size (fun _ => True) v0_ r1 ∧ Below w.heap.size w w' := by
 have hu25 := Try.underlying25
 have HR0 := Aside0.mk hr0
 have HC0 := Aside0.mk hc0
 clear hr0 hc0
 have HB := Aside0.mk (Below.refl w.heap.size w)
 have H : ((spec_l1New.f k l0).bind fun bt818 => ((spec_l10Any.f k bt818.1 bt818.2.1 bt818.2.2).bind fun bt822 => ((spec_l10Timer.f bt818.1 bt822.2.1 bt822.2.2).bind fun bt827 => (some (bt822.1, bt827.1, bt827.2.1))))) = some (r1, r2, r3) := h
 clear h
 replace H := Option.bind_eq_some_iff.mp H
 obtain ⟨⟨t818, t819, t820⟩, A20, H⟩ := H
 have A2 := Aside0.mk A20
 clear A20
 replace H := Option.bind_eq_some_iff.mp H
 obtain ⟨⟨t822, t825, t826⟩, A30, H⟩ := H
 have A3 := Aside0.mk A30
 clear A30
 replace H := Option.bind_eq_some_iff.mp H
 obtain ⟨⟨t827, t828, t829, t830⟩, A40, H⟩ := H
 have A4 := Aside0.mk A40
 clear A40
 simp only [Option.some.injEq, Prod.mk.injEq] at H
 obtain ⟨rfl, rfl, rfl⟩ := H
 go_enter Try.func48, Try.ntmps48
 go_wp2_with (first | ((with_reducible refine gate_dst (N := 3) rfl ?_); refine box_event ?hg (N := 3) ?hd (cs := #[.int .i64 0, .int .i64 0]) (t := 25) ?hr ?_; (case hd => rfl); (case hg => rfl); (case hr => first | (go_simp; done) | (go_simp; rfl)); intro gb817 hg w5 hbox hb; have n0_ := Aside0.mk (below_step (by repeat (first | (with_reducible first | exact HB.out | apply ba_ | apply bn_ | apply bd_) | exact HB.out)) hb); have BK817 := Aside0.mk (hbox); have GW817 := Aside0.mk ((by rw [hg]; exact (below_size (by repeat (first | (with_reducible first | exact HB.out | apply ba_ | apply bn_ | apply bd_) | exact HB.out))) : w.heap.size ≤ gb817)); have GE817 := GW817; clear HB; have HB := n0_; clear n0_; clear hb hbox hg) | ((with_reducible refine gate_callee (f := 60) rfl ?_); refine goesL_ (some 7) rfl rfl Try.func60 (by kernel_rfl) rfl #[.slice A0 l0.length c0] rfl (by (try simp only [mp_]); first | done | rfl | (simp only [List.length_drop, List.length_take]; rfl)) ?_; (with_reducible refine (spec_l1New.calls k _ _ l0 t818 t819 t820 w _ ?side1 ?side2 ?side3 A2.out).mono ?_); (case side1 => repeat (first | (with_reducible first | exact HB.out | apply ba_ | apply bn_ | apply bd_ | refine below_set ?_ GE817.out) | exact HB.out)); (case side2 => exact HR0.out); (case side3 => exact HC0.out); rintro e w6 ⟨g821, rfl, hi, hb, hb2⟩; refine ⟨_, rfl, ?_⟩; have n0_ := Aside0.mk (bb_ BK817.out hb2); have n1_ := Aside0.mk (hb); have n2_ := Aside0.mk (hi); have n3_ := Aside0.mk (IsS93.ne_blk hi (bb_ BK817.out hb2) (by decide)); have n4_ := Aside0.mk (Ne.symm (IsS93.ne_blk hi (bb_ BK817.out hb2) (by decide))); clear BK817 HB; have BK817 := n0_; have HB := n1_; have HI821 := n2_; have NB821_817 := n3_; have NB817_821 := n4_; clear n0_ n1_ n2_ n3_ n4_; (try clear hb); (try clear hb2); (try clear hk); (try clear hi)) | ((with_reducible refine gate_callee (f := 73) rfl ?_); refine goesL_ (some 9) rfl rfl Try.func73 (by kernel_rfl) rfl #[.pointer (some ⟨g821, 0, none⟩)] rfl (by (try simp only [mp_]); first | done | rfl | (simp only [List.length_drop, List.length_take]; rfl)) ?_; (with_reducible refine (spec_l10Any.calls k g821 t818 t819 t820 t822 t825 t826 w _ ?side1 ?side2 A3.out).mono ?_); (case side1 => repeat (first | (with_reducible first | exact HI821.out | apply IsS93.alloc | apply IsS93.drewN | apply IsS93.drew | apply IsS93.set_1 | apply IsS93.set_2 | refine IsS93.far ?_ NB821_817.out _) | exact HI821.out)); (case side2 => repeat (first | (with_reducible first | exact HB.out | apply ba_ | apply bn_ | apply bd_ | refine below_set ?_ (IsS93.ge HI821.out) | refine below_set ?_ GE817.out) | exact HB.out)); rintro e w7 ⟨v823, rfl, ho0, hi, hb, hk⟩; refine ⟨_, rfl, ?_⟩; have n0_ := Aside0.mk (KeepBut.blk hk (g' := gb817) (o := .cells #[.int .i64 0, .int .i64 0] 25 (0, 0)) (pb_ BK817.out) NB817_821.out (by simp)); have n1_ := Aside0.mk (Kd.R_lower (Kd.R_newB ho0 (g := gb817) (o := .cells #[.int .i64 0, .int .i64 0] 25 (0, 0)) (pb_ BK817.out)) (below_size (by repeat (first | (with_reducible first | exact HB.out | apply ba_ | apply bn_ | apply bd_ | refine below_set ?_ (IsS93.ge HI821.out) | refine below_set ?_ GE817.out) | exact HB.out)))); have n2_ := Aside0.mk (hb); have n3_ := Aside0.mk (hi); clear BK817 HB HI821; have BK817 := n0_; have HO824 := n1_; have HB := n2_; have HI821 := n3_; clear n0_ n1_ n2_ n3_; (try clear hb); (try clear hb2); (try clear hk); (try clear hi); (try clear ho0)) | ((with_reducible refine gate_callee (f := 62) rfl ?_); refine goesL_ (some 12) rfl rfl Try.func62 (by kernel_rfl) rfl #[.pointer (some ⟨g821, 0, none⟩)] rfl (by (try simp only [mp_]); first | done | rfl | (simp only [List.length_drop, List.length_take]; rfl)) ?_; (with_reducible refine (spec_l10Timer.calls g821 t818 t825 t826 t827 t828 t829 t830 w _ ?side1 ?side2 A4.out).mono ?_); (case side1 => repeat (first | (with_reducible first | exact HI821.out | apply IsS93.alloc | apply IsS93.drewN | apply IsS93.drew | apply IsS93.set_1 | apply IsS93.set_2 | refine IsS93.far ?_ NB821_817.out _) | exact HI821.out)); (case side2 => repeat (first | (with_reducible first | exact HB.out | apply ba_ | apply bn_ | apply bd_ | refine below_set ?_ (IsS93.ge HI821.out) | refine below_set ?_ GE817.out) | exact HB.out)); rintro e w8 ⟨rfl, hi, hb, hk⟩; refine ⟨_, rfl, ?_⟩; have n0_ := Aside0.mk (KeepBut.blk hk (g' := gb817) (o := .cells #[.int .i64 0, .int .i64 0] 25 (0, 0)) (pb_ BK817.out) NB817_821.out (by simp)); have n1_ := Aside0.mk (Kd.R_mono (Kd.R_keep (IsS93.apart (show IsS93 w _ g821 t818 t825 t826 from by repeat (first | (with_reducible first | exact HI821.out | apply IsS93.alloc | apply IsS93.drewN | apply IsS93.drew | apply IsS93.set_1 | apply IsS93.set_2 | refine IsS93.far ?_ NB821_817.out _) | exact HI821.out)) (rp_ HO824.out) (by decide)) hk (fun _ h => h.2)) (fun _ h => h.1)); have n2_ := Aside0.mk (hb); have n3_ := Aside0.mk (hi); clear BK817 HO824 HB HI821; have BK817 := n0_; have HO824 := n1_; have HB := n2_; have HI821 := n3_; clear n0_ n1_ n2_ n3_; (try clear hb); (try clear hb2); (try clear hk); (try clear hi); have hnb9 := NB817_821.out; have hnc9 := NB821_817.out; obtain ⟨hcz10_0, hcz10_1, hfz10_0, hfz10_1⟩ := bc2_ BK817.out))
 refine bodyPost_ret (results_tc rfl _ _ gb817 25 #[.int .i64 t827, .int .i64 t828] (0, 0) _ rfl (by (with_reducible repeat (first | refine kn_ ?_ _ | refine kd_ ?_ | refine ka_ ?_ _)); refine blk_put (cs := #[.int .i64 t827, .int .i64 0]) ?_ 1 _ rfl; (with_reducible repeat (first | refine kn_ ?_ _ | refine kd_ ?_ | refine ka_ ?_ _)); refine blk_put (cs := #[.int .i64 0, .int .i64 0]) ?_ 0 _ rfl; (with_reducible repeat (first | refine kn_ ?_ _ | refine kd_ ?_ | refine ka_ ?_ _)); exact BK817.out) Try.underlying25 rfl (by kernel_rfl)) rfl ?_
 exact ⟨_, by first | rfl | (simp [errW_none, errW_some] <;> rfl) | (simp [*, errW_none, errW_some] <;> rfl), by (with_reducible repeat (first | apply Kd.R_alloc | apply Kd.R_drewN | apply Kd.R_drew)); exact Kd.R_mono (Kd.R_far (p := ⟨gb817, 1, none⟩) (Kd.R_far (p := ⟨gb817, 0, none⟩) (Kd.R_mono HO824.out (fun k_ hk => (⟨hk, hk.2⟩ : _ ∧ k_ ≠ gb817))) (fun _ hk => hk.2) (.int .i64 t827)) (fun _ hk => hk.2) (.int .i64 t828)) (fun _ hk => trivial), by repeat (first | (with_reducible first | exact HB.out | apply ba_ | apply bn_ | apply bd_ | refine below_set ?_ (IsS93.ge HI821.out) | refine below_set ?_ GE817.out) | exact HB.out)⟩
def spec_DrawHeapTake.f (k : Nat) (l0 : List Int) : Option ((List (S25))) := (spec_l1New.f k l0).bind fun bt831 => ((spec_l10Any.f k bt831.1 bt831.2.1 bt831.2.2).bind fun bt835 => (some bt835.1))
theorem spec_DrawHeapTake.mono : ∀ a0 k, LeO (spec_DrawHeapTake.f k a0) (spec_DrawHeapTake.f (k + 1) a0) := by
 intro a0 k
 unfold spec_DrawHeapTake.f
 repeat' first
   | (with_reducible exact spec_l10Any.mono _ _ _ _)
   | (with_reducible exact spec_l1New.mono _ _)
   | (with_reducible exact LeO.refl _)
   | (with_reducible exact LeO.none _)
   | (with_reducible refine LeO.ite ?_ ?_)
   | (with_reducible refine LeO.bind ?_ (fun _ => ?_))
   | exact spec_l10Any.mono _ _ _ _
   | exact spec_l1New.mono _ _
theorem spec_DrawHeapTake.calls (k : Nat) (A0 : Option Addr) (c0 : Nat) (l0 : List Int) (r : List (S25)) (w : World) (hr0 : Kd.C (Kd.int .u8) w A0 l0.length l0) (hc0 : l0.length ≤ c0) (h : spec_DrawHeapTake.f k l0 = some r) :
  Calls Try.prog 49 #[.slice A0 l0.length c0] w fun e w' => ∃ v0_ : Value, e = .returned (v0_) ∧ Kd.R k25 25 w' w.heap.size (fun _ => True) v0_ r ∧ Below w.heap.size w w' := by
 have HR0 := Aside0.mk hr0
 have HC0 := Aside0.mk hc0
 clear hr0 hc0
 have HB := Aside0.mk (Below.refl w.heap.size w)
 have H : ((spec_l1New.f k l0).bind fun bt831 => ((spec_l10Any.f k bt831.1 bt831.2.1 bt831.2.2).bind fun bt835 => (some bt835.1))) = some r := h
 clear h
 replace H := Option.bind_eq_some_iff.mp H
 obtain ⟨⟨t831, t832, t833⟩, A20, H⟩ := H
 have A2 := Aside0.mk A20
 clear A20
 replace H := Option.bind_eq_some_iff.mp H
 obtain ⟨⟨t835, t838, t839⟩, A30, H⟩ := H
 have A3 := Aside0.mk A30
 clear A30
 obtain rfl := Option.some.inj H
 go_enter Try.func49, Try.ntmps49
 go_wp2_with (first | ((with_reducible refine gate_callee (f := 60) rfl ?_); refine goesL_ (some 5) rfl rfl Try.func60 (by kernel_rfl) rfl #[.slice A0 l0.length c0] rfl (by (try simp only [mp_]); first | done | rfl | (simp only [List.length_drop, List.length_take]; rfl)) ?_; (with_reducible refine (spec_l1New.calls k _ _ l0 t831 t832 t833 w _ ?side1 ?side2 ?side3 A2.out).mono ?_); (case side1 => repeat (first | (with_reducible first | exact HB.out | apply ba_ | apply bn_ | apply bd_) | exact HB.out)); (case side2 => exact HR0.out); (case side3 => exact HC0.out); rintro e w4 ⟨g834, rfl, hi, hb, hb2⟩; refine ⟨_, rfl, ?_⟩; have n0_ := Aside0.mk (hb); have HI834 := Aside0.mk (hi); clear HB; have HB := n0_; clear n0_; (try clear hb); (try clear hb2); (try clear hk); (try clear hi)) | ((with_reducible refine gate_callee (f := 73) rfl ?_); refine goesL_ (some 7) rfl rfl Try.func73 (by kernel_rfl) rfl #[.pointer (some ⟨g834, 0, none⟩)] rfl (by (try simp only [mp_]); first | done | rfl | (simp only [List.length_drop, List.length_take]; rfl)) ?_; (with_reducible refine (spec_l10Any.calls k g834 t831 t832 t833 t835 t838 t839 w _ ?side1 ?side2 A3.out).mono ?_); (case side1 => repeat (first | (with_reducible first | exact HI834.out | apply IsS93.alloc | apply IsS93.drewN | apply IsS93.drew | apply IsS93.set_1 | apply IsS93.set_2) | exact HI834.out)); (case side2 => repeat (first | (with_reducible first | exact HB.out | apply ba_ | apply bn_ | apply bd_ | refine below_set ?_ (IsS93.ge HI834.out)) | exact HB.out)); rintro e w5 ⟨v836, rfl, ho0, hi, hb, hk⟩; refine ⟨_, rfl, ?_⟩; have HO837 := Aside0.mk (Kd.R_lower ho0 (below_size (by repeat (first | (with_reducible first | exact HB.out | apply ba_ | apply bn_ | apply bd_ | refine below_set ?_ (IsS93.ge HI834.out)) | exact HB.out)))); have n1_ := Aside0.mk (hb); have n2_ := Aside0.mk (hi); clear HB HI834; have HB := n1_; have HI834 := n2_; clear n1_ n2_; (try clear hb); (try clear hb2); (try clear hk); (try clear hi); (try clear ho0)))
 go_ret
 exact ⟨_, by first | rfl | (simp [errW_none, errW_some] <;> rfl) | (simp [*, errW_none, errW_some] <;> rfl), by (with_reducible repeat (first | apply Kd.R_alloc | apply Kd.R_drewN | apply Kd.R_drew)); exact HO837.out, by repeat (first | (with_reducible first | exact HB.out | apply ba_ | apply bn_ | apply bd_ | refine below_set ?_ (IsS93.ge HI834.out)) | exact HB.out)⟩
def spec_DrawHeapDrop.f (k : Nat) (l0 : List Int) : Option ((List (S25)) × Int) := (spec_l1New.f k l0).bind fun bt840 => ((spec_l10Any.f k bt840.1 bt840.2.1 bt840.2.2).bind fun bt844 => ((spec_l1Below.f bt840.1 bt844.2.1 bt844.2.2 9).bind fun bt849 => (some (bt844.1, bt849.1))))
theorem spec_DrawHeapDrop.mono : ∀ a0 k, LeO (spec_DrawHeapDrop.f k a0) (spec_DrawHeapDrop.f (k + 1) a0) := by
 intro a0 k
 unfold spec_DrawHeapDrop.f
 repeat' first
   | (with_reducible exact spec_l10Any.mono _ _ _ _)
   | (with_reducible exact spec_l1New.mono _ _)
   | (with_reducible exact LeO.refl _)
   | (with_reducible exact LeO.none _)
   | (with_reducible refine LeO.ite ?_ ?_)
   | (with_reducible refine LeO.bind ?_ (fun _ => ?_))
   | exact spec_l10Any.mono _ _ _ _
   | exact spec_l1New.mono _ _
theorem spec_DrawHeapDrop.calls (k : Nat) (A0 : Option Addr) (c0 : Nat) (l0 : List Int) (r1 : List (S25)) (r2 : Int) (w : World) (hr0 : Kd.C (Kd.int .u8) w A0 l0.length l0) (hc0 : l0.length ≤ c0) (h : spec_DrawHeapDrop.f k l0 = some (r1, r2)) :
  Calls Try.prog 50 #[.slice A0 l0.length c0] w fun e w' => ∃ v0_ : Value, e = .returned (.tuple #[v0_, .int .i64 r2]) ∧ Kd.R k25 25 w' w.heap.size (fun _ => True) v0_ r1 ∧ Below w.heap.size w w' := by
 have HR0 := Aside0.mk hr0
 have HC0 := Aside0.mk hc0
 clear hr0 hc0
 have HB := Aside0.mk (Below.refl w.heap.size w)
 have H : ((spec_l1New.f k l0).bind fun bt840 => ((spec_l10Any.f k bt840.1 bt840.2.1 bt840.2.2).bind fun bt844 => ((spec_l1Below.f bt840.1 bt844.2.1 bt844.2.2 9).bind fun bt849 => (some (bt844.1, bt849.1))))) = some (r1, r2) := h
 clear h
 replace H := Option.bind_eq_some_iff.mp H
 obtain ⟨⟨t840, t841, t842⟩, A20, H⟩ := H
 have A2 := Aside0.mk A20
 clear A20
 replace H := Option.bind_eq_some_iff.mp H
 obtain ⟨⟨t844, t847, t848⟩, A30, H⟩ := H
 have A3 := Aside0.mk A30
 clear A30
 replace H := Option.bind_eq_some_iff.mp H
 obtain ⟨⟨t849, t850, t851⟩, A40, H⟩ := H
 have A4 := Aside0.mk A40
 clear A40
 simp only [Option.some.injEq, Prod.mk.injEq] at H
 obtain ⟨rfl, rfl⟩ := H
 go_enter Try.func50, Try.ntmps50
 go_wp2_with (first | ((with_reducible refine gate_callee (f := 60) rfl ?_); refine goesL_ (some 7) rfl rfl Try.func60 (by kernel_rfl) rfl #[.slice A0 l0.length c0] rfl (by (try simp only [mp_]); first | done | rfl | (simp only [List.length_drop, List.length_take]; rfl)) ?_; (with_reducible refine (spec_l1New.calls k _ _ l0 t840 t841 t842 w _ ?side1 ?side2 ?side3 A2.out).mono ?_); (case side1 => repeat (first | (with_reducible first | exact HB.out | apply ba_ | apply bn_ | apply bd_) | exact HB.out)); (case side2 => exact HR0.out); (case side3 => exact HC0.out); rintro e w5 ⟨g843, rfl, hi, hb, hb2⟩; refine ⟨_, rfl, ?_⟩; have n0_ := Aside0.mk (hb); have HI843 := Aside0.mk (hi); clear HB; have HB := n0_; clear n0_; (try clear hb); (try clear hb2); (try clear hk); (try clear hi)) | ((with_reducible refine gate_callee (f := 73) rfl ?_); refine goesL_ (some 9) rfl rfl Try.func73 (by kernel_rfl) rfl #[.pointer (some ⟨g843, 0, none⟩)] rfl (by (try simp only [mp_]); first | done | rfl | (simp only [List.length_drop, List.length_take]; rfl)) ?_; (with_reducible refine (spec_l10Any.calls k g843 t840 t841 t842 t844 t847 t848 w _ ?side1 ?side2 A3.out).mono ?_); (case side1 => repeat (first | (with_reducible first | exact HI843.out | apply IsS93.alloc | apply IsS93.drewN | apply IsS93.drew | apply IsS93.set_1 | apply IsS93.set_2) | exact HI843.out)); (case side2 => repeat (first | (with_reducible first | exact HB.out | apply ba_ | apply bn_ | apply bd_ | refine below_set ?_ (IsS93.ge HI843.out)) | exact HB.out)); rintro e w6 ⟨v845, rfl, ho0, hi, hb, hk⟩; refine ⟨_, rfl, ?_⟩; have HO846 := Aside0.mk (Kd.R_lower ho0 (below_size (by repeat (first | (with_reducible first | exact HB.out | apply ba_ | apply bn_ | apply bd_ | refine below_set ?_ (IsS93.ge HI843.out)) | exact HB.out)))); have n1_ := Aside0.mk (hb); have n2_ := Aside0.mk (hi); clear HB HI843; have HB := n1_; have HI843 := n2_; clear n1_ n2_; (try clear hb); (try clear hb2); (try clear hk); (try clear hi); (try clear ho0)) | ((with_reducible refine gate_callee (f := 74) rfl ?_); refine goesL_ (some 12) rfl rfl Try.func74 (by kernel_rfl) rfl #[.pointer (some ⟨g843, 0, none⟩), .int .i64 9] rfl (by (try simp only [mp_]); first | done | rfl | (simp only [List.length_drop, List.length_take]; rfl)) ?_; (with_reducible refine (spec_l1Below.calls g843 t840 t847 t848 9 t849 t850 t851 w _ ?side1 ?side2 A4.out).mono ?_); (case side1 => repeat (first | (with_reducible first | exact HI843.out | apply IsS93.alloc | apply IsS93.drewN | apply IsS93.drew | apply IsS93.set_1 | apply IsS93.set_2) | exact HI843.out)); (case side2 => repeat (first | (with_reducible first | exact HB.out | apply ba_ | apply bn_ | apply bd_ | refine below_set ?_ (IsS93.ge HI843.out)) | exact HB.out)); rintro e w7 ⟨rfl, hi, hb, hk⟩; refine ⟨_, rfl, ?_⟩; have n0_ := Aside0.mk (Kd.R_mono (Kd.R_keep (IsS93.apart (show IsS93 w _ g843 t840 t847 t848 from by repeat (first | (with_reducible first | exact HI843.out | apply IsS93.alloc | apply IsS93.drewN | apply IsS93.drew | apply IsS93.set_1 | apply IsS93.set_2) | exact HI843.out)) (rp_ HO846.out) (by decide)) hk (fun _ h => h.2)) (fun _ h => h.1)); have n1_ := Aside0.mk (hb); have n2_ := Aside0.mk (hi); clear HO846 HB HI843; have HO846 := n0_; have HB := n1_; have HI843 := n2_; clear n0_ n1_ n2_; (try clear hb); (try clear hb2); (try clear hk); (try clear hi)))
 go_ret2
 exact ⟨_, by first | rfl | (simp [errW_none, errW_some] <;> rfl) | (simp [*, errW_none, errW_some] <;> rfl), by (with_reducible repeat (first | apply Kd.R_alloc | apply Kd.R_drewN | apply Kd.R_drew)); exact HO846.out, by repeat (first | (with_reducible first | exact HB.out | apply ba_ | apply bn_ | apply bd_ | refine below_set ?_ (IsS93.ge HI843.out)) | exact HB.out)⟩
def spec_DrawHeapOk.f (k : Nat) (l0 : List Int) : Option ((List (S25))) := (spec_l1New.f k l0).bind fun bt852 => ((spec_l10Any.f k bt852.1 bt852.2.1 bt852.2.2).bind fun bt856 => (some bt856.1))
theorem spec_DrawHeapOk.mono : ∀ a0 k, LeO (spec_DrawHeapOk.f k a0) (spec_DrawHeapOk.f (k + 1) a0) := by
 intro a0 k
 unfold spec_DrawHeapOk.f
 repeat' first
   | (with_reducible exact spec_l10Any.mono _ _ _ _)
   | (with_reducible exact spec_l1New.mono _ _)
   | (with_reducible exact LeO.refl _)
   | (with_reducible exact LeO.none _)
   | (with_reducible refine LeO.ite ?_ ?_)
   | (with_reducible refine LeO.bind ?_ (fun _ => ?_))
   | exact spec_l10Any.mono _ _ _ _
   | exact spec_l1New.mono _ _
theorem spec_DrawHeapOk.calls (k : Nat) (A0 : Option Addr) (c0 : Nat) (l0 : List Int) (r : List (S25)) (w : World) (hr0 : Kd.C (Kd.int .u8) w A0 l0.length l0) (hc0 : l0.length ≤ c0) (h : spec_DrawHeapOk.f k l0 = some r) :
  Calls Try.prog 51 #[.slice A0 l0.length c0] w fun e w' => ∃ v0_ : Value, e = .returned (v0_) ∧ Kd.R k25 25 w' w.heap.size (fun _ => True) v0_ r ∧ Below w.heap.size w w' := by
 have HR0 := Aside0.mk hr0
 have HC0 := Aside0.mk hc0
 clear hr0 hc0
 have HB := Aside0.mk (Below.refl w.heap.size w)
 have H : ((spec_l1New.f k l0).bind fun bt852 => ((spec_l10Any.f k bt852.1 bt852.2.1 bt852.2.2).bind fun bt856 => (some bt856.1))) = some r := h
 clear h
 replace H := Option.bind_eq_some_iff.mp H
 obtain ⟨⟨t852, t853, t854⟩, A20, H⟩ := H
 have A2 := Aside0.mk A20
 clear A20
 replace H := Option.bind_eq_some_iff.mp H
 obtain ⟨⟨t856, t859, t860⟩, A30, H⟩ := H
 have A3 := Aside0.mk A30
 clear A30
 obtain rfl := Option.some.inj H
 go_enter Try.func51, Try.ntmps51
 go_wp2_with (first | ((with_reducible refine gate_callee (f := 60) rfl ?_); refine goesL_ (some 5) rfl rfl Try.func60 (by kernel_rfl) rfl #[.slice A0 l0.length c0] rfl (by (try simp only [mp_]); first | done | rfl | (simp only [List.length_drop, List.length_take]; rfl)) ?_; (with_reducible refine (spec_l1New.calls k _ _ l0 t852 t853 t854 w _ ?side1 ?side2 ?side3 A2.out).mono ?_); (case side1 => repeat (first | (with_reducible first | exact HB.out | apply ba_ | apply bn_ | apply bd_) | exact HB.out)); (case side2 => exact HR0.out); (case side3 => exact HC0.out); rintro e w4 ⟨g855, rfl, hi, hb, hb2⟩; refine ⟨_, rfl, ?_⟩; have n0_ := Aside0.mk (hb); have HI855 := Aside0.mk (hi); clear HB; have HB := n0_; clear n0_; (try clear hb); (try clear hb2); (try clear hk); (try clear hi)) | ((with_reducible refine gate_callee (f := 73) rfl ?_); refine goesL_ (some 7) rfl rfl Try.func73 (by kernel_rfl) rfl #[.pointer (some ⟨g855, 0, none⟩)] rfl (by (try simp only [mp_]); first | done | rfl | (simp only [List.length_drop, List.length_take]; rfl)) ?_; (with_reducible refine (spec_l10Any.calls k g855 t852 t853 t854 t856 t859 t860 w _ ?side1 ?side2 A3.out).mono ?_); (case side1 => repeat (first | (with_reducible first | exact HI855.out | apply IsS93.alloc | apply IsS93.drewN | apply IsS93.drew | apply IsS93.set_1 | apply IsS93.set_2) | exact HI855.out)); (case side2 => repeat (first | (with_reducible first | exact HB.out | apply ba_ | apply bn_ | apply bd_ | refine below_set ?_ (IsS93.ge HI855.out)) | exact HB.out)); rintro e w5 ⟨v857, rfl, ho0, hi, hb, hk⟩; refine ⟨_, rfl, ?_⟩; have HO858 := Aside0.mk (Kd.R_lower ho0 (below_size (by repeat (first | (with_reducible first | exact HB.out | apply ba_ | apply bn_ | apply bd_ | refine below_set ?_ (IsS93.ge HI855.out)) | exact HB.out)))); have n1_ := Aside0.mk (hb); have n2_ := Aside0.mk (hi); clear HB HI855; have HB := n1_; have HI855 := n2_; clear n1_ n2_; (try clear hb); (try clear hb2); (try clear hk); (try clear hi); (try clear ho0)))
 go_ret
 exact ⟨_, by first | rfl | (simp [errW_none, errW_some] <;> rfl) | (simp [*, errW_none, errW_some] <;> rfl), by (with_reducible repeat (first | apply Kd.R_alloc | apply Kd.R_drewN | apply Kd.R_drew)); exact HO858.out, by repeat (first | (with_reducible first | exact HB.out | apply ba_ | apply bn_ | apply bd_ | refine below_set ?_ (IsS93.ge HI855.out)) | exact HB.out)⟩
def spec_DrawSorted.f (k : Nat) (l0 : List Int) : Option ((List (S25))) := (spec_l1New.f k l0).bind fun bt861 => ((spec_l10Any.f k bt861.1 bt861.2.1 bt861.2.2).bind fun bt865 => (some bt865.1))
theorem spec_DrawSorted.mono : ∀ a0 k, LeO (spec_DrawSorted.f k a0) (spec_DrawSorted.f (k + 1) a0) := by
 intro a0 k
 unfold spec_DrawSorted.f
 repeat' first
   | (with_reducible exact spec_l10Any.mono _ _ _ _)
   | (with_reducible exact spec_l1New.mono _ _)
   | (with_reducible exact LeO.refl _)
   | (with_reducible exact LeO.none _)
   | (with_reducible refine LeO.ite ?_ ?_)
   | (with_reducible refine LeO.bind ?_ (fun _ => ?_))
   | exact spec_l10Any.mono _ _ _ _
   | exact spec_l1New.mono _ _
theorem spec_DrawSorted.calls (k : Nat) (A0 : Option Addr) (c0 : Nat) (l0 : List Int) (r : List (S25)) (w : World) (hr0 : Kd.C (Kd.int .u8) w A0 l0.length l0) (hc0 : l0.length ≤ c0) (h : spec_DrawSorted.f k l0 = some r) :
  Calls Try.prog 52 #[.slice A0 l0.length c0] w fun e w' => ∃ v0_ : Value, e = .returned (v0_) ∧ Kd.R k25 25 w' w.heap.size (fun _ => True) v0_ r ∧ Below w.heap.size w w' := by
 have HR0 := Aside0.mk hr0
 have HC0 := Aside0.mk hc0
 clear hr0 hc0
 have HB := Aside0.mk (Below.refl w.heap.size w)
 have H : ((spec_l1New.f k l0).bind fun bt861 => ((spec_l10Any.f k bt861.1 bt861.2.1 bt861.2.2).bind fun bt865 => (some bt865.1))) = some r := h
 clear h
 replace H := Option.bind_eq_some_iff.mp H
 obtain ⟨⟨t861, t862, t863⟩, A20, H⟩ := H
 have A2 := Aside0.mk A20
 clear A20
 replace H := Option.bind_eq_some_iff.mp H
 obtain ⟨⟨t865, t868, t869⟩, A30, H⟩ := H
 have A3 := Aside0.mk A30
 clear A30
 obtain rfl := Option.some.inj H
 go_enter Try.func52, Try.ntmps52
 go_wp2_with (first | ((with_reducible refine gate_callee (f := 60) rfl ?_); refine goesL_ (some 5) rfl rfl Try.func60 (by kernel_rfl) rfl #[.slice A0 l0.length c0] rfl (by (try simp only [mp_]); first | done | rfl | (simp only [List.length_drop, List.length_take]; rfl)) ?_; (with_reducible refine (spec_l1New.calls k _ _ l0 t861 t862 t863 w _ ?side1 ?side2 ?side3 A2.out).mono ?_); (case side1 => repeat (first | (with_reducible first | exact HB.out | apply ba_ | apply bn_ | apply bd_) | exact HB.out)); (case side2 => exact HR0.out); (case side3 => exact HC0.out); rintro e w4 ⟨g864, rfl, hi, hb, hb2⟩; refine ⟨_, rfl, ?_⟩; have n0_ := Aside0.mk (hb); have HI864 := Aside0.mk (hi); clear HB; have HB := n0_; clear n0_; (try clear hb); (try clear hb2); (try clear hk); (try clear hi)) | ((with_reducible refine gate_callee (f := 73) rfl ?_); refine goesL_ (some 7) rfl rfl Try.func73 (by kernel_rfl) rfl #[.pointer (some ⟨g864, 0, none⟩)] rfl (by (try simp only [mp_]); first | done | rfl | (simp only [List.length_drop, List.length_take]; rfl)) ?_; (with_reducible refine (spec_l10Any.calls k g864 t861 t862 t863 t865 t868 t869 w _ ?side1 ?side2 A3.out).mono ?_); (case side1 => repeat (first | (with_reducible first | exact HI864.out | apply IsS93.alloc | apply IsS93.drewN | apply IsS93.drew | apply IsS93.set_1 | apply IsS93.set_2) | exact HI864.out)); (case side2 => repeat (first | (with_reducible first | exact HB.out | apply ba_ | apply bn_ | apply bd_ | refine below_set ?_ (IsS93.ge HI864.out)) | exact HB.out)); rintro e w5 ⟨v866, rfl, ho0, hi, hb, hk⟩; refine ⟨_, rfl, ?_⟩; have HO867 := Aside0.mk (Kd.R_lower ho0 (below_size (by repeat (first | (with_reducible first | exact HB.out | apply ba_ | apply bn_ | apply bd_ | refine below_set ?_ (IsS93.ge HI864.out)) | exact HB.out)))); have n1_ := Aside0.mk (hb); have n2_ := Aside0.mk (hi); clear HB HI864; have HB := n1_; have HI864 := n2_; clear n1_ n2_; (try clear hb); (try clear hb2); (try clear hk); (try clear hi); (try clear ho0)))
 go_ret
 exact ⟨_, by first | rfl | (simp [errW_none, errW_some] <;> rfl) | (simp [*, errW_none, errW_some] <;> rfl), by (with_reducible repeat (first | apply Kd.R_alloc | apply Kd.R_drewN | apply Kd.R_drew)); exact HO867.out, by repeat (first | (with_reducible first | exact HB.out | apply ba_ | apply bn_ | apply bd_ | refine below_set ?_ (IsS93.ge HI864.out)) | exact HB.out)⟩
def spec_l1Once.f (s0_0 : List Int) (s0_1 : Int) (s0_2 : Int) (a1 : Int) : Option (Bool × Int × Int) := (spec_l1Below.f s0_0 s0_1 s0_2 a1).bind fun bt870 => (some ((bt870.1 == 0), bt870.2.1, bt870.2.2))
theorem spec_l1Once.calls (g : Nat) (s0_0 : List Int) (s0_1 : Int) (s0_2 : Int) (a1 : Int) (r1 : Bool) (r2 : Int) (r3 : Int) (w0 w : World) (hI : IsS93 w0 w g s0_0 s0_1 s0_2) (hB : Below w0.heap.size w0 w) (h : spec_l1Once.f s0_0 s0_1 s0_2 a1 = some (r1, r2, r3)) :
  Calls Try.prog 75 #[.pointer (some ⟨g, 0, none⟩), .int .i64 a1] w fun e w' => e = .returned (.bool r1) ∧ IsS93 w0 w' g s0_0 r2 r3 ∧ Below w0.heap.size w0 w' ∧ KeepBut w w' g none := by
 have HI0 := Aside0.mk hI
 have HK := Aside0.mk (KeepBut.refl w g none)
 have HL := Aside0.mk hB.size
 clear hI
 have HW0 := Aside0.mk hB.size
 have HB := Aside0.mk hB
 clear hB
 have H : ((spec_l1Below.f s0_0 s0_1 s0_2 a1).bind fun bt870 => (some ((bt870.1 == 0), bt870.2.1, bt870.2.2))) = some (r1, r2, r3) := h
 clear h
 replace H := Option.bind_eq_some_iff.mp H
 obtain ⟨⟨t870, t871, t872⟩, A30, H⟩ := H
 have A3 := Aside0.mk A30
 clear A30
 simp only [Option.some.injEq, Prod.mk.injEq] at H
 obtain ⟨rfl, rfl, rfl⟩ := H
 go_enter Try.func75, Try.ntmps75
 go_wp2_with (first | ((with_reducible refine gate_callee (f := 74) rfl ?_); refine goesL_ (some 7) rfl rfl Try.func74 (by kernel_rfl) rfl #[.pointer (some ⟨g, 0, none⟩), .int .i64 a1] rfl (by (try simp only [mp_]); first | done | rfl | (simp only [List.length_drop, List.length_take]; rfl)) ?_; (with_reducible refine (spec_l1Below.calls g s0_0 s0_1 s0_2 a1 t870 t871 t872 w0 _ ?side1 ?side2 A3.out).mono ?_); (case side1 => repeat (first | (with_reducible first | exact HI0.out | apply IsS93.alloc | apply IsS93.drewN | apply IsS93.drew | apply IsS93.set_1 | apply IsS93.set_2) | exact HI0.out)); (case side2 => repeat (first | (with_reducible first | exact HB.out | apply ba_ | apply bn_ | apply bd_ | refine below_set ?_ (IsS93.ge HI0.out)) | exact HB.out)); rintro e w4 ⟨rfl, hi, hb, hk⟩; refine ⟨_, rfl, ?_⟩; have n0_ := Aside0.mk (KeepBut.trans (by repeat (first | (with_reducible first | exact HK.out | apply KeepBut.set_ | apply keep_drewN | apply keep_drew | apply keep_alloc) | exact HK.out)) hk (.inl rfl)); have n1_ := Aside0.mk (hb); have n2_ := Aside0.mk (hi); clear HK HB HI0; have HK := n0_; have HB := n1_; have HI0 := n2_; clear n0_ n1_ n2_; (try clear hb); (try clear hb2); (try clear hk); (try clear hi)))
 go_ret
 exact ⟨by first | rfl | (simp [errW_none, errW_some] <;> rfl) | (simp [*, errW_none, errW_some] <;> rfl), by repeat (first | (with_reducible first | exact HI0.out | apply IsS93.alloc | apply IsS93.drewN | apply IsS93.drew | apply IsS93.set_1 | apply IsS93.set_2) | exact HI0.out), by repeat (first | (with_reducible first | exact HB.out | apply ba_ | apply bn_ | apply bd_ | refine below_set ?_ (IsS93.ge HI0.out)) | exact HB.out), by repeat (first | (with_reducible first | exact HK.out | apply KeepBut.set_ | apply keep_drewN | apply keep_drew | apply keep_alloc) | exact HK.out)⟩
def spec_DrawBefore.f (k : Nat) (l0 : List Int) : Option (Int × Int × Int × Int) := (spec_l1New.f k l0).bind fun bt875 => ((spec_l10Timer.f bt875.1 bt875.2.1 bt875.2.2).bind fun bt879 => ((spec_l10Timer.f bt875.1 bt879.2.2.1 bt879.2.2.2).bind fun bt884 => ((spec_l1Once.f bt875.1 bt884.2.2.1 bt884.2.2.2 2).bind fun bt889 => (if bt889.1 = true then (some (bt879.1, bt879.2.1, bt879.1, bt884.2.1)) else (some (bt879.1, bt879.2.1, bt884.1, bt884.2.1))))))
theorem spec_DrawBefore.mono : ∀ a0 k, LeO (spec_DrawBefore.f k a0) (spec_DrawBefore.f (k + 1) a0) := by
 intro a0 k
 unfold spec_DrawBefore.f
 repeat' first
   | (with_reducible exact spec_l1New.mono _ _)
   | (with_reducible exact LeO.refl _)
   | (with_reducible exact LeO.none _)
   | (with_reducible refine LeO.ite ?_ ?_)
   | (with_reducible refine LeO.bind ?_ (fun _ => ?_))
   | exact spec_l1New.mono _ _
theorem spec_DrawBefore.calls (k : Nat) (A0 : Option Addr) (c0 : Nat) (l0 : List Int) (r1 : Int) (r2 : Int) (r3 : Int) (r4 : Int) (w : World) (hr0 : Kd.C (Kd.int .u8) w A0 l0.length l0) (hc0 : l0.length ≤ c0) (h : spec_DrawBefore.f k l0 = some (r1, r2, r3, r4)) :
  Calls Try.prog 53 #[.slice A0 l0.length c0] w fun e w' => e = .returned (.tuple #[.agg #[.int .i64 r1, .int .i64 r2], .agg #[.int .i64 r3, .int .i64 r4]]) ∧ Below w.heap.size w w' := by
 have hu25 := Try.underlying25
 have HR0 := Aside0.mk hr0
 have HC0 := Aside0.mk hc0
 clear hr0 hc0
 have HB := Aside0.mk (Below.refl w.heap.size w)
 have H : ((spec_l1New.f k l0).bind fun bt875 => ((spec_l10Timer.f bt875.1 bt875.2.1 bt875.2.2).bind fun bt879 => ((spec_l10Timer.f bt875.1 bt879.2.2.1 bt879.2.2.2).bind fun bt884 => ((spec_l1Once.f bt875.1 bt884.2.2.1 bt884.2.2.2 2).bind fun bt889 => (if bt889.1 = true then (some (bt879.1, bt879.2.1, bt879.1, bt884.2.1)) else (some (bt879.1, bt879.2.1, bt884.1, bt884.2.1))))))) = some (r1, r2, r3, r4) := h
 clear h
 replace H := Option.bind_eq_some_iff.mp H
 obtain ⟨⟨t875, t876, t877⟩, A20, H⟩ := H
 have A2 := Aside0.mk A20
 clear A20
 replace H := Option.bind_eq_some_iff.mp H
 obtain ⟨⟨t879, t880, t881, t882⟩, A30, H⟩ := H
 have A3 := Aside0.mk A30
 clear A30
 replace H := Option.bind_eq_some_iff.mp H
 obtain ⟨⟨t884, t885, t886, t887⟩, A40, H⟩ := H
 have A4 := Aside0.mk A40
 clear A40
 replace H := Option.bind_eq_some_iff.mp H
 obtain ⟨⟨t889, t890, t891⟩, A50, H⟩ := H
 have A5 := Aside0.mk A50
 clear A50
 by_cases c6 : t889 = true
 ·
  subst c6
  rw [if_pos rfl] at H
  simp only [Option.some.injEq, Prod.mk.injEq] at H
  obtain ⟨rfl, rfl, rfl, rfl⟩ := H
  go_enter Try.func53, Try.ntmps53
  try go_wp2_with (first | ((with_reducible refine gate_dst (N := 2) rfl ?_); refine box_event ?hg (N := 2) ?hd (cs := #[.int .i64 0, .int .i64 0]) (t := 25) ?hr ?_; (case hd => rfl); (case hg => rfl); (case hr => first | (go_simp; done) | (go_simp; rfl)); intro gb873 hg w7 hbox hb; have n0_ := Aside0.mk (below_step (by repeat (first | (with_reducible first | exact HB.out | apply ba_ | apply bn_ | apply bd_) | exact HB.out)) hb); have BK873 := Aside0.mk (hbox); have GW873 := Aside0.mk ((by rw [hg]; exact (below_size (by repeat (first | (with_reducible first | exact HB.out | apply ba_ | apply bn_ | apply bd_) | exact HB.out))) : w.heap.size ≤ gb873)); have GE873 := GW873; clear HB; have HB := n0_; clear n0_; clear hb hbox hg) | ((with_reducible refine gate_dst (N := 3) rfl ?_); refine box_event ?hg (N := 3) ?hd (cs := #[.int .i64 0, .int .i64 0]) (t := 25) ?hr ?_; (case hd => rfl); (case hg => rfl); (case hr => first | (go_simp; done) | (go_simp; rfl)); intro gb874 hg w8 hbox hb; have n0_ := Aside0.mk (bb_ BK873.out hb); have n1_ := Aside0.mk (below_step (by repeat (first | (with_reducible first | exact HB.out | apply ba_ | apply bn_ | apply bd_ | refine below_set ?_ GE873.out) | exact HB.out)) hb); have n2_ := Aside0.mk (hbox); have n3_ := Aside0.mk ((by rw [hg]; exact (below_size (by repeat (first | (with_reducible first | exact HB.out | apply ba_ | apply bn_ | apply bd_ | refine below_set ?_ GE873.out) | exact HB.out))) : w.heap.size ≤ gb874)); have n4_ := n3_; have n5_ := Aside0.mk (nl_ BK873.out hg); have n6_ := Aside0.mk (n5_.out.symm); clear BK873 HB; have BK873 := n0_; have HB := n1_; have BK874 := n2_; have GW874 := n3_; have GE874 := n4_; have NB873_874 := n5_; have NB874_873 := n6_; clear n0_ n1_ n2_ n3_ n4_ n5_ n6_; clear hb hbox hg) | ((with_reducible refine gate_callee (f := 60) rfl ?_); refine goesL_ (some 8) rfl rfl Try.func60 (by kernel_rfl) rfl #[.slice A0 l0.length c0] rfl (by (try simp only [mp_]); first | done | rfl | (simp only [List.length_drop, List.length_take]; rfl)) ?_; (with_reducible refine (spec_l1New.calls k _ _ l0 t875 t876 t877 w _ ?side1 ?side2 ?side3 A2.out).mono ?_); (case side1 => repeat (first | (with_reducible first | exact HB.out | apply ba_ | apply bn_ | apply bd_ | refine below_set ?_ GE873.out | refine below_set ?_ GE874.out) | exact HB.out)); (case side2 => exact HR0.out); (case side3 => exact HC0.out); rintro e w9 ⟨g878, rfl, hi, hb, hb2⟩; refine ⟨_, rfl, ?_⟩; have n0_ := Aside0.mk (bb_ BK873.out hb2); have n1_ := Aside0.mk (bb_ BK874.out hb2); have n2_ := Aside0.mk (hb); have n3_ := Aside0.mk (hi); have n4_ := Aside0.mk (IsS93.ne_blk hi (bb_ BK873.out hb2) (by decide)); have n5_ := Aside0.mk (Ne.symm (IsS93.ne_blk hi (bb_ BK873.out hb2) (by decide))); have n6_ := Aside0.mk (IsS93.ne_blk hi (bb_ BK874.out hb2) (by decide)); have n7_ := Aside0.mk (Ne.symm (IsS93.ne_blk hi (bb_ BK874.out hb2) (by decide))); clear BK873 BK874 HB; have BK873 := n0_; have BK874 := n1_; have HB := n2_; have HI878 := n3_; have NB878_873 := n4_; have NB873_878 := n5_; have NB878_874 := n6_; have NB874_878 := n7_; clear n0_ n1_ n2_ n3_ n4_ n5_ n6_ n7_; (try clear hb); (try clear hb2); (try clear hk); (try clear hi)) | ((with_reducible refine gate_callee (f := 62) rfl ?_); refine goesL_ (some 10) rfl rfl Try.func62 (by kernel_rfl) rfl #[.pointer (some ⟨g878, 0, none⟩)] rfl (by (try simp only [mp_]); first | done | rfl | (simp only [List.length_drop, List.length_take]; rfl)) ?_; (with_reducible refine (spec_l10Timer.calls g878 t875 t876 t877 t879 t880 t881 t882 w _ ?side1 ?side2 A3.out).mono ?_); (case side1 => repeat (first | (with_reducible first | exact HI878.out | apply IsS93.alloc | apply IsS93.drewN | apply IsS93.drew | apply IsS93.set_1 | apply IsS93.set_2 | refine IsS93.far ?_ NB878_873.out _ | refine IsS93.far ?_ NB878_874.out _) | exact HI878.out)); (case side2 => repeat (first | (with_reducible first | exact HB.out | apply ba_ | apply bn_ | apply bd_ | refine below_set ?_ (IsS93.ge HI878.out) | refine below_set ?_ GE873.out | refine below_set ?_ GE874.out) | exact HB.out)); rintro e w10 ⟨rfl, hi, hb, hk⟩; refine ⟨_, rfl, ?_⟩; have n0_ := Aside0.mk (KeepBut.blk hk (g' := gb873) (o := .cells #[.int .i64 0, .int .i64 0] 25 (0, 0)) (pb_ BK873.out) NB873_878.out (by simp)); have n1_ := Aside0.mk (KeepBut.blk hk (g' := gb874) (o := .cells #[.int .i64 0, .int .i64 0] 25 (0, 0)) (pb_ BK874.out) NB874_878.out (by simp)); have n2_ := Aside0.mk (hb); have n3_ := Aside0.mk (hi); clear BK873 BK874 HB HI878; have BK873 := n0_; have BK874 := n1_; have HB := n2_; have HI878 := n3_; clear n0_ n1_ n2_ n3_; (try clear hb); (try clear hb2); (try clear hk); (try clear hi)) | ((with_reducible refine gate_dst (N := 5) rfl ?_); refine box_event ?hg (N := 5) ?hd (cs := #[.int .i64 0, .int .i64 0]) (t := 25) ?hr ?_; (case hd => rfl); (case hg => rfl); (case hr => first | (go_simp; done) | (go_simp; rfl)); intro gb883 hg w11 hbox hb; have n0_ := Aside0.mk (bb_ BK873.out hb); have n1_ := Aside0.mk (bb_ BK874.out hb); have n2_ := Aside0.mk (IsS93.below (by repeat (first | (with_reducible first | exact HI878.out | apply IsS93.alloc | apply IsS93.drewN | apply IsS93.drew | apply IsS93.set_1 | apply IsS93.set_2 | refine IsS93.far ?_ NB878_873.out _ | refine IsS93.far ?_ NB878_874.out _) | exact HI878.out)) hb); have n3_ := Aside0.mk (below_step (by repeat (first | (with_reducible first | exact HB.out | apply ba_ | apply bn_ | apply bd_ | refine below_set ?_ (IsS93.ge HI878.out) | refine below_set ?_ GE873.out | refine below_set ?_ GE874.out) | exact HB.out)) hb); have n4_ := Aside0.mk (hbox); have n5_ := Aside0.mk ((by rw [hg]; exact (below_size (by repeat (first | (with_reducible first | exact HB.out | apply ba_ | apply bn_ | apply bd_ | refine below_set ?_ (IsS93.ge HI878.out) | refine below_set ?_ GE873.out | refine below_set ?_ GE874.out) | exact HB.out))) : w.heap.size ≤ gb883)); have n6_ := n5_; have n7_ := Aside0.mk (nl_ BK873.out hg); have n8_ := Aside0.mk (n7_.out.symm); have n9_ := Aside0.mk (nl_ BK874.out hg); have n10_ := Aside0.mk (n9_.out.symm); have n11_ := Aside0.mk ((by rw [hg]; exact Nat.ne_of_lt (IsS93.lt (show IsS93 w _ g878 t875 t881 t882 from by repeat (first | (with_reducible first | exact HI878.out | apply IsS93.alloc | apply IsS93.drewN | apply IsS93.drew | apply IsS93.set_1 | apply IsS93.set_2 | refine IsS93.far ?_ NB878_873.out _ | refine IsS93.far ?_ NB878_874.out _) | exact HI878.out))) : g878 ≠ gb883)); have n12_ := Aside0.mk (n11_.out.symm); clear BK873 BK874 HI878 HB; have BK873 := n0_; have BK874 := n1_; have HI878 := n2_; have HB := n3_; have BK883 := n4_; have GW883 := n5_; have GE883 := n6_; have NB873_883 := n7_; have NB883_873 := n8_; have NB874_883 := n9_; have NB883_874 := n10_; have NB878_883 := n11_; have NB883_878 := n12_; clear n0_ n1_ n2_ n3_ n4_ n5_ n6_ n7_ n8_ n9_ n10_ n11_ n12_; clear hb hbox hg; have hnb12 := NB883_873.out; have hnc12 := NB873_883.out; have hnb13 := NB883_874.out; have hnc13 := NB874_883.out; have hnb14 := NB883_878.out; have hnc14 := NB878_883.out; obtain ⟨hcz15_0, hcz15_1, hfz15_0, hfz15_1⟩ := bc2_ BK883.out) | ((with_reducible refine gate_callee (f := 62) rfl ?_); refine goesL_ (some 12) rfl rfl Try.func62 (by kernel_rfl) rfl #[.pointer (some ⟨g878, 0, none⟩)] rfl (by (try simp only [mp_]); first | done | rfl | (simp only [List.length_drop, List.length_take]; rfl)) ?_; (with_reducible refine (spec_l10Timer.calls g878 t875 t881 t882 t884 t885 t886 t887 w _ ?side1 ?side2 A4.out).mono ?_); (case side1 => repeat (first | (with_reducible first | exact HI878.out | apply IsS93.alloc | apply IsS93.drewN | apply IsS93.drew | apply IsS93.set_1 | apply IsS93.set_2 | refine IsS93.far ?_ NB878_873.out _ | refine IsS93.far ?_ NB878_874.out _ | refine IsS93.far ?_ NB878_883.out _) | exact HI878.out)); (case side2 => repeat (first | (with_reducible first | exact HB.out | apply ba_ | apply bn_ | apply bd_ | refine below_set ?_ (IsS93.ge HI878.out) | refine below_set ?_ GE873.out | refine below_set ?_ GE874.out | refine below_set ?_ GE883.out) | exact HB.out)); rintro e w16 ⟨rfl, hi, hb, hk⟩; refine ⟨_, rfl, ?_⟩; have n0_ := Aside0.mk (KeepBut.blk hk (g' := gb873) (o := .cells #[.int .i64 0, .int .i64 0] 25 (0, 0)) (by (with_reducible repeat (first | refine kn_ ?_ _ | refine kd_ ?_ | refine ka_ ?_ _)); refine blk_far ?_ NB873_883.out _; (with_reducible repeat (first | refine kn_ ?_ _ | refine kd_ ?_ | refine ka_ ?_ _)); refine blk_far ?_ NB873_883.out _; (with_reducible repeat (first | refine kn_ ?_ _ | refine kd_ ?_ | refine ka_ ?_ _)); exact BK873.out) NB873_878.out (by simp)); have n1_ := Aside0.mk (KeepBut.blk hk (g' := gb874) (o := .cells #[.int .i64 0, .int .i64 0] 25 (0, 0)) (by (with_reducible repeat (first | refine kn_ ?_ _ | refine kd_ ?_ | refine ka_ ?_ _)); refine blk_far ?_ NB874_883.out _; (with_reducible repeat (first | refine kn_ ?_ _ | refine kd_ ?_ | refine ka_ ?_ _)); refine blk_far ?_ NB874_883.out _; (with_reducible repeat (first | refine kn_ ?_ _ | refine kd_ ?_ | refine ka_ ?_ _)); exact BK874.out) NB874_878.out (by simp)); have n2_ := Aside0.mk (KeepBut.blk hk (g' := gb883) (o := .cells #[.int .i64 t879, .int .i64 t880] 25 (0, 0)) (by (with_reducible repeat (first | refine kn_ ?_ _ | refine kd_ ?_ | refine ka_ ?_ _)); refine blk_put (cs := #[.int .i64 t879, .int .i64 0]) ?_ 1 _ rfl; (with_reducible repeat (first | refine kn_ ?_ _ | refine kd_ ?_ | refine ka_ ?_ _)); refine blk_put (cs := #[.int .i64 0, .int .i64 0]) ?_ 0 _ rfl; (with_reducible repeat (first | refine kn_ ?_ _ | refine kd_ ?_ | refine ka_ ?_ _)); exact BK883.out) NB883_878.out (by simp)); have n3_ := Aside0.mk (hb); have n4_ := Aside0.mk (hi); clear BK873 BK874 BK883 HB HI878; have BK873 := n0_; have BK874 := n1_; have BK883 := n2_; have HB := n3_; have HI878 := n4_; clear n0_ n1_ n2_ n3_ n4_; (try clear hb); (try clear hb2); (try clear hk); (try clear hi)) | ((with_reducible refine gate_dst (N := 6) rfl ?_); refine box_event ?hg (N := 6) ?hd (cs := #[.int .i64 0, .int .i64 0]) (t := 25) ?hr ?_; (case hd => rfl); (case hg => rfl); (case hr => first | (go_simp; done) | (go_simp; rfl)); intro gb888 hg w17 hbox hb; have n0_ := Aside0.mk (bb_ BK873.out hb); have n1_ := Aside0.mk (bb_ BK874.out hb); have n2_ := Aside0.mk (IsS93.below (by repeat (first | (with_reducible first | exact HI878.out | apply IsS93.alloc | apply IsS93.drewN | apply IsS93.drew | apply IsS93.set_1 | apply IsS93.set_2 | refine IsS93.far ?_ NB878_873.out _ | refine IsS93.far ?_ NB878_874.out _ | refine IsS93.far ?_ NB878_883.out _) | exact HI878.out)) hb); have n3_ := Aside0.mk (bb_ BK883.out hb); have n4_ := Aside0.mk (below_step (by repeat (first | (with_reducible first | exact HB.out | apply ba_ | apply bn_ | apply bd_ | refine below_set ?_ (IsS93.ge HI878.out) | refine below_set ?_ GE873.out | refine below_set ?_ GE874.out | refine below_set ?_ GE883.out) | exact HB.out)) hb); have n5_ := Aside0.mk (hbox); have n6_ := Aside0.mk ((by rw [hg]; exact (below_size (by repeat (first | (with_reducible first | exact HB.out | apply ba_ | apply bn_ | apply bd_ | refine below_set ?_ (IsS93.ge HI878.out) | refine below_set ?_ GE873.out | refine below_set ?_ GE874.out | refine below_set ?_ GE883.out) | exact HB.out))) : w.heap.size ≤ gb888)); have n7_ := n6_; have n8_ := Aside0.mk (nl_ BK873.out hg); have n9_ := Aside0.mk (n8_.out.symm); have n10_ := Aside0.mk (nl_ BK874.out hg); have n11_ := Aside0.mk (n10_.out.symm); have n12_ := Aside0.mk (nl_ BK883.out hg); have n13_ := Aside0.mk (n12_.out.symm); have n14_ := Aside0.mk ((by rw [hg]; exact Nat.ne_of_lt (IsS93.lt (show IsS93 w _ g878 t875 t886 t887 from by repeat (first | (with_reducible first | exact HI878.out | apply IsS93.alloc | apply IsS93.drewN | apply IsS93.drew | apply IsS93.set_1 | apply IsS93.set_2 | refine IsS93.far ?_ NB878_873.out _ | refine IsS93.far ?_ NB878_874.out _ | refine IsS93.far ?_ NB878_883.out _) | exact HI878.out))) : g878 ≠ gb888)); have n15_ := Aside0.mk (n14_.out.symm); clear BK873 BK874 HI878 BK883 HB; have BK873 := n0_; have BK874 := n1_; have HI878 := n2_; have BK883 := n3_; have HB := n4_; have BK888 := n5_; have GW888 := n6_; have GE888 := n7_; have NB873_888 := n8_; have NB888_873 := n9_; have NB874_888 := n10_; have NB888_874 := n11_; have NB883_888 := n12_; have NB888_883 := n13_; have NB878_888 := n14_; have NB888_878 := n15_; clear n0_ n1_ n2_ n3_ n4_ n5_ n6_ n7_ n8_ n9_ n10_ n11_ n12_ n13_ n14_ n15_; clear hb hbox hg; have hnb18 := NB888_873.out; have hnc18 := NB873_888.out; have hnb19 := NB888_874.out; have hnc19 := NB874_888.out; have hnb20 := NB888_883.out; have hnc20 := NB883_888.out; have hnb21 := NB888_878.out; have hnc21 := NB878_888.out; obtain ⟨hcz22_0, hcz22_1, hfz22_0, hfz22_1⟩ := bc2_ BK888.out) | ((with_reducible refine gate_callee (f := 75) rfl ?_); refine goesL_ (some 14) rfl rfl Try.func75 (by kernel_rfl) rfl #[.pointer (some ⟨g878, 0, none⟩), .int .i64 2] rfl (by (try simp only [mp_]); first | done | rfl | (simp only [List.length_drop, List.length_take]; rfl)) ?_; (with_reducible refine (spec_l1Once.calls g878 t875 t886 t887 2 true t890 t891 w _ ?side1 ?side2 A5.out).mono ?_); (case side1 => repeat (first | (with_reducible first | exact HI878.out | apply IsS93.alloc | apply IsS93.drewN | apply IsS93.drew | apply IsS93.set_1 | apply IsS93.set_2 | refine IsS93.far ?_ NB878_873.out _ | refine IsS93.far ?_ NB878_874.out _ | refine IsS93.far ?_ NB878_883.out _ | refine IsS93.far ?_ NB878_888.out _) | exact HI878.out)); (case side2 => repeat (first | (with_reducible first | exact HB.out | apply ba_ | apply bn_ | apply bd_ | refine below_set ?_ (IsS93.ge HI878.out) | refine below_set ?_ GE873.out | refine below_set ?_ GE874.out | refine below_set ?_ GE883.out | refine below_set ?_ GE888.out) | exact HB.out)); rintro e w23 ⟨rfl, hi, hb, hk⟩; refine ⟨_, rfl, ?_⟩; have n0_ := Aside0.mk (KeepBut.blk hk (g' := gb873) (o := .cells #[.int .i64 0, .int .i64 0] 25 (0, 0)) (by (with_reducible repeat (first | refine kn_ ?_ _ | refine kd_ ?_ | refine ka_ ?_ _)); refine blk_far ?_ NB873_888.out _; (with_reducible repeat (first | refine kn_ ?_ _ | refine kd_ ?_ | refine ka_ ?_ _)); refine blk_far ?_ NB873_888.out _; (with_reducible repeat (first | refine kn_ ?_ _ | refine kd_ ?_ | refine ka_ ?_ _)); exact BK873.out) NB873_878.out (by simp)); have n1_ := Aside0.mk (KeepBut.blk hk (g' := gb874) (o := .cells #[.int .i64 0, .int .i64 0] 25 (0, 0)) (by (with_reducible repeat (first | refine kn_ ?_ _ | refine kd_ ?_ | refine ka_ ?_ _)); refine blk_far ?_ NB874_888.out _; (with_reducible repeat (first | refine kn_ ?_ _ | refine kd_ ?_ | refine ka_ ?_ _)); refine blk_far ?_ NB874_888.out _; (with_reducible repeat (first | refine kn_ ?_ _ | refine kd_ ?_ | refine ka_ ?_ _)); exact BK874.out) NB874_878.out (by simp)); have n2_ := Aside0.mk (KeepBut.blk hk (g' := gb883) (o := .cells #[.int .i64 t879, .int .i64 t880] 25 (0, 0)) (by (with_reducible repeat (first | refine kn_ ?_ _ | refine kd_ ?_ | refine ka_ ?_ _)); refine blk_far ?_ NB883_888.out _; (with_reducible repeat (first | refine kn_ ?_ _ | refine kd_ ?_ | refine ka_ ?_ _)); refine blk_far ?_ NB883_888.out _; (with_reducible repeat (first | refine kn_ ?_ _ | refine kd_ ?_ | refine ka_ ?_ _)); exact BK883.out) NB883_878.out (by simp)); have n3_ := Aside0.mk (KeepBut.blk hk (g' := gb888) (o := .cells #[.int .i64 t884, .int .i64 t885] 25 (0, 0)) (by (with_reducible repeat (first | refine kn_ ?_ _ | refine kd_ ?_ | refine ka_ ?_ _)); refine blk_put (cs := #[.int .i64 t884, .int .i64 0]) ?_ 1 _ rfl; (with_reducible repeat (first | refine kn_ ?_ _ | refine kd_ ?_ | refine ka_ ?_ _)); refine blk_put (cs := #[.int .i64 0, .int .i64 0]) ?_ 0 _ rfl; (with_reducible repeat (first | refine kn_ ?_ _ | refine kd_ ?_ | refine ka_ ?_ _)); exact BK888.out) NB888_878.out (by simp)); have n4_ := Aside0.mk (hb); have n5_ := Aside0.mk (hi); clear BK873 BK874 BK883 BK888 HB HI878; have BK873 := n0_; have BK874 := n1_; have BK883 := n2_; have BK888 := n3_; have HB := n4_; have HI878 := n5_; clear n0_ n1_ n2_ n3_ n4_ n5_; (try clear hb); (try clear hb2); (try clear hk); (try clear hi); obtain ⟨hcz24_0, hcz24_1, hfz24_0, hfz24_1⟩ := bc2_ BK883.out; obtain ⟨hcz25_0, hcz25_1, hfz25_0, hfz25_1⟩ := bc2_ BK888.out))
  have n0_ : Aside0 ((w23.setCell ⟨gb888, 0, none⟩ (.int .i64 t879)).heap[gb873]? = some (.cells #[.int .i64 0, .int .i64 0] 25 (0, 0))) := ⟨by (with_reducible repeat (first | refine kn_ ?_ _ | refine kd_ ?_ | refine ka_ ?_ _)); refine blk_far ?_ NB873_888.out _; (with_reducible repeat (first | refine kn_ ?_ _ | refine kd_ ?_ | refine ka_ ?_ _)); exact BK873.out⟩
  have n1_ : Aside0 ((w23.setCell ⟨gb888, 0, none⟩ (.int .i64 t879)).heap[gb874]? = some (.cells #[.int .i64 0, .int .i64 0] 25 (0, 0))) := ⟨by (with_reducible repeat (first | refine kn_ ?_ _ | refine kd_ ?_ | refine ka_ ?_ _)); refine blk_far ?_ NB874_888.out _; (with_reducible repeat (first | refine kn_ ?_ _ | refine kd_ ?_ | refine ka_ ?_ _)); exact BK874.out⟩
  have n2_ : Aside0 ((w23.setCell ⟨gb888, 0, none⟩ (.int .i64 t879)).heap[gb883]? = some (.cells #[.int .i64 t879, .int .i64 t880] 25 (0, 0))) := ⟨by (with_reducible repeat (first | refine kn_ ?_ _ | refine kd_ ?_ | refine ka_ ?_ _)); refine blk_far ?_ NB883_888.out _; (with_reducible repeat (first | refine kn_ ?_ _ | refine kd_ ?_ | refine ka_ ?_ _)); exact BK883.out⟩
  have n3_ : Aside0 ((w23.setCell ⟨gb888, 0, none⟩ (.int .i64 t879)).heap[gb888]? = some (.cells #[.int .i64 t879, .int .i64 t885] 25 (0, 0))) := ⟨by (with_reducible repeat (first | refine kn_ ?_ _ | refine kd_ ?_ | refine ka_ ?_ _)); refine blk_put (cs := #[.int .i64 t884, .int .i64 t885]) ?_ 0 _ rfl; (with_reducible repeat (first | refine kn_ ?_ _ | refine kd_ ?_ | refine ka_ ?_ _)); exact BK888.out⟩
  have n4_ : Aside0 (IsS93 w (w23.setCell ⟨gb888, 0, none⟩ (.int .i64 t879)) g878 t875 t890 t891) := ⟨by repeat (first | (with_reducible first | exact HI878.out | apply IsS93.alloc | apply IsS93.drewN | apply IsS93.drew | apply IsS93.set_1 | apply IsS93.set_2 | refine IsS93.far ?_ NB878_873.out _ | refine IsS93.far ?_ NB878_874.out _ | refine IsS93.far ?_ NB878_883.out _ | refine IsS93.far ?_ NB878_888.out _) | exact HI878.out)⟩
  have n5_ : Aside0 (Below w.heap.size w (w23.setCell ⟨gb888, 0, none⟩ (.int .i64 t879))) := ⟨by repeat (first | (with_reducible first | exact HB.out | apply ba_ | apply bn_ | apply bd_ | refine below_set ?_ (IsS93.ge HI878.out) | refine below_set ?_ GE873.out | refine below_set ?_ GE874.out | refine below_set ?_ GE883.out | refine below_set ?_ GE888.out) | exact HB.out)⟩
  (try clear BK873)
  (try clear BK874)
  (try clear BK883)
  (try clear BK888)
  (try clear HI878)
  (try clear HB)
  generalize (w23.setCell ⟨gb888, 0, none⟩ (.int .i64 t879)) = w26 at n0_ n1_ n2_ n3_ n4_ n5_ ⊢
  have BK873 := n0_
  have BK874 := n1_
  have BK883 := n2_
  have BK888 := n3_
  have HI878 := n4_
  have HB := n5_
  clear n0_ n1_ n2_ n3_ n4_ n5_
  have n0_ := Aside0.mk (blk_drew BK873.out)
  have n1_ := Aside0.mk (blk_drew BK874.out)
  have n2_ := Aside0.mk (blk_drew BK883.out)
  have n3_ := Aside0.mk (blk_drew BK888.out)
  have n4_ := Aside0.mk (IsS93.drew HI878.out)
  have n5_ := Aside0.mk (bd_ HB.out)
  clear BK873 BK874 BK883 BK888 HI878 HB
  have BK873 := n0_
  have BK874 := n1_
  have BK883 := n2_
  have BK888 := n3_
  have HI878 := n4_
  have HB := n5_
  clear n0_ n1_ n2_ n3_ n4_ n5_
  refine start_ (n := 4) (S := fun w' => w'.cell? ⟨gb883, 0, none⟩ = some (.int .i64 t879) ∧ w'.cell? ⟨gb883, 1, none⟩ = some (.int .i64 t880) ∧ w'.cell? ⟨gb888, 0, none⟩ = some (.int .i64 t879) ∧ w'.cell? ⟨gb888, 1, none⟩ = some (.int .i64 t885)) (ds := []) #[false, false, false, false] (by kernel_rfl) rfl rfl ⟨bx_ BK883.out 0, bx_ BK883.out 1, bx_ BK888.out 0, bx_ BK888.out 1⟩ (fun hHeld => ?_)
  generalize w26.drew = w27 at BK873 BK874 BK883 BK888 HI878 HB hHeld ⊢
  refine take_ (i := 0) (N := some 18) (v := ?_) (a' := ?_) #[true, false, false, false] rfl rfl (by kernel_rfl) (fun _ _ _ h => h) (Or.inl ⟨by rfl, ?_⟩) hHeld ?_ ?_
  rotate_left
  ·
   rintro w' ⟨s0, s1, s2, s3⟩
   go_simp
   with_reducible rfl
  rotate_left
  ·
   simp only [fr_]
   rfl
  refine take_ (i := 1) (N := some 19) (v := ?_) (a' := ?_) #[true, true, false, false] rfl rfl (by kernel_rfl) (fun _ _ _ h => h) (Or.inl ⟨by rfl, ?_⟩) hHeld ?_ ?_
  rotate_left
  ·
   rintro w' ⟨s0, s1, s2, s3⟩
   go_simp
   with_reducible rfl
  rotate_left
  ·
   simp only [fr_]
   rfl
  refine one_ (i := 2) (N := none) #[true, true, true, false] rfl rfl (by kernel_rfl) (by decide) (fun K hK => ?_)
  have hs28 : w27.cell? ⟨gb873, 0, none⟩ = some (.int .i64 0) := bx_ BK873.out 0
  have hfs28 := blk_frozen BK873.out 0
  have hns28_1 := NB874_873.out
  have hns28_2 := NB883_873.out
  have hns28_3 := NB888_873.out
  have hms28_1 := NB873_874.out
  have hms28_2 := NB873_883.out
  have hms28_3 := NB873_888.out
  have hs29 : w27.cell? ⟨gb873, 1, none⟩ = some (.int .i64 0) := bx_ BK873.out 1
  have hfs29 := blk_frozen BK873.out 1
  have hns29_1 := NB874_873.out
  have hns29_2 := NB883_873.out
  have hns29_3 := NB888_873.out
  have hms29_1 := NB873_874.out
  have hms29_2 := NB873_883.out
  have hms29_3 := NB873_888.out
  refine skip_ (w1 := ?_) (by rfl) rfl ?_ ?_
  rotate_left
  ·
   go_simp
   rfl
  refine hK.out _ _ ⟨((cell_far (p := ⟨gb873, _, none⟩) NB883_873.out _).trans (((cell_far (p := ⟨gb873, _, none⟩) NB883_873.out _).trans (hHeld.1)))), ((cell_far (p := ⟨gb873, _, none⟩) NB883_873.out _).trans (((cell_far (p := ⟨gb873, _, none⟩) NB883_873.out _).trans (hHeld.2.1)))), ((cell_far (p := ⟨gb873, _, none⟩) NB888_873.out _).trans (((cell_far (p := ⟨gb873, _, none⟩) NB888_873.out _).trans (hHeld.2.2.1)))), ((cell_far (p := ⟨gb873, _, none⟩) NB888_873.out _).trans (((cell_far (p := ⟨gb873, _, none⟩) NB888_873.out _).trans (hHeld.2.2.2))))⟩ (fun hHeld => ?_)
  clear hK K
  refine one_ (i := 3) (N := none) #[true, true, true, true] rfl rfl (by kernel_rfl) (by decide) (fun K hK => ?_)
  have hs30 : w27.cell? ⟨gb874, 0, none⟩ = some (.int .i64 0) := bx_ BK874.out 0
  have hfs30 := blk_frozen BK874.out 0
  have hns30_0 := NB873_874.out
  have hns30_2 := NB883_874.out
  have hns30_3 := NB888_874.out
  have hms30_0 := NB874_873.out
  have hms30_2 := NB874_883.out
  have hms30_3 := NB874_888.out
  have hs31 : w27.cell? ⟨gb874, 1, none⟩ = some (.int .i64 0) := bx_ BK874.out 1
  have hfs31 := blk_frozen BK874.out 1
  have hns31_0 := NB873_874.out
  have hns31_2 := NB883_874.out
  have hns31_3 := NB888_874.out
  have hms31_0 := NB874_873.out
  have hms31_2 := NB874_883.out
  have hms31_3 := NB874_888.out
  refine skip_ (w1 := ?_) (by rfl) rfl ?_ ?_
  rotate_left
  ·
   go_simp
   rfl
  refine hK.out _ _ ⟨((cell_far (p := ⟨gb874, _, none⟩) NB883_874.out _).trans (((cell_far (p := ⟨gb874, _, none⟩) NB883_874.out _).trans (hHeld.1)))), ((cell_far (p := ⟨gb874, _, none⟩) NB883_874.out _).trans (((cell_far (p := ⟨gb874, _, none⟩) NB883_874.out _).trans (hHeld.2.1)))), ((cell_far (p := ⟨gb874, _, none⟩) NB888_874.out _).trans (((cell_far (p := ⟨gb874, _, none⟩) NB888_874.out _).trans (hHeld.2.2.1)))), ((cell_far (p := ⟨gb874, _, none⟩) NB888_874.out _).trans (((cell_far (p := ⟨gb874, _, none⟩) NB888_874.out _).trans (hHeld.2.2.2))))⟩ (fun hHeld => ?_)
  clear hK K
  refine done_ (by kernel_rfl) ?_
  try go_wp2
  refine bodyPost_ret (results_cc rfl _ _ gb873 gb874 25 25 #[.int .i64 t879, .int .i64 t880] #[.int .i64 t879, .int .i64 t885] (0, 0) (0, 0) _ _ rfl (by (with_reducible repeat (first | refine kn_ ?_ _ | refine kd_ ?_ | refine ka_ ?_ _)); refine blk_far ?_ NB873_874.out _; (with_reducible repeat (first | refine kn_ ?_ _ | refine kd_ ?_ | refine ka_ ?_ _)); refine blk_far ?_ NB873_874.out _; (with_reducible repeat (first | refine kn_ ?_ _ | refine kd_ ?_ | refine ka_ ?_ _)); refine blk_put (cs := #[.int .i64 t879, .int .i64 0]) ?_ 1 _ rfl; (with_reducible repeat (first | refine kn_ ?_ _ | refine kd_ ?_ | refine ka_ ?_ _)); refine blk_put (cs := #[.int .i64 0, .int .i64 0]) ?_ 0 _ rfl; (with_reducible repeat (first | refine kn_ ?_ _ | refine kd_ ?_ | refine ka_ ?_ _)); exact BK873.out) Try.underlying25 rfl (by kernel_rfl) rfl (by (with_reducible repeat (first | refine kn_ ?_ _ | refine kd_ ?_ | refine ka_ ?_ _)); refine blk_put (cs := #[.int .i64 t879, .int .i64 0]) ?_ 1 _ rfl; (with_reducible repeat (first | refine kn_ ?_ _ | refine kd_ ?_ | refine ka_ ?_ _)); refine blk_put (cs := #[.int .i64 0, .int .i64 0]) ?_ 0 _ rfl; (with_reducible repeat (first | refine kn_ ?_ _ | refine kd_ ?_ | refine ka_ ?_ _)); refine blk_far ?_ NB874_873.out _; (with_reducible repeat (first | refine kn_ ?_ _ | refine kd_ ?_ | refine ka_ ?_ _)); refine blk_far ?_ NB874_873.out _; (with_reducible repeat (first | refine kn_ ?_ _ | refine kd_ ?_ | refine ka_ ?_ _)); exact BK874.out) Try.underlying25 rfl (by kernel_rfl)) rfl ?_
  exact ⟨by first | rfl | (simp [errW_none, errW_some] <;> rfl) | (simp [*, errW_none, errW_some] <;> rfl), by repeat (first | (with_reducible first | exact HB.out | apply ba_ | apply bn_ | apply bd_ | refine below_set ?_ (IsS93.ge HI878.out) | refine below_set ?_ GE873.out | refine below_set ?_ GE874.out | refine below_set ?_ GE883.out | refine below_set ?_ GE888.out) | exact HB.out)⟩
 replace c6 := Bool.eq_false_iff.mpr c6
 subst c6
 rw [if_neg (show ¬ (false = true) by decide)] at H
 simp only [Option.some.injEq, Prod.mk.injEq] at H
 obtain ⟨rfl, rfl, rfl, rfl⟩ := H
 go_enter Try.func53, Try.ntmps53
 try go_wp2_with (first | ((with_reducible refine gate_dst (N := 2) rfl ?_); refine box_event ?hg (N := 2) ?hd (cs := #[.int .i64 0, .int .i64 0]) (t := 25) ?hr ?_; (case hd => rfl); (case hg => rfl); (case hr => first | (go_simp; done) | (go_simp; rfl)); intro gb873 hg w32 hbox hb; have n0_ := Aside0.mk (below_step (by repeat (first | (with_reducible first | exact HB.out | apply ba_ | apply bn_ | apply bd_) | exact HB.out)) hb); have BK873 := Aside0.mk (hbox); have GW873 := Aside0.mk ((by rw [hg]; exact (below_size (by repeat (first | (with_reducible first | exact HB.out | apply ba_ | apply bn_ | apply bd_) | exact HB.out))) : w.heap.size ≤ gb873)); have GE873 := GW873; clear HB; have HB := n0_; clear n0_; clear hb hbox hg) | ((with_reducible refine gate_dst (N := 3) rfl ?_); refine box_event ?hg (N := 3) ?hd (cs := #[.int .i64 0, .int .i64 0]) (t := 25) ?hr ?_; (case hd => rfl); (case hg => rfl); (case hr => first | (go_simp; done) | (go_simp; rfl)); intro gb874 hg w33 hbox hb; have n0_ := Aside0.mk (bb_ BK873.out hb); have n1_ := Aside0.mk (below_step (by repeat (first | (with_reducible first | exact HB.out | apply ba_ | apply bn_ | apply bd_ | refine below_set ?_ GE873.out) | exact HB.out)) hb); have n2_ := Aside0.mk (hbox); have n3_ := Aside0.mk ((by rw [hg]; exact (below_size (by repeat (first | (with_reducible first | exact HB.out | apply ba_ | apply bn_ | apply bd_ | refine below_set ?_ GE873.out) | exact HB.out))) : w.heap.size ≤ gb874)); have n4_ := n3_; have n5_ := Aside0.mk (nl_ BK873.out hg); have n6_ := Aside0.mk (n5_.out.symm); clear BK873 HB; have BK873 := n0_; have HB := n1_; have BK874 := n2_; have GW874 := n3_; have GE874 := n4_; have NB873_874 := n5_; have NB874_873 := n6_; clear n0_ n1_ n2_ n3_ n4_ n5_ n6_; clear hb hbox hg) | ((with_reducible refine gate_callee (f := 60) rfl ?_); refine goesL_ (some 8) rfl rfl Try.func60 (by kernel_rfl) rfl #[.slice A0 l0.length c0] rfl (by (try simp only [mp_]); first | done | rfl | (simp only [List.length_drop, List.length_take]; rfl)) ?_; (with_reducible refine (spec_l1New.calls k _ _ l0 t875 t876 t877 w _ ?side1 ?side2 ?side3 A2.out).mono ?_); (case side1 => repeat (first | (with_reducible first | exact HB.out | apply ba_ | apply bn_ | apply bd_ | refine below_set ?_ GE873.out | refine below_set ?_ GE874.out) | exact HB.out)); (case side2 => exact HR0.out); (case side3 => exact HC0.out); rintro e w34 ⟨g878, rfl, hi, hb, hb2⟩; refine ⟨_, rfl, ?_⟩; have n0_ := Aside0.mk (bb_ BK873.out hb2); have n1_ := Aside0.mk (bb_ BK874.out hb2); have n2_ := Aside0.mk (hb); have n3_ := Aside0.mk (hi); have n4_ := Aside0.mk (IsS93.ne_blk hi (bb_ BK873.out hb2) (by decide)); have n5_ := Aside0.mk (Ne.symm (IsS93.ne_blk hi (bb_ BK873.out hb2) (by decide))); have n6_ := Aside0.mk (IsS93.ne_blk hi (bb_ BK874.out hb2) (by decide)); have n7_ := Aside0.mk (Ne.symm (IsS93.ne_blk hi (bb_ BK874.out hb2) (by decide))); clear BK873 BK874 HB; have BK873 := n0_; have BK874 := n1_; have HB := n2_; have HI878 := n3_; have NB878_873 := n4_; have NB873_878 := n5_; have NB878_874 := n6_; have NB874_878 := n7_; clear n0_ n1_ n2_ n3_ n4_ n5_ n6_ n7_; (try clear hb); (try clear hb2); (try clear hk); (try clear hi)) | ((with_reducible refine gate_callee (f := 62) rfl ?_); refine goesL_ (some 10) rfl rfl Try.func62 (by kernel_rfl) rfl #[.pointer (some ⟨g878, 0, none⟩)] rfl (by (try simp only [mp_]); first | done | rfl | (simp only [List.length_drop, List.length_take]; rfl)) ?_; (with_reducible refine (spec_l10Timer.calls g878 t875 t876 t877 t879 t880 t881 t882 w _ ?side1 ?side2 A3.out).mono ?_); (case side1 => repeat (first | (with_reducible first | exact HI878.out | apply IsS93.alloc | apply IsS93.drewN | apply IsS93.drew | apply IsS93.set_1 | apply IsS93.set_2 | refine IsS93.far ?_ NB878_873.out _ | refine IsS93.far ?_ NB878_874.out _) | exact HI878.out)); (case side2 => repeat (first | (with_reducible first | exact HB.out | apply ba_ | apply bn_ | apply bd_ | refine below_set ?_ (IsS93.ge HI878.out) | refine below_set ?_ GE873.out | refine below_set ?_ GE874.out) | exact HB.out)); rintro e w35 ⟨rfl, hi, hb, hk⟩; refine ⟨_, rfl, ?_⟩; have n0_ := Aside0.mk (KeepBut.blk hk (g' := gb873) (o := .cells #[.int .i64 0, .int .i64 0] 25 (0, 0)) (pb_ BK873.out) NB873_878.out (by simp)); have n1_ := Aside0.mk (KeepBut.blk hk (g' := gb874) (o := .cells #[.int .i64 0, .int .i64 0] 25 (0, 0)) (pb_ BK874.out) NB874_878.out (by simp)); have n2_ := Aside0.mk (hb); have n3_ := Aside0.mk (hi); clear BK873 BK874 HB HI878; have BK873 := n0_; have BK874 := n1_; have HB := n2_; have HI878 := n3_; clear n0_ n1_ n2_ n3_; (try clear hb); (try clear hb2); (try clear hk); (try clear hi)) | ((with_reducible refine gate_dst (N := 5) rfl ?_); refine box_event ?hg (N := 5) ?hd (cs := #[.int .i64 0, .int .i64 0]) (t := 25) ?hr ?_; (case hd => rfl); (case hg => rfl); (case hr => first | (go_simp; done) | (go_simp; rfl)); intro gb883 hg w36 hbox hb; have n0_ := Aside0.mk (bb_ BK873.out hb); have n1_ := Aside0.mk (bb_ BK874.out hb); have n2_ := Aside0.mk (IsS93.below (by repeat (first | (with_reducible first | exact HI878.out | apply IsS93.alloc | apply IsS93.drewN | apply IsS93.drew | apply IsS93.set_1 | apply IsS93.set_2 | refine IsS93.far ?_ NB878_873.out _ | refine IsS93.far ?_ NB878_874.out _) | exact HI878.out)) hb); have n3_ := Aside0.mk (below_step (by repeat (first | (with_reducible first | exact HB.out | apply ba_ | apply bn_ | apply bd_ | refine below_set ?_ (IsS93.ge HI878.out) | refine below_set ?_ GE873.out | refine below_set ?_ GE874.out) | exact HB.out)) hb); have n4_ := Aside0.mk (hbox); have n5_ := Aside0.mk ((by rw [hg]; exact (below_size (by repeat (first | (with_reducible first | exact HB.out | apply ba_ | apply bn_ | apply bd_ | refine below_set ?_ (IsS93.ge HI878.out) | refine below_set ?_ GE873.out | refine below_set ?_ GE874.out) | exact HB.out))) : w.heap.size ≤ gb883)); have n6_ := n5_; have n7_ := Aside0.mk (nl_ BK873.out hg); have n8_ := Aside0.mk (n7_.out.symm); have n9_ := Aside0.mk (nl_ BK874.out hg); have n10_ := Aside0.mk (n9_.out.symm); have n11_ := Aside0.mk ((by rw [hg]; exact Nat.ne_of_lt (IsS93.lt (show IsS93 w _ g878 t875 t881 t882 from by repeat (first | (with_reducible first | exact HI878.out | apply IsS93.alloc | apply IsS93.drewN | apply IsS93.drew | apply IsS93.set_1 | apply IsS93.set_2 | refine IsS93.far ?_ NB878_873.out _ | refine IsS93.far ?_ NB878_874.out _) | exact HI878.out))) : g878 ≠ gb883)); have n12_ := Aside0.mk (n11_.out.symm); clear BK873 BK874 HI878 HB; have BK873 := n0_; have BK874 := n1_; have HI878 := n2_; have HB := n3_; have BK883 := n4_; have GW883 := n5_; have GE883 := n6_; have NB873_883 := n7_; have NB883_873 := n8_; have NB874_883 := n9_; have NB883_874 := n10_; have NB878_883 := n11_; have NB883_878 := n12_; clear n0_ n1_ n2_ n3_ n4_ n5_ n6_ n7_ n8_ n9_ n10_ n11_ n12_; clear hb hbox hg; have hnb37 := NB883_873.out; have hnc37 := NB873_883.out; have hnb38 := NB883_874.out; have hnc38 := NB874_883.out; have hnb39 := NB883_878.out; have hnc39 := NB878_883.out; obtain ⟨hcz40_0, hcz40_1, hfz40_0, hfz40_1⟩ := bc2_ BK883.out) | ((with_reducible refine gate_callee (f := 62) rfl ?_); refine goesL_ (some 12) rfl rfl Try.func62 (by kernel_rfl) rfl #[.pointer (some ⟨g878, 0, none⟩)] rfl (by (try simp only [mp_]); first | done | rfl | (simp only [List.length_drop, List.length_take]; rfl)) ?_; (with_reducible refine (spec_l10Timer.calls g878 t875 t881 t882 t884 t885 t886 t887 w _ ?side1 ?side2 A4.out).mono ?_); (case side1 => repeat (first | (with_reducible first | exact HI878.out | apply IsS93.alloc | apply IsS93.drewN | apply IsS93.drew | apply IsS93.set_1 | apply IsS93.set_2 | refine IsS93.far ?_ NB878_873.out _ | refine IsS93.far ?_ NB878_874.out _ | refine IsS93.far ?_ NB878_883.out _) | exact HI878.out)); (case side2 => repeat (first | (with_reducible first | exact HB.out | apply ba_ | apply bn_ | apply bd_ | refine below_set ?_ (IsS93.ge HI878.out) | refine below_set ?_ GE873.out | refine below_set ?_ GE874.out | refine below_set ?_ GE883.out) | exact HB.out)); rintro e w41 ⟨rfl, hi, hb, hk⟩; refine ⟨_, rfl, ?_⟩; have n0_ := Aside0.mk (KeepBut.blk hk (g' := gb873) (o := .cells #[.int .i64 0, .int .i64 0] 25 (0, 0)) (by (with_reducible repeat (first | refine kn_ ?_ _ | refine kd_ ?_ | refine ka_ ?_ _)); refine blk_far ?_ NB873_883.out _; (with_reducible repeat (first | refine kn_ ?_ _ | refine kd_ ?_ | refine ka_ ?_ _)); refine blk_far ?_ NB873_883.out _; (with_reducible repeat (first | refine kn_ ?_ _ | refine kd_ ?_ | refine ka_ ?_ _)); exact BK873.out) NB873_878.out (by simp)); have n1_ := Aside0.mk (KeepBut.blk hk (g' := gb874) (o := .cells #[.int .i64 0, .int .i64 0] 25 (0, 0)) (by (with_reducible repeat (first | refine kn_ ?_ _ | refine kd_ ?_ | refine ka_ ?_ _)); refine blk_far ?_ NB874_883.out _; (with_reducible repeat (first | refine kn_ ?_ _ | refine kd_ ?_ | refine ka_ ?_ _)); refine blk_far ?_ NB874_883.out _; (with_reducible repeat (first | refine kn_ ?_ _ | refine kd_ ?_ | refine ka_ ?_ _)); exact BK874.out) NB874_878.out (by simp)); have n2_ := Aside0.mk (KeepBut.blk hk (g' := gb883) (o := .cells #[.int .i64 t879, .int .i64 t880] 25 (0, 0)) (by (with_reducible repeat (first | refine kn_ ?_ _ | refine kd_ ?_ | refine ka_ ?_ _)); refine blk_put (cs := #[.int .i64 t879, .int .i64 0]) ?_ 1 _ rfl; (with_reducible repeat (first | refine kn_ ?_ _ | refine kd_ ?_ | refine ka_ ?_ _)); refine blk_put (cs := #[.int .i64 0, .int .i64 0]) ?_ 0 _ rfl; (with_reducible repeat (first | refine kn_ ?_ _ | refine kd_ ?_ | refine ka_ ?_ _)); exact BK883.out) NB883_878.out (by simp)); have n3_ := Aside0.mk (hb); have n4_ := Aside0.mk (hi); clear BK873 BK874 BK883 HB HI878; have BK873 := n0_; have BK874 := n1_; have BK883 := n2_; have HB := n3_; have HI878 := n4_; clear n0_ n1_ n2_ n3_ n4_; (try clear hb); (try clear hb2); (try clear hk); (try clear hi)) | ((with_reducible refine gate_dst (N := 6) rfl ?_); refine box_event ?hg (N := 6) ?hd (cs := #[.int .i64 0, .int .i64 0]) (t := 25) ?hr ?_; (case hd => rfl); (case hg => rfl); (case hr => first | (go_simp; done) | (go_simp; rfl)); intro gb888 hg w42 hbox hb; have n0_ := Aside0.mk (bb_ BK873.out hb); have n1_ := Aside0.mk (bb_ BK874.out hb); have n2_ := Aside0.mk (IsS93.below (by repeat (first | (with_reducible first | exact HI878.out | apply IsS93.alloc | apply IsS93.drewN | apply IsS93.drew | apply IsS93.set_1 | apply IsS93.set_2 | refine IsS93.far ?_ NB878_873.out _ | refine IsS93.far ?_ NB878_874.out _ | refine IsS93.far ?_ NB878_883.out _) | exact HI878.out)) hb); have n3_ := Aside0.mk (bb_ BK883.out hb); have n4_ := Aside0.mk (below_step (by repeat (first | (with_reducible first | exact HB.out | apply ba_ | apply bn_ | apply bd_ | refine below_set ?_ (IsS93.ge HI878.out) | refine below_set ?_ GE873.out | refine below_set ?_ GE874.out | refine below_set ?_ GE883.out) | exact HB.out)) hb); have n5_ := Aside0.mk (hbox); have n6_ := Aside0.mk ((by rw [hg]; exact (below_size (by repeat (first | (with_reducible first | exact HB.out | apply ba_ | apply bn_ | apply bd_ | refine below_set ?_ (IsS93.ge HI878.out) | refine below_set ?_ GE873.out | refine below_set ?_ GE874.out | refine below_set ?_ GE883.out) | exact HB.out))) : w.heap.size ≤ gb888)); have n7_ := n6_; have n8_ := Aside0.mk (nl_ BK873.out hg); have n9_ := Aside0.mk (n8_.out.symm); have n10_ := Aside0.mk (nl_ BK874.out hg); have n11_ := Aside0.mk (n10_.out.symm); have n12_ := Aside0.mk (nl_ BK883.out hg); have n13_ := Aside0.mk (n12_.out.symm); have n14_ := Aside0.mk ((by rw [hg]; exact Nat.ne_of_lt (IsS93.lt (show IsS93 w _ g878 t875 t886 t887 from by repeat (first | (with_reducible first | exact HI878.out | apply IsS93.alloc | apply IsS93.drewN | apply IsS93.drew | apply IsS93.set_1 | apply IsS93.set_2 | refine IsS93.far ?_ NB878_873.out _ | refine IsS93.far ?_ NB878_874.out _ | refine IsS93.far ?_ NB878_883.out _) | exact HI878.out))) : g878 ≠ gb888)); have n15_ := Aside0.mk (n14_.out.symm); clear BK873 BK874 HI878 BK883 HB; have BK873 := n0_; have BK874 := n1_; have HI878 := n2_; have BK883 := n3_; have HB := n4_; have BK888 := n5_; have GW888 := n6_; have GE888 := n7_; have NB873_888 := n8_; have NB888_873 := n9_; have NB874_888 := n10_; have NB888_874 := n11_; have NB883_888 := n12_; have NB888_883 := n13_; have NB878_888 := n14_; have NB888_878 := n15_; clear n0_ n1_ n2_ n3_ n4_ n5_ n6_ n7_ n8_ n9_ n10_ n11_ n12_ n13_ n14_ n15_; clear hb hbox hg; have hnb43 := NB888_873.out; have hnc43 := NB873_888.out; have hnb44 := NB888_874.out; have hnc44 := NB874_888.out; have hnb45 := NB888_883.out; have hnc45 := NB883_888.out; have hnb46 := NB888_878.out; have hnc46 := NB878_888.out; obtain ⟨hcz47_0, hcz47_1, hfz47_0, hfz47_1⟩ := bc2_ BK888.out) | ((with_reducible refine gate_callee (f := 75) rfl ?_); refine goesL_ (some 14) rfl rfl Try.func75 (by kernel_rfl) rfl #[.pointer (some ⟨g878, 0, none⟩), .int .i64 2] rfl (by (try simp only [mp_]); first | done | rfl | (simp only [List.length_drop, List.length_take]; rfl)) ?_; (with_reducible refine (spec_l1Once.calls g878 t875 t886 t887 2 false t890 t891 w _ ?side1 ?side2 A5.out).mono ?_); (case side1 => repeat (first | (with_reducible first | exact HI878.out | apply IsS93.alloc | apply IsS93.drewN | apply IsS93.drew | apply IsS93.set_1 | apply IsS93.set_2 | refine IsS93.far ?_ NB878_873.out _ | refine IsS93.far ?_ NB878_874.out _ | refine IsS93.far ?_ NB878_883.out _ | refine IsS93.far ?_ NB878_888.out _) | exact HI878.out)); (case side2 => repeat (first | (with_reducible first | exact HB.out | apply ba_ | apply bn_ | apply bd_ | refine below_set ?_ (IsS93.ge HI878.out) | refine below_set ?_ GE873.out | refine below_set ?_ GE874.out | refine below_set ?_ GE883.out | refine below_set ?_ GE888.out) | exact HB.out)); rintro e w48 ⟨rfl, hi, hb, hk⟩; refine ⟨_, rfl, ?_⟩; have n0_ := Aside0.mk (KeepBut.blk hk (g' := gb873) (o := .cells #[.int .i64 0, .int .i64 0] 25 (0, 0)) (by (with_reducible repeat (first | refine kn_ ?_ _ | refine kd_ ?_ | refine ka_ ?_ _)); refine blk_far ?_ NB873_888.out _; (with_reducible repeat (first | refine kn_ ?_ _ | refine kd_ ?_ | refine ka_ ?_ _)); refine blk_far ?_ NB873_888.out _; (with_reducible repeat (first | refine kn_ ?_ _ | refine kd_ ?_ | refine ka_ ?_ _)); exact BK873.out) NB873_878.out (by simp)); have n1_ := Aside0.mk (KeepBut.blk hk (g' := gb874) (o := .cells #[.int .i64 0, .int .i64 0] 25 (0, 0)) (by (with_reducible repeat (first | refine kn_ ?_ _ | refine kd_ ?_ | refine ka_ ?_ _)); refine blk_far ?_ NB874_888.out _; (with_reducible repeat (first | refine kn_ ?_ _ | refine kd_ ?_ | refine ka_ ?_ _)); refine blk_far ?_ NB874_888.out _; (with_reducible repeat (first | refine kn_ ?_ _ | refine kd_ ?_ | refine ka_ ?_ _)); exact BK874.out) NB874_878.out (by simp)); have n2_ := Aside0.mk (KeepBut.blk hk (g' := gb883) (o := .cells #[.int .i64 t879, .int .i64 t880] 25 (0, 0)) (by (with_reducible repeat (first | refine kn_ ?_ _ | refine kd_ ?_ | refine ka_ ?_ _)); refine blk_far ?_ NB883_888.out _; (with_reducible repeat (first | refine kn_ ?_ _ | refine kd_ ?_ | refine ka_ ?_ _)); refine blk_far ?_ NB883_888.out _; (with_reducible repeat (first | refine kn_ ?_ _ | refine kd_ ?_ | refine ka_ ?_ _)); exact BK883.out) NB883_878.out (by simp)); have n3_ := Aside0.mk (KeepBut.blk hk (g' := gb888) (o := .cells #[.int .i64 t884, .int .i64 t885] 25 (0, 0)) (by (with_reducible repeat (first | refine kn_ ?_ _ | refine kd_ ?_ | refine ka_ ?_ _)); refine blk_put (cs := #[.int .i64 t884, .int .i64 0]) ?_ 1 _ rfl; (with_reducible repeat (first | refine kn_ ?_ _ | refine kd_ ?_ | refine ka_ ?_ _)); refine blk_put (cs := #[.int .i64 0, .int .i64 0]) ?_ 0 _ rfl; (with_reducible repeat (first | refine kn_ ?_ _ | refine kd_ ?_ | refine ka_ ?_ _)); exact BK888.out) NB888_878.out (by simp)); have n4_ := Aside0.mk (hb); have n5_ := Aside0.mk (hi); clear BK873 BK874 BK883 BK888 HB HI878; have BK873 := n0_; have BK874 := n1_; have BK883 := n2_; have BK888 := n3_; have HB := n4_; have HI878 := n5_; clear n0_ n1_ n2_ n3_ n4_ n5_; (try clear hb); (try clear hb2); (try clear hk); (try clear hi)))
 have n0_ := Aside0.mk (blk_drew BK873.out)
 have n1_ := Aside0.mk (blk_drew BK874.out)
 have n2_ := Aside0.mk (blk_drew BK883.out)
 have n3_ := Aside0.mk (blk_drew BK888.out)
 have n4_ := Aside0.mk (IsS93.drew HI878.out)
 have n5_ := Aside0.mk (bd_ HB.out)
 clear BK873 BK874 BK883 BK888 HI878 HB
 have BK873 := n0_
 have BK874 := n1_
 have BK883 := n2_
 have BK888 := n3_
 have HI878 := n4_
 have HB := n5_
 clear n0_ n1_ n2_ n3_ n4_ n5_
 refine start_ (n := 4) (S := fun w' => w'.cell? ⟨gb883, 0, none⟩ = some (.int .i64 t879) ∧ w'.cell? ⟨gb883, 1, none⟩ = some (.int .i64 t880) ∧ w'.cell? ⟨gb888, 0, none⟩ = some (.int .i64 t884) ∧ w'.cell? ⟨gb888, 1, none⟩ = some (.int .i64 t885)) (ds := []) #[false, false, false, false] (by kernel_rfl) rfl rfl ⟨bx_ BK883.out 0, bx_ BK883.out 1, bx_ BK888.out 0, bx_ BK888.out 1⟩ (fun hHeld => ?_)
 generalize w48.drew = w49 at BK873 BK874 BK883 BK888 HI878 HB hHeld ⊢
 refine take_ (i := 0) (N := some 18) (v := ?_) (a' := ?_) #[true, false, false, false] rfl rfl (by kernel_rfl) (fun _ _ _ h => h) (Or.inl ⟨by rfl, ?_⟩) hHeld ?_ ?_
 rotate_left
 ·
  rintro w' ⟨s0, s1, s2, s3⟩
  go_simp
  with_reducible rfl
 rotate_left
 ·
  simp only [fr_]
  rfl
 refine take_ (i := 1) (N := some 19) (v := ?_) (a' := ?_) #[true, true, false, false] rfl rfl (by kernel_rfl) (fun _ _ _ h => h) (Or.inl ⟨by rfl, ?_⟩) hHeld ?_ ?_
 rotate_left
 ·
  rintro w' ⟨s0, s1, s2, s3⟩
  go_simp
  with_reducible rfl
 rotate_left
 ·
  simp only [fr_]
  rfl
 refine one_ (i := 2) (N := none) #[true, true, true, false] rfl rfl (by kernel_rfl) (by decide) (fun K hK => ?_)
 have hs50 : w49.cell? ⟨gb873, 0, none⟩ = some (.int .i64 0) := bx_ BK873.out 0
 have hfs50 := blk_frozen BK873.out 0
 have hns50_1 := NB874_873.out
 have hns50_2 := NB883_873.out
 have hns50_3 := NB888_873.out
 have hms50_1 := NB873_874.out
 have hms50_2 := NB873_883.out
 have hms50_3 := NB873_888.out
 have hs51 : w49.cell? ⟨gb873, 1, none⟩ = some (.int .i64 0) := bx_ BK873.out 1
 have hfs51 := blk_frozen BK873.out 1
 have hns51_1 := NB874_873.out
 have hns51_2 := NB883_873.out
 have hns51_3 := NB888_873.out
 have hms51_1 := NB873_874.out
 have hms51_2 := NB873_883.out
 have hms51_3 := NB873_888.out
 refine skip_ (w1 := ?_) (by rfl) rfl ?_ ?_
 rotate_left
 ·
  go_simp
  rfl
 refine hK.out _ _ ⟨((cell_far (p := ⟨gb873, _, none⟩) NB883_873.out _).trans (((cell_far (p := ⟨gb873, _, none⟩) NB883_873.out _).trans (hHeld.1)))), ((cell_far (p := ⟨gb873, _, none⟩) NB883_873.out _).trans (((cell_far (p := ⟨gb873, _, none⟩) NB883_873.out _).trans (hHeld.2.1)))), ((cell_far (p := ⟨gb873, _, none⟩) NB888_873.out _).trans (((cell_far (p := ⟨gb873, _, none⟩) NB888_873.out _).trans (hHeld.2.2.1)))), ((cell_far (p := ⟨gb873, _, none⟩) NB888_873.out _).trans (((cell_far (p := ⟨gb873, _, none⟩) NB888_873.out _).trans (hHeld.2.2.2))))⟩ (fun hHeld => ?_)
 clear hK K
 refine one_ (i := 3) (N := none) #[true, true, true, true] rfl rfl (by kernel_rfl) (by decide) (fun K hK => ?_)
 have hs52 : w49.cell? ⟨gb874, 0, none⟩ = some (.int .i64 0) := bx_ BK874.out 0
 have hfs52 := blk_frozen BK874.out 0
 have hns52_0 := NB873_874.out
 have hns52_2 := NB883_874.out
 have hns52_3 := NB888_874.out
 have hms52_0 := NB874_873.out
 have hms52_2 := NB874_883.out
 have hms52_3 := NB874_888.out
 have hs53 : w49.cell? ⟨gb874, 1, none⟩ = some (.int .i64 0) := bx_ BK874.out 1
 have hfs53 := blk_frozen BK874.out 1
 have hns53_0 := NB873_874.out
 have hns53_2 := NB883_874.out
 have hns53_3 := NB888_874.out
 have hms53_0 := NB874_873.out
 have hms53_2 := NB874_883.out
 have hms53_3 := NB874_888.out
 refine skip_ (w1 := ?_) (by rfl) rfl ?_ ?_
 rotate_left
 ·
  go_simp
  rfl
 refine hK.out _ _ ⟨((cell_far (p := ⟨gb874, _, none⟩) NB883_874.out _).trans (((cell_far (p := ⟨gb874, _, none⟩) NB883_874.out _).trans (hHeld.1)))), ((cell_far (p := ⟨gb874, _, none⟩) NB883_874.out _).trans (((cell_far (p := ⟨gb874, _, none⟩) NB883_874.out _).trans (hHeld.2.1)))), ((cell_far (p := ⟨gb874, _, none⟩) NB888_874.out _).trans (((cell_far (p := ⟨gb874, _, none⟩) NB888_874.out _).trans (hHeld.2.2.1)))), ((cell_far (p := ⟨gb874, _, none⟩) NB888_874.out _).trans (((cell_far (p := ⟨gb874, _, none⟩) NB888_874.out _).trans (hHeld.2.2.2))))⟩ (fun hHeld => ?_)
 clear hK K
 refine done_ (by kernel_rfl) ?_
 try go_wp2
 refine bodyPost_ret (results_cc rfl _ _ gb873 gb874 25 25 #[.int .i64 t879, .int .i64 t880] #[.int .i64 t884, .int .i64 t885] (0, 0) (0, 0) _ _ rfl (by (with_reducible repeat (first | refine kn_ ?_ _ | refine kd_ ?_ | refine ka_ ?_ _)); refine blk_far ?_ NB873_874.out _; (with_reducible repeat (first | refine kn_ ?_ _ | refine kd_ ?_ | refine ka_ ?_ _)); refine blk_far ?_ NB873_874.out _; (with_reducible repeat (first | refine kn_ ?_ _ | refine kd_ ?_ | refine ka_ ?_ _)); refine blk_put (cs := #[.int .i64 t879, .int .i64 0]) ?_ 1 _ rfl; (with_reducible repeat (first | refine kn_ ?_ _ | refine kd_ ?_ | refine ka_ ?_ _)); refine blk_put (cs := #[.int .i64 0, .int .i64 0]) ?_ 0 _ rfl; (with_reducible repeat (first | refine kn_ ?_ _ | refine kd_ ?_ | refine ka_ ?_ _)); exact BK873.out) Try.underlying25 rfl (by kernel_rfl) rfl (by (with_reducible repeat (first | refine kn_ ?_ _ | refine kd_ ?_ | refine ka_ ?_ _)); refine blk_put (cs := #[.int .i64 t884, .int .i64 0]) ?_ 1 _ rfl; (with_reducible repeat (first | refine kn_ ?_ _ | refine kd_ ?_ | refine ka_ ?_ _)); refine blk_put (cs := #[.int .i64 0, .int .i64 0]) ?_ 0 _ rfl; (with_reducible repeat (first | refine kn_ ?_ _ | refine kd_ ?_ | refine ka_ ?_ _)); refine blk_far ?_ NB874_873.out _; (with_reducible repeat (first | refine kn_ ?_ _ | refine kd_ ?_ | refine ka_ ?_ _)); refine blk_far ?_ NB874_873.out _; (with_reducible repeat (first | refine kn_ ?_ _ | refine kd_ ?_ | refine ka_ ?_ _)); exact BK874.out) Try.underlying25 rfl (by kernel_rfl)) rfl ?_
 exact ⟨by first | rfl | (simp [errW_none, errW_some] <;> rfl) | (simp [*, errW_none, errW_some] <;> rfl), by repeat (first | (with_reducible first | exact HB.out | apply ba_ | apply bn_ | apply bd_ | refine below_set ?_ (IsS93.ge HI878.out) | refine below_set ?_ GE873.out | refine below_set ?_ GE874.out | refine below_set ?_ GE883.out | refine below_set ?_ GE888.out) | exact HB.out)⟩
end Go.Proofs.Ytkjakmbmnbjpbaa.Print
end
