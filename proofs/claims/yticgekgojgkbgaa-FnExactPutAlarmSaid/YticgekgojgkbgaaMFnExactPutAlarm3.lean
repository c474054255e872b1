import Derived.Test.YticgekgojgkbgaaMFnExactPutAlarm1
import Derived.Test.YticgekgojgkbgaaMFnExactPutAlarm2
import Derived.Laws.Cover1
import Derived.Shelf.Strings.Builder1
import Derived.Shelf.Strings.Builder2
import Derived.Shelf.Strings.OnBuilder
import Derived.Ground.GgsProg
import Derived.Shelf.GgSortFunc.Insertion
import Derived.Shelf.GgSortFunc.Tiny
import Derived.Shelf.GgSortFunc.Compose
import Derived.Ground.GgtProg
import Derived.Shelf.GgSortMore.Stable
import Derived.Test.YticgekgojgkbgaaProg
section
namespace Go.Proofs.Yticgekgojgkbgaa.Print
open Go.RowKit Go.Proofs.YticgekgojgkbgaaV.PrintWords Go.Proofs.YticgekgojgkbgaaV.PrintLast Go.Proofs.YticgekgojgkbgaaV.PrintMore
attribute [local go_sem] max2_int min2_int max_two min_two max_three min_three max_four min_four
set_option linter.unusedVariables false
set_option linter.unusedSimpArgs false
set_option maxHeartbeats 8000000
set_option maxRecDepth 100000
mutual
def spec_PutIn.l0 : Nat → Int → Int → Int → Int → List (S100) → List (S88) → Int → Int → ByteArray → Int → Int → List (S100) → Option (Int × Int × (List (S100)) × Bool)
 | 0, _, _, _, _, _, _, _, _, _, _, _, _ => none
 | k + 1, x7, x8, x773000, x773001, x773002, x774000, x774001, x774002, x774003, x781000, x781001, x781002 => if x8 < (x773002.length : Int) then (if 0 ≤ x8 then (spec_PutIn.j1 k x7 x8 (decide (((rd_T100 x773002 x8).f0) < x7)) x773000 x773001 x773002 x774000 x774001 x774002 x774003 x781000 x781001 x781002) else (none)) else (spec_PutIn.j1 k x7 x8 false x773000 x773001 x773002 x774000 x774001 x774002 x774003 x781000 x781001 x781002)
def spec_PutIn.j1 : Nat → Int → Int → Bool → Int → Int → List (S100) → List (S88) → Int → Int → ByteArray → Int → Int → List (S100) → Option (Int × Int × (List (S100)) × Bool)
 | 0, _, _, _, _, _, _, _, _, _, _, _, _, _ => none
 | k + 1, x7, x8, x57, x773000, x773001, x773002, x774000, x774001, x774002, x774003, x781000, x781001, x781002 => if x57 = true then (spec_PutIn.l0 k x7 (wrap64 (x8 + 1)) x773000 x773001 x773002 x774000 x774001 x774002 x774003 x781000 x781001 x781002) else ((spec_l4Copy.f x774000 x774001 x774002 x774003).bind fun bt792 => ((some (([] : List (S100)) : List (S100))).bind fun y802 => (if 0 ≤ x8 then (if x8 ≤ (x781002.length : Int) then ((some (x781002.drop (x8 : Int).toNat : List (S100))).bind fun y808 => ((some (x781002.take (x8 : Int).toNat : List (S100))).bind fun y805 => (if y802.length + y805.length < 4398046511104 then ((some (y802 ++ y805 : List (S100))).bind fun y812 => (if y812.length < 4398046511104 then ((some (y812 ++ [(⟨x7, (([(⟨bt792.1, bt792.2.1, bt792.2.2.1, bt792.2.2.2⟩ : S43)] : List (S43)))⟩ : S100)] : List (S100))).bind fun y816 => (if y816.length + y808.length < 4398046511104 then (some (x781000, x781001, (y816 ++ y808), true)) else (none))) else (none))) else (none)))) else (none)) else (none))))
end
def spec_PutIn.f (k : Nat) (a0_0 : Int) (a0_1 : Int) (l0_2 : List (S100)) (l1_0 : List (S88)) (a1_1 : Int) (a1_2 : Int) (a1_3 : ByteArray) : Option (Int × Int × (List (S100)) × Bool) := (spec_l7Copy.f k a0_0 a0_1 l0_2).bind fun bt775 => ((spec_Finger.f k l1_0).bind fun t781 => ((spec_l7At.f k a0_0 a0_1 l0_2 t781).bind fun t782 => (if t782 ≥ 0 then (if 0 ≤ t782 then (if t782 < (l0_2.length : Int) then ((spec_PutChain.f k ((rd_T100 l0_2 t782).f0) ((rd_T100 l0_2 t782).f1) l1_0 a1_1 a1_2 a1_3).bind fun bt784 => (if t782 < (bt775.2.2.length : Int) then (some (bt775.1, wrap64 (a0_1 + 1), (bt775.2.2.set (t782 : Int).toNat (⟨bt784.1, bt784.2.1⟩ : S100)), bt784.2.2)) else (none))) else (none)) else (none)) else (spec_PutIn.l0 k t781 0 a0_0 a0_1 l0_2 l1_0 a1_1 a1_2 a1_3 bt775.1 (wrap64 (a0_1 + 1)) bt775.2.2))))
theorem spec_PutIn.mono_l : ∀ k, (∀ y0 y1 y2 y3 y4 y5 y6 y7 y8 y9 y10 y11, LeO (spec_PutIn.l0 k y0 y1 y2 y3 y4 y5 y6 y7 y8 y9 y10 y11) (spec_PutIn.l0 (k + 1) y0 y1 y2 y3 y4 y5 y6 y7 y8 y9 y10 y11)) ∧ (∀ y0 y1 y2 y3 y4 y5 y6 y7 y8 y9 y10 y11 y12, LeO (spec_PutIn.j1 k y0 y1 y2 y3 y4 y5 y6 y7 y8 y9 y10 y11 y12) (spec_PutIn.j1 (k + 1) y0 y1 y2 y3 y4 y5 y6 y7 y8 y9 y10 y11 y12))
 | 0 => ⟨fun _ _ _ _ _ _ _ _ _ _ _ _ r h => by simp [spec_PutIn.l0] at h, fun _ _ _ _ _ _ _ _ _ _ _ _ _ r h => by simp [spec_PutIn.j1] at h⟩
 | k + 1 => by
  obtain ⟨ih0, ih1⟩ := spec_PutIn.mono_l k
  refine ⟨?_, ?_⟩
  ·
   intro y0 y1 y2 y3 y4 y5 y6 y7 y8 y9 y10 y11
   unfold spec_PutIn.l0
   repeat' first
   | (with_reducible exact ih0 _ _ _ _ _ _ _ _ _ _ _ _)
   | (with_reducible exact ih1 _ _ _ _ _ _ _ _ _ _ _ _ _)
   | (with_reducible exact spec_Finger.mono _ _)
   | (with_reducible exact spec_PutChain.mono _ _ _ _ _ _ _)
   | (with_reducible exact spec_l7At.mono _ _ _ _ _)
   | (with_reducible exact spec_l7Copy.mono _ _ _ _)
   | (with_reducible exact LeO.refl _)
   | (with_reducible exact LeO.none _)
   | (with_reducible refine LeO.ite ?_ ?_)
   | (with_reducible refine LeO.bind ?_ (fun _ => ?_))
   | exact ih0 _ _ _ _ _ _ _ _ _ _ _ _
   | exact ih1 _ _ _ _ _ _ _ _ _ _ _ _ _
   | exact spec_Finger.mono _ _
   | exact spec_PutChain.mono _ _ _ _ _ _ _
   | exact spec_l7At.mono _ _ _ _ _
   | exact spec_l7Copy.mono _ _ _ _
  intro y0 y1 y2 y3 y4 y5 y6 y7 y8 y9 y10 y11 y12
  unfold spec_PutIn.j1
  repeat' first
  | (with_reducible exact ih0 _ _ _ _ _ _ _ _ _ _ _ _)
  | (with_reducible exact ih1 _ _ _ _ _ _ _ _ _ _ _ _ _)
  | (with_reducible exact spec_Finger.mono _ _)
  | (with_reducible exact spec_PutChain.mono _ _ _ _ _ _ _)
  | (with_reducible exact spec_l7At.mono _ _ _ _ _)
  | (with_reducible exact spec_l7Copy.mono _ _ _ _)
  | (with_reducible exact LeO.refl _)
  | (with_reducible exact LeO.none _)
  | (with_reducible refine LeO.ite ?_ ?_)
  | (with_reducible refine LeO.bind ?_ (fun _ => ?_))
  | exact ih0 _ _ _ _ _ _ _ _ _ _ _ _
  | exact ih1 _ _ _ _ _ _ _ _ _ _ _ _ _
  | exact spec_Finger.mono _ _
  | exact spec_PutChain.mono _ _ _ _ _ _ _
  | exact spec_l7At.mono _ _ _ _ _
  | exact spec_l7Copy.mono _ _ _ _
theorem spec_PutIn.mono : ∀ a0 a1 a2 a3 a4 a5 a6 k, LeO (spec_PutIn.f k a0 a1 a2 a3 a4 a5 a6) (spec_PutIn.f (k + 1) a0 a1 a2 a3 a4 a5 a6) := by
 intro a0 a1 a2 a3 a4 a5 a6 k
 obtain ⟨ih0, ih1⟩ := spec_PutIn.mono_l k
 unfold spec_PutIn.f
 repeat' first | (with_reducible first | exact ih0 _ _ _ _ _ _ _ _ _ _ _ _ | exact ih1 _ _ _ _ _ _ _ _ _ _ _ _ _ | exact spec_Finger.mono _ _ | exact spec_PutChain.mono _ _ _ _ _ _ _ | exact spec_l7At.mono _ _ _ _ _ | exact spec_l7Copy.mono _ _ _ _ | exact LeO.refl _ | exact LeO.none _ | refine LeO.ite ?_ ?_ | refine LeO.bind ?_ (fun _ => ?_)) | exact ih0 _ _ _ _ _ _ _ _ _ _ _ _ | exact ih1 _ _ _ _ _ _ _ _ _ _ _ _ _ | exact spec_Finger.mono _ _ | exact spec_PutChain.mono _ _ _ _ _ _ _ | exact spec_l7At.mono _ _ _ _ _ | exact spec_l7Copy.mono _ _ _ _
def spec_PutIn.T6 : Bool × List (List Nat × List Nat) := (true, [([], []), ([0], [0]), ([], []), ([1, 2], [1, 2]), ([3], [3]), ([], []), ([4, 5], [4, 5]), ([6], [6]), ([7], [7]), ([7], [7]), ([], []), ([10, 8, 6, 0, 1, 2, 3, 4, 5, 6, 7, 8, 10], [8, 10]), ([9, 11, 0, 1, 2, 3, 4, 5, 6, 7, 8, 9, 10, 11], [9])])
def spec_PutIn.B6 : List Nat := [0, 1, 0, 7, 15, 0, 63, 127, 255, 255, 0, 1535, 4095]
theorem spec_PutIn.tab6 : rtab .any (opsOf Try.f43 6) = spec_PutIn.T6 := by kernel_rfl
theorem spec_PutIn.bits6 : waitsOk spec_PutIn.T6.2 spec_PutIn.B6 = true := by kernel_rfl
def spec_PutIn.T13 : Bool × List (List Nat × List Nat) := (true, [([], []), ([], []), ([1], [1]), ([], []), ([2, 3], [2, 3]), ([0, 4], [0, 4]), ([], []), ([6], [6]), ([5, 7, 5], [5, 7]), ([], []), ([9], [9]), ([], []), ([10, 11], [10, 11]), ([8, 12, 8], [8, 12]), ([0, 1, 2, 3, 4, 5, 6, 7, 8, 9, 10, 11, 12, 13], []), ([14, 13, 13, 0, 1, 2, 3, 4, 5, 6, 7, 8, 9, 10, 11, 12, 13], [13, 14])])
def spec_PutIn.B13 : List Nat := [0, 0, 2, 0, 14, 31, 0, 64, 255, 0, 512, 0, 3584, 8191, 16383, 32767]
theorem spec_PutIn.tab13 : rtab .any (opsOf Try.f43 13) = spec_PutIn.T13 := by kernel_rfl
theorem spec_PutIn.bits13 : waitsOk spec_PutIn.T13.2 spec_PutIn.B13 = true := by kernel_rfl
theorem spec_PutIn.calls (k : Nat) (a0_0 : Int) (a0_1 : Int) (A0_2 : Option Addr) (c0_2 : Nat) (l0_2 : List (S100)) (A1_0 : Option Addr) (c1_0 : Nat) (l1_0 : List (S88)) (a1_1 : Int) (a1_2 : Int) (a1_3 : ByteArray) (r1 : Int) (r2 : Int) (r3 : List (S100)) (r4 : Bool) (w : World) (hr0_2 : Kd.C k100 w A0_2 l0_2.length l0_2) (hc0_2 : l0_2.length ≤ c0_2) (hr1_0 : Kd.C k88 w A1_0 l1_0.length l1_0) (hc1_0 : l1_0.length ≤ c1_0) (h : spec_PutIn.f k a0_0 a0_1 l0_2 l1_0 a1_1 a1_2 a1_3 = some (r1, r2, r3, r4)) :
  Calls Try.prog 43 #[.agg #[.int .i64 a0_0, .int .i64 a0_1, .slice A0_2 l0_2.length c0_2], .agg #[.slice A1_0 l1_0.length c1_0, .int .i64 a1_1, .int .i64 a1_2, .string a1_3]] w fun e w' => ∃ v2_ : Value, e = .returned (.tuple #[.agg #[.int .i64 r1, .int .i64 r2, v2_], .bool r4]) ∧ Kd.S k100 100 w' w.heap.size (fun _ => True) v2_ r3 ∧ Below w.heap.size w w' := by
 have hu57 := Try.underlying57
 have hu43 := Try.underlying43
 have hu100 := Try.underlying100
 have HR0_2 := Aside0.mk hr0_2
 have HC0_2 := Aside0.mk hc0_2
 clear hr0_2 hc0_2
 have HR1_0 := Aside0.mk hr1_0
 have HC1_0 := Aside0.mk hc1_0
 clear hr1_0 hc1_0
 have HB := Aside0.mk (Below.refl w.heap.size w)
 have H : ((spec_l7Copy.f k a0_0 a0_1 l0_2).bind fun bt775 => ((spec_Finger.f k l1_0).bind fun t781 => ((spec_l7At.f k a0_0 a0_1 l0_2 t781).bind fun t782 => (if t782 ≥ 0 then (if 0 ≤ t782 then (if t782 < (l0_2.length : Int) then ((spec_PutChain.f k ((rd_T100 l0_2 t782).f0) ((rd_T100 l0_2 t782).f1) l1_0 a1_1 a1_2 a1_3).bind fun bt784 => (if t782 < (bt775.2.2.length : Int) then (some (bt775.1, wrap64 (a0_1 + 1), (bt775.2.2.set (t782 : Int).toNat (⟨bt784.1, bt784.2.1⟩ : S100)), bt784.2.2)) else (none))) else (none)) else (none)) else (spec_PutIn.l0 k t781 0 a0_0 a0_1 l0_2 l1_0 a1_1 a1_2 a1_3 bt775.1 (wrap64 (a0_1 + 1)) bt775.2.2))))) = some (r1, r2, r3, r4) := h
 clear h
 replace H := Option.bind_eq_some_iff.mp H
 obtain ⟨⟨t775, t776, t777⟩, A30, H⟩ := H
 have A3 := Aside0.mk A30
 clear A30
 replace H := Option.bind_eq_some_iff.mp H
 obtain ⟨t781, A40, H⟩ := H
 have A4 := Aside0.mk A40
 clear A40
 replace H := Option.bind_eq_some_iff.mp H
 obtain ⟨t782, A50, H⟩ := H
 have A5 := Aside0.mk A50
 clear A50
 by_cases c6 : t782 ≥ 0
 ·
  rw [if_pos c6] at H
  have c6b0 : decide (0 ≤ t782) = true := decide_eq_true c6
  clear c6
  by_cases c7 : 0 ≤ t782
  ·
   rw [if_pos c7] at H
   have c7b0 := decide_eq_true c7
   clear c7
   by_cases c8 : t782 < (l0_2.length : Int)
   ·
    rw [if_pos c8] at H
    have c8b0 := decide_eq_true c8
    clear c8
    replace H := Option.bind_eq_some_iff.mp H
    obtain ⟨⟨t784, t785, t788⟩, A90, H⟩ := H
    have A9 := Aside0.mk A90
    clear A90
    by_cases c10 : t782 < (t777.length : Int)
    ·
     rw [if_pos c10] at H
     have c10b0 := decide_eq_true c10
     clear c10
     obtain ⟨y790, hy790⟩ : ∃ y_ : List (S100), y_ = (t777.set (t782 : Int).toNat (⟨t784, t785⟩ : S100)) := ⟨_, rfl⟩
     replace H : (some (t775, wrap64 (a0_1 + 1), y790, t788)) = some (r1, r2, r3, r4) := by first | (rw [hy790]; with_reducible exact H) | (have H2_ := (Option.bind_some _ _).symm.trans H; rw [hy790]; with_reducible exact H2_) | (have H2_ := (Option.bind_some _ _).symm.trans H; with_reducible exact H2_) | with_reducible exact H | (rw [hy790]; exact H) | exact H
     have Ny790 := Aside0.mk hy790
     clear hy790
     simp only [Option.some.injEq, Prod.mk.injEq] at H
     obtain ⟨rfl, rfl, rfl, rfl⟩ := H
     go_enter Try.func43, Try.ntmps43
     try go_wp2_with (first | ((with_reducible refine gd_ 2 rfl ?_); refine bv_ 2 #[.int .i64 a0_0, .int .i64 a0_1, .slice A0_2 l0_2.length c0_2] 57 ?_; intro gb772 hg w12 hbox hb; have BK772 := Aside0.mk (hbox); have GW772 := Aside0.mk ((gw_ hg (hs_ HB.out))); replace HB := st_ HB hb; have GE772 := Ge_.mk GW772.out; clear hb hbox hg) | ((with_reducible refine gd_ 3 rfl ?_); refine bv_ 3 #[.slice A1_0 l1_0.length c1_0, .int .i64 a1_1, .int .i64 a1_2, .string a1_3] 43 ?_; intro gb773 hg w13 hbox hb; have BK773 := Aside0.mk (hbox); have GW773 := Aside0.mk ((gw_ hg (hs_ HB.out))); replace HB := st_ HB hb; have GE773 := Ge_.mk GW773.out; have NB772_773 := Ne_.mk (nl_ BK772.out hg); replace BK772 := bk2_ BK772 hb; have NB773_772 := Ne_.mk (NB772_773.out.symm); clear hb hbox hg) | ((with_reducible refine gd_ 4 rfl ?_); refine bv_ 4 #[.int .i64 0, .int .i64 0, .slice none 0 0] 57 ?_; intro gb774 hg w14 hbox hb; have BK774 := Aside0.mk (hbox); have GW774 := Aside0.mk ((gw_ hg (hs_ HB.out))); replace HB := st_ HB hb; have GE774 := Ge_.mk GW774.out; have NB772_774 := Ne_.mk (nl_ BK772.out hg); replace BK772 := bk2_ BK772 hb; have NB774_772 := Ne_.mk (NB772_774.out.symm); have NB773_774 := Ne_.mk (nl_ BK773.out hg); replace BK773 := bk2_ BK773 hb; have NB774_773 := Ne_.mk (NB773_774.out.symm); clear hb hbox hg; have hnb15 := NB772_773.out; have hnc15 := NB773_772.out; have hnb16 := NB772_774.out; have hnc16 := NB774_772.out; obtain ⟨z17_0, z17_1, z17_2, y17_0, y17_1, y17_2⟩ := bc3_ BK772.out) | ((with_reducible refine gate_callee (f := 84) rfl ?_); refine gl_ (some 13) Try.func84 #[.agg #[.int .i64 a0_0, .int .i64 a0_1, .slice A0_2 l0_2.length c0_2]] ?_; (with_reducible refine (spec_l7Copy.calls k a0_0 a0_1 _ _ l0_2 t775 t776 t777 _ ?side1 ?side2 A3.out).mono ?_); (case side1 => exact cp_ ((Kd.C_below HR0_2.out HB.out))); (case side2 => exact HC0_2.out); rintro e w18 ⟨v778, rfl, ho0, hb⟩; refine ⟨_, rfl, ?_⟩; obtain ⟨gbz778, hz778⟩ := Kd.S_name ho0; have HO779 := Aside0.mk (Kd.S_lower (Kd.S_newB (Kd.S_gez hz778 ho0) (g := gb773) (o := .cells #[.slice A1_0 l1_0.length c1_0, .int .i64 a1_1, .int .i64 a1_2, .string a1_3] 43 (0, 0)) (pb_ BK773.out)) (below_size (hs_ HB.out))); replace BK772 := bk2_ BK772 hb; replace BK773 := bk2_ BK773 hb; replace BK774 := bk2_ BK774 hb; replace HB := st_ HB hb; (try clear hb); (try clear hk); (try clear ho0)) | ((with_reducible refine gd_ 6 rfl ?_); refine bv_ 6 #[.int .i64 0, .int .i64 0, .slice none 0 0] 57 ?_; intro gb780 hg w19 hbox hb; replace HO779 := Aside0.mk (Kd.S_below (Kd.S_ltz hg (sp_ HO779.out)) hb); have BK780 := Aside0.mk (hbox); have GW780 := Aside0.mk ((gw_ hg (hs_ HB.out))); replace HB := st_ HB hb; have GE780 := Ge_.mk GW780.out; have NB772_780 := Ne_.mk (nl_ BK772.out hg); replace BK772 := bk2_ BK772 hb; have NB780_772 := Ne_.mk (NB772_780.out.symm); have NB773_780 := Ne_.mk (nl_ BK773.out hg); replace BK773 := bk2_ BK773 hb; have NB780_773 := Ne_.mk (NB773_780.out.symm); have NB774_780 := Ne_.mk (nl_ BK774.out hg); replace BK774 := bk2_ BK774 hb; have NB780_774 := Ne_.mk (NB774_780.out.symm); clear hb hbox hg; have hnb20 := NB780_772.out; have hnc20 := NB772_780.out; have hnb21 := NB780_773.out; have hnc21 := NB773_780.out; have hnb22 := NB780_774.out; have hnc22 := NB774_780.out; obtain ⟨z23_0, z23_1, z23_2, y23_0, y23_1, y23_2⟩ := bc3_ BK780.out; obtain ⟨Ao24, co24, eo24⟩ := Kd.S_slice HO779.out; subst eo24; obtain ⟨z25_0, z25_1, z25_2, y25_0, y25_1, y25_2⟩ := bc3_ BK772.out; have hnb26 := NB773_774.out; have hnc26 := NB774_773.out; obtain ⟨z27_0, z27_1, z27_2, z27_3, y27_0, y27_1, y27_2, y27_3⟩ := bc4_ BK773.out) | ((with_reducible refine gate_callee (f := 57) rfl ?_); refine gl_ (some 20) Try.func57 #[.slice A1_0 l1_0.length c1_0] ?_; (with_reducible refine (spec_Finger.calls k _ _ l1_0 t781 _ ?side1 ?side2 A4.out).mono ?_); (case side1 => exact Kd.C_below HR1_0.out (hs_ HB.out)); (case side2 => exact HC1_0.out); rintro e w28 ⟨rfl, hb⟩; refine ⟨_, rfl, ?_⟩; replace HO779 := Aside0.mk (Kd.S_below (by (with_reducible repeat (first | apply Kd.S_alloc | apply Kd.S_drewN | apply Kd.S_drew)); exact (Kd.S_mono (sf_ gb780 (Kd.S_types HO779.out BK780.out (by decide)) (fun _ hk => hk.2)) (fun _ h_ => h_.1))) hb); replace BK772 := bk2_ BK772 hb; replace BK773 := bk2_ BK773 hb; replace BK774 := bk2_ BK774 hb; replace BK780 := Aside0.mk (blk_below (g := gb780) (o := .cells #[.int .i64 t775, .int .i64 (wrap64 (a0_1 + 1)), .slice Ao24 t777.length co24] 57 (0, 0)) (bp_ BK780.out) hb); replace HB := st_ HB hb; (try clear hb); (try clear hk); obtain ⟨z29_0, z29_1, z29_2, y29_0, y29_1, y29_2⟩ := bc3_ BK772.out) | ((with_reducible refine gate_callee (f := 75) rfl ?_); refine gl_ (some 23) Try.func75 #[.agg #[.int .i64 a0_0, .int .i64 a0_1, .slice A0_2 l0_2.length c0_2], .int .i64 t781] ?_; (with_reducible refine (spec_l7At.calls k a0_0 a0_1 _ _ l0_2 t781 t782 _ ?side1 ?side2 A5.out).mono ?_); (case side1 => exact cp_ ((Kd.C_below HR0_2.out HB.out))); (case side2 => exact HC0_2.out); rintro e w30 ⟨rfl, hb⟩; refine ⟨_, rfl, ?_⟩; replace HO779 := Aside0.mk (Kd.S_below (sp_ HO779.out) hb); replace BK772 := bk2_ BK772 hb; replace BK773 := bk2_ BK773 hb; replace BK774 := bk2_ BK774 hb; replace BK780 := bk2_ BK780 hb; replace HB := st_ HB hb; (try clear hb); (try clear hk)))
     replace HO779 := Aside0.mk (Kd.S_drew HO779.out)
     replace BK772 := Aside0.mk (blk_drew BK772.out)
     replace BK773 := Aside0.mk (blk_drew BK773.out)
     replace BK774 := Aside0.mk (blk_drew BK774.out)
     replace BK780 := Aside0.mk (blk_drew BK780.out)
     replace HB := Aside0.mk (bd_ HB.out)
     have p783 : 0 ≤ (t782 : Int) := of_decide_eq_true (by with_reducible assumption)
     have q783 : t782 < (l0_2.length : Int) := of_decide_eq_true (by with_reducible assumption)
     obtain ⟨ad783, A783_1, c783_1, e783, hx783_0, hx783_1, hl783_1, hi783_1⟩ := at_T100 HR0_2.out t782 p783 q783
     have hw783_1 := hx783_1
     have hw783_0 := hx783_0
     cases e783
     replace hx783_0 := cl_ HB.out hx783_0
     replace hx783_1 := cl_ HB.out hx783_1
     have HR783_1 := Aside0.mk hi783_1
     have HC783_1 := Aside0.mk hl783_1
     clear hi783_1 hl783_1
     replace p783 := eq_true p783
     replace q783 := eq_true q783
     refine start_ (n := 13) (S := fun w' => w'.cell? ⟨gb772, 0, none⟩ = some (.int .i64 a0_0) ∧ w'.cell? ⟨gb772, 1, none⟩ = some (.int .i64 a0_1) ∧ w'.cell? ⟨gb772, 2, none⟩ = some (.slice (some ad783) l0_2.length c0_2) ∧ w'.cell? ⟨gb773, 0, none⟩ = some (.slice A1_0 l1_0.length c1_0) ∧ w'.cell? ⟨gb773, 1, none⟩ = some (.int .i64 a1_1) ∧ w'.cell? ⟨gb773, 2, none⟩ = some (.int .i64 a1_2) ∧ w'.cell? ⟨gb773, 3, none⟩ = some (.string a1_3) ∧ w'.cell? (ad783.add ((t782).toNat * 2)) = some (.int .i64 ((rd_T100 l0_2 t782).f0)) ∧ w'.cell? ⟨(ad783.add ((t782).toNat * 2)).block, (ad783.add ((t782).toNat * 2)).off + 1, none⟩ = some (.slice A783_1 ((rd_T100 l0_2 t782).f1).length c783_1)) (ds := []) #[f_,f_,f_,f_,f_,f_,f_,f_,f_,f_,f_,f_,f_] (by kernel_rfl) rfl rfl ⟨bx_ BK772.out 0, bx_ BK772.out 1, bx_ BK772.out 2, bx_ BK773.out 0, bx_ BK773.out 1, bx_ BK773.out 2, bx_ BK773.out 3, ((HB.out.cell (World.block_lt_of_cell? w _ hw783_0)).trans hw783_0), ((HB.out.cell (World.block_lt_of_cell? w _ hw783_1)).trans hw783_1)⟩ (fun hHeld => ?_); refine with_tabW spec_PutIn.tab6 spec_PutIn.bits6 (fun HT_ HW_ => ?_)
     generalize w30.drew = w31 at HO779 BK772 BK773 BK774 BK780 HB HR783_1 hx783_0 hx783_1 hHeld ⊢
     refine pw_ 0 27 (b_ 1 12) rfl rfl HT_.out ?_
     refine pw_ 2 29 #[t_,f_,t_,f_,f_,f_,f_,f_,f_,f_,f_,f_,f_] rfl rfl HT_.out ?_
     refine take_ (i := 1) (N := some 28) (v := ?_) (a' := ?_) #[t_,t_,t_,f_,f_,f_,f_,f_,f_,f_,f_,f_,f_] rfl rfl (take_ofW HT_.out HW_.out (by kernel_rfl)) (fun _ _ _ h => h) (Or.inl ⟨by rfl, ?_⟩) hHeld ?_ ?_
     rotate_left
     ·
      rintro w' ⟨s0, s1, s2, s3, s4, s5, s6, s7, s8⟩
      go_simp
      with_reducible rfl
     rotate_left
     ·
      simp only [fr_]
      rfl
     refine pw_ 3 30 (b_ 4 9) rfl rfl HT_.out ?_
     refine take_ (i := 4) (N := some 31) (v := ?_) (a' := ?_) #[t_,t_,t_,t_,t_,f_,f_,f_,f_,f_,f_,f_,f_] rfl rfl (take_ofW HT_.out HW_.out (by kernel_rfl)) (fun _ _ _ h => h) (Or.inl ⟨by rfl, ?_⟩) hHeld ?_ ?_
     rotate_left
     ·
      rintro w' ⟨s0, s1, s2, s3, s4, s5, s6, s7, s8⟩
      go_simp
      with_reducible rfl
     rotate_left
     ·
      simp only [fr_]
      rfl
     refine take_ (i := 5) (N := some 32) (v := ?_) (a' := ?_) #[t_,t_,t_,t_,t_,t_,f_,f_,f_,f_,f_,f_,f_] rfl rfl (take_ofW HT_.out HW_.out (by kernel_rfl)) (fun _ _ _ h => h) (Or.inl ⟨by rfl, ?_⟩) hHeld ?_ ?_
     rotate_left
     ·
      rintro w' ⟨s0, s1, s2, s3, s4, s5, s6, s7, s8⟩
      go_simp
      with_reducible rfl
     rotate_left
     ·
      simp only [fr_]
      rfl
     refine join_ (σ := Value × Nat × Nat) 2 #[t_,t_,t_,t_,t_,t_,t_,t_,t_,t_,t_,f_,f_] (fun s_ => [(33, .tuple #[.agg #[.int .i64 t784, s_.1], .bool t788]), (9, .pointer (some ⟨s_.2.2, 0, none⟩)), (26, .tuple #[.agg #[.int .i64 t784, s_.1], .bool t788]), (34, .agg #[.int .i64 t784, s_.1]), (35, .bool t788)]) (fun s_ w' => (w'.cell? ⟨gb772, 0, none⟩ = some (.int .i64 a0_0) ∧ w'.cell? ⟨gb772, 1, none⟩ = some (.int .i64 a0_1) ∧ w'.cell? ⟨gb772, 2, none⟩ = some (.slice (some ad783) l0_2.length c0_2) ∧ w'.cell? ⟨gb773, 0, none⟩ = some (.slice A1_0 l1_0.length c1_0) ∧ w'.cell? ⟨gb773, 1, none⟩ = some (.int .i64 a1_1) ∧ w'.cell? ⟨gb773, 2, none⟩ = some (.int .i64 a1_2) ∧ w'.cell? ⟨gb773, 3, none⟩ = some (.string a1_3) ∧ w'.cell? (ad783.add ((t782).toNat * 2)) = some (.int .i64 ((rd_T100 l0_2 t782).f0)) ∧ w'.cell? ⟨(ad783.add ((t782).toNat * 2)).block, (ad783.add ((t782).toNat * 2)).off + 1, none⟩ = some (.slice A783_1 ((rd_T100 l0_2 t782).f1).length c783_1)) ∧ (Kd.S k100 100 w' w.heap.size (fun k_ => k_ ≠ gb773 ∧ k_ ≠ s_.2.2 ∧ gbz778 ≤ k_ ∧ k_ < gb780 ∧ k_ < s_.2.1) (.slice Ao24 t777.length co24) t777) ∧ (Kd.S k43 43 w' w.heap.size (fun k_ => k_ ≠ gb773 ∧ s_.2.1 ≤ k_) s_.1 t785) ∧ (w'.heap[gb772]? = some (.cells #[.int .i64 a0_0, .int .i64 a0_1, .slice (some ad783) l0_2.length c0_2] 57 (0, 0))) ∧ (w'.heap[gb773]? = some (.cells #[.slice A1_0 l1_0.length c1_0, .int .i64 a1_1, .int .i64 a1_2, .string a1_3] 43 (0, 0))) ∧ (w'.heap[gb774]? = some (.cells #[.int .i64 0, .int .i64 0, .slice none 0 0] 57 (0, 0))) ∧ (w'.heap[gb780]? = some (.cells #[.int .i64 t775, .int .i64 (wrap64 (a0_1 + 1)), .slice Ao24 t777.length co24] 57 (0, 0))) ∧ (w'.heap[s_.2.2]? = some (.cells #[.int .i64 0, .slice none 0 0] 100 (0, 0))) ∧ (w.heap.size ≤ s_.2.2) ∧ (w.heap.size ≤ s_.2.2) ∧ (gb772 ≠ s_.2.2) ∧ (s_.2.2 ≠ gb772) ∧ (gb773 ≠ s_.2.2) ∧ (s_.2.2 ≠ gb773) ∧ (gb774 ≠ s_.2.2) ∧ (s_.2.2 ≠ gb774) ∧ (gb780 ≠ s_.2.2) ∧ (s_.2.2 ≠ gb780) ∧ (Below w.heap.size w w')) ?_ ?_
     rotate_left
     ·
      intro hCont
      refine two_ (i := 6) (j := 10) (Ni := some 33) (Nj := some 9) #[t_,t_,t_,t_,t_,t_,t_,f_,f_,f_,f_,f_,f_] #[t_,t_,t_,t_,t_,t_,f_,f_,f_,f_,t_,f_,f_] rfl rfl rfl rfl (two_of HT_.out (by kernel_rfl)) (by decide) (by decide) (fun K hK => ?_) (fun K hK => ?_)
      ·
       skip
       refine gs_ Try.func85 #[.agg #[.int .i64 ((rd_T100 l0_2 t782).f0), .slice A783_1 ((rd_T100 l0_2 t782).f1).length c783_1], .agg #[.slice A1_0 l1_0.length c1_0, .int .i64 a1_1, .int .i64 a1_2, .string a1_3]] ?_
       with_reducible refine (spec_PutChain.calls k ((rd_T100 l0_2 t782).f0) _ _ ((rd_T100 l0_2 t782).f1) _ _ l1_0 a1_1 a1_2 a1_3 t784 t785 t788 _ ?side1 ?side2 ?side3 ?side4 A9.out).mono ?_
       (case side1 => exact cp_ ((Kd.C_below HR783_1.out HB.out)))
       (case side2 => exact HC783_1.out)
       (case side3 => exact cp_ ((Kd.C_below HR1_0.out HB.out)))
       (case side4 => exact HC1_0.out)
       rintro e w32 ⟨v786, rfl, ho0, hb⟩
       refine ⟨_, rfl, ?_⟩
       obtain ⟨gbz786, hz786⟩ := Kd.S_name ho0
       replace HO779 := Aside0.mk (Kd.S_below (Kd.S_ltz hz786 (sp_ HO779.out)) hb)
       have HO787 := Aside0.mk (Kd.S_lower (Kd.S_newB (Kd.S_gez hz786 ho0) (g := gb773) (o := .cells #[.slice A1_0 l1_0.length c1_0, .int .i64 a1_1, .int .i64 a1_2, .string a1_3] 43 (0, 0)) (pb_ BK773.out)) (below_size (hs_ HB.out)))
       replace BK772 := bk2_ BK772 hb
       replace BK773 := bk2_ BK773 hb
       replace BK774 := bk2_ BK774 hb
       replace BK780 := bk2_ BK780 hb
       replace HB := st_ HB hb
       (try clear hb)
       (try clear hk)
       (try clear ho0)
       refine hK.out _ _ ⟨bx_ BK772.out 0, bx_ BK772.out 1, bx_ BK772.out 2, bx_ BK773.out 0, bx_ BK773.out 1, bx_ BK773.out 2, bx_ BK773.out 3, ((HB.out.cell (World.block_lt_of_cell? w _ hw783_0)).trans hw783_0), ((HB.out.cell (World.block_lt_of_cell? w _ hw783_1)).trans hw783_1)⟩ (fun hHeld => ?_)
       clear hK K
       refine norm_ (a' := ?_) ?_ ?_
       rotate_left
       ·
        show Act.put _ (some 33) _ = _
        simp only [fr_]
        rfl
       refine pw_ 7 26 (b_ 8 5) rfl rfl HT_.out ?_
       refine pw_ 8 34 (b_ 9 4) rfl rfl HT_.out ?_
       refine pw_ 9 35 (b_ 10 3) rfl rfl HT_.out ?_
       refine one_ (i := 10) (N := some 9) #[t_,t_,t_,t_,t_,t_,t_,t_,t_,t_,t_,f_,f_] rfl rfl (one_of HT_.out (by kernel_rfl)) (by decide) (fun K hK => ?_)
       refine bs1_ 9 #[.int .i64 0, .slice none 0 0] 100 ?_
       intro gb789 hg w33 hbox hb
       replace HO779 := Aside0.mk (Kd.S_below (Kd.S_elderB (sp_ HO779.out) gb789 (Nat.le_of_eq hg.symm)) hb)
       replace HO787 := Aside0.mk (Kd.S_below (sp_ HO787.out) hb)
       have BK789 := Aside0.mk (hbox)
       have GW789 := Aside0.mk ((gw_ hg (hs_ HB.out)))
       have GE789 := Ge_.mk ((gw_ hg (hs_ HB.out)))
       replace HB := st_ HB hb
       have NB772_789 := Ne_.mk (nl_ BK772.out hg)
       have NB789_772 := Ne_.mk (ng_ BK772.out hg)
       replace BK772 := bk2_ BK772 hb
       have NB773_789 := Ne_.mk (nl_ BK773.out hg)
       have NB789_773 := Ne_.mk (ng_ BK773.out hg)
       replace BK773 := bk2_ BK773 hb
       have NB774_789 := Ne_.mk (nl_ BK774.out hg)
       have NB789_774 := Ne_.mk (ng_ BK774.out hg)
       replace BK774 := bk2_ BK774 hb
       have NB780_789 := Ne_.mk (nl_ BK780.out hg)
       have NB789_780 := Ne_.mk (ng_ BK780.out hg)
       replace BK780 := bk2_ BK780 hb
       clear hb hbox hg
       refine hK.out _ _ ⟨bx_ BK772.out 0, bx_ BK772.out 1, bx_ BK772.out 2, bx_ BK773.out 0, bx_ BK773.out 1, bx_ BK773.out 2, bx_ BK773.out 3, ((HB.out.cell (World.block_lt_of_cell? w _ hw783_0)).trans hw783_0), ((HB.out.cell (World.block_lt_of_cell? w _ hw783_1)).trans hw783_1)⟩ (fun hHeld => ?_)
       clear hK K
       refine norm_ (a' := ?_) ?_ ?_
       rotate_left
       ·
        show Act.put _ (some 9) _ = _
        simp only [fr_]
        rfl
       exact norm_ (by simp only [putAll, fr_]) (hCont (v786, gbz786, gb789) _ ⟨hHeld, (Kd.S_mono (sp_ HO779.out) (fun _ hk => ⟨hk.1.1.1.2, ⟨hk.2, ⟨hk.1.1.1.1.2, ⟨hk.1.1.2, hk.1.2⟩⟩⟩⟩)), (Kd.S_mono (sp_ HO787.out) (fun _ hk => ⟨hk.2, hk.1.2⟩)), (pb_ BK772.out), (pb_ BK773.out), (pb_ BK774.out), (pb_ BK780.out), (pb_ BK789.out), GW789.out, GE789.out, NB772_789.out, NB789_772.out, NB773_789.out, NB789_773.out, NB774_789.out, NB789_774.out, NB780_789.out, NB789_780.out, (hs_ HB.out)⟩)
      skip
      refine bs1_ 9 #[.int .i64 0, .slice none 0 0] 100 ?_
      intro gb789 hg w32 hbox hb
      replace HO779 := Aside0.mk (Kd.S_below (Kd.S_elderB (sp_ HO779.out) gb789 (Nat.le_of_eq hg.symm)) hb)
      have BK789 := Aside0.mk (hbox)
      have GW789 := Aside0.mk ((gw_ hg (hs_ HB.out)))
      have GE789 := Ge_.mk ((gw_ hg (hs_ HB.out)))
      replace HB := st_ HB hb
      have NB772_789 := Ne_.mk (nl_ BK772.out hg)
      have NB789_772 := Ne_.mk (ng_ BK772.out hg)
      replace BK772 := bk2_ BK772 hb
      have NB773_789 := Ne_.mk (nl_ BK773.out hg)
      have NB789_773 := Ne_.mk (ng_ BK773.out hg)
      replace BK773 := bk2_ BK773 hb
      have NB774_789 := Ne_.mk (nl_ BK774.out hg)
      have NB789_774 := Ne_.mk (ng_ BK774.out hg)
      replace BK774 := bk2_ BK774 hb
      have NB780_789 := Ne_.mk (nl_ BK780.out hg)
      have NB789_780 := Ne_.mk (ng_ BK780.out hg)
      replace BK780 := bk2_ BK780 hb
      clear hb hbox hg
      refine hK.out _ _ ⟨bx_ BK772.out 0, bx_ BK772.out 1, bx_ BK772.out 2, bx_ BK773.out 0, bx_ BK773.out 1, bx_ BK773.out 2, bx_ BK773.out 3, ((HB.out.cell (World.block_lt_of_cell? w _ hw783_0)).trans hw783_0), ((HB.out.cell (World.block_lt_of_cell? w _ hw783_1)).trans hw783_1)⟩ (fun hHeld => ?_)
      clear hK K
      refine norm_ (a' := ?_) ?_ ?_
      rotate_left
      ·
       show Act.put _ (some 9) _ = _
       simp only [fr_]
       rfl
      refine one_ (i := 6) (N := some 33) #[t_,t_,t_,t_,t_,t_,t_,f_,f_,f_,t_,f_,f_] rfl rfl (one_of HT_.out (by kernel_rfl)) (by decide) (fun K hK => ?_)
      refine gs_ Try.func85 #[.agg #[.int .i64 ((rd_T100 l0_2 t782).f0), .slice A783_1 ((rd_T100 l0_2 t782).f1).length c783_1], .agg #[.slice A1_0 l1_0.length c1_0, .int .i64 a1_1, .int .i64 a1_2, .string a1_3]] ?_
      with_reducible refine (spec_PutChain.calls k ((rd_T100 l0_2 t782).f0) _ _ ((rd_T100 l0_2 t782).f1) _ _ l1_0 a1_1 a1_2 a1_3 t784 t785 t788 _ ?side1 ?side2 ?side3 ?side4 A9.out).mono ?_
      (case side1 => exact cp_ ((Kd.C_below HR783_1.out HB.out)))
      (case side2 => exact HC783_1.out)
      (case side3 => exact cp_ ((Kd.C_below HR1_0.out HB.out)))
      (case side4 => exact HC1_0.out)
      rintro e w33 ⟨v786, rfl, ho0, hb⟩
      refine ⟨_, rfl, ?_⟩
      obtain ⟨gbz786, hz786⟩ := Kd.S_name ho0
      replace HO779 := Aside0.mk (Kd.S_below (Kd.S_ltz hz786 (sp_ HO779.out)) hb)
      have HO787 := Aside0.mk (Kd.S_lower (Kd.S_newB (Kd.S_gez hz786 ho0) (g := gb773) (o := .cells #[.slice A1_0 l1_0.length c1_0, .int .i64 a1_1, .int .i64 a1_2, .string a1_3] 43 (0, 0)) (pb_ BK773.out)) (below_size (hs_ HB.out)))
      replace BK772 := bk2_ BK772 hb
      replace BK773 := bk2_ BK773 hb
      replace BK774 := bk2_ BK774 hb
      replace BK780 := bk2_ BK780 hb
      replace BK789 := bk2_ BK789 hb
      replace HB := st_ HB hb
      (try clear hb)
      (try clear hk)
      (try clear ho0)
      refine hK.out _ _ ⟨bx_ BK772.out 0, bx_ BK772.out 1, bx_ BK772.out 2, bx_ BK773.out 0, bx_ BK773.out 1, bx_ BK773.out 2, bx_ BK773.out 3, ((HB.out.cell (World.block_lt_of_cell? w _ hw783_0)).trans hw783_0), ((HB.out.cell (World.block_lt_of_cell? w _ hw783_1)).trans hw783_1)⟩ (fun hHeld => ?_)
      clear hK K
      refine norm_ (a' := ?_) ?_ ?_
      rotate_left
      ·
       show Act.put _ (some 33) _ = _
       simp only [fr_]
       rfl
      refine pw_ 7 26 #[t_,t_,t_,t_,t_,t_,t_,t_,f_,f_,t_,f_,f_] rfl rfl HT_.out ?_
      refine pw_ 8 34 #[t_,t_,t_,t_,t_,t_,t_,t_,t_,f_,t_,f_,f_] rfl rfl HT_.out ?_
      refine pw_ 9 35 (b_ 11 2) rfl rfl HT_.out ?_
      exact norm_ (by simp only [putAll, fr_]) (hCont (v786, gbz786, gb789) _ ⟨hHeld, (Kd.S_mono (sp_ HO779.out) (fun _ hk => ⟨hk.1.1.1.2, ⟨hk.1.2, ⟨hk.1.1.1.1.2, ⟨hk.1.1.2, hk.2⟩⟩⟩⟩)), (Kd.S_mono (sp_ HO787.out) (fun _ hk => ⟨hk.2, hk.1.2⟩)), (pb_ BK772.out), (pb_ BK773.out), (pb_ BK774.out), (pb_ BK780.out), (pb_ BK789.out), GW789.out, GE789.out, NB772_789.out, NB789_772.out, NB773_789.out, NB789_773.out, NB774_789.out, NB789_774.out, NB780_789.out, NB789_780.out, (hs_ HB.out)⟩)
     rintro ⟨v786, gbz786, gb789⟩ w34 ⟨hS_, h0_, h1_, h2_, h3_, h4_, h5_, h6_, h7_, h8_, h9_, h10_, h11_, h12_, h13_, h14_, h15_, h16_, h17_⟩
     replace HO779 : Aside0 (Kd.S k100 100 w34 w.heap.size (fun k_ => k_ ≠ gb773 ∧ k_ ≠ gb789 ∧ gbz778 ≤ k_ ∧ k_ < gb780 ∧ k_ < gbz786) (.slice Ao24 t777.length co24) t777) := ⟨h0_⟩
     have HO787 : Aside0 (Kd.S k43 43 w34 w.heap.size (fun k_ => k_ ≠ gb773 ∧ gbz786 ≤ k_) v786 t785) := ⟨h1_⟩
     replace BK772 : Aside0 (w34.heap[gb772]? = some (.cells #[.int .i64 a0_0, .int .i64 a0_1, .slice (some ad783) l0_2.length c0_2] 57 (0, 0))) := ⟨h2_⟩
     replace BK773 : Aside0 (w34.heap[gb773]? = some (.cells #[.slice A1_0 l1_0.length c1_0, .int .i64 a1_1, .int .i64 a1_2, .string a1_3] 43 (0, 0))) := ⟨h3_⟩
     replace BK774 : Aside0 (w34.heap[gb774]? = some (.cells #[.int .i64 0, .int .i64 0, .slice none 0 0] 57 (0, 0))) := ⟨h4_⟩
     replace BK780 : Aside0 (w34.heap[gb780]? = some (.cells #[.int .i64 t775, .int .i64 (wrap64 (a0_1 + 1)), .slice Ao24 t777.length co24] 57 (0, 0))) := ⟨h5_⟩
     have BK789 : Aside0 (w34.heap[gb789]? = some (.cells #[.int .i64 0, .slice none 0 0] 100 (0, 0))) := ⟨h6_⟩
     have GW789 : Aside0 (w.heap.size ≤ gb789) := ⟨h7_⟩
     have GE789 := Ge_.mk h8_
     have NB772_789 := Ne_.mk h9_
     have NB789_772 := Ne_.mk h10_
     have NB773_789 := Ne_.mk h11_
     have NB789_773 := Ne_.mk h12_
     have NB774_789 := Ne_.mk h13_
     have NB789_774 := Ne_.mk h14_
     have NB780_789 := Ne_.mk h15_
     have NB789_780 := Ne_.mk h16_
     replace HB : Aside0 (Below w.heap.size w w34) := ⟨h17_⟩
     clear h0_ h1_ h2_ h3_ h4_ h5_ h6_ h7_ h8_ h9_ h10_ h11_ h12_ h13_ h14_ h15_ h16_ h17_
     have hHeld : w34.cell? ⟨gb772, 0, none⟩ = some (.int .i64 a0_0) ∧ w34.cell? ⟨gb772, 1, none⟩ = some (.int .i64 a0_1) ∧ w34.cell? ⟨gb772, 2, none⟩ = some (.slice (some ad783) l0_2.length c0_2) ∧ w34.cell? ⟨gb773, 0, none⟩ = some (.slice A1_0 l1_0.length c1_0) ∧ w34.cell? ⟨gb773, 1, none⟩ = some (.int .i64 a1_1) ∧ w34.cell? ⟨gb773, 2, none⟩ = some (.int .i64 a1_2) ∧ w34.cell? ⟨gb773, 3, none⟩ = some (.string a1_3) ∧ w34.cell? (ad783.add ((t782).toNat * 2)) = some (.int .i64 ((rd_T100 l0_2 t782).f0)) ∧ w34.cell? ⟨(ad783.add ((t782).toNat * 2)).block, (ad783.add ((t782).toNat * 2)).off + 1, none⟩ = some (.slice A783_1 ((rd_T100 l0_2 t782).f1).length c783_1) := hS_
     obtain ⟨Ao36, co36, eo36⟩ := Kd.S_slice HO787.out
     (first | subst eo36 | (obtain ⟨rfl, rfl⟩ := si_ eo36))
     refine norm_ (a' := ?_) ?_ ?_
     rotate_left
     ·
      simp only [putAll, fr_]
      rfl
     refine one_ (i := 11) (N := none) #[t_,t_,t_,t_,t_,t_,t_,t_,t_,t_,t_,t_,f_] rfl rfl (one_of HT_.out (by kernel_rfl)) (by decide) (fun K hK => ?_)
     have hs35 : w34.cell? ⟨gb789, 0, none⟩ = some (.int .i64 0) := bx_ BK789.out 0
     have hfs35 := blk_frozen BK789.out 0
     have hns35_0 := NB772_789.out
     have hns35_1 := NB773_789.out
     have hns35_2 := NB774_789.out
     have hns35_3 := NB780_789.out
     have hms35_0 := NB789_772.out
     have hms35_1 := NB789_773.out
     have hms35_2 := NB789_774.out
     have hms35_3 := NB789_780.out
     have hs37 : w34.cell? ⟨gb789, 1, none⟩ = some (.slice none 0 0) := bx_ BK789.out 1
     have hfs37 := blk_frozen BK789.out 1
     have hns37_0 := NB772_789.out
     have hns37_1 := NB773_789.out
     have hns37_2 := NB774_789.out
     have hns37_3 := NB780_789.out
     have hms37_0 := NB789_772.out
     have hms37_1 := NB789_773.out
     have hms37_2 := NB789_774.out
     have hms37_3 := NB789_780.out
     refine skip_ (w1 := ?_) (by rfl) rfl ?_ ?_
     rotate_left
     ·
      go_simp
      rfl
     refine hK.out _ _ ⟨(cg_ (hHeld.1)), (cg_ (hHeld.2.1)), (cg_ (hHeld.2.2.1)), (cg_ (hHeld.2.2.2.1)), (cg_ (hHeld.2.2.2.2.1)), (cg_ (hHeld.2.2.2.2.2.1)), (cg_ (hHeld.2.2.2.2.2.2.1)), (ce_ hw783_0 GW789.out ((ce_ hw783_0 GW789.out (hHeld.2.2.2.2.2.2.2.1)))), (ce_ hw783_1 GW789.out ((ce_ hw783_1 GW789.out (hHeld.2.2.2.2.2.2.2.2))))⟩ (fun hHeld => ?_)
     clear hK K
     refine pw_ 12 10 (b_ 13 0) rfl rfl HT_.out ?_
     refine done_ (done_of HT_.out (by kernel_rfl)) ?_
     generalize hw_ : ((w34.setCell ⟨gb789, 0, none⟩ (.int .i64 t784)).setCell ⟨gb789, 1, none⟩ (.slice Ao36 t785.length co36)) = w38
     have n0_ : Aside0 (Kd.S k100 100 w38 w.heap.size (fun k_ => k_ ≠ gb773 ∧ k_ ≠ gb789 ∧ gbz778 ≤ k_ ∧ k_ < gb780 ∧ k_ < gbz786) (.slice Ao24 t777.length co24) t777) := ⟨by rw [← hw_]; exact (Kd.S_mono (sf_ gb789 (Kd.S_mono HO779.out (fun k_ hk => (⟨hk, hk.2.1⟩ : _ ∧ k_ ≠ gb789))) (fun _ hk => hk.2)) (fun _ hk => ⟨hk.1.1, ⟨hk.1.2.1, ⟨hk.1.2.2.1, ⟨hk.1.2.2.2.1, hk.1.2.2.2.2⟩⟩⟩⟩))⟩
     have n1_ : Aside0 (Kd.S k43 43 w38 w.heap.size (fun k_ => k_ ≠ gb773 ∧ gbz786 ≤ k_) (.slice Ao36 t785.length co36) t785) := ⟨by rw [← hw_]; exact (Kd.S_mono (sf_ gb789 (Kd.S_types HO787.out BK789.out (by decide)) (fun _ hk => hk.2)) (fun _ hk => ⟨hk.1.1, hk.1.2⟩))⟩
     have n2_ : Aside0 (w38.heap[gb772]? = some (.cells #[.int .i64 a0_0, .int .i64 a0_1, .slice (some ad783) l0_2.length c0_2] 57 (0, 0))) := ⟨by rw [← hw_]; exact (bq_ BK772.out)⟩
     have n3_ : Aside0 (w38.heap[gb773]? = some (.cells #[.slice A1_0 l1_0.length c1_0, .int .i64 a1_1, .int .i64 a1_2, .string a1_3] 43 (0, 0))) := ⟨by rw [← hw_]; exact (bq_ BK773.out)⟩
     have n4_ : Aside0 (w38.heap[gb774]? = some (.cells #[.int .i64 0, .int .i64 0, .slice none 0 0] 57 (0, 0))) := ⟨by rw [← hw_]; exact (bq_ BK774.out)⟩
     have n5_ : Aside0 (w38.heap[gb780]? = some (.cells #[.int .i64 t775, .int .i64 (wrap64 (a0_1 + 1)), .slice Ao24 t777.length co24] 57 (0, 0))) := ⟨by rw [← hw_]; exact (bq_ BK780.out)⟩
     have n6_ : Aside0 (w38.heap[gb789]? = some (.cells #[.int .i64 t784, .slice Ao36 t785.length co36] 100 (0, 0))) := ⟨by rw [← hw_]; exact (bp_ BK789.out)⟩
     have n7_ : Aside0 (Below w.heap.size w w38) := ⟨by rw [← hw_]; exact (hs_ HB.out)⟩
     clear hw_
     (try clear HO779)
     (try clear HO787)
     (try clear BK772)
     (try clear BK773)
     (try clear BK774)
     (try clear BK780)
     (try clear BK789)
     (try clear HB)
     have HO779 := n0_
     have HO787 := n1_
     have BK772 := n2_
     have BK773 := n3_
     have BK774 := n4_
     have BK780 := n5_
     have BK789 := n6_
     have HB := n7_
     clear n0_ n1_ n2_ n3_ n4_ n5_ n6_ n7_
     have hnb39 := NB780_789.out
     have hnc39 := NB789_780.out
     obtain ⟨z40_0, z40_1, z40_2, y40_0, y40_1, y40_2⟩ := bc3_ BK780.out
     have hnb41 := NB789_772.out
     have hnc41 := NB772_789.out
     have hnb42 := NB789_773.out
     have hnc42 := NB773_789.out
     have hnb43 := NB789_774.out
     have hnc43 := NB774_789.out
     obtain ⟨z44_0, z44_1, y44_0, y44_1⟩ := bc2_ BK789.out
     have p11 : 0 ≤ (t782 : Int) := of_decide_eq_true (by with_reducible assumption)
     have q11 : (t782 : Int) < ((t777.length : Int) : Int) := of_decide_eq_true (by with_reducible assumption)
     obtain ⟨go11, co11, eo11, gb11, gl11, cl11, HG11⟩ := Kd.S_form HO779.out (by omega)
     (first | cases eo11 | (injection eo11 with ea_ en_ ec_; (first | subst ea_ | (injection ea_ with ea_; subst ea_)); subst ec_; clear en_))
     have GB11 := Aside0.mk gb11
     have GG11 := Aside0.mk HG11
     clear gb11 gl11 HG11
     obtain ⟨_, ce11, hcl11, hM11, hcc11, hfr11, _, _⟩ := Kd.S_elem HO779.out z100 (t782 : Int) p11 q11
     obtain ⟨ve11_1, rfl, ge11_1⟩ := k100_openM hM11
     have hx11_0 : w38.cell? ⟨go11, (t782 : Int).toNat * 2, none⟩ = some (.int .i64 ((rd_T100 t777 t782).f0)) := hcc11 0 _ rfl
     have hx11_1 : w38.cell? ⟨go11, (t782 : Int).toNat * 2 + 1, none⟩ = some (ve11_1) := hcc11 1 _ rfl
     have hf11_0 : w38.frozen? ⟨go11, (t782 : Int).toNat * 2, none⟩ = false := hfr11 0
     have hf11_1 : w38.frozen? ⟨go11, (t782 : Int).toNat * 2 + 1, none⟩ = false := hfr11 1
     clear hcl11 hcc11 hfr11 hM11
     replace p11 := eq_true p11
     replace q11 := eq_true q11
     obtain ⟨PXP47, hPXP47, hPlP47⟩ := Kd.S_fp (Kd.S_types (Kd.S_apart' (HO787.out) (Kd.S_typed HO779.out) (by decide)) BK789.out (by decide))
     have HX45 := Aside0.mk (show Kd.S k100 100 w38 w.heap.size (fun k_ => ((fun k_ => k_ ≠ gb773 ∧ k_ ≠ gb789)) k_ ∧ ¬ ((fun k_ => PXP47 k_)) k_) (.slice (some ⟨go11, 0, none⟩) t777.length co24) t777 from (Kd.S_mono (sp_ HO779.out) (fun k_ hk => ⟨⟨hk.1, hk.2.1⟩, fun e_ => (fun ez_ => Nat.lt_irrefl _ (Nat.lt_of_lt_of_le hk.2.2.2.2 (hPlP47 _ ez_).1.1.1.2)) e_⟩)))
     obtain ⟨oki45, ce45, hcl45, hM45, hcc45, hfr45, hoki45, hH45⟩ := Kd.S_elem HX45.out z100 (t782 : Int) (of_decide_eq_true (by with_reducible assumption)) (by have h_ : (t782 : Int) < ((t777.length : Int) : Int) := of_decide_eq_true (by with_reducible assumption); first | exact h_ | (have e_ := (Kd.S_reads' HO779.out).1; omega) | simpa using h_)
     obtain ⟨ve45_1, rfl, ge45_1⟩ := k100_openM hM45
     have HP45 := Kd.S_seg hH45 (of_decide_eq_true (by with_reducible assumption)) (by have h_ : (t782 : Int) < ((t777.length : Int) : Int) := of_decide_eq_true (by with_reducible assumption); first | exact h_ | (have e_ := (Kd.S_reads' HO779.out).1; omega) | simpa using h_) (seg := [.int .i64 t784, .slice Ao36 t785.length co36]) (j := 0) (show 2 ≤ 2 from by decide) (x' := (⟨t784, t785⟩ : S100)) (k100_mkM _ _ _ (⟨t784, t785⟩ : S100) (Kd.S_mono hPXP47 (fun _ h_ => Or.inr (h_)))) (fun _ hk => hk) (fun k_ hk_ => ⟨⟨(hPlP47 k_ hk_).1.1.1.1, (hPlP47 k_ hk_).1.2⟩, fun e_ => ((hPlP47 k_ hk_).1.1.2) (by rw [e_]; rfl)⟩)
     have hx45_0 := hcc45 0 _ rfl
     (try simp only [show (k100).sz = 2 from rfl, Nat.mul_one, Nat.add_zero] at hx45_0)
     have hf45_0 := hfr45 0
     (try simp only [show (k100).sz = 2 from rfl, Nat.mul_one, Nat.add_zero] at hf45_0)
     have hx45_1 := hcc45 1 _ rfl
     (try simp only [show (k100).sz = 2 from rfl, Nat.mul_one, Nat.add_zero] at hx45_1)
     have hf45_1 := hfr45 1
     (try simp only [show (k100).sz = 2 from rfl, Nat.mul_one, Nat.add_zero] at hf45_1)
     clear hcl45 hcc45 hfr45 hM45 hoki45 hH45
     try go_wp2_with (first | ((with_reducible refine gate_store (t := 100) (p := 40) rfl ?_); refine store_event (t := 100) (p := 40) (v := ?vo_w46) (w1 := ((w38.setCell ⟨go11, (t782 : Int).toNat * 2, none⟩ (.int .i64 t784)).setCell ⟨go11, (t782 : Int).toNat * 2 + 1, none⟩ (.slice Ao36 t785.length co36))) ?hg ?ho ?hn ?hr ?_; (case ho => rfl); (case hg => rfl); (case hn => rfl); (case hr => first | (go_simp; done) | (go_simp; rfl)); intro w46 hw; have hg : w38.grownBy w46 (some go11) := (by rw [hw]; exact HP45.2); have hp_ : Kd.S k100 100 w46 w.heap.size (fun k_ => k_ ≠ gb773 ∧ k_ ≠ gb789) (.slice (some ⟨go11, 0, none⟩) t777.length co24) y790 := (by rw [hw, Ny790.out]; exact HP45.1); clear HP45; replace BK772 := Aside0.mk (blk_grown (bq_ BK772.out) hg (Kd.S_ne HO779.out BK772.out (by decide))); replace BK773 := Aside0.mk (blk_grown (bq_ BK773.out) hg (Kd.S_ne HO779.out BK773.out (by decide))); replace BK774 := Aside0.mk (blk_grown (bq_ BK774.out) hg (Kd.S_ne HO779.out BK774.out (by decide))); replace BK780 := Aside0.mk (blk_grown (bq_ BK780.out) hg (Kd.S_ne HO779.out BK780.out (by decide))); replace BK789 := Aside0.mk (blk_grown (bq_ BK789.out) hg (Kd.S_away HO779.out (fun _ hk => hk.2.1))); replace HO779 := Aside0.mk (hp_); replace HB := Aside0.mk ((by rw [hw]; exact below_set (below_set (HB.out) GB11.out) GB11.out : Below w.heap.size w w46)); clear HO787; clear hg hw hp_; obtain ⟨z48_0, z48_1, z48_2, y48_0, y48_1, y48_2⟩ := bc3_ BK780.out; obtain ⟨z49_0, z49_1, z49_2, y49_0, y49_1, y49_2⟩ := bc3_ BK774.out))
     refine bodyPost_ret (results_ct rfl _ _ gb774 57 #[.int .i64 t775, .int .i64 (wrap64 (a0_1 + 1)), .slice (some ⟨go11, 0, none⟩) t777.length co24] (0, 0) _ rfl (bp_ BK774.out) Try.underlying57 rfl (by kernel_rfl)) rfl ?_
     exact ⟨_, by first | rfl | (simp [errW_none, errW_some] <;> rfl) | (simp [*, errW_none, errW_some] <;> rfl), by (with_reducible repeat (first | apply Kd.S_alloc | apply Kd.S_drewN | apply Kd.S_drew)); exact Kd.S_mono (sf_ gb774 (Kd.S_types HO779.out BK774.out (by decide)) (fun _ hk => hk.2)) (fun _ hk => trivial), by exact hs_ HB.out⟩
    rw [if_neg c10] at H
    exact absurd H (by simp)
   rw [if_neg c8] at H
   exact absurd H (by simp)
  rw [if_neg c7] at H
  exact absurd H (by simp)
 rw [if_neg c6] at H
 have c6b0 : decide (0 ≤ t782) = false := decide_eq_false c6
 clear c6
 have H' := Aside0.mk H
 clear H
 go_enter Try.func43, Try.ntmps43
 go_wp2_with (first | ((with_reducible refine gd_ 2 rfl ?_); refine bv_ 2 #[.int .i64 a0_0, .int .i64 a0_1, .slice A0_2 l0_2.length c0_2] 57 ?_; intro gb772 hg w50 hbox hb; have BK772 := Aside0.mk (hbox); have GW772 := Aside0.mk ((gw_ hg (hs_ HB.out))); replace HB := st_ HB hb; have GE772 := Ge_.mk GW772.out; clear hb hbox hg) | ((with_reducible refine gd_ 3 rfl ?_); refine bv_ 3 #[.slice A1_0 l1_0.length c1_0, .int .i64 a1_1, .int .i64 a1_2, .string a1_3] 43 ?_; intro gb773 hg w51 hbox hb; have BK773 := Aside0.mk (hbox); have GW773 := Aside0.mk ((gw_ hg (hs_ HB.out))); replace HB := st_ HB hb; have GE773 := Ge_.mk GW773.out; have NB772_773 := Ne_.mk (nl_ BK772.out hg); replace BK772 := bk2_ BK772 hb; have NB773_772 := Ne_.mk (NB772_773.out.symm); clear hb hbox hg) | ((with_reducible refine gd_ 4 rfl ?_); refine bv_ 4 #[.int .i64 0, .int .i64 0, .slice none 0 0] 57 ?_; intro gb774 hg w52 hbox hb; have BK774 := Aside0.mk (hbox); have GW774 := Aside0.mk ((gw_ hg (hs_ HB.out))); replace HB := st_ HB hb; have GE774 := Ge_.mk GW774.out; have NB772_774 := Ne_.mk (nl_ BK772.out hg); replace BK772 := bk2_ BK772 hb; have NB774_772 := Ne_.mk (NB772_774.out.symm); have NB773_774 := Ne_.mk (nl_ BK773.out hg); replace BK773 := bk2_ BK773 hb; have NB774_773 := Ne_.mk (NB773_774.out.symm); clear hb hbox hg; have hnb53 := NB772_773.out; have hnc53 := NB773_772.out; have hnb54 := NB772_774.out; have hnc54 := NB774_772.out; obtain ⟨z55_0, z55_1, z55_2, y55_0, y55_1, y55_2⟩ := bc3_ BK772.out) | ((with_reducible refine gate_callee (f := 84) rfl ?_); refine gl_ (some 13) Try.func84 #[.agg #[.int .i64 a0_0, .int .i64 a0_1, .slice A0_2 l0_2.length c0_2]] ?_; (with_reducible refine (spec_l7Copy.calls k a0_0 a0_1 _ _ l0_2 t775 t776 t777 _ ?side1 ?side2 A3.out).mono ?_); (case side1 => exact cp_ ((Kd.C_below HR0_2.out HB.out))); (case side2 => exact HC0_2.out); rintro e w56 ⟨v778, rfl, ho0, hb⟩; refine ⟨_, rfl, ?_⟩; obtain ⟨gbz778, hz778⟩ := Kd.S_name ho0; have HO779 := Aside0.mk (Kd.S_lower (Kd.S_newB (Kd.S_gez hz778 ho0) (g := gb773) (o := .cells #[.slice A1_0 l1_0.length c1_0, .int .i64 a1_1, .int .i64 a1_2, .string a1_3] 43 (0, 0)) (pb_ BK773.out)) (below_size (hs_ HB.out))); replace BK772 := bk2_ BK772 hb; replace BK773 := bk2_ BK773 hb; replace BK774 := bk2_ BK774 hb; replace HB := st_ HB hb; (try clear hb); (try clear hk); (try clear ho0)) | ((with_reducible refine gd_ 6 rfl ?_); refine bv_ 6 #[.int .i64 0, .int .i64 0, .slice none 0 0] 57 ?_; intro gb780 hg w57 hbox hb; replace HO779 := Aside0.mk (Kd.S_below (Kd.S_ltz hg (sp_ HO779.out)) hb); have BK780 := Aside0.mk (hbox); have GW780 := Aside0.mk ((gw_ hg (hs_ HB.out))); replace HB := st_ HB hb; have GE780 := Ge_.mk GW780.out; have NB772_780 := Ne_.mk (nl_ BK772.out hg); replace BK772 := bk2_ BK772 hb; have NB780_772 := Ne_.mk (NB772_780.out.symm); have NB773_780 := Ne_.mk (nl_ BK773.out hg); replace BK773 := bk2_ BK773 hb; have NB780_773 := Ne_.mk (NB773_780.out.symm); have NB774_780 := Ne_.mk (nl_ BK774.out hg); replace BK774 := bk2_ BK774 hb; have NB780_774 := Ne_.mk (NB774_780.out.symm); clear hb hbox hg; have hnb58 := NB780_772.out; have hnc58 := NB772_780.out; have hnb59 := NB780_773.out; have hnc59 := NB773_780.out; have hnb60 := NB780_774.out; have hnc60 := NB774_780.out; obtain ⟨z61_0, z61_1, z61_2, y61_0, y61_1, y61_2⟩ := bc3_ BK780.out; obtain ⟨Ao62, co62, eo62⟩ := Kd.S_slice HO779.out; subst eo62; obtain ⟨z63_0, z63_1, z63_2, y63_0, y63_1, y63_2⟩ := bc3_ BK772.out; have hnb64 := NB773_774.out; have hnc64 := NB774_773.out; obtain ⟨z65_0, z65_1, z65_2, z65_3, y65_0, y65_1, y65_2, y65_3⟩ := bc4_ BK773.out) | ((with_reducible refine gate_callee (f := 57) rfl ?_); refine gl_ (some 20) Try.func57 #[.slice A1_0 l1_0.length c1_0] ?_; (with_reducible refine (spec_Finger.calls k _ _ l1_0 t781 _ ?side1 ?side2 A4.out).mono ?_); (case side1 => exact Kd.C_below HR1_0.out (hs_ HB.out)); (case side2 => exact HC1_0.out); rintro e w66 ⟨rfl, hb⟩; refine ⟨_, rfl, ?_⟩; replace HO779 := Aside0.mk (Kd.S_below (by (with_reducible repeat (first | apply Kd.S_alloc | apply Kd.S_drewN | apply Kd.S_drew)); exact (Kd.S_mono (sf_ gb780 (Kd.S_types HO779.out BK780.out (by decide)) (fun _ hk => hk.2)) (fun _ h_ => h_.1))) hb); replace BK772 := bk2_ BK772 hb; replace BK773 := bk2_ BK773 hb; replace BK774 := bk2_ BK774 hb; replace BK780 := Aside0.mk (blk_below (g := gb780) (o := .cells #[.int .i64 t775, .int .i64 (wrap64 (a0_1 + 1)), .slice Ao62 t777.length co62] 57 (0, 0)) (bp_ BK780.out) hb); replace HB := st_ HB hb; (try clear hb); (try clear hk); obtain ⟨z67_0, z67_1, z67_2, y67_0, y67_1, y67_2⟩ := bc3_ BK772.out) | ((with_reducible refine gate_callee (f := 75) rfl ?_); refine gl_ (some 23) Try.func75 #[.agg #[.int .i64 a0_0, .int .i64 a0_1, .slice A0_2 l0_2.length c0_2], .int .i64 t781] ?_; (with_reducible refine (spec_l7At.calls k a0_0 a0_1 _ _ l0_2 t781 t782 _ ?side1 ?side2 A5.out).mono ?_); (case side1 => exact cp_ ((Kd.C_below HR0_2.out HB.out))); (case side2 => exact HC0_2.out); rintro e w68 ⟨rfl, hb⟩; refine ⟨_, rfl, ?_⟩; replace HO779 := Aside0.mk (Kd.S_below (sp_ HO779.out) hb); replace BK772 := bk2_ BK772 hb; replace BK773 := bk2_ BK773 hb; replace BK774 := bk2_ BK774 hb; replace BK780 := bk2_ BK780 hb; replace HB := st_ HB hb; (try clear hb); (try clear hk)))
 go_loopg [8] k (fun kq v8 w' => ∃ (x8_1 : Int), v8 = .int .i64 x8_1 ∧ Aside0 (spec_PutIn.l0 kq t781 x8_1 a0_0 a0_1 l0_2 l1_0 a1_1 a1_2 a1_3 t775 (wrap64 (a0_1 + 1)) t777 = some (r1, r2, r3, r4)) ∧ Aside0 (kq ≤ k) ∧ Aside0 (Kd.S k100 100 w' w.heap.size (fun k_ => k_ ≠ gb773 ∧ gbz778 ≤ k_ ∧ k_ < gb780) (.slice Ao62 t777.length co62) t777) ∧ Aside0 (w'.heap[gb772]? = some (.cells #[.int .i64 a0_0, .int .i64 a0_1, (.slice A0_2 l0_2.length c0_2)] 57 (0, 0))) ∧ Aside0 (w'.heap[gb773]? = some (.cells #[(.slice A1_0 l1_0.length c1_0), .int .i64 a1_1, .int .i64 a1_2, .string a1_3] 43 (0, 0))) ∧ Aside0 (w'.heap[gb774]? = some (.cells #[.int .i64 0, .int .i64 0, (.slice none 0 0)] 57 (0, 0))) ∧ Aside0 (w'.heap[gb780]? = some (.cells #[.int .i64 t775, .int .i64 (wrap64 (a0_1 + 1)), (.slice Ao62 t777.length co62)] 57 (0, 0))) ∧ Aside0 (Below w.heap.size w w'))
 case atStart => exact ⟨(0), (by first | rfl | (simp; done) | (simp [*]; done)), H', ⟨Nat.le_refl _⟩, ⟨by (with_reducible repeat (first | apply Kd.S_alloc | apply Kd.S_drewN | apply Kd.S_drew)); exact Kd.S_mono HO779.out (fun _ hk => ⟨hk.1.2, ⟨hk.1.1.2, hk.2⟩⟩)⟩, ⟨bq_ BK772.out⟩, ⟨bq_ BK773.out⟩, ⟨bq_ BK774.out⟩, ⟨bq_ BK780.out⟩, ⟨by exact hs_ HB.out⟩⟩
 case round =>
  clear H'
  try clear c1
  try clear p1
  try clear q1
  try clear hx1
  try clear c2
  try clear p2
  try clear c3
  try clear c4
  try clear hx4
  try clear hf4
  try clear c5
  try clear c6
  try clear c6b0
  try clear p6
  try clear c7
  try clear c7b0
  try clear p7
  try clear q7
  try clear hx7
  try clear c8
  try clear c8b0
  try clear c10
  try clear c10b0
  try clear c11
  try clear p11
  try clear q11
  try clear hx11
  try clear hf11
  try clear c15
  try clear c16
  try clear c20
  try clear c21
  try clear c22
  try clear c26
  try clear c39
  try clear c41
  try clear c42
  try clear c43
  try clear c45
  try clear hx45
  try clear hf45
  try clear c53
  try clear c54
  try clear c57
  try clear c58
  try clear c59
  try clear c60
  try clear c64
  try clear p64
  try clear z55_0 z55_1 z55_2
  try clear z61_0 z61_1 z61_2
  try clear z63_0 z63_1 z63_2
  try clear z65_0 z65_1 z65_2 z65_3
  try clear z67_0 z67_1 z67_2
  try clear y55_0 y55_1 y55_2
  try clear y61_0 y61_1 y61_2
  try clear y63_0 y63_1 y63_2
  try clear y65_0 y65_1 y65_2 y65_3
  try clear y67_0 y67_1 y67_2
  try clear hx11_0
  try clear hx11_1
  try clear hx45_0
  try clear hx45_1
  try clear hx783_0
  try clear hx783_1
  try clear p11
  try clear p783
  try clear q11
  try clear q783
  obtain ⟨x8_1, rfl, HA, HK1, HO_781002, BK772, BK773, BK774, BK780, HB⟩ := hrel
  cases gk with
  | zero => exact absurd HA.out (by simp [spec_PutIn.l0])
  | succ k1 =>
   have H := HA.out
   clear HA
   simp only [spec_PutIn.l0] at H
   have HC69 := Aside0.mk H
   clear H
   go_upto_region 10 with (fail)
   go_cut [57] (fun v57 wc => ∃ (kq : Nat) (x57_68 : Bool), v57 = .bool x57_68 ∧ Aside0 (spec_PutIn.j1 kq t781 x8_1 x57_68 a0_0 a0_1 l0_2 l1_0 a1_1 a1_2 a1_3 t775 (wrap64 (a0_1 + 1)) t777 = some (r1, r2, r3, r4)) ∧ Aside0 (kq ≤ k1) ∧ Aside0 (Kd.S k100 100 wc w.heap.size (fun k_ => k_ ≠ gb773 ∧ gbz778 ≤ k_ ∧ k_ < gb780) (.slice Ao62 t777.length co62) t777) ∧ Aside0 (wc.heap[gb772]? = some (.cells #[.int .i64 a0_0, .int .i64 a0_1, (.slice A0_2 l0_2.length c0_2)] 57 (0, 0))) ∧ Aside0 (wc.heap[gb773]? = some (.cells #[(.slice A1_0 l1_0.length c1_0), .int .i64 a1_1, .int .i64 a1_2, .string a1_3] 43 (0, 0))) ∧ Aside0 (wc.heap[gb774]? = some (.cells #[.int .i64 0, .int .i64 0, (.slice none 0 0)] 57 (0, 0))) ∧ Aside0 (wc.heap[gb780]? = some (.cells #[.int .i64 t775, .int .i64 (wrap64 (a0_1 + 1)), (.slice Ao62 t777.length co62)] 57 (0, 0))) ∧ Aside0 (Below w.heap.size w wc))
   case first =>
    have H := HC69.out
    clear HC69
    by_cases c70 : x8_1 < (l0_2.length : Int)
    ·
     rw [if_pos c70] at H
     have c70b0 := decide_eq_true c70
     clear c70
     (first | rw [c70b0] | (simp only [i64_w, i32_w]; rw [c70b0]) | skip)
     by_cases c71 : 0 ≤ x8_1
     ·
      rw [if_pos c71] at H
      have c71b0 := decide_eq_true c71
      clear c71
      have H' := Aside0.mk H
      clear H
      have hnb72 := NB772_773.out
      have hnc72 := NB773_772.out
      have hnb73 := NB772_774.out
      have hnc73 := NB774_772.out
      have hnb74 := NB772_780.out
      have hnc74 := NB780_772.out
      obtain ⟨z75_0, z75_1, z75_2, y75_0, y75_1, y75_2⟩ := bc3_ BK772.out
      have p791 : 0 ≤ (x8_1 : Int) := of_decide_eq_true (by with_reducible assumption)
      have q791 : x8_1 < (l0_2.length : Int) := of_decide_eq_true (by with_reducible assumption)
      obtain ⟨ad791, A791_1, c791_1, e791, hx791_0, hx791_1, hl791_1, hi791_1⟩ := at_T100 HR0_2.out x8_1 p791 q791
      cases e791
      replace hx791_0 := cl_ HB.out hx791_0
      replace hx791_1 := cl_ HB.out hx791_1
      have HR791_1 := Aside0.mk hi791_1
      have HC791_1 := Aside0.mk hl791_1
      clear hi791_1 hl791_1
      replace p791 := eq_true p791
      replace q791 := eq_true q791
      go_wp2
      go_meet
      case rel => exact ⟨_, (decide (((rd_T100 l0_2 x8_1).f0) < t781)), (by first | rfl | (simp; done) | (simp [*]; done)), H', ⟨by have := HK1.out; first | omega | exact Nat.le_refl _⟩, ⟨by (with_reducible repeat (first | apply Kd.S_alloc | apply Kd.S_drewN | apply Kd.S_drew)); exact HO_781002.out⟩, ⟨bq_ BK772.out⟩, ⟨bq_ BK773.out⟩, ⟨bq_ BK774.out⟩, ⟨bq_ BK780.out⟩, ⟨by exact hs_ HB.out⟩⟩
     rw [if_neg c71] at H
     exact absurd H (by simp)
    rw [if_neg c70] at H
    have c70b0 : decide (x8_1 < (l0_2.length : Int)) = false := decide_eq_false c70
    clear c70
    (first | rw [c70b0] | (simp only [i64_w, i32_w]; rw [c70b0]) | skip)
    have H' := Aside0.mk H
    clear H
    have hnb76 := NB772_773.out
    have hnc76 := NB773_772.out
    have hnb77 := NB772_774.out
    have hnc77 := NB774_772.out
    have hnb78 := NB772_780.out
    have hnc78 := NB780_772.out
    obtain ⟨z79_0, z79_1, z79_2, y79_0, y79_1, y79_2⟩ := bc3_ BK772.out
    go_wp2
    go_meet
    case rel => exact ⟨_, (false), (by first | rfl | (simp; done) | (simp [*]; done)), H', ⟨by have := HK1.out; first | omega | exact Nat.le_refl _⟩, ⟨by (with_reducible repeat (first | apply Kd.S_alloc | apply Kd.S_drewN | apply Kd.S_drew)); exact HO_781002.out⟩, ⟨bq_ BK772.out⟩, ⟨bq_ BK773.out⟩, ⟨bq_ BK774.out⟩, ⟨bq_ BK780.out⟩, ⟨by exact hs_ HB.out⟩⟩
   case rest =>
    clear HC69
    try clear c1
    try clear p1
    try clear q1
    try clear hx1
    try clear c2
    try clear p2
    try clear c3
    try clear c4
    try clear hx4
    try clear hf4
    try clear c5
    try clear c6
    try clear c6b0
    try clear p6
    try clear c7
    try clear c7b0
    try clear p7
    try clear q7
    try clear hx7
    try clear c8
    try clear c8b0
    try clear c10
    try clear c10b0
    try clear c11
    try clear p11
    try clear q11
    try clear hx11
    try clear hf11
    try clear c15
    try clear c16
    try clear c20
    try clear c21
    try clear c22
    try clear c26
    try clear c39
    try clear c41
    try clear c42
    try clear c43
    try clear c45
    try clear hx45
    try clear hf45
    try clear c53
    try clear c54
    try clear c57
    try clear c58
    try clear c59
    try clear c60
    try clear c64
    try clear p64
    try clear c70
    try clear c70b0
    try clear c71
    try clear c71b0
    try clear c72
    try clear c73
    try clear c74
    try clear c75
    try clear c76
    try clear c77
    try clear c78
    try clear p78
    try clear q78
    try clear hx78
    try clear c79
    try clear p79
    try clear q79
    try clear hx79
    try clear hx11_0
    try clear hx11_1
    try clear hx45_0
    try clear hx45_1
    try clear hx783_0
    try clear hx783_1
    try clear hx791_0
    try clear hx791_1
    try clear p1
    try clear p11
    try clear p2
    try clear p6
    try clear p64
    try clear p7
    try clear p783
    try clear p791
    try clear q1
    try clear q11
    try clear q7
    try clear q783
    try clear q791
    obtain ⟨kq, x57_68, rfl, HA, HJ68, HO_781002, BK772, BK773, BK774, BK780, HB⟩ := hcut
    cases kq with
    | zero => exact absurd HA.out (by simp [spec_PutIn.j1])
    | succ kj68 =>
     have H := HA.out
     clear HA
     simp only [spec_PutIn.j1] at H
     by_cases c80 : x57_68 = true
     ·
      subst c80
      rw [if_pos rfl] at H
      have H' := Aside0.mk H
      clear H
      go_wp2
      go_roundg kj68
      case measure => have := HK1.out; have := HJ68.out; omega
      case rel => exact ⟨(wrap64 (x8_1 + 1)), (by first | rfl | (simp; done) | (simp [*]; done)), H', ⟨by have := HK1.out; have := HJ68.out; omega⟩, ⟨by (with_reducible repeat (first | apply Kd.S_alloc | apply Kd.S_drewN | apply Kd.S_drew)); exact HO_781002.out⟩, ⟨bq_ BK772.out⟩, ⟨bq_ BK773.out⟩, ⟨bq_ BK774.out⟩, ⟨bq_ BK780.out⟩, ⟨by exact hs_ HB.out⟩⟩
     replace c80 := Bool.eq_false_iff.mpr c80
     subst c80
     rw [if_neg (show ¬ (false = true) by decide)] at H
     replace H := Option.bind_eq_some_iff.mp H
     obtain ⟨⟨t792, t795, t796, t797⟩, A810, H⟩ := H
     have A81 := Aside0.mk A810
     clear A810
     obtain ⟨y798, hy798⟩ : ∃ y_ : List (S43), y_ = (([(⟨t792, t795, t796, t797⟩ : S43)] : List (S43))) := ⟨_, rfl⟩
     replace H : ((some (([] : List (S100)) : List (S100))).bind fun y802 => (if 0 ≤ x8_1 then (if x8_1 ≤ (t777.length : Int) then ((some (t777.drop (x8_1 : Int).toNat : List (S100))).bind fun y808 => ((some (t777.take (x8_1 : Int).toNat : List (S100))).bind fun y805 => (if y802.length + y805.length < 4398046511104 then ((some (y802 ++ y805 : List (S100))).bind fun y812 => (if y812.length < 4398046511104 then ((some (y812 ++ [(⟨t781, y798⟩ : S100)] : List (S100))).bind fun y816 => (if y816.length + y808.length < 4398046511104 then (some (t775, (wrap64 (a0_1 + 1)), (y816 ++ y808), true)) else (none))) else (none))) else (none)))) else (none)) else (none))) = some (r1, r2, r3, r4) := by first | (rw [hy798]; with_reducible exact H) | (have H2_ := (Option.bind_some _ _).symm.trans H; rw [hy798]; with_reducible exact H2_) | (have H2_ := (Option.bind_some _ _).symm.trans H; with_reducible exact H2_) | with_reducible exact H | (rw [hy798]; exact H) | exact H
     have Ny798 := Aside0.mk hy798
     clear hy798
     obtain ⟨y802, hy802⟩ : ∃ y_ : List (S100), y_ = (([] : List (S100))) := ⟨_, rfl⟩
     replace H : (if 0 ≤ x8_1 then (if x8_1 ≤ (t777.length : Int) then ((some (t777.drop (x8_1 : Int).toNat : List (S100))).bind fun y808 => ((some (t777.take (x8_1 : Int).toNat : List (S100))).bind fun y805 => (if y802.length + y805.length < 4398046511104 then ((some (y802 ++ y805 : List (S100))).bind fun y812 => (if y812.length < 4398046511104 then ((some (y812 ++ [(⟨t781, y798⟩ : S100)] : List (S100))).bind fun y816 => (if y816.length + y808.length < 4398046511104 then (some (t775, (wrap64 (a0_1 + 1)), (y816 ++ y808), true)) else (none))) else (none))) else (none)))) else (none)) else (none)) = some (r1, r2, r3, r4) := by first | (rw [hy802]; with_reducible exact H) | (have H2_ := (Option.bind_some _ _).symm.trans H; rw [hy802]; with_reducible exact H2_) | (have H2_ := (Option.bind_some _ _).symm.trans H; with_reducible exact H2_) | with_reducible exact H | (rw [hy802]; exact H) | exact H
     have Ny802 := Aside0.mk hy802
     clear hy802
     by_cases c82 : 0 ≤ x8_1
     ·
      rw [if_pos c82] at H
      have c82b0 := eq_true c82
      have c82b1 := decide_eq_true c82
      clear c82
      by_cases c83 : x8_1 ≤ (t777.length : Int)
      ·
       rw [if_pos c83] at H
       have c83b0 := eq_true c83
       have c83b1 := decide_eq_true c83
       clear c83
       obtain ⟨y808, hy808⟩ : ∃ y_ : List (S100), y_ = (t777.drop (x8_1 : Int).toNat) := ⟨_, rfl⟩
       replace H : ((some (t777.take (x8_1 : Int).toNat : List (S100))).bind fun y805 => (if y802.length + y805.length < 4398046511104 then ((some (y802 ++ y805 : List (S100))).bind fun y812 => (if y812.length < 4398046511104 then ((some (y812 ++ [(⟨t781, y798⟩ : S100)] : List (S100))).bind fun y816 => (if y816.length + y808.length < 4398046511104 then (some (t775, (wrap64 (a0_1 + 1)), (y816 ++ y808), true)) else (none))) else (none))) else (none))) = some (r1, r2, r3, r4) := by first | (rw [hy808]; with_reducible exact H) | (have H2_ := (Option.bind_some _ _).symm.trans H; rw [hy808]; with_reducible exact H2_) | (have H2_ := (Option.bind_some _ _).symm.trans H; with_reducible exact H2_) | with_reducible exact H | (rw [hy808]; exact H) | exact H
       have Ny808 := Aside0.mk hy808
       clear hy808
       obtain ⟨y805, hy805⟩ : ∃ y_ : List (S100), y_ = (t777.take (x8_1 : Int).toNat) := ⟨_, rfl⟩
       replace H : (if y802.length + y805.length < 4398046511104 then ((some (y802 ++ y805 : List (S100))).bind fun y812 => (if y812.length < 4398046511104 then ((some (y812 ++ [(⟨t781, y798⟩ : S100)] : List (S100))).bind fun y816 => (if y816.length + y808.length < 4398046511104 then (some (t775, (wrap64 (a0_1 + 1)), (y816 ++ y808), true)) else (none))) else (none))) else (none)) = some (r1, r2, r3, r4) := by first | (rw [hy805]; with_reducible exact H) | (have H2_ := (Option.bind_some _ _).symm.trans H; rw [hy805]; with_reducible exact H2_) | (have H2_ := (Option.bind_some _ _).symm.trans H; with_reducible exact H2_) | with_reducible exact H | (rw [hy805]; exact H) | exact H
       have Ny805 := Aside0.mk hy805
       clear hy805
       by_cases c84 : y802.length + y805.length < 4398046511104
       ·
        rw [if_pos c84] at H
        have LMc84 := Aside0.mk c84
        clear c84
        obtain ⟨y812, hy812⟩ : ∃ y_ : List (S100), y_ = (y802 ++ y805) := ⟨_, rfl⟩
        replace H : (if y812.length < 4398046511104 then ((some (y812 ++ [(⟨t781, y798⟩ : S100)] : List (S100))).bind fun y816 => (if y816.length + y808.length < 4398046511104 then (some (t775, (wrap64 (a0_1 + 1)), (y816 ++ y808), true)) else (none))) else (none)) = some (r1, r2, r3, r4) := by first | (rw [hy812]; with_reducible exact H) | (have H2_ := (Option.bind_some _ _).symm.trans H; rw [hy812]; with_reducible exact H2_) | (have H2_ := (Option.bind_some _ _).symm.trans H; with_reducible exact H2_) | with_reducible exact H | (rw [hy812]; exact H) | exact H
        have Ny812 := Aside0.mk hy812
        clear hy812
        by_cases c85 : y812.length < 4398046511104
        ·
         rw [if_pos c85] at H
         have LMc85 := Aside0.mk c85
         clear c85
         obtain ⟨y816, hy816⟩ : ∃ y_ : List (S100), y_ = (y812 ++ [(⟨t781, y798⟩ : S100)]) := ⟨_, rfl⟩
         replace H : (if y816.length + y808.length < 4398046511104 then (some (t775, (wrap64 (a0_1 + 1)), (y816 ++ y808), true)) else (none)) = some (r1, r2, r3, r4) := by first | (rw [hy816]; with_reducible exact H) | (have H2_ := (Option.bind_some _ _).symm.trans H; rw [hy816]; with_reducible exact H2_) | (have H2_ := (Option.bind_some _ _).symm.trans H; with_reducible exact H2_) | with_reducible exact H | (rw [hy816]; exact H) | exact H
         have Ny816 := Aside0.mk hy816
         clear hy816
         by_cases c86 : y816.length + y808.length < 4398046511104
         ·
          rw [if_pos c86] at H
          have LMc86 := Aside0.mk c86
          clear c86
          obtain ⟨y819, hy819⟩ : ∃ y_ : List (S100), y_ = (y816 ++ y808) := ⟨_, rfl⟩
          replace H : (some (t775, (wrap64 (a0_1 + 1)), y819, true)) = some (r1, r2, r3, r4) := by first | (rw [hy819]; with_reducible exact H) | (have H2_ := (Option.bind_some _ _).symm.trans H; rw [hy819]; with_reducible exact H2_) | (have H2_ := (Option.bind_some _ _).symm.trans H; with_reducible exact H2_) | with_reducible exact H | (rw [hy819]; exact H) | exact H
          have Ny819 := Aside0.mk hy819
          clear hy819
          simp only [Option.some.injEq, Prod.mk.injEq] at H
          obtain ⟨rfl, rfl, rfl, rfl⟩ := H
          have hnb87 := NB773_772.out
          have hnc87 := NB772_773.out
          have hnb88 := NB773_774.out
          have hnc88 := NB774_773.out
          have hnb89 := NB773_780.out
          have hnc89 := NB780_773.out
          obtain ⟨z90_0, z90_1, z90_2, z90_3, y90_0, y90_1, y90_2, y90_3⟩ := bc4_ BK773.out
          try go_wp2_with (first | ((with_reducible refine gate_callee (f := 77) rfl ?_); refine gl_ (some 62) Try.func77 #[.agg #[.slice A1_0 l1_0.length c1_0, .int .i64 a1_1, .int .i64 a1_2, .string a1_3]] ?_; (with_reducible refine (spec_l4Copy.calls _ _ l1_0 a1_1 a1_2 a1_3 t792 t795 t796 t797 _ ?side1 ?side2 A81.out).mono ?_); (case side1 => exact cp_ ((Kd.C_below HR1_0.out HB.out))); (case side2 => exact HC1_0.out); rintro e w91 ⟨v793, rfl, ho0, hb⟩; refine ⟨_, rfl, ?_⟩; obtain ⟨gbz793, hz793⟩ := Kd.R_name ho0; replace HO_781002 := Aside0.mk (Kd.S_below (Kd.S_ltz hz793 (sp_ HO_781002.out)) hb); have HO794 := Aside0.mk (Kd.R_lower (Kd.R_gez hz793 ho0) (below_size (hs_ HB.out))); replace BK772 := bk2_ BK772 hb; replace BK773 := bk2_ BK773 hb; replace BK774 := bk2_ BK774 hb; replace BK780 := bk2_ BK780 hb; replace HB := st_ HB hb; (try clear hb); (try clear hk); (try clear ho0); obtain ⟨Ao92, co92, eo92⟩ := Kd.R_slice HO794.out; subst eo92) | ((with_reducible refine gd_ 63 rfl ?_); refine Kd.S_lit2 k43 w.heap.size 43 ?hg (N := 63) ?hd (x := (⟨t792, t795, t796, t797⟩ : S43)) (cs := [.slice Ao92 t792.length co92, .int .i64 t795, .int .i64 t796, .string t797]) (ok := (fun k_ => k_ ≠ gb773)) (okp := (fun k_ => some k_ = (.slice Ao92 t792.length co92 : Value).ownBlock)) (fun k_ => gbz793 ≤ k_) ?hr ?hp (fun k_ hk_ => (fun e_ => e_.1.2) ((Kd.R_types (HO794.out) BK773.out (by decide)).1 k_ hk_.symm)) (fun k_ hk_ => ((Kd.R_mono (ok' := (fun k_ => k_ ≠ gb773)) (Kd.R_types (HO794.out) BK773.out (by decide)) (fun k_ hk => hk.2))).1 k_ hk_.symm) ?hf ?aS ?_; (case hd => rfl); (case hg => rfl); (case hr => first | (go_simp; done) | (go_simp; rfl)); (case hp => exact (k43_mkM _ _ _ (⟨t792, t795, t796, t797⟩ : S43) (Kd.R_mono (Kd.R_tight rfl (Kd.R_mono (ok' := (fun k_ => k_ ≠ gb773)) (Kd.R_types (HO794.out) BK773.out (by decide)) (fun k_ hk => hk.2))) (fun _ h_ => h_)))); (case hf => exact (show ∀ k_, w91.heap.size ≤ k_ → ((fun k_ => k_ ≠ gb773)) k_ from fun k_ hk => Kd.freshB (g := gb773) (o := .cells #[.slice A1_0 l1_0.length c1_0, .int .i64 a1_1, .int .i64 a1_2, .string a1_3] 43 (0, 0)) (pb_ BK773.out) k_ hk) _ (Nat.le_refl _)); (case aS => exact (below_size (hs_ HB.out))); intro v799 w93 ho94 hb hnew_; rw [← Ny798.out] at ho94; replace HO_781002 := Aside0.mk (Kd.S_elder' (sp_ HO_781002.out) hnew_ hb); have HO800 := Aside0.mk (ho94); replace BK772 := bk2_ BK772 hb; replace BK773 := bk2_ BK773 hb; replace BK774 := bk2_ BK774 hb; replace BK780 := bk2_ BK780 hb; replace HB := st_ HB hb; clear HO794; clear hb hnew_ ho94; obtain ⟨Ao95, co95, eo95⟩ := Kd.S_slice HO800.out; subst eo95) | ((with_reducible refine gd_ 11 rfl ?_); refine bv_ 11 #[.int .i64 0, .slice none 0 0] 100 ?_; intro gb801 hg w96 hbox hb; replace HO_781002 := Aside0.mk (Kd.S_below (Kd.S_ltz hg (Kd.S_elderB (sp_ HO_781002.out) gb801 (Nat.le_of_eq hg.symm))) hb); replace HO800 := Aside0.mk (Kd.S_below (Kd.S_ltz hg (sp_ HO800.out)) hb); have BK801 := Aside0.mk (hbox); have GW801 := Aside0.mk ((gw_ hg (hs_ HB.out))); replace HB := st_ HB hb; have GE801 := Ge_.mk GW801.out; have NB772_801 := Ne_.mk (nl_ BK772.out hg); replace BK772 := bk2_ BK772 hb; have NB801_772 := Ne_.mk (NB772_801.out.symm); have NB773_801 := Ne_.mk (nl_ BK773.out hg); replace BK773 := bk2_ BK773 hb; have NB801_773 := Ne_.mk (NB773_801.out.symm); have NB774_801 := Ne_.mk (nl_ BK774.out hg); replace BK774 := bk2_ BK774 hb; have NB801_774 := Ne_.mk (NB774_801.out.symm); have NB780_801 := Ne_.mk (nl_ BK780.out hg); replace BK780 := bk2_ BK780 hb; have NB801_780 := Ne_.mk (NB780_801.out.symm); clear hb hbox hg; have hnb97 := NB801_772.out; have hnc97 := NB772_801.out; have hnb98 := NB801_773.out; have hnc98 := NB773_801.out; have hnb99 := NB801_774.out; have hnc99 := NB774_801.out; have hnb100 := NB801_780.out; have hnc100 := NB780_801.out; obtain ⟨z101_0, z101_1, y101_0, y101_1⟩ := bc2_ BK801.out))
          generalize hw_ : ((w96.setCell ⟨gb801, 0, none⟩ (.int .i64 t781)).setCell ⟨gb801, 1, none⟩ (.slice Ao95 y798.length co95)) = w102
          have n0_ : Aside0 (Kd.S k100 100 w102 w.heap.size (fun k_ => some k_ ≠ (.slice Ao95 y798.length co95 : Value).ownBlock ∧ k_ ≠ gb773 ∧ gbz778 ≤ k_ ∧ k_ < gb780 ∧ k_ < gbz793 ∧ k_ ≠ gb801 ∧ k_ < gb801) (.slice Ao62 t777.length co62) t777) := ⟨by rw [← hw_]; exact (Kd.S_mono (sf_ gb801 (Kd.S_mono HO_781002.out (fun k_ hk => (⟨hk, hk.1.2⟩ : _ ∧ k_ ≠ gb801))) (fun _ hk => hk.2)) (fun _ hk => ⟨hk.1.1.1.2, ⟨hk.1.1.1.1.1.1, ⟨hk.1.1.1.1.1.2.1, ⟨hk.1.1.1.1.1.2.2, ⟨hk.1.1.1.1.2, ⟨hk.1.1.2, hk.1.2⟩⟩⟩⟩⟩⟩))⟩
          have n1_ : Aside0 (Kd.S k43 43 w102 w.heap.size (fun k_ => k_ ≠ gb773 ∧ (some k_ = (.slice Ao95 y798.length co95 : Value).ownBlock ∨ gbz793 ≤ k_) ∧ k_ < gb801) (.slice Ao95 y798.length co95) y798) := ⟨by rw [← hw_]; exact (Kd.S_mono (sf_ gb801 (Kd.S_types HO800.out BK801.out (by decide)) (fun _ hk => hk.2)) (fun _ hk => ⟨hk.1.1.1, ⟨hk.1.1.2, hk.1.2⟩⟩))⟩
          have n2_ : Aside0 (w102.heap[gb772]? = some (.cells #[.int .i64 a0_0, .int .i64 a0_1, .slice A0_2 l0_2.length c0_2] 57 (0, 0))) := ⟨by rw [← hw_]; exact (bq_ BK772.out)⟩
          have n3_ : Aside0 (w102.heap[gb773]? = some (.cells #[.slice A1_0 l1_0.length c1_0, .int .i64 a1_1, .int .i64 a1_2, .string a1_3] 43 (0, 0))) := ⟨by rw [← hw_]; exact (bq_ BK773.out)⟩
          have n4_ : Aside0 (w102.heap[gb774]? = some (.cells #[.int .i64 0, .int .i64 0, .slice none 0 0] 57 (0, 0))) := ⟨by rw [← hw_]; exact (bq_ BK774.out)⟩
          have n5_ : Aside0 (w102.heap[gb780]? = some (.cells #[.int .i64 t775, .int .i64 (wrap64 (a0_1 + 1)), .slice Ao62 t777.length co62] 57 (0, 0))) := ⟨by rw [← hw_]; exact (bq_ BK780.out)⟩
          have n6_ : Aside0 (w102.heap[gb801]? = some (.cells #[.int .i64 t781, .slice Ao95 y798.length co95] 100 (0, 0))) := ⟨by rw [← hw_]; exact (bp_ BK801.out)⟩
          have n7_ : Aside0 (Below w.heap.size w w102) := ⟨by rw [← hw_]; exact (hs_ HB.out)⟩
          clear hw_
          (try clear HO_781002)
          (try clear HO800)
          (try clear BK772)
          (try clear BK773)
          (try clear BK774)
          (try clear BK780)
          (try clear BK801)
          (try clear HB)
          have HO_781002 := n0_
          have HO800 := n1_
          have BK772 := n2_
          have BK773 := n3_
          have BK774 := n4_
          have BK780 := n5_
          have BK801 := n6_
          have HB := n7_
          clear n0_ n1_ n2_ n3_ n4_ n5_ n6_ n7_
          have qp103 : (x8_1 : Int) ≤ ((t777.length : Int) : Int) := of_decide_eq_true (by with_reducible assumption)
          have q0p103 : (0 : Int) ≤ (x8_1 : Int) := of_decide_eq_true (by with_reducible assumption)
          have hlxp103 := (Kd.S_reads' HO_781002.out).1
          obtain ⟨i0p103, hi0p103, _, hszp103, _⟩ := info_parts info100
          have hcutp103 := cut_to (P := Try.prog) 55 100 .i64 Try.underlying55 hi0p103 Ao62 t777.length co62 x8_1 (of_decide_eq_true (by with_reducible assumption)) qp103 (Kd.S_reads' HO_781002.out).2.1
          have hcutbp103 := cut_from (P := Try.prog) 55 100 .i64 Try.underlying55 hi0p103 2 hszp103 Ao62 t777.length co62 x8_1 q0p103 qp103
          have KLp103 := Aside0.mk (show (x8_1 : Int).toNat ≤ t777.length from by omega)
          obtain ⟨GXp103, hsrp103, hspp103, hglp103⟩ := Kd.S_split HO_781002.out ((x8_1 : Int).toNat) KLp103.out
          have HGp103 := Aside0.mk (show ∀ k_, GXp103 k_ → k_ < gb801 from fun k_ hk => (hglp103 k_ hk).2.2.2.2.2.2)
          have hyp103 : y805.length = (x8_1 : Int).toNat := (by rw [Ny805.out, List.length_take]; omega)
          rw [← Ny805.out] at hspp103
          rw [← hyp103] at hspp103 hcutp103
          obtain ⟨Ap103b, hAbp103⟩ : ∃ A1, A1 = (if co62 = (x8_1 : Int).toNat then Ao62 else (Ao62 : Option Addr).map (·.add ((x8_1 : Int).toNat * 2))) := ⟨_, rfl⟩
          obtain ⟨cp103b, hcbp103⟩ : ∃ c1, c1 = co62 - (x8_1 : Int).toNat := ⟨_, rfl⟩
          have hybp103 : y808.length = t777.length - (x8_1 : Int).toNat := (by rw [Ny808.out, List.length_drop])
          rw [← hybp103, ← hAbp103, ← hcbp103] at hcutbp103
          have KAp103 := Aside0.mk hAbp103
          clear hcbp103 hAbp103 hybp103 hlxp103
          obtain ⟨GXp103P, hPPp103, hlPp103⟩ := Kd.S_fp hspp103
          have HGp103P := Aside0.mk (show ∀ k_, GXp103P k_ → k_ < gb801 from fun k_ hk => (hlPp103 k_ hk).1.1.2.2.2.2.2.2)
          obtain ⟨GXp103u0, hPXp103u0, hPlp103u0⟩ := Kd.S_fp (HO800.out)
          have HGp103u0 := Aside0.mk (show ∀ k_, GXp103u0 k_ → k_ < gb801 from fun k_ hk_ => (hPlp103u0 k_ hk_).1.2.2)
          have nup103u0 := Aside0.mk (Kd.S_mono hPXp103u0 (fun k_ hk_ => (⟨⟨(hPlp103u0 k_ hk_).1, hk_⟩, fun g_ => Or.elim (hPlp103u0 k_ hk_).1.2.1 (fun e3_ => (hglp103 k_ g_).1 e3_) (fun e3_ => Nat.lt_irrefl _ (Nat.lt_of_lt_of_le (hglp103 k_ g_).2.2.2.2.1 e3_))⟩ : (_ ∧ GXp103u0 k_) ∧ ¬ GXp103 k_)))
          have HO807 := Aside0.mk (Kd.S_mono (Kd.S_mono hPPp103 (fun k_ hk_ => (⟨(hlPp103 k_ hk_).1, hk_⟩ : _ ∧ GXp103P k_))) (fun k_ hk => (⟨hk, fun g_ => Or.elim (hPlp103u0 k_ g_).1.2.1 (fun e3_ => hk.1.1.1 e3_) (fun e3_ => Nat.lt_irrefl _ (Nat.lt_of_lt_of_le hk.1.1.2.2.2.2.1 e3_))⟩ : _ ∧ ¬ GXp103u0 k_)))
          clear HO_781002
          have HO_781002 := Aside0.mk hsrp103
          clear HO800
          have HO800 := nup103u0
          clear nup103u0 hPXp103u0 hPlp103u0 hsrp103 hspp103 hglp103 hPPp103 hlPp103 hyp103 hi0p103 hszp103
          replace qp103 := eq_true qp103
          replace HO_781002 := Aside0.mk (Kd.S_drew HO_781002.out)
          replace HO800 := Aside0.mk (Kd.S_drew HO800.out)
          replace HO807 := Aside0.mk (Kd.S_drew HO807.out)
          replace BK772 := Aside0.mk (blk_drew BK772.out)
          replace BK773 := Aside0.mk (blk_drew BK773.out)
          replace BK774 := Aside0.mk (blk_drew BK774.out)
          replace BK780 := Aside0.mk (blk_drew BK780.out)
          replace BK801 := Aside0.mk (blk_drew BK801.out)
          replace HB := Aside0.mk (bd_ HB.out)
          refine start_ (n := 16) (S := fun w' => w'.cell? ⟨gb780, 0, none⟩ = some (.int .i64 t775) ∧ w'.cell? ⟨gb780, 1, none⟩ = some (.int .i64 (wrap64 (a0_1 + 1))) ∧ w'.cell? ⟨gb780, 2, none⟩ = some (.slice Ao62 t777.length co62) ∧ w'.cell? ⟨gb801, 0, none⟩ = some (.int .i64 t781) ∧ w'.cell? ⟨gb801, 1, none⟩ = some (.slice Ao95 y798.length co95)) (ds := [15]) #[f_,f_,f_,f_,f_,f_,f_,f_,f_,f_,f_,f_,f_,f_,f_,f_] (by kernel_rfl) rfl rfl ⟨bx_ BK780.out 0, bx_ BK780.out 1, bx_ BK780.out 2, bx_ BK801.out 0, bx_ BK801.out 1⟩ (fun hHeld => ?_); refine with_tabW spec_PutIn.tab13 spec_PutIn.bits13 (fun HT_ HW_ => ?_)
          generalize w102.drew = w104 at HO_781002 HO800 HO807 BK772 BK773 BK774 BK780 BK801 HB hHeld ⊢
          refine pw_ 1 66 #[f_,t_,f_,f_,f_,f_,f_,f_,f_,f_,f_,f_,f_,f_,f_,f_] rfl rfl HT_.out ?_
          refine pw_ 3 68 #[f_,t_,f_,t_,f_,f_,f_,f_,f_,f_,f_,f_,f_,f_,f_,f_] rfl rfl HT_.out ?_
          refine pw_ 9 74 #[f_,t_,f_,t_,f_,f_,f_,f_,f_,t_,f_,f_,f_,f_,f_,f_] rfl rfl HT_.out ?_
          refine pw_ 11 76 #[f_,t_,f_,t_,f_,f_,f_,f_,f_,t_,f_,t_,f_,f_,f_,f_] rfl rfl HT_.out ?_
          refine take_ (i := 2) (N := some 67) (v := ?_) (a' := ?_) #[f_,t_,t_,t_,f_,f_,f_,f_,f_,t_,f_,t_,f_,f_,f_,f_] rfl rfl (take_ofW HT_.out HW_.out (by kernel_rfl)) (fun _ _ _ h => h) (Or.inl ⟨by rfl, ?_⟩) hHeld ?_ ?_
          rotate_left
          ·
           rintro w' ⟨s0, s1, s2, s3, s4⟩
           go_simp
           with_reducible rfl
          rotate_left
          ·
           simp only [fr_]
           rfl
          refine pw_ 4 69 #[f_,t_,t_,t_,t_,f_,f_,f_,f_,t_,f_,t_,f_,f_,f_,f_] rfl rfl HT_.out ?_
          refine take_ (i := 6) (N := some 71) (v := ?_) (a' := ?_) #[f_,t_,t_,t_,t_,f_,t_,f_,f_,t_,f_,t_,f_,f_,f_,f_] rfl rfl (take_ofW HT_.out HW_.out (by kernel_rfl)) (fun _ _ _ h => h) (Or.inl ⟨by rfl, ?_⟩) hHeld ?_ ?_
          rotate_left
          ·
           rintro w' ⟨s0, s1, s2, s3, s4⟩
           go_simp
           with_reducible rfl
          rotate_left
          ·
           simp only [fr_]
           rfl
          refine take_ (i := 10) (N := some 75) (v := ?_) (a' := ?_) #[f_,t_,t_,t_,t_,f_,t_,f_,f_,t_,t_,t_,f_,f_,f_,f_] rfl rfl (take_ofW HT_.out HW_.out (by kernel_rfl)) (fun _ _ _ h => h) (Or.inl ⟨by rfl, ?_⟩) hHeld ?_ ?_
          rotate_left
          ·
           rintro w' ⟨s0, s1, s2, s3, s4⟩
           go_simp
           with_reducible rfl
          rotate_left
          ·
           simp only [fr_]
           rfl
          refine pw_ 12 77 #[f_,t_,t_,t_,t_,f_,t_,f_,f_,t_,t_,t_,t_,f_,f_,f_] rfl rfl HT_.out ?_
          refine join_ (σ := Value × Value × Nat) 4 #[t_,t_,t_,t_,t_,t_,t_,t_,f_,t_,t_,t_,t_,f_,f_,f_] (fun s_ => [(65, s_.1), (70, s_.2.1), (72, .slice (some ⟨s_.2.2, 0, none⟩) 1 1)]) (fun s_ w' => (w'.cell? ⟨gb780, 0, none⟩ = some (.int .i64 t775) ∧ w'.cell? ⟨gb780, 1, none⟩ = some (.int .i64 (wrap64 (a0_1 + 1))) ∧ w'.cell? ⟨gb780, 2, none⟩ = some (.slice Ao62 t777.length co62) ∧ w'.cell? ⟨gb801, 0, none⟩ = some (.int .i64 t781) ∧ w'.cell? ⟨gb801, 1, none⟩ = some (.slice Ao95 y798.length co95)) ∧ (Kd.S k43 43 w' w.heap.size (fun k_ => k_ ≠ gb773 ∧ GXp103u0 k_ ∧ k_ < gb801 ∧ ¬ GXp103 k_ ∧ (some k_ = (.slice Ao95 y798.length co95 : Value).ownBlock ∨ gbz793 ≤ k_)) (.slice Ao95 y798.length co95) y798) ∧ (Kd.S k100 100 w' w.heap.size (fun k_ => some k_ ≠ (.slice Ao95 y798.length co95 : Value).ownBlock ∧ some k_ ≠ (.slice Ao62 t777.length co62 : Value).ownBlock ∧ k_ ≠ gb773 ∧ k_ ≠ gb801 ∧ k_ ≠ s_.2.2 ∧ ¬ GXp103 k_ ∧ ¬ GXp103u0 k_) s_.2.1 y812) ∧ (Kd.S (Kd.opt k100) 100 w' w.heap.size (fun k_ => some k_ ≠ (.slice Ao95 y798.length co95 : Value).ownBlock ∧ some k_ ≠ (s_.2.1 : Value).ownBlock ∧ k_ ≠ gb773 ∧ k_ ≠ gb801 ∧ k_ ≠ s_.2.2 ∧ gbz778 ≤ k_ ∧ GXp103 k_ ∧ k_ < gb780 ∧ k_ < gb801 ∧ k_ < gbz793) (.slice Ao62 t777.length co62) (Kd.gap ((x8_1 : Int).toNat) t777)) ∧ (w'.heap[gb772]? = some (.cells #[.int .i64 a0_0, .int .i64 a0_1, .slice A0_2 l0_2.length c0_2] 57 (0, 0))) ∧ (w'.heap[gb773]? = some (.cells #[.slice A1_0 l1_0.length c1_0, .int .i64 a1_1, .int .i64 a1_2, .string a1_3] 43 (0, 0))) ∧ (w'.heap[gb774]? = some (.cells #[.int .i64 0, .int .i64 0, .slice none 0 0] 57 (0, 0))) ∧ (w'.heap[gb780]? = some (.cells #[.int .i64 t775, .int .i64 (wrap64 (a0_1 + 1)), .slice Ao62 t777.length co62] 57 (0, 0))) ∧ (w'.heap[gb801]? = some (.cells #[.int .i64 t781, .slice Ao95 y798.length co95] 100 (0, 0))) ∧ (w'.heap[s_.2.2]? = some (.cells #[.int .i64 t781, .slice Ao95 y798.length co95] 100 (0, 0))) ∧ (w.heap.size ≤ s_.2.2) ∧ (w.heap.size ≤ s_.2.2) ∧ (gb772 ≠ s_.2.2) ∧ (s_.2.2 ≠ gb772) ∧ (gb773 ≠ s_.2.2) ∧ (s_.2.2 ≠ gb773) ∧ (gb774 ≠ s_.2.2) ∧ (s_.2.2 ≠ gb774) ∧ (gb780 ≠ s_.2.2) ∧ (s_.2.2 ≠ gb780) ∧ (gb801 ≠ s_.2.2) ∧ (s_.2.2 ≠ gb801) ∧ (Below w.heap.size w w')) ?_ ?_
          rotate_left
          ·
           intro hCont
           refine two_ (i := 0) (j := 7) (Ni := some 65) (Nj := some 72) #[t_,t_,t_,t_,t_,f_,t_,f_,f_,t_,t_,t_,t_,f_,f_,f_] #[f_,t_,t_,t_,t_,f_,t_,t_,f_,t_,t_,t_,t_,f_,f_,f_] rfl rfl rfl rfl (two_of HT_.out (by kernel_rfl)) (by decide) (by decide) (fun K hK => ?_) (fun K hK => ?_)
           ·
            skip
            refine Kd.S_lit_step k100 _ 100 ?hg (N := 65) ?hd (xs := ([] : List (S100))) (inner := []) (ok := fun _ => True) (okp := fun _ => True) ?hr ?hp (fun _ hk => hk) trivial (Below.refl _ _) (Nat.le_refl _) (by simp) ?_; (case hd => rfl); (case hg => rfl); (case hr => first | (go_simp; done) | (go_simp; rfl)); (case hp => exact (Reps.none _ _))
            intro v803 w105 ho106 hb hg_ hnew_
            clear hg_ hnew_
            (first | rw [← Ny802.out] at ho106 | (simp only [Int.reduceToNat] at ho106; rw [← Ny802.out] at ho106))
            have HO804 := Aside0.mk (Kd.S_lower (Kd.S_newB (Kd.S_newB (Kd.S_new' (Kd.S_new' (Kd.S_new' (Kd.S_ngz HGp103P.out (blk_lt (pb_ BK801.out)) (Kd.S_ngz HGp103u0.out (blk_lt (pb_ BK801.out)) (Kd.S_ngz HGp103.out (blk_lt (pb_ BK801.out)) ho106))) (Kd.S_lt (sp_ HO_781002.out))) (Kd.S_lt (sp_ HO800.out))) (Kd.S_lt (sp_ HO807.out))) (g := gb773) (o := .cells #[.slice A1_0 l1_0.length c1_0, .int .i64 a1_1, .int .i64 a1_2, .string a1_3] 43 (0, 0)) (pb_ BK773.out)) (g := gb801) (o := .cells #[.int .i64 t781, .slice Ao95 y798.length co95] 100 (0, 0)) (pb_ BK801.out)) (below_size (hs_ HB.out)))
            replace HO_781002 := Aside0.mk (Kd.S_elder' (sp_ HO_781002.out) (Kd.S_base ho106) hb)
            replace HO800 := Aside0.mk (Kd.S_below (sp_ HO800.out) hb)
            replace HO807 := Aside0.mk (Kd.S_elder' (sp_ HO807.out) (Kd.S_base ho106) hb)
            replace BK772 := bk2_ BK772 hb
            replace BK773 := bk2_ BK773 hb
            replace BK774 := bk2_ BK774 hb
            replace BK780 := bk2_ BK780 hb
            replace BK801 := bk2_ BK801 hb
            replace HB := st_ HB hb
            clear hb ho106
            refine hK.out _ _ ⟨bx_ BK780.out 0, bx_ BK780.out 1, bx_ BK780.out 2, bx_ BK801.out 0, bx_ BK801.out 1⟩ (fun hHeld => ?_)
            clear hK K
            refine norm_ (a' := ?_) ?_ ?_
            rotate_left
            ·
             show Act.put _ (some 65) _ = _
             simp only [fr_]
             rfl
            refine two_ (i := 5) (j := 7) (Ni := some 70) (Nj := some 72) #[t_,t_,t_,t_,t_,t_,t_,f_,f_,t_,t_,t_,t_,f_,f_,f_] #[t_,t_,t_,t_,t_,f_,t_,t_,f_,t_,t_,t_,t_,f_,f_,f_] rfl rfl rfl rfl (two_of HT_.out (by kernel_rfl)) (by decide) (by decide) (fun K hK => ?_) (fun K hK => ?_)
            ·
             skip
             refine Kd.S_append_part_step k100 (w0 := w) w.heap.size (by rfl) (.tmp 65) (.tmp 69) 55 100 (.agg #[(.int .i64 0), (.slice none 0 0)]) 32 rfl Try.underlying55 info100 rfl (by decide) (by omega) v803 y802 y805 _ _ _ (fun k_ => some k_ ≠ (.slice Ao62 t777.length co62 : Value).ownBlock ∧ some k_ ≠ (.slice Ao95 y798.length co95 : Value).ownBlock ∧ k_ ≠ gb773 ∧ k_ ≠ gb801 ∧ ¬ GXp103 k_ ∧ ¬ GXp103u0 k_) (fun k_ => some k_ ≠ (.slice Ao95 y798.length co95 : Value).ownBlock ∧ some k_ ≠ (v803 : Value).ownBlock ∧ k_ ≠ gb773 ∧ gbz778 ≤ k_ ∧ k_ < gb780 ∧ k_ < gbz793 ∧ k_ ≠ gb801 ∧ k_ < gb801 ∧ (¬ GXp103 k_ ∨ some k_ = (.slice Ao62 y805.length co62 : Value).ownBlock) ∧ GXp103P k_ ∧ ¬ GXp103u0 k_) rfl rfl ?aR (fun k_ hx_ ho_ => by have hz_ : ((((fun k_ => some k_ ≠ (.slice Ao95 y798.length co95 : Value).ownBlock ∧ some k_ ≠ (v803 : Value).ownBlock ∧ k_ ≠ gb773 ∧ gbz778 ≤ k_ ∧ k_ < gb780 ∧ k_ < gbz793 ∧ k_ ≠ gb801 ∧ k_ < gb801 ∧ (¬ GXp103 k_ ∨ some k_ = (.slice Ao62 y805.length co62 : Value).ownBlock) ∧ GXp103P k_ ∧ ¬ GXp103u0 k_)) k_ ∧ ¬ GXp103 k_) ∧ some k_ ≠ (.slice Ao62 t777.length co62 : Value).ownBlock) := ⟨⟨hx_, fun g_ => (hx_.2.2.2.2.2.2.2.2.1).elim (fun h_ => h_ g_) (fun h_ => ho_ h_)⟩, fun e_ => ho_ (e_.trans Kd.own_len)⟩; exact ⟨⟨hz_.2, ⟨hz_.1.1.1, ⟨hz_.1.1.2.2.1, ⟨hz_.1.1.2.2.2.2.2.2.1, ⟨hz_.1.2, hz_.1.1.2.2.2.2.2.2.2.2.2.2⟩⟩⟩⟩⟩, hz_.1.1.2.1⟩) ?aF ?aO ?aB ?aS ?aL ?_
             (case aR => exact (Kd.S_mono (HO807.out) (fun k_ hk => ⟨hk.1.1.1.1.1, ⟨hk.2, ⟨hk.1.1.1.1.2.1, ⟨hk.1.1.1.1.2.2.1, ⟨hk.1.1.1.1.2.2.2.1, ⟨hk.1.1.1.1.2.2.2.2.1, ⟨hk.1.1.1.1.2.2.2.2.2.1, ⟨hk.1.1.1.1.2.2.2.2.2.2, ⟨hk.1.1.1.2, ⟨hk.1.1.2, hk.1.2⟩⟩⟩⟩⟩⟩⟩⟩⟩⟩)))
             (case aB => exact (hs_ HB.out))
             (case aF => exact (fun k_ hk => ⟨Kd.fresh' (Kd.S_lt (sp_ HO_781002.out)) k_ hk, Kd.fresh' (Kd.S_lt (sp_ HO800.out)) k_ hk, Kd.freshB (g := gb773) (o := .cells #[.slice A1_0 l1_0.length c1_0, .int .i64 a1_1, .int .i64 a1_2, .string a1_3] 43 (0, 0)) (pb_ BK773.out) k_ hk, Kd.freshB (g := gb801) (o := .cells #[.int .i64 t781, .slice Ao95 y798.length co95] 100 (0, 0)) (pb_ BK801.out) k_ hk, (fun g_ => Nat.lt_irrefl _ (Nat.lt_of_lt_of_le (Nat.lt_trans (HGp103.out k_ g_) (blk_lt (pb_ BK801.out))) hk)), (fun g_ => Nat.lt_irrefl _ (Nat.lt_of_lt_of_le (Nat.lt_trans (HGp103u0.out k_ g_) (blk_lt (pb_ BK801.out))) hk))⟩))
             (case aO => exact (Kd.S_mono (sp_ HO804.out) (fun k_ hk => ⟨⟨hk.1.1.1.1.2, ⟨hk.1.1.1.2, ⟨hk.1.2, ⟨hk.2, ⟨hk.1.1.1.1.1.1.1.2, hk.1.1.1.1.1.1.2⟩⟩⟩⟩⟩, fun e_ => (fun ez_ => hk.1.1.1.1.1.2 ((fun (k9_ : Nat) (h9_ : ((fun k_ => some k_ ≠ (.slice Ao95 y798.length co95 : Value).ownBlock ∧ some k_ ≠ (v803 : Value).ownBlock ∧ k_ ≠ gb773 ∧ gbz778 ≤ k_ ∧ k_ < gb780 ∧ k_ < gbz793 ∧ k_ ≠ gb801 ∧ k_ < gb801 ∧ (¬ GXp103 k_ ∨ some k_ = (.slice Ao62 y805.length co62 : Value).ownBlock) ∧ GXp103P k_ ∧ ¬ GXp103u0 k_)) k9_ ∧ some k9_ ≠ (.slice Ao62 y805.length co62 : Value).ownBlock) => (⟨h9_.1, trivial⟩ : _ ∧ True)) _ ez_).1.2.2.2.2.2.2.2.2.2.1) e_⟩)))
             (case aS => exact (below_size (hs_ HB.out)))
             (case aL => have := LMc84.out; omega)
             intro v813 w107 ho hb hg hat
             rw [← Ny812.out] at ho
             replace HO_781002 := Aside0.mk (Kd.S_after (ok := (fun k_ => some k_ ≠ (.slice Ao95 y798.length co95 : Value).ownBlock ∧ k_ ≠ gb773 ∧ gbz778 ≤ k_ ∧ k_ < gb780 ∧ k_ < gbz793 ∧ k_ ≠ gb801 ∧ k_ < gb801 ∧ GXp103 k_)) (Kd.S_mono (sp_ HO_781002.out) (fun _ hk => ⟨⟨hk.1.1.1, ⟨hk.1.1.2.1, ⟨hk.1.1.2.2.1, ⟨hk.1.1.2.2.2.1, ⟨hk.1.1.2.2.2.2.1, ⟨hk.1.1.2.2.2.2.2.1, ⟨hk.1.1.2.2.2.2.2.2, hk.1.2⟩⟩⟩⟩⟩⟩⟩, hk.2⟩)) hg hat)
             replace BK772 := Aside0.mk (blk_grown (bq_ BK772.out) hg (Kd.S_ne HO804.out BK772.out (by decide)))
             replace BK773 := Aside0.mk (blk_grown (bq_ BK773.out) hg (Kd.S_ne HO804.out BK773.out (by decide)))
             replace BK774 := Aside0.mk (blk_grown (bq_ BK774.out) hg (Kd.S_ne HO804.out BK774.out (by decide)))
             replace BK780 := Aside0.mk (blk_grown (bq_ BK780.out) hg (Kd.S_ne HO804.out BK780.out (by decide)))
             replace HO800 := Aside0.mk (Kd.S_over' (sp_ HO800.out) (Kd.S_typed (sp_ HO804.out)) (by decide) hg)
             replace BK801 := Aside0.mk (blk_grown (bq_ BK801.out) hg (Kd.S_away HO804.out (fun _ hk => hk.2)))
             replace HB := Aside0.mk (hb)
             have HO814 := Aside0.mk (ho)
             clear HO804 HO807
             clear ho hb hg hat
             refine hK.out _ _ ⟨bx_ BK780.out 0, bx_ BK780.out 1, bx_ BK780.out 2, bx_ BK801.out 0, bx_ BK801.out 1⟩ (fun hHeld => ?_)
             clear hK K
             refine norm_ (a' := ?_) ?_ ?_
             rotate_left
             ·
              show Act.put _ (some 70) _ = _
              simp only [fr_]
              rfl
             refine one_ (i := 7) (N := some 72) #[t_,t_,t_,t_,t_,t_,t_,t_,f_,t_,t_,t_,t_,f_,f_,f_] rfl rfl (one_of HT_.out (by kernel_rfl)) (by decide) (fun K hK => ?_)
             refine box_stepL ?hg (N := 72) ?hd (cs := #[.int .i64 t781, .slice Ao95 y798.length co95]) (t := 100) ?hr ?_; (case hd => rfl); (case hg => rfl); (case hr => first | (go_simp; done) | (go_simp; rfl))
             intro gb815 hg w108 hbox hb
             replace HO_781002 := Aside0.mk (Kd.S_below (Kd.S_elderB (sp_ HO_781002.out) gb815 (Nat.le_of_eq hg.symm)) hb)
             replace HO800 := Aside0.mk (Kd.S_below (sp_ HO800.out) hb)
             replace HO814 := Aside0.mk (Kd.S_below (Kd.S_elderB (sp_ HO814.out) gb815 (Nat.le_of_eq hg.symm)) hb)
             have BK815 := Aside0.mk (hbox)
             have GW815 := Aside0.mk ((gw_ hg (hs_ HB.out)))
             have GE815 := Ge_.mk ((gw_ hg (hs_ HB.out)))
             replace HB := st_ HB hb
             have NB772_815 := Ne_.mk (nl_ BK772.out hg)
             have NB815_772 := Ne_.mk (ng_ BK772.out hg)
             replace BK772 := bk2_ BK772 hb
             have NB773_815 := Ne_.mk (nl_ BK773.out hg)
             have NB815_773 := Ne_.mk (ng_ BK773.out hg)
             replace BK773 := bk2_ BK773 hb
             have NB774_815 := Ne_.mk (nl_ BK774.out hg)
             have NB815_774 := Ne_.mk (ng_ BK774.out hg)
             replace BK774 := bk2_ BK774 hb
             have NB780_815 := Ne_.mk (nl_ BK780.out hg)
             have NB815_780 := Ne_.mk (ng_ BK780.out hg)
             replace BK780 := bk2_ BK780 hb
             have NB801_815 := Ne_.mk (nl_ BK801.out hg)
             have NB815_801 := Ne_.mk (ng_ BK801.out hg)
             replace BK801 := bk2_ BK801 hb
             clear hb hbox hg
             refine hK.out _ _ ⟨bx_ BK780.out 0, bx_ BK780.out 1, bx_ BK780.out 2, bx_ BK801.out 0, bx_ BK801.out 1⟩ (fun hHeld => ?_)
             clear hK K
             refine norm_ (a' := ?_) ?_ ?_
             rotate_left
             ·
              show Act.put _ (some 72) _ = _
              simp only [fr_]
              rfl
             exact norm_ (by simp only [putAll, fr_]) (hCont (v803, v813, gb815) _ ⟨hHeld, (Kd.S_mono (sp_ HO800.out) (fun _ hk => ⟨hk.1.1.1, ⟨hk.1.2, ⟨hk.1.1.2.2, ⟨hk.2, hk.1.1.2.1⟩⟩⟩⟩)), (Kd.S_mono (sp_ HO814.out) (fun _ hk => ⟨hk.1.2.1, ⟨hk.1.1, ⟨hk.1.2.2.1, ⟨hk.1.2.2.2.1, ⟨hk.2, ⟨hk.1.2.2.2.2.1, hk.1.2.2.2.2.2⟩⟩⟩⟩⟩⟩)), (Kd.S_mono (sp_ HO_781002.out) (fun _ hk => ⟨hk.1.1.1, ⟨hk.1.2, ⟨hk.1.1.2.1, ⟨hk.1.1.2.2.2.2.2.1, ⟨hk.2, ⟨hk.1.1.2.2.1, ⟨hk.1.1.2.2.2.2.2.2.2, ⟨hk.1.1.2.2.2.1, ⟨hk.1.1.2.2.2.2.2.2.1, hk.1.1.2.2.2.2.1⟩⟩⟩⟩⟩⟩⟩⟩⟩)), (pb_ BK772.out), (pb_ BK773.out), (pb_ BK774.out), (pb_ BK780.out), (pb_ BK801.out), (pb_ BK815.out), GW815.out, GE815.out, NB772_815.out, NB815_772.out, NB773_815.out, NB815_773.out, NB774_815.out, NB815_774.out, NB780_815.out, NB815_780.out, NB801_815.out, NB815_801.out, (hs_ HB.out)⟩)
            skip
            refine box_stepL ?hg (N := 72) ?hd (cs := #[.int .i64 t781, .slice Ao95 y798.length co95]) (t := 100) ?hr ?_; (case hd => rfl); (case hg => rfl); (case hr => first | (go_simp; done) | (go_simp; rfl))
            intro gb815 hg w107 hbox hb
            replace HO_781002 := Aside0.mk (Kd.S_below (Kd.S_elderB (sp_ HO_781002.out) gb815 (Nat.le_of_eq hg.symm)) hb)
            replace HO800 := Aside0.mk (Kd.S_below (sp_ HO800.out) hb)
            replace HO807 := Aside0.mk (Kd.S_below (Kd.S_elderB (sp_ HO807.out) gb815 (Nat.le_of_eq hg.symm)) hb)
            replace HO804 := Aside0.mk (Kd.S_below (Kd.S_elderB (sp_ HO804.out) gb815 (Nat.le_of_eq hg.symm)) hb)
            have BK815 := Aside0.mk (hbox)
            have GW815 := Aside0.mk ((gw_ hg (hs_ HB.out)))
            have GE815 := Ge_.mk ((gw_ hg (hs_ HB.out)))
            replace HB := st_ HB hb
            have NB772_815 := Ne_.mk (nl_ BK772.out hg)
            have NB815_772 := Ne_.mk (ng_ BK772.out hg)
            replace BK772 := bk2_ BK772 hb
            have NB773_815 := Ne_.mk (nl_ BK773.out hg)
            have NB815_773 := Ne_.mk (ng_ BK773.out hg)
            replace BK773 := bk2_ BK773 hb
            have NB774_815 := Ne_.mk (nl_ BK774.out hg)
            have NB815_774 := Ne_.mk (ng_ BK774.out hg)
            replace BK774 := bk2_ BK774 hb
            have NB780_815 := Ne_.mk (nl_ BK780.out hg)
            have NB815_780 := Ne_.mk (ng_ BK780.out hg)
            replace BK780 := bk2_ BK780 hb
            have NB801_815 := Ne_.mk (nl_ BK801.out hg)
            have NB815_801 := Ne_.mk (ng_ BK801.out hg)
            replace BK801 := bk2_ BK801 hb
            clear hb hbox hg
            refine hK.out _ _ ⟨bx_ BK780.out 0, bx_ BK780.out 1, bx_ BK780.out 2, bx_ BK801.out 0, bx_ BK801.out 1⟩ (fun hHeld => ?_)
            clear hK K
            refine norm_ (a' := ?_) ?_ ?_
            rotate_left
            ·
             show Act.put _ (some 72) _ = _
             simp only [fr_]
             rfl
            refine one_ (i := 5) (N := some 70) #[t_,t_,t_,t_,t_,t_,t_,t_,f_,t_,t_,t_,t_,f_,f_,f_] rfl rfl (one_of HT_.out (by kernel_rfl)) (by decide) (fun K hK => ?_)
            refine Kd.S_append_part_step k100 (w0 := w) w.heap.size (by rfl) (.tmp 65) (.tmp 69) 55 100 (.agg #[(.int .i64 0), (.slice none 0 0)]) 32 rfl Try.underlying55 info100 rfl (by decide) (by omega) v803 y802 y805 _ _ _ (fun k_ => some k_ ≠ (.slice Ao62 t777.length co62 : Value).ownBlock ∧ some k_ ≠ (.slice Ao95 y798.length co95 : Value).ownBlock ∧ k_ ≠ gb773 ∧ k_ ≠ gb801 ∧ k_ ≠ gb815 ∧ ¬ GXp103 k_ ∧ ¬ GXp103u0 k_) (fun k_ => some k_ ≠ (.slice Ao95 y798.length co95 : Value).ownBlock ∧ some k_ ≠ (v803 : Value).ownBlock ∧ k_ ≠ gb773 ∧ gbz778 ≤ k_ ∧ k_ < gb780 ∧ k_ < gbz793 ∧ k_ ≠ gb801 ∧ k_ < gb801 ∧ (¬ GXp103 k_ ∨ some k_ = (.slice Ao62 y805.length co62 : Value).ownBlock) ∧ GXp103P k_ ∧ ¬ GXp103u0 k_ ∧ k_ ≠ gb815) rfl rfl ?aR (fun k_ hx_ ho_ => by have hz_ : ((((fun k_ => some k_ ≠ (.slice Ao95 y798.length co95 : Value).ownBlock ∧ some k_ ≠ (v803 : Value).ownBlock ∧ k_ ≠ gb773 ∧ gbz778 ≤ k_ ∧ k_ < gb780 ∧ k_ < gbz793 ∧ k_ ≠ gb801 ∧ k_ < gb801 ∧ (¬ GXp103 k_ ∨ some k_ = (.slice Ao62 y805.length co62 : Value).ownBlock) ∧ GXp103P k_ ∧ ¬ GXp103u0 k_ ∧ k_ ≠ gb815)) k_ ∧ ¬ GXp103 k_) ∧ some k_ ≠ (.slice Ao62 t777.length co62 : Value).ownBlock) := ⟨⟨hx_, fun g_ => (hx_.2.2.2.2.2.2.2.2.1).elim (fun h_ => h_ g_) (fun h_ => ho_ h_)⟩, fun e_ => ho_ (e_.trans Kd.own_len)⟩; exact ⟨⟨hz_.2, ⟨hz_.1.1.1, ⟨hz_.1.1.2.2.1, ⟨hz_.1.1.2.2.2.2.2.2.1, ⟨hz_.1.1.2.2.2.2.2.2.2.2.2.2.2, ⟨hz_.1.2, hz_.1.1.2.2.2.2.2.2.2.2.2.2.1⟩⟩⟩⟩⟩⟩, hz_.1.1.2.1⟩) ?aF ?aO ?aB ?aS ?aL ?_
            (case aR => exact (Kd.S_mono (HO807.out) (fun k_ hk => ⟨hk.1.1.1.1.1.1, ⟨hk.1.2, ⟨hk.1.1.1.1.1.2.1, ⟨hk.1.1.1.1.1.2.2.1, ⟨hk.1.1.1.1.1.2.2.2.1, ⟨hk.1.1.1.1.1.2.2.2.2.1, ⟨hk.1.1.1.1.1.2.2.2.2.2.1, ⟨hk.1.1.1.1.1.2.2.2.2.2.2, ⟨hk.1.1.1.1.2, ⟨hk.1.1.1.2, ⟨hk.1.1.2, hk.2⟩⟩⟩⟩⟩⟩⟩⟩⟩⟩⟩)))
            (case aB => exact (hs_ HB.out))
            (case aF => exact (fun k_ hk => ⟨Kd.fresh' (Kd.S_lt (sp_ HO_781002.out)) k_ hk, Kd.fresh' (Kd.S_lt (sp_ HO800.out)) k_ hk, Kd.freshB (g := gb773) (o := .cells #[.slice A1_0 l1_0.length c1_0, .int .i64 a1_1, .int .i64 a1_2, .string a1_3] 43 (0, 0)) (pb_ BK773.out) k_ hk, Kd.freshB (g := gb801) (o := .cells #[.int .i64 t781, .slice Ao95 y798.length co95] 100 (0, 0)) (pb_ BK801.out) k_ hk, Kd.freshB (g := gb815) (o := .cells #[.int .i64 t781, .slice Ao95 y798.length co95] 100 (0, 0)) (pb_ BK815.out) k_ hk, (fun g_ => Nat.lt_irrefl _ (Nat.lt_of_lt_of_le (Nat.lt_trans (HGp103.out k_ g_) (blk_lt (pb_ BK801.out))) hk)), (fun g_ => Nat.lt_irrefl _ (Nat.lt_of_lt_of_le (Nat.lt_trans (HGp103u0.out k_ g_) (blk_lt (pb_ BK801.out))) hk))⟩))
            (case aO => exact (Kd.S_mono (sp_ HO804.out) (fun k_ hk => ⟨⟨hk.1.1.1.1.1.2, ⟨hk.1.1.1.1.2, ⟨hk.1.1.2, ⟨hk.1.2, ⟨hk.2, ⟨hk.1.1.1.1.1.1.1.1.2, hk.1.1.1.1.1.1.1.2⟩⟩⟩⟩⟩⟩, fun e_ => (fun ez_ => hk.1.1.1.1.1.1.2 ((fun (k9_ : Nat) (h9_ : ((fun k_ => some k_ ≠ (.slice Ao95 y798.length co95 : Value).ownBlock ∧ some k_ ≠ (v803 : Value).ownBlock ∧ k_ ≠ gb773 ∧ gbz778 ≤ k_ ∧ k_ < gb780 ∧ k_ < gbz793 ∧ k_ ≠ gb801 ∧ k_ < gb801 ∧ (¬ GXp103 k_ ∨ some k_ = (.slice Ao62 y805.length co62 : Value).ownBlock) ∧ GXp103P k_ ∧ ¬ GXp103u0 k_ ∧ k_ ≠ gb815)) k9_ ∧ some k9_ ≠ (.slice Ao62 y805.length co62 : Value).ownBlock) => (⟨h9_.1, trivial⟩ : _ ∧ True)) _ ez_).1.2.2.2.2.2.2.2.2.2.1) e_⟩)))
            (case aS => exact (below_size (hs_ HB.out)))
            (case aL => have := LMc84.out; omega)
            intro v813 w108 ho hb hg hat
            rw [← Ny812.out] at ho
            replace HO_781002 := Aside0.mk (Kd.S_after (ok := (fun k_ => some k_ ≠ (.slice Ao95 y798.length co95 : Value).ownBlock ∧ k_ ≠ gb773 ∧ gbz778 ≤ k_ ∧ k_ < gb780 ∧ k_ < gbz793 ∧ k_ ≠ gb801 ∧ k_ < gb801 ∧ GXp103 k_ ∧ k_ ≠ gb815)) (Kd.S_mono (sp_ HO_781002.out) (fun _ hk => ⟨⟨hk.1.1.1.1, ⟨hk.1.1.1.2.1, ⟨hk.1.1.1.2.2.1, ⟨hk.1.1.1.2.2.2.1, ⟨hk.1.1.1.2.2.2.2.1, ⟨hk.1.1.1.2.2.2.2.2.1, ⟨hk.1.1.1.2.2.2.2.2.2, ⟨hk.1.1.2, hk.2⟩⟩⟩⟩⟩⟩⟩⟩, hk.1.2⟩)) hg hat)
            replace BK772 := Aside0.mk (blk_grown (bq_ BK772.out) hg (Kd.S_ne HO804.out BK772.out (by decide)))
            replace BK773 := Aside0.mk (blk_grown (bq_ BK773.out) hg (Kd.S_ne HO804.out BK773.out (by decide)))
            replace BK774 := Aside0.mk (blk_grown (bq_ BK774.out) hg (Kd.S_ne HO804.out BK774.out (by decide)))
            replace BK780 := Aside0.mk (blk_grown (bq_ BK780.out) hg (Kd.S_ne HO804.out BK780.out (by decide)))
            replace HO800 := Aside0.mk (Kd.S_over' (sp_ HO800.out) (Kd.S_typed (sp_ HO804.out)) (by decide) hg)
            replace BK801 := Aside0.mk (blk_grown (bq_ BK801.out) hg (Kd.S_away HO804.out (fun _ hk => hk.1.2)))
            replace BK815 := Aside0.mk (blk_grown (bq_ BK815.out) hg (Kd.S_away HO804.out (fun _ hk => hk.2)))
            replace HB := Aside0.mk (hb)
            have HO814 := Aside0.mk (ho)
            clear HO804 HO807
            clear ho hb hg hat
            refine hK.out _ _ ⟨bx_ BK780.out 0, bx_ BK780.out 1, bx_ BK780.out 2, bx_ BK801.out 0, bx_ BK801.out 1⟩ (fun hHeld => ?_)
            clear hK K
            refine norm_ (a' := ?_) ?_ ?_
            rotate_left
            ·
             show Act.put _ (some 70) _ = _
             simp only [fr_]
             rfl
            exact norm_ (by simp only [putAll, fr_]) (hCont (v803, v813, gb815) _ ⟨hHeld, (Kd.S_mono (sp_ HO800.out) (fun _ hk => ⟨hk.1.1.1, ⟨hk.1.2, ⟨hk.1.1.2.2, ⟨hk.2, hk.1.1.2.1⟩⟩⟩⟩)), (Kd.S_mono (sp_ HO814.out) (fun _ hk => ⟨hk.2.1, ⟨hk.1, ⟨hk.2.2.1, ⟨hk.2.2.2.1, ⟨hk.2.2.2.2.1, ⟨hk.2.2.2.2.2.1, hk.2.2.2.2.2.2⟩⟩⟩⟩⟩⟩)), (Kd.S_mono (sp_ HO_781002.out) (fun _ hk => ⟨hk.1.1, ⟨hk.2, ⟨hk.1.2.1, ⟨hk.1.2.2.2.2.2.1, ⟨hk.1.2.2.2.2.2.2.2.2, ⟨hk.1.2.2.1, ⟨hk.1.2.2.2.2.2.2.2.1, ⟨hk.1.2.2.2.1, ⟨hk.1.2.2.2.2.2.2.1, hk.1.2.2.2.2.1⟩⟩⟩⟩⟩⟩⟩⟩⟩)), (pb_ BK772.out), (pb_ BK773.out), (pb_ BK774.out), (pb_ BK780.out), (pb_ BK801.out), (pb_ BK815.out), GW815.out, GE815.out, NB772_815.out, NB815_772.out, NB773_815.out, NB815_773.out, NB774_815.out, NB815_774.out, NB780_815.out, NB815_780.out, NB801_815.out, NB815_801.out, (hs_ HB.out)⟩)
           skip
           refine box_stepL ?hg (N := 72) ?hd (cs := #[.int .i64 t781, .slice Ao95 y798.length co95]) (t := 100) ?hr ?_; (case hd => rfl); (case hg => rfl); (case hr => first | (go_simp; done) | (go_simp; rfl))
           intro gb815 hg w105 hbox hb
           replace HO_781002 := Aside0.mk (Kd.S_below (Kd.S_elderB (sp_ HO_781002.out) gb815 (Nat.le_of_eq hg.symm)) hb)
           replace HO800 := Aside0.mk (Kd.S_below (sp_ HO800.out) hb)
           replace HO807 := Aside0.mk (Kd.S_below (Kd.S_elderB (sp_ HO807.out) gb815 (Nat.le_of_eq hg.symm)) hb)
           have BK815 := Aside0.mk (hbox)
           have GW815 := Aside0.mk ((gw_ hg (hs_ HB.out)))
           have GE815 := Ge_.mk ((gw_ hg (hs_ HB.out)))
           replace HB := st_ HB hb
           have NB772_815 := Ne_.mk (nl_ BK772.out hg)
           have NB815_772 := Ne_.mk (ng_ BK772.out hg)
           replace BK772 := bk2_ BK772 hb
           have NB773_815 := Ne_.mk (nl_ BK773.out hg)
           have NB815_773 := Ne_.mk (ng_ BK773.out hg)
           replace BK773 := bk2_ BK773 hb
           have NB774_815 := Ne_.mk (nl_ BK774.out hg)
           have NB815_774 := Ne_.mk (ng_ BK774.out hg)
           replace BK774 := bk2_ BK774 hb
           have NB780_815 := Ne_.mk (nl_ BK780.out hg)
           have NB815_780 := Ne_.mk (ng_ BK780.out hg)
           replace BK780 := bk2_ BK780 hb
           have NB801_815 := Ne_.mk (nl_ BK801.out hg)
           have NB815_801 := Ne_.mk (ng_ BK801.out hg)
           replace BK801 := bk2_ BK801 hb
           clear hb hbox hg
           refine hK.out _ _ ⟨bx_ BK780.out 0, bx_ BK780.out 1, bx_ BK780.out 2, bx_ BK801.out 0, bx_ BK801.out 1⟩ (fun hHeld => ?_)
           clear hK K
           refine norm_ (a' := ?_) ?_ ?_
           rotate_left
           ·
            show Act.put _ (some 72) _ = _
            simp only [fr_]
            rfl
           refine one_ (i := 0) (N := some 65) #[t_,t_,t_,t_,t_,f_,t_,t_,f_,t_,t_,t_,t_,f_,f_,f_] rfl rfl (one_of HT_.out (by kernel_rfl)) (by decide) (fun K hK => ?_)
           refine Kd.S_lit_step k100 _ 100 ?hg (N := 65) ?hd (xs := ([] : List (S100))) (inner := []) (ok := fun _ => True) (okp := fun _ => True) ?hr ?hp (fun _ hk => hk) trivial (Below.refl _ _) (Nat.le_refl _) (by simp) ?_; (case hd => rfl); (case hg => rfl); (case hr => first | (go_simp; done) | (go_simp; rfl)); (case hp => exact (Reps.none _ _))
           intro v803 w106 ho107 hb hg_ hnew_
           clear hg_ hnew_
           (first | rw [← Ny802.out] at ho107 | (simp only [Int.reduceToNat] at ho107; rw [← Ny802.out] at ho107))
           have HO804 := Aside0.mk (Kd.S_lower (Kd.S_newB (Kd.S_newB (Kd.S_newB (Kd.S_new' (Kd.S_new' (Kd.S_new' (Kd.S_ngz HGp103P.out (blk_lt (pb_ BK801.out)) (Kd.S_ngz HGp103u0.out (blk_lt (pb_ BK801.out)) (Kd.S_ngz HGp103.out (blk_lt (pb_ BK801.out)) ho107))) (Kd.S_lt (sp_ HO_781002.out))) (Kd.S_lt (sp_ HO800.out))) (Kd.S_lt (sp_ HO807.out))) (g := gb773) (o := .cells #[.slice A1_0 l1_0.length c1_0, .int .i64 a1_1, .int .i64 a1_2, .string a1_3] 43 (0, 0)) (pb_ BK773.out)) (g := gb801) (o := .cells #[.int .i64 t781, .slice Ao95 y798.length co95] 100 (0, 0)) (pb_ BK801.out)) (g := gb815) (o := .cells #[.int .i64 t781, .slice Ao95 y798.length co95] 100 (0, 0)) (pb_ BK815.out)) (below_size (hs_ HB.out)))
           replace HO_781002 := Aside0.mk (Kd.S_elder' (sp_ HO_781002.out) (Kd.S_base ho107) hb)
           replace HO800 := Aside0.mk (Kd.S_below (sp_ HO800.out) hb)
           replace HO807 := Aside0.mk (Kd.S_elder' (sp_ HO807.out) (Kd.S_base ho107) hb)
           replace BK772 := bk2_ BK772 hb
           replace BK773 := bk2_ BK773 hb
           replace BK774 := bk2_ BK774 hb
           replace BK780 := bk2_ BK780 hb
           replace BK801 := bk2_ BK801 hb
           replace BK815 := bk2_ BK815 hb
           replace HB := st_ HB hb
           clear hb ho107
           refine hK.out _ _ ⟨bx_ BK780.out 0, bx_ BK780.out 1, bx_ BK780.out 2, bx_ BK801.out 0, bx_ BK801.out 1⟩ (fun hHeld => ?_)
           clear hK K
           refine norm_ (a' := ?_) ?_ ?_
           rotate_left
           ·
            show Act.put _ (some 65) _ = _
            simp only [fr_]
            rfl
           refine one_ (i := 5) (N := some 70) #[t_,t_,t_,t_,t_,t_,t_,t_,f_,t_,t_,t_,t_,f_,f_,f_] rfl rfl (one_of HT_.out (by kernel_rfl)) (by decide) (fun K hK => ?_)
           refine Kd.S_append_part_step k100 (w0 := w) w.heap.size (by rfl) (.tmp 65) (.tmp 69) 55 100 (.agg #[(.int .i64 0), (.slice none 0 0)]) 32 rfl Try.underlying55 info100 rfl (by decide) (by omega) v803 y802 y805 _ _ _ (fun k_ => some k_ ≠ (.slice Ao62 t777.length co62 : Value).ownBlock ∧ some k_ ≠ (.slice Ao95 y798.length co95 : Value).ownBlock ∧ k_ ≠ gb773 ∧ k_ ≠ gb801 ∧ k_ ≠ gb815 ∧ ¬ GXp103 k_ ∧ ¬ GXp103u0 k_) (fun k_ => some k_ ≠ (.slice Ao95 y798.length co95 : Value).ownBlock ∧ some k_ ≠ (v803 : Value).ownBlock ∧ k_ ≠ gb773 ∧ gbz778 ≤ k_ ∧ k_ < gb780 ∧ k_ < gbz793 ∧ k_ ≠ gb801 ∧ k_ < gb801 ∧ (¬ GXp103 k_ ∨ some k_ = (.slice Ao62 y805.length co62 : Value).ownBlock) ∧ GXp103P k_ ∧ ¬ GXp103u0 k_ ∧ k_ ≠ gb815) rfl rfl ?aR (fun k_ hx_ ho_ => by have hz_ : ((((fun k_ => some k_ ≠ (.slice Ao95 y798.length co95 : Value).ownBlock ∧ some k_ ≠ (v803 : Value).ownBlock ∧ k_ ≠ gb773 ∧ gbz778 ≤ k_ ∧ k_ < gb780 ∧ k_ < gbz793 ∧ k_ ≠ gb801 ∧ k_ < gb801 ∧ (¬ GXp103 k_ ∨ some k_ = (.slice Ao62 y805.length co62 : Value).ownBlock) ∧ GXp103P k_ ∧ ¬ GXp103u0 k_ ∧ k_ ≠ gb815)) k_ ∧ ¬ GXp103 k_) ∧ some k_ ≠ (.slice Ao62 t777.length co62 : Value).ownBlock) := ⟨⟨hx_, fun g_ => (hx_.2.2.2.2.2.2.2.2.1).elim (fun h_ => h_ g_) (fun h_ => ho_ h_)⟩, fun e_ => ho_ (e_.trans Kd.own_len)⟩; exact ⟨⟨hz_.2, ⟨hz_.1.1.1, ⟨hz_.1.1.2.2.1, ⟨hz_.1.1.2.2.2.2.2.2.1, ⟨hz_.1.1.2.2.2.2.2.2.2.2.2.2.2, ⟨hz_.1.2, hz_.1.1.2.2.2.2.2.2.2.2.2.2.1⟩⟩⟩⟩⟩⟩, hz_.1.1.2.1⟩) ?aF ?aO ?aB ?aS ?aL ?_
           (case aR => exact (Kd.S_mono (HO807.out) (fun k_ hk => ⟨hk.1.1.1.1.1.1, ⟨hk.2, ⟨hk.1.1.1.1.1.2.1, ⟨hk.1.1.1.1.1.2.2.1, ⟨hk.1.1.1.1.1.2.2.2.1, ⟨hk.1.1.1.1.1.2.2.2.2.1, ⟨hk.1.1.1.1.1.2.2.2.2.2.1, ⟨hk.1.1.1.1.1.2.2.2.2.2.2, ⟨hk.1.1.1.1.2, ⟨hk.1.1.1.2, ⟨hk.1.1.2, hk.1.2⟩⟩⟩⟩⟩⟩⟩⟩⟩⟩⟩)))
           (case aB => exact (hs_ HB.out))
           (case aF => exact (fun k_ hk => ⟨Kd.fresh' (Kd.S_lt (sp_ HO_781002.out)) k_ hk, Kd.fresh' (Kd.S_lt (sp_ HO800.out)) k_ hk, Kd.freshB (g := gb773) (o := .cells #[.slice A1_0 l1_0.length c1_0, .int .i64 a1_1, .int .i64 a1_2, .string a1_3] 43 (0, 0)) (pb_ BK773.out) k_ hk, Kd.freshB (g := gb801) (o := .cells #[.int .i64 t781, .slice Ao95 y798.length co95] 100 (0, 0)) (pb_ BK801.out) k_ hk, Kd.freshB (g := gb815) (o := .cells #[.int .i64 t781, .slice Ao95 y798.length co95] 100 (0, 0)) (pb_ BK815.out) k_ hk, (fun g_ => Nat.lt_irrefl _ (Nat.lt_of_lt_of_le (Nat.lt_trans (HGp103.out k_ g_) (blk_lt (pb_ BK801.out))) hk)), (fun g_ => Nat.lt_irrefl _ (Nat.lt_of_lt_of_le (Nat.lt_trans (HGp103u0.out k_ g_) (blk_lt (pb_ BK801.out))) hk))⟩))
           (case aO => exact (Kd.S_mono (sp_ HO804.out) (fun k_ hk => ⟨⟨hk.1.1.1.1.1.2, ⟨hk.1.1.1.1.2, ⟨hk.1.1.2, ⟨hk.1.2, ⟨hk.2, ⟨hk.1.1.1.1.1.1.1.1.2, hk.1.1.1.1.1.1.1.2⟩⟩⟩⟩⟩⟩, fun e_ => (fun ez_ => hk.1.1.1.1.1.1.2 ((fun (k9_ : Nat) (h9_ : ((fun k_ => some k_ ≠ (.slice Ao95 y798.length co95 : Value).ownBlock ∧ some k_ ≠ (v803 : Value).ownBlock ∧ k_ ≠ gb773 ∧ gbz778 ≤ k_ ∧ k_ < gb780 ∧ k_ < gbz793 ∧ k_ ≠ gb801 ∧ k_ < gb801 ∧ (¬ GXp103 k_ ∨ some k_ = (.slice Ao62 y805.length co62 : Value).ownBlock) ∧ GXp103P k_ ∧ ¬ GXp103u0 k_ ∧ k_ ≠ gb815)) k9_ ∧ some k9_ ≠ (.slice Ao62 y805.length co62 : Value).ownBlock) => (⟨h9_.1, trivial⟩ : _ ∧ True)) _ ez_).1.2.2.2.2.2.2.2.2.2.1) e_⟩)))
           (case aS => exact (below_size (hs_ HB.out)))
           (case aL => have := LMc84.out; omega)
           intro v813 w108 ho hb hg hat
           rw [← Ny812.out] at ho
           replace HO_781002 := Aside0.mk (Kd.S_after (ok := (fun k_ => some k_ ≠ (.slice Ao95 y798.length co95 : Value).ownBlock ∧ k_ ≠ gb773 ∧ gbz778 ≤ k_ ∧ k_ < gb780 ∧ k_ < gbz793 ∧ k_ ≠ gb801 ∧ k_ < gb801 ∧ GXp103 k_ ∧ k_ ≠ gb815)) (Kd.S_mono (sp_ HO_781002.out) (fun _ hk => ⟨⟨hk.1.1.1.1, ⟨hk.1.1.1.2.1, ⟨hk.1.1.1.2.2.1, ⟨hk.1.1.1.2.2.2.1, ⟨hk.1.1.1.2.2.2.2.1, ⟨hk.1.1.1.2.2.2.2.2.1, ⟨hk.1.1.1.2.2.2.2.2.2, ⟨hk.1.1.2, hk.1.2⟩⟩⟩⟩⟩⟩⟩⟩, hk.2⟩)) hg hat)
           replace BK772 := Aside0.mk (blk_grown (bq_ BK772.out) hg (Kd.S_ne HO804.out BK772.out (by decide)))
           replace BK773 := Aside0.mk (blk_grown (bq_ BK773.out) hg (Kd.S_ne HO804.out BK773.out (by decide)))
           replace BK774 := Aside0.mk (blk_grown (bq_ BK774.out) hg (Kd.S_ne HO804.out BK774.out (by decide)))
           replace BK780 := Aside0.mk (blk_grown (bq_ BK780.out) hg (Kd.S_ne HO804.out BK780.out (by decide)))
           replace HO800 := Aside0.mk (Kd.S_over' (sp_ HO800.out) (Kd.S_typed (sp_ HO804.out)) (by decide) hg)
           replace BK801 := Aside0.mk (blk_grown (bq_ BK801.out) hg (Kd.S_away HO804.out (fun _ hk => hk.1.2)))
           replace BK815 := Aside0.mk (blk_grown (bq_ BK815.out) hg (Kd.S_away HO804.out (fun _ hk => hk.2)))
           replace HB := Aside0.mk (hb)
           have HO814 := Aside0.mk (ho)
           clear HO804 HO807
           clear ho hb hg hat
           refine hK.out _ _ ⟨bx_ BK780.out 0, bx_ BK780.out 1, bx_ BK780.out 2, bx_ BK801.out 0, bx_ BK801.out 1⟩ (fun hHeld => ?_)
           clear hK K
           refine norm_ (a' := ?_) ?_ ?_
           rotate_left
           ·
            show Act.put _ (some 70) _ = _
            simp only [fr_]
            rfl
           exact norm_ (by simp only [putAll, fr_]) (hCont (v803, v813, gb815) _ ⟨hHeld, (Kd.S_mono (sp_ HO800.out) (fun _ hk => ⟨hk.1.1.1, ⟨hk.1.2, ⟨hk.1.1.2.2, ⟨hk.2, hk.1.1.2.1⟩⟩⟩⟩)), (Kd.S_mono (sp_ HO814.out) (fun _ hk => ⟨hk.2.1, ⟨hk.1, ⟨hk.2.2.1, ⟨hk.2.2.2.1, ⟨hk.2.2.2.2.1, ⟨hk.2.2.2.2.2.1, hk.2.2.2.2.2.2⟩⟩⟩⟩⟩⟩)), (Kd.S_mono (sp_ HO_781002.out) (fun _ hk => ⟨hk.1.1, ⟨hk.2, ⟨hk.1.2.1, ⟨hk.1.2.2.2.2.2.1, ⟨hk.1.2.2.2.2.2.2.2.2, ⟨hk.1.2.2.1, ⟨hk.1.2.2.2.2.2.2.2.1, ⟨hk.1.2.2.2.1, ⟨hk.1.2.2.2.2.2.2.1, hk.1.2.2.2.2.1⟩⟩⟩⟩⟩⟩⟩⟩⟩)), (pb_ BK772.out), (pb_ BK773.out), (pb_ BK774.out), (pb_ BK780.out), (pb_ BK801.out), (pb_ BK815.out), GW815.out, GE815.out, NB772_815.out, NB815_772.out, NB773_815.out, NB815_773.out, NB774_815.out, NB815_774.out, NB780_815.out, NB815_780.out, NB801_815.out, NB815_801.out, (hs_ HB.out)⟩)
          rintro ⟨v803, v813, gb815⟩ w109 ⟨hS_, h0_, h1_, h2_, h3_, h4_, h5_, h6_, h7_, h8_, h9_, h10_, h11_, h12_, h13_, h14_, h15_, h16_, h17_, h18_, h19_, h20_, h21_⟩
          replace HO800 : Aside0 (Kd.S k43 43 w109 w.heap.size (fun k_ => k_ ≠ gb773 ∧ GXp103u0 k_ ∧ k_ < gb801 ∧ ¬ GXp103 k_ ∧ (some k_ = (.slice Ao95 y798.length co95 : Value).ownBlock ∨ gbz793 ≤ k_)) (.slice Ao95 y798.length co95) y798) := ⟨h0_⟩
          have HO814 : Aside0 (Kd.S k100 100 w109 w.heap.size (fun k_ => some k_ ≠ (.slice Ao95 y798.length co95 : Value).ownBlock ∧ some k_ ≠ (.slice Ao62 t777.length co62 : Value).ownBlock ∧ k_ ≠ gb773 ∧ k_ ≠ gb801 ∧ k_ ≠ gb815 ∧ ¬ GXp103 k_ ∧ ¬ GXp103u0 k_) v813 y812) := ⟨h1_⟩
          replace HO_781002 : Aside0 (Kd.S (Kd.opt k100) 100 w109 w.heap.size (fun k_ => some k_ ≠ (.slice Ao95 y798.length co95 : Value).ownBlock ∧ some k_ ≠ (v813 : Value).ownBlock ∧ k_ ≠ gb773 ∧ k_ ≠ gb801 ∧ k_ ≠ gb815 ∧ gbz778 ≤ k_ ∧ GXp103 k_ ∧ k_ < gb780 ∧ k_ < gb801 ∧ k_ < gbz793) (.slice Ao62 t777.length co62) (Kd.gap ((x8_1 : Int).toNat) t777)) := ⟨h2_⟩
          replace BK772 : Aside0 (w109.heap[gb772]? = some (.cells #[.int .i64 a0_0, .int .i64 a0_1, .slice A0_2 l0_2.length c0_2] 57 (0, 0))) := ⟨h3_⟩
          replace BK773 : Aside0 (w109.heap[gb773]? = some (.cells #[.slice A1_0 l1_0.length c1_0, .int .i64 a1_1, .int .i64 a1_2, .string a1_3] 43 (0, 0))) := ⟨h4_⟩
          replace BK774 : Aside0 (w109.heap[gb774]? = some (.cells #[.int .i64 0, .int .i64 0, .slice none 0 0] 57 (0, 0))) := ⟨h5_⟩
          replace BK780 : Aside0 (w109.heap[gb780]? = some (.cells #[.int .i64 t775, .int .i64 (wrap64 (a0_1 + 1)), .slice Ao62 t777.length co62] 57 (0, 0))) := ⟨h6_⟩
          replace BK801 : Aside0 (w109.heap[gb801]? = some (.cells #[.int .i64 t781, .slice Ao95 y798.length co95] 100 (0, 0))) := ⟨h7_⟩
          have BK815 : Aside0 (w109.heap[gb815]? = some (.cells #[.int .i64 t781, .slice Ao95 y798.length co95] 100 (0, 0))) := ⟨h8_⟩
          have GW815 : Aside0 (w.heap.size ≤ gb815) := ⟨h9_⟩
          have GE815 := Ge_.mk h10_
          have NB772_815 := Ne_.mk h11_
          have NB815_772 := Ne_.mk h12_
          have NB773_815 := Ne_.mk h13_
          have NB815_773 := Ne_.mk h14_
          have NB774_815 := Ne_.mk h15_
          have NB815_774 := Ne_.mk h16_
          have NB780_815 := Ne_.mk h17_
          have NB815_780 := Ne_.mk h18_
          have NB801_815 := Ne_.mk h19_
          have NB815_801 := Ne_.mk h20_
          replace HB : Aside0 (Below w.heap.size w w109) := ⟨h21_⟩
          clear HO807 h0_ h1_ h2_ h3_ h4_ h5_ h6_ h7_ h8_ h9_ h10_ h11_ h12_ h13_ h14_ h15_ h16_ h17_ h18_ h19_ h20_ h21_
          have hHeld : w109.cell? ⟨gb780, 0, none⟩ = some (.int .i64 t775) ∧ w109.cell? ⟨gb780, 1, none⟩ = some (.int .i64 (wrap64 (a0_1 + 1))) ∧ w109.cell? ⟨gb780, 2, none⟩ = some (.slice Ao62 t777.length co62) ∧ w109.cell? ⟨gb801, 0, none⟩ = some (.int .i64 t781) ∧ w109.cell? ⟨gb801, 1, none⟩ = some (.slice Ao95 y798.length co95) := hS_
          obtain ⟨PXP111, hPXP111, hPlP111⟩ := Kd.S_fp (Kd.S_types (Kd.S_types (Kd.S_apart' (Kd.S_apart' (HO800.out) (Kd.S_typed HO_781002.out) (by decide)) (Kd.S_typed HO814.out) (by decide)) BK801.out (by decide)) BK815.out (by decide))
          refine norm_ (a' := ?_) ?_ ?_
          rotate_left
          ·
           simp only [putAll, fr_]
           rfl
          refine one_ (i := 8) (N := some 73) #[t_,t_,t_,t_,t_,t_,t_,t_,t_,t_,t_,t_,t_,f_,f_,f_] rfl rfl (one_of HT_.out (by kernel_rfl)) (by decide) (fun K hK => ?_)
          refine Kd.S_append_box_step k100 (w0 := w) w.heap.size (by rfl) (.tmp 70) (.tmp 72) 55 100 (.agg #[(.int .i64 0), (.slice none 0 0)]) 32 rfl Try.underlying55 info100 rfl (by decide) (by omega) v813 y812 (⟨t781, y798⟩ : S100) [.int .i64 t781, .slice Ao95 y798.length co95] (fun k_ => some k_ ≠ (.slice Ao62 t777.length co62 : Value).ownBlock ∧ k_ ≠ gb773 ∧ k_ ≠ gb801 ∧ k_ ≠ gb815 ∧ ¬ GXp103 k_) (fun k_ => PXP111 k_) gb815 (pb_ BK815.out) rfl rfl ?aP (fun k_ hk_ => ⟨⟨(hPlP111 k_ hk_).1.1.1.1.2, ⟨(hPlP111 k_ hk_).1.1.1.1.1.1, ⟨(hPlP111 k_ hk_).1.1.2, ⟨(hPlP111 k_ hk_).1.2, (hPlP111 k_ hk_).1.1.1.1.1.2.2.2.1⟩⟩⟩⟩, (hPlP111 k_ hk_).1.1.1.2⟩) ?aF ?aO ?aB ?aS ?aL ?_
          (case aP => exact k100_mkM _ _ _ (⟨t781, y798⟩ : S100) (Kd.S_mono hPXP111 (fun _ h_ => h_)))
          (case aB => exact (hs_ HB.out))
          (case aF => exact (fun k_ hk => ⟨Kd.fresh' (Kd.S_lt (sp_ HO_781002.out)) k_ hk, Kd.freshB (g := gb773) (o := .cells #[.slice A1_0 l1_0.length c1_0, .int .i64 a1_1, .int .i64 a1_2, .string a1_3] 43 (0, 0)) (pb_ BK773.out) k_ hk, Kd.freshB (g := gb801) (o := .cells #[.int .i64 t781, .slice Ao95 y798.length co95] 100 (0, 0)) (pb_ BK801.out) k_ hk, Kd.freshB (g := gb815) (o := .cells #[.int .i64 t781, .slice Ao95 y798.length co95] 100 (0, 0)) (pb_ BK815.out) k_ hk, (fun g_ => Nat.lt_irrefl _ (Nat.lt_of_lt_of_le (Nat.lt_trans (HGp103.out k_ g_) (blk_lt (pb_ BK801.out))) hk))⟩))
          (case aO => exact (Kd.S_mono (sp_ HO814.out) (fun k_ hk => ⟨⟨hk.2.1, ⟨hk.2.2.1, ⟨hk.2.2.2.1, ⟨hk.2.2.2.2.1, hk.2.2.2.2.2.1⟩⟩⟩⟩, fun e_ => (fun ez_ => hk.2.2.2.2.2.2 (hPlP111 _ ez_).1.1.1.1.1.2.1) e_⟩)))
          (case aS => exact (below_size (hs_ HB.out)))
          (case aL => have := LMc85.out; omega)
          intro v817 w110 ho hb hg hat
          rw [← Ny816.out] at ho
          replace HO_781002 := Aside0.mk (Kd.S_after (ok := (fun k_ => some k_ ≠ (.slice Ao95 y798.length co95 : Value).ownBlock ∧ k_ ≠ gb773 ∧ k_ ≠ gb801 ∧ k_ ≠ gb815 ∧ gbz778 ≤ k_ ∧ GXp103 k_ ∧ k_ < gb780 ∧ k_ < gb801 ∧ k_ < gbz793)) (Kd.S_mono (sp_ HO_781002.out) (fun _ hk => ⟨⟨hk.1, ⟨hk.2.2.1, ⟨hk.2.2.2.1, ⟨hk.2.2.2.2.1, ⟨hk.2.2.2.2.2.1, ⟨hk.2.2.2.2.2.2.1, ⟨hk.2.2.2.2.2.2.2.1, ⟨hk.2.2.2.2.2.2.2.2.1, hk.2.2.2.2.2.2.2.2.2⟩⟩⟩⟩⟩⟩⟩⟩, hk.2.1⟩)) hg hat)
          replace BK772 := Aside0.mk (blk_grown (bq_ BK772.out) hg (Kd.S_ne HO814.out BK772.out (by decide)))
          replace BK773 := Aside0.mk (blk_grown (bq_ BK773.out) hg (Kd.S_ne HO814.out BK773.out (by decide)))
          replace BK774 := Aside0.mk (blk_grown (bq_ BK774.out) hg (Kd.S_ne HO814.out BK774.out (by decide)))
          replace BK780 := Aside0.mk (blk_grown (bq_ BK780.out) hg (Kd.S_ne HO814.out BK780.out (by decide)))
          replace BK801 := Aside0.mk (blk_grown (bq_ BK801.out) hg (Kd.S_away HO814.out (fun _ hk => hk.2.2.2.1)))
          replace BK815 := Aside0.mk (blk_grown (bq_ BK815.out) hg (Kd.S_away HO814.out (fun _ hk => hk.2.2.2.2.1)))
          replace HB := Aside0.mk (hb)
          have HO818 := Aside0.mk (ho)
          clear HO814 HO800
          clear ho hb hg hat
          refine hK.out _ _ ⟨bx_ BK780.out 0, bx_ BK780.out 1, bx_ BK780.out 2, bx_ BK801.out 0, bx_ BK801.out 1⟩ (fun hHeld => ?_)
          clear hK K
          refine norm_ (a' := ?_) ?_ ?_
          rotate_left
          ·
           show Act.put _ (some 73) _ = _
           simp only [fr_]
           rfl
          refine one_ (i := 13) (N := some 78) #[t_,t_,t_,t_,t_,t_,t_,t_,t_,t_,t_,t_,t_,t_,f_,f_] rfl rfl (one_of HT_.out (by kernel_rfl)) (by decide) (fun K hK => ?_)
          refine Kd.S_append_rest_step k100 (w0 := w) w.heap.size (by rfl) (.tmp 73) (.tmp 77) 55 100 (.agg #[(.int .i64 0), (.slice none 0 0)]) 32 rfl Try.underlying55 info100 rfl (by decide) (by omega) v817 y816 t777 Ao62 t777.length co62 ((x8_1 : Int).toNat) cp103b (fun k_ => k_ ≠ gb773 ∧ k_ ≠ gb801 ∧ k_ ≠ gb815) (fun k_ => some k_ ≠ (v817 : Value).ownBlock ∧ k_ ≠ gb773 ∧ k_ ≠ gb801 ∧ k_ ≠ gb815 ∧ gbz778 ≤ k_ ∧ GXp103 k_ ∧ k_ < gb780 ∧ k_ < gb801 ∧ k_ < gbz793) rfl KLp103.out (by rw [show (if co62 = (x8_1 : Int).toNat then Ao62 else (Ao62 : Option Addr).map (·.add ((x8_1 : Int).toNat * (k100).sz))) = Ap103b from KAp103.out.symm, ← Ny808.out]; rfl) ?aR (fun k_ hk ho_ => ⟨⟨hk.2.1, ⟨hk.2.2.1, hk.2.2.2.1⟩⟩, hk.1⟩) ?aF ?aO ?aB ?aS ?aL ?_
          (case aR => exact (Kd.S_mono (HO_781002.out) (fun k_ hk => ⟨hk.2, ⟨hk.1.2.1, ⟨hk.1.2.2.1, ⟨hk.1.2.2.2.1, ⟨hk.1.2.2.2.2.1, ⟨hk.1.2.2.2.2.2.1, ⟨hk.1.2.2.2.2.2.2.1, ⟨hk.1.2.2.2.2.2.2.2.1, hk.1.2.2.2.2.2.2.2.2⟩⟩⟩⟩⟩⟩⟩⟩)))
          (case aB => exact (hs_ HB.out))
          (case aF => exact (fun k_ hk => ⟨Kd.freshB (g := gb773) (o := .cells #[.slice A1_0 l1_0.length c1_0, .int .i64 a1_1, .int .i64 a1_2, .string a1_3] 43 (0, 0)) (pb_ BK773.out) k_ hk, Kd.freshB (g := gb801) (o := .cells #[.int .i64 t781, .slice Ao95 y798.length co95] 100 (0, 0)) (pb_ BK801.out) k_ hk, Kd.freshB (g := gb815) (o := .cells #[.int .i64 t781, .slice Ao95 y798.length co95] 100 (0, 0)) (pb_ BK815.out) k_ hk⟩))
          (case aO => exact (Kd.S_mono (sp_ HO818.out) (fun k_ hk => ⟨⟨hk.2.1, ⟨hk.2.2.1, hk.2.2.2.1⟩⟩, fun e_ => hk.2.2.2.2 e_.1.2.2.2.2.2.1⟩)))
          (case aS => exact (below_size (hs_ HB.out)))
          (case aL => have := LMc86.out; rw [Ny808.out] at this; omega)
          intro v820 w112 ho hb hg hat
          rw [← Ny808.out] at ho
          rw [← Ny819.out] at ho
          replace BK772 := Aside0.mk (blk_grown (bq_ BK772.out) hg (Kd.S_ne HO818.out BK772.out (by decide)))
          replace BK773 := Aside0.mk (blk_grown (bq_ BK773.out) hg (Kd.S_ne HO818.out BK773.out (by decide)))
          replace BK774 := Aside0.mk (blk_grown (bq_ BK774.out) hg (Kd.S_ne HO818.out BK774.out (by decide)))
          replace BK780 := Aside0.mk (blk_grown (bq_ BK780.out) hg (Kd.S_ne HO818.out BK780.out (by decide)))
          replace BK801 := Aside0.mk (blk_grown (bq_ BK801.out) hg (Kd.S_away HO818.out (fun _ hk => hk.2.2.1)))
          replace BK815 := Aside0.mk (blk_grown (bq_ BK815.out) hg (Kd.S_away HO818.out (fun _ hk => hk.2.2.2.1)))
          replace HB := Aside0.mk (hb)
          have HO821 := Aside0.mk (ho)
          clear HO818 HO_781002
          clear ho hb hg hat
          obtain ⟨Ao113, co113, eo113⟩ := Kd.S_slice HO821.out
          (first | subst eo113 | (obtain ⟨rfl, rfl⟩ := si_ eo113))
          refine hK.out _ _ ⟨bx_ BK780.out 0, bx_ BK780.out 1, bx_ BK780.out 2, bx_ BK801.out 0, bx_ BK801.out 1⟩ (fun hHeld => ?_)
          clear hK K
          refine norm_ (a' := ?_) ?_ ?_
          rotate_left
          ·
           show Act.put _ (some 78) _ = _
           simp only [fr_]
           rfl
          refine pw_ 14 79 (b_ 15 1) rfl rfl HT_.out ?_
          refine last_ (i := 15) (N := none) #[t_,t_,t_,t_,t_,t_,t_,t_,t_,t_,t_,t_,t_,t_,t_,t_] rfl rfl (one_of HT_.out (by kernel_rfl)) (by decide) (fun K hK => ?_)
          have hs114 : w112.cell? ⟨gb780, 2, none⟩ = some (.slice Ao62 t777.length co62) := bx_ BK780.out 2
          have hfs114 := blk_frozen BK780.out 2
          have hns114_0 := NB772_780.out
          have hns114_1 := NB773_780.out
          have hns114_2 := NB774_780.out
          have hns114_4 := NB801_780.out
          have hns114_5 := NB815_780.out
          have hms114_0 := NB780_772.out
          have hms114_1 := NB780_773.out
          have hms114_2 := NB780_774.out
          have hms114_4 := NB780_801.out
          have hms114_5 := NB780_815.out
          refine skip_ (w1 := ?_) (by rfl) rfl ?_ ?_
          rotate_left
          ·
           go_simp
           rfl
          refine hK.out _ _ ?_
          clear hK K
          refine done_ (done_of HT_.out (by kernel_rfl)) ?_
          have hnb115 := NB780_772.out
          have hnc115 := NB772_780.out
          have hnb116 := NB780_774.out
          have hnc116 := NB774_780.out
          have hnb117 := NB780_815.out
          have hnc117 := NB815_780.out
          obtain ⟨z118_0, z118_1, z118_2, y118_0, y118_1, y118_2⟩ := bc3_ BK780.out
          have hnb119 := NB774_772.out
          have hnc119 := NB772_774.out
          have hnb120 := NB774_815.out
          have hnc120 := NB815_774.out
          obtain ⟨z121_0, z121_1, z121_2, y121_0, y121_1, y121_2⟩ := bc3_ BK774.out
          try go_wp2
          refine bodyPost_ret (results_ct rfl _ _ gb774 57 #[.int .i64 t775, .int .i64 (wrap64 (a0_1 + 1)), .slice Ao113 y819.length co113] (0, 0) _ rfl (bp_ BK774.out) Try.underlying57 rfl (by kernel_rfl)) rfl ?_
          exact ⟨_, by first | rfl | (simp [errW_none, errW_some] <;> rfl) | (simp [*, errW_none, errW_some] <;> rfl), by (with_reducible repeat (first | apply Kd.S_alloc | apply Kd.S_drewN | apply Kd.S_drew)); exact Kd.S_mono (sf_ gb774 (Kd.S_far (p := ⟨gb780, 2, none⟩) (Kd.S_types (Kd.S_types HO821.out BK780.out (by decide)) BK774.out (by decide)) (fun _ hk => hk.1.2) (.slice Ao113 y819.length co113)) (fun _ hk => hk.2)) (fun _ hk => trivial), by exact hs_ HB.out⟩
         rw [if_neg c86] at H
         exact absurd H (by simp)
        rw [if_neg c85] at H
        exact absurd H (by simp)
       rw [if_neg c84] at H
       exact absurd H (by simp)
      rw [if_neg c83] at H
      exact absurd H (by simp)
     rw [if_neg c82] at H
     exact absurd H (by simp)
def spec_l8Copy.l0 : Nat → List (S57) → List (S57) → Int → Option ((List (S57)))
 | 0, _, _, _ => none
 | k + 1, x0, x3, x4 => if x4 < (x0.length : Int) then (if 0 ≤ x4 then ((spec_l7Copy.f k ((rd_T57 x0 x4).f0) ((rd_T57 x0 x4).f1) ((rd_T57 x0 x4).f2)).bind fun bt1035 => (if x3.length < 3518437208883 then (spec_l8Copy.l0 k x0 (x3 ++ [(⟨bt1035.1, bt1035.2.1, bt1035.2.2⟩ : S57)]) (wrap64 (x4 + 1))) else (none))) else (none)) else (some x3)
def spec_l8Copy.f (k : Nat) (l0 : List (S57)) : Option ((List (S57))) := spec_l8Copy.l0 k l0 (([] : List (S57))) 0
theorem spec_l8Copy.mono_l : ∀ k, (∀ y0 y1 y2, LeO (spec_l8Copy.l0 k y0 y1 y2) (spec_l8Copy.l0 (k + 1) y0 y1 y2))
 | 0 => fun _ _ _ r h => by simp [spec_l8Copy.l0] at h
 | k + 1 => by
  have ih0 := spec_l8Copy.mono_l k
  intro y0 y1 y2
  unfold spec_l8Copy.l0
  repeat' first
  | (with_reducible exact ih0 _ _ _)
  | (with_reducible exact spec_l7Copy.mono _ _ _ _)
  | (with_reducible exact LeO.refl _)
  | (with_reducible exact LeO.none _)
  | (with_reducible refine LeO.ite ?_ ?_)
  | (with_reducible refine LeO.bind ?_ (fun _ => ?_))
  | exact ih0 _ _ _
  | exact spec_l7Copy.mono _ _ _ _
theorem spec_l8Copy.mono : ∀ a0 k, LeO (spec_l8Copy.f k a0) (spec_l8Copy.f (k + 1) a0) := by
 intro a0 k
 have ih0 := spec_l8Copy.mono_l k
 unfold spec_l8Copy.f
 repeat' first | (with_reducible first | exact ih0 _ _ _ | exact spec_l7Copy.mono _ _ _ _ | exact LeO.refl _ | exact LeO.none _ | refine LeO.ite ?_ ?_ | refine LeO.bind ?_ (fun _ => ?_)) | exact ih0 _ _ _ | exact spec_l7Copy.mono _ _ _ _
theorem spec_l8Copy.calls (k : Nat) (A0 : Option Addr) (c0 : Nat) (l0 : List (S57)) (r : List (S57)) (w : World) (hr0 : Kd.C k57 w A0 l0.length l0) (hc0 : l0.length ≤ c0) (h : spec_l8Copy.f k l0 = some r) :
  Calls Try.prog 89 #[.slice A0 l0.length c0] w fun e w' => ∃ v0_ : Value, e = .returned (v0_) ∧ Kd.S k57 57 w' w.heap.size (fun _ => True) v0_ r ∧ Below w.heap.size w w' := by
 have hu57 := Try.underlying57
 have HR0 := Aside0.mk hr0
 have HC0 := Aside0.mk hc0
 clear hr0 hc0
 have HB := Aside0.mk (Below.refl w.heap.size w)
 have H : (spec_l8Copy.l0 k l0 (([] : List (S57))) 0) = some r := h
 clear h
 obtain ⟨y1031, hy1031⟩ : ∃ y_ : List (S57), y_ = (([] : List (S57))) := ⟨_, rfl⟩
 replace H : (spec_l8Copy.l0 k l0 y1031 0) = some r := by first | (rw [hy1031]; with_reducible exact H) | (have H2_ := (Option.bind_some _ _).symm.trans H; rw [hy1031]; with_reducible exact H2_) | (have H2_ := (Option.bind_some _ _).symm.trans H; with_reducible exact H2_) | with_reducible exact H | (rw [hy1031]; exact H) | exact H
 have Ny1031 := Aside0.mk hy1031
 clear hy1031
 have H' := Aside0.mk H
 clear H
 go_enter Try.func89, Try.ntmps89
 go_wp2_with (first | ((with_reducible refine gd_ 6 rfl ?_); refine Kd.S_lit k57 _ 57 ?hg (N := 6) ?hd (xs := ([] : List (S57))) (inner := []) (ok := fun _ => True) (okp := fun _ => True) ?hr ?hp (fun _ hk => hk) trivial (Below.refl _ _) (Nat.le_refl _) (by simp) ?_; (case hd => rfl); (case hg => rfl); (case hr => first | (go_simp; done) | (go_simp; rfl)); (case hp => exact (Reps.none _ _)); intro v1032 w2 ho3 hb hg_ hnew_; clear hg_ hnew_; (first | rw [← Ny1031.out] at ho3 | (simp only [Int.reduceToNat] at ho3; rw [← Ny1031.out] at ho3)); have HO1033 := Aside0.mk (Kd.S_lower ho3 (below_size (hs_ HB.out))); have n1_ := st_ HB hb; clear HB; have HB := n1_; clear n1_; clear hb ho3))
 go_loopg [3, 4] k (fun kq v3 v4 w' => ∃ (x3_1 : List (S57)) (x4_1 : Int), v4 = .int .i64 x4_1 ∧ Aside0 (spec_l8Copy.l0 kq l0 x3_1 x4_1 = some r) ∧ Aside0 (kq ≤ k) ∧ Aside0 (Kd.S k57 57 w' w.heap.size (fun _ => True) v3 x3_1) ∧ Aside0 (Below w.heap.size w w'))
 case atStart => exact ⟨(y1031), (0), (by first | rfl | (simp; done) | (simp [*]; done)), H', ⟨Nat.le_refl _⟩, ⟨by (with_reducible repeat (first | apply Kd.S_alloc | apply Kd.S_drewN | apply Kd.S_drew)); exact HO1033.out⟩, ⟨by exact hs_ HB.out⟩⟩
 case round =>
  clear H'
  try clear p2
  obtain ⟨x3_1, x4_1, rfl, HA, HK1, HO_3, HB⟩ := hrel
  cases gk with
  | zero => exact absurd HA.out (by simp [spec_l8Copy.l0])
  | succ k1 =>
   have H := HA.out
   clear HA
   simp only [spec_l8Copy.l0] at H
   by_cases c4 : x4_1 < (l0.length : Int)
   ·
    rw [if_pos c4] at H
    have c4b0 := decide_eq_true c4
    clear c4
    by_cases c5 : 0 ≤ x4_1
    ·
     rw [if_pos c5] at H
     have c5b0 := decide_eq_true c5
     clear c5
     replace H := Option.bind_eq_some_iff.mp H
     obtain ⟨⟨t1035, t1036, t1037⟩, A60, H⟩ := H
     have A6 := Aside0.mk A60
     clear A60
     by_cases c7 : x3_1.length < 3518437208883
     ·
      rw [if_pos c7] at H
      have LMc7 := Aside0.mk c7
      clear c7
      obtain ⟨y1041, hy1041⟩ : ∃ y_ : List (S57), y_ = (x3_1 ++ [(⟨t1035, t1036, t1037⟩ : S57)]) := ⟨_, rfl⟩
      replace H : (spec_l8Copy.l0 k1 l0 y1041 (wrap64 (x4_1 + 1))) = some r := by first | (rw [hy1041]; with_reducible exact H) | (have H2_ := (Option.bind_some _ _).symm.trans H; rw [hy1041]; with_reducible exact H2_) | (have H2_ := (Option.bind_some _ _).symm.trans H; with_reducible exact H2_) | with_reducible exact H | (rw [hy1041]; exact H) | exact H
      have Ny1041 := Aside0.mk hy1041
      clear hy1041
      have H' := Aside0.mk H
      clear H
      have p1034 : 0 ≤ (x4_1 : Int) := of_decide_eq_true (by with_reducible assumption)
      have q1034 : x4_1 < (l0.length : Int) := of_decide_eq_true (by with_reducible assumption)
      obtain ⟨ad1034, A1034_2, c1034_2, e1034, hx1034_0, hx1034_1, hx1034_2, hl1034_2, hi1034_2⟩ := at_T57 HR0.out x4_1 p1034 q1034
      cases e1034
      replace hx1034_0 := cl_ HB.out hx1034_0
      replace hx1034_1 := cl_ HB.out hx1034_1
      replace hx1034_2 := cl_ HB.out hx1034_2
      have HR1034_2 := Aside0.mk hi1034_2
      have HC1034_2 := Aside0.mk hl1034_2
      clear hi1034_2 hl1034_2
      replace p1034 := eq_true p1034
      replace q1034 := eq_true q1034
      go_wp2_with (first | ((with_reducible refine gate_callee (f := 84) rfl ?_); refine gl_ (some 17) Try.func84 #[.agg #[.int .i64 ((rd_T57 l0 x4_1).f0), .int .i64 ((rd_T57 l0 x4_1).f1), .slice A1034_2 ((rd_T57 l0 x4_1).f2).length c1034_2]] ?_; (with_reducible refine (spec_l7Copy.calls k1 ((rd_T57 l0 x4_1).f0) ((rd_T57 l0 x4_1).f1) _ _ ((rd_T57 l0 x4_1).f2) t1035 t1036 t1037 _ ?side1 ?side2 A6.out).mono ?_); (case side1 => exact cp_ ((Kd.C_below HR1034_2.out HB.out))); (case side2 => exact HC1034_2.out); rintro e w8 ⟨v1038, rfl, ho0, hb⟩; refine ⟨_, rfl, ?_⟩; obtain ⟨gbz1038, hz1038⟩ := Kd.S_name ho0; replace HO_3 := Aside0.mk (Kd.S_below (Kd.S_ltz hz1038 (sp_ HO_3.out)) hb); have HO1039 := Aside0.mk (Kd.S_lower (Kd.S_gez hz1038 ho0) (below_size (hs_ HB.out))); replace HB := st_ HB hb; (try clear hb); (try clear hk); (try clear ho0)) | ((with_reducible refine gd_ 5 rfl ?_); refine bv_ 5 #[.int .i64 0, .int .i64 0, .slice none 0 0] 57 ?_; intro gb1040 hg w9 hbox hb; replace HO_3 := Aside0.mk (Kd.S_below (Kd.S_elderB (sp_ HO_3.out) gb1040 (Nat.le_of_eq hg.symm)) hb); replace HO1039 := Aside0.mk (Kd.S_below (sp_ HO1039.out) hb); have BK1040 := Aside0.mk (hbox); have GW1040 := Aside0.mk ((gw_ hg (hs_ HB.out))); replace HB := st_ HB hb; have GE1040 := Ge_.mk GW1040.out; clear hb hbox hg; obtain ⟨z10_0, z10_1, z10_2, y10_0, y10_1, y10_2⟩ := bc3_ BK1040.out; obtain ⟨Ao11, co11, eo11⟩ := Kd.S_slice HO1039.out; subst eo11) | ((with_reducible refine gate_store (t := 57) (p := 5) rfl ?_); refine store_event (t := 57) (p := 5) (v := ?vo_w12) (w1 := (((w9.setCell ⟨gb1040, 0, none⟩ (.int .i64 t1035)).setCell ⟨gb1040, 1, none⟩ (.int .i64 t1036)).setCell ⟨gb1040, 2, none⟩ (.slice Ao11 t1037.length co11))) ?hg ?ho ?hn ?hr ?_; (case ho => rfl); (case hg => rfl); (case hn => rfl); (case hr => first | (go_simp; done) | (go_simp; rfl)); intro w12 hw; replace HO_3 : Aside0 (Kd.S k57 57 w12 w.heap.size (fun k_ => k_ < gbz1038 ∧ k_ ≠ gb1040) u3 x3_1) := ⟨(by rw [hw]; exact (Kd.S_mono (sf_ gb1040 (Kd.S_mono HO_3.out (fun k_ hk => (⟨hk, hk.2⟩ : _ ∧ k_ ≠ gb1040))) (fun _ hk => hk.2)) (fun _ hk => ⟨hk.1.1.2, hk.1.2⟩)))⟩; replace HO1039 : Aside0 (Kd.S k100 100 w12 w.heap.size (fun k_ => gbz1038 ≤ k_) (.slice Ao11 t1037.length co11) t1037) := ⟨(by rw [hw]; exact (Kd.S_mono (sf_ gb1040 (Kd.S_types HO1039.out BK1040.out (by decide)) (fun _ hk => hk.2)) (fun _ hk => hk.1.2)))⟩; replace BK1040 : Aside0 (w12.heap[gb1040]? = some (.cells #[.int .i64 t1035, .int .i64 t1036, .slice Ao11 t1037.length co11] 57 (0, 0))) := ⟨(by rw [hw]; exact (bp_ BK1040.out))⟩; replace HB : Aside0 (Below w.heap.size w w12) := ⟨(by rw [hw]; exact (hs_ HB.out))⟩; clear hw; obtain ⟨z13_0, z13_1, z13_2, y13_0, y13_1, y13_2⟩ := bc3_ BK1040.out; obtain ⟨PXP15, hPXP15, hPlP15⟩ := Kd.S_fp (Kd.S_types (Kd.S_apart' (HO1039.out) (Kd.S_typed HO_3.out) (by decide)) BK1040.out (by decide))) | ((with_reducible refine gate_builtin (b := .append) (xs := #[.tmp 18, .tmp 20]) rfl ?_); at_builtin; refine Kd.S_append k57 (w0 := w) w.heap.size rfl (.tmp 18) (.tmp 20) 27 57 (.agg #[(.int .i64 0), (.int .i64 0), (.slice none 0 0)]) 40 rfl Try.underlying27 info57 rfl (by decide) (by omega) u3 x3_1 (⟨t1035, t1036, t1037⟩ : S57) [.int .i64 t1035, .int .i64 t1036, .slice Ao11 t1037.length co11] (fun k_ => k_ ≠ gb1040) (fun k_ => PXP15 k_) rfl rfl ?aP (fun k_ hk_ => ⟨(hPlP15 k_ hk_).1.2, (hPlP15 k_ hk_).1.1.2⟩) ?aF ?aO ?aB ?aS ?aL ?_; (case aP => exact k57_mkM _ _ _ (⟨t1035, t1036, t1037⟩ : S57) (Kd.S_mono hPXP15 (fun _ h_ => h_))); (case aB => exact (hs_ HB.out)); (case aF => exact (fun k_ hk => Kd.freshB (g := gb1040) (o := .cells #[.int .i64 t1035, .int .i64 t1036, .slice Ao11 t1037.length co11] 57 (0, 0)) (pb_ BK1040.out) k_ hk)); (case aO => exact (Kd.S_mono (sp_ HO_3.out) (fun k_ hk => ⟨hk.2, fun e_ => (fun ez_ => Nat.lt_irrefl _ (Nat.lt_of_lt_of_le hk.1 (hPlP15 _ ez_).1.1.1)) e_⟩))); (case aS => exact (below_size (hs_ HB.out))); (case aL => have := LMc7.out; omega); intro v1042 w14 ho hb hg hat; rw [← Ny1041.out] at ho; replace BK1040 := Aside0.mk (blk_grown (bq_ BK1040.out) hg (Kd.S_away HO_3.out (fun _ hk => hk.2))); replace HB := Aside0.mk (hb); have HO1043 := Aside0.mk (ho); clear HO_3 HO1039; clear ho hb hg hat))
      go_roundg k1
      case measure => have := HK1.out; omega
      case rel => exact ⟨(y1041), (wrap64 (x4_1 + 1)), (by first | rfl | (simp; done) | (simp [*]; done)), H', ⟨by have := HK1.out; omega⟩, ⟨by (with_reducible repeat (first | apply Kd.S_alloc | apply Kd.S_drewN | apply Kd.S_drew)); exact Kd.S_mono HO1043.out (fun _ hk => trivial)⟩, ⟨by exact hs_ HB.out⟩⟩
     rw [if_neg c7] at H
     exact absurd H (by simp)
    rw [if_neg c5] at H
    exact absurd H (by simp)
   rw [if_neg c4] at H
   have c4b0 : decide (x4_1 < (l0.length : Int)) = false := decide_eq_false c4
   clear c4
   obtain rfl := Option.some.inj H
   go_wp2
   go_ret
   exact ⟨_, by first | rfl | (simp [errW_none, errW_some] <;> rfl) | (simp [*, errW_none, errW_some] <;> rfl), by (with_reducible repeat (first | apply Kd.S_alloc | apply Kd.S_drewN | apply Kd.S_drew)); exact HO_3.out, by exact hs_ HB.out⟩
def spec_PutAlarm.f (k : Nat) (l0 : List (S57)) (l1_0 : List (S88)) (a1_1 : Int) (a1_2 : Int) (a1_3 : ByteArray) : Option ((List (S57)) × Bool) := (spec_l8Copy.f k l0).bind fun t1045 => (if (l0.length : Int) = 0 then (some (t1045, false)) else ((spec_HomeOf.f k l0 l1_0).bind fun t1048 => (if 0 ≤ t1048 then (if t1048 < (l0.length : Int) then ((spec_PutIn.f k ((rd_T57 l0 t1048).f0) ((rd_T57 l0 t1048).f1) ((rd_T57 l0 t1048).f2) l1_0 a1_1 a1_2 a1_3).bind fun bt1050 => (if t1048 < (t1045.length : Int) then (some ((t1045.set (t1048 : Int).toNat (⟨bt1050.1, bt1050.2.1, bt1050.2.2.1⟩ : S57)), bt1050.2.2.2)) else (none))) else (none)) else (none))))
theorem spec_PutAlarm.mono : ∀ a0 a1 a2 a3 a4 k, LeO (spec_PutAlarm.f k a0 a1 a2 a3 a4) (spec_PutAlarm.f (k + 1) a0 a1 a2 a3 a4) := by
 intro a0 a1 a2 a3 a4 k
 unfold spec_PutAlarm.f
 repeat' first | (with_reducible first | exact spec_HomeOf.mono _ _ _ | exact spec_PutIn.mono _ _ _ _ _ _ _ _ | exact spec_l8Copy.mono _ _ | exact LeO.refl _ | exact LeO.none _ | refine LeO.ite ?_ ?_ | refine LeO.bind ?_ (fun _ => ?_)) | exact spec_HomeOf.mono _ _ _ | exact spec_PutIn.mono _ _ _ _ _ _ _ _ | exact spec_l8Copy.mono _ _
def spec_PutAlarm.T5 : Bool × List (List Nat × List Nat) := (true, [([], []), ([], []), ([0, 1], [0, 1]), ([2], [2]), ([], []), ([3, 4], [3, 4]), ([5], [5]), ([6], [6]), ([6], [6]), ([], []), ([9, 7, 5, 0, 1, 2, 3, 4, 5, 6, 7, 9], [7, 9]), ([8, 10, 0, 1, 2, 3, 4, 5, 6, 7, 8, 9, 10], [8])])
def spec_PutAlarm.B5 : List Nat := [0, 0, 3, 7, 0, 31, 63, 127, 127, 0, 767, 2047]
theorem spec_PutAlarm.tab5 : rtab .any (opsOf Try.f47 5) = spec_PutAlarm.T5 := by kernel_rfl
theorem spec_PutAlarm.bits5 : waitsOk spec_PutAlarm.T5.2 spec_PutAlarm.B5 = true := by kernel_rfl
theorem spec_PutAlarm.calls (k : Nat) (A0 : Option Addr) (c0 : Nat) (l0 : List (S57)) (A1_0 : Option Addr) (c1_0 : Nat) (l1_0 : List (S88)) (a1_1 : Int) (a1_2 : Int) (a1_3 : ByteArray) (r1 : List (S57)) (r2 : Bool) (w : World) (hr0 : Kd.C k57 w A0 l0.length l0) (hc0 : l0.length ≤ c0) (hr1_0 : Kd.C k88 w A1_0 l1_0.length l1_0) (hc1_0 : l1_0.length ≤ c1_0) (h : spec_PutAlarm.f k l0 l1_0 a1_1 a1_2 a1_3 = some (r1, r2)) :
  Calls Try.prog 47 #[.slice A0 l0.length c0, .agg #[.slice A1_0 l1_0.length c1_0, .int .i64 a1_1, .int .i64 a1_2, .string a1_3]] w fun e w' => ∃ v0_ : Value, e = .returned (.tuple #[v0_, .bool r2]) ∧ Kd.S k57 57 w' w.heap.size (fun _ => True) v0_ r1 ∧ Below w.heap.size w w' := by
 have hu43 := Try.underlying43
 have hu57 := Try.underlying57
 have HR0 := Aside0.mk hr0
 have HC0 := Aside0.mk hc0
 clear hr0 hc0
 have HR1_0 := Aside0.mk hr1_0
 have HC1_0 := Aside0.mk hc1_0
 clear hr1_0 hc1_0
 have HB := Aside0.mk (Below.refl w.heap.size w)
 have H : ((spec_l8Copy.f k l0).bind fun t1045 => (if (l0.length : Int) = 0 then (some (t1045, false)) else ((spec_HomeOf.f k l0 l1_0).bind fun t1048 => (if 0 ≤ t1048 then (if t1048 < (l0.length : Int) then ((spec_PutIn.f k ((rd_T57 l0 t1048).f0) ((rd_T57 l0 t1048).f1) ((rd_T57 l0 t1048).f2) l1_0 a1_1 a1_2 a1_3).bind fun bt1050 => (if t1048 < (t1045.length : Int) then (some ((t1045.set (t1048 : Int).toNat (⟨bt1050.1, bt1050.2.1, bt1050.2.2.1⟩ : S57)), bt1050.2.2.2)) else (none))) else (none)) else (none))))) = some (r1, r2) := h
 clear h
 replace H := Option.bind_eq_some_iff.mp H
 obtain ⟨t1045, A30, H⟩ := H
 have A3 := Aside0.mk A30
 clear A30
 by_cases c4 : (l0.length : Int) = 0
 ·
  rw [if_pos c4] at H
  have c4b0 : ((l0.length : Int) == 0) = true := beq_iff_eq.mpr c4
  have c4b1 : ((l0.length : Int) != 0) = false := bne_eq_false_iff_eq.mpr c4
  clear c4
  simp only [Option.some.injEq, Prod.mk.injEq] at H
  obtain ⟨rfl, rfl⟩ := H
  go_enter Try.func47, Try.ntmps47
  go_wp2_with (first | ((with_reducible refine gd_ 3 rfl ?_); refine bv_ 3 #[.slice A1_0 l1_0.length c1_0, .int .i64 a1_1, .int .i64 a1_2, .string a1_3] 43 ?_; intro gb1044 hg w5 hbox hb; have BK1044 := Aside0.mk (hbox); have GW1044 := Aside0.mk ((gw_ hg (hs_ HB.out))); replace HB := st_ HB hb; have GE1044 := Ge_.mk GW1044.out; clear hb hbox hg) | ((with_reducible refine gate_callee (f := 89) rfl ?_); refine gl_ (some 11) Try.func89 #[.slice A0 l0.length c0] ?_; (with_reducible refine (spec_l8Copy.calls k _ _ l0 t1045 _ ?side1 ?side2 A3.out).mono ?_); (case side1 => exact cp_ ((Kd.C_below HR0.out HB.out))); (case side2 => exact HC0.out); rintro e w6 ⟨v1046, rfl, ho0, hb⟩; refine ⟨_, rfl, ?_⟩; obtain ⟨gbz1046, hz1046⟩ := Kd.S_name ho0; have HO1047 := Aside0.mk (Kd.S_lower (Kd.S_newB (Kd.S_gez hz1046 ho0) (g := gb1044) (o := .cells #[.slice A1_0 l1_0.length c1_0, .int .i64 a1_1, .int .i64 a1_2, .string a1_3] 43 (0, 0)) (pb_ BK1044.out)) (below_size (hs_ HB.out))); replace BK1044 := bk2_ BK1044 hb; replace HB := st_ HB hb; (try clear hb); (try clear hk); (try clear ho0)))
  go_ret2
  exact ⟨_, by first | rfl | (simp [errW_none, errW_some] <;> rfl) | (simp [*, errW_none, errW_some] <;> rfl), by (with_reducible repeat (first | apply Kd.S_alloc | apply Kd.S_drewN | apply Kd.S_drew)); exact Kd.S_mono HO1047.out (fun _ hk => trivial), by exact hs_ HB.out⟩
 rw [if_neg c4] at H
 have c4b0 : ((l0.length : Int) == 0) = false := beq_eq_false_iff_ne.mpr c4
 have c4b1 : ((l0.length : Int) != 0) = true := bne_iff_ne.mpr c4
 have c4b2 : ¬ (l0 = []) := fun h_ => c4 (by rw [h_]; rfl)
 replace H := Option.bind_eq_some_iff.mp H
 obtain ⟨t1048, A70, H⟩ := H
 have A7 := Aside0.mk A70
 clear A70
 by_cases c8 : 0 ≤ t1048
 ·
  rw [if_pos c8] at H
  have c8b0 := decide_eq_true c8
  clear c8
  by_cases c9 : t1048 < (l0.length : Int)
  ·
   rw [if_pos c9] at H
   have c9b0 := decide_eq_true c9
   clear c9
   replace H := Option.bind_eq_some_iff.mp H
   obtain ⟨⟨t1050, t1051, t1052, t1055⟩, A100, H⟩ := H
   have A10 := Aside0.mk A100
   clear A100
   by_cases c11 : t1048 < (t1045.length : Int)
   ·
    rw [if_pos c11] at H
    have c11b0 := decide_eq_true c11
    clear c11
    obtain ⟨y1057, hy1057⟩ : ∃ y_ : List (S57), y_ = (t1045.set (t1048 : Int).toNat (⟨t1050, t1051, t1052⟩ : S57)) := ⟨_, rfl⟩
    replace H : (some (y1057, t1055)) = some (r1, r2) := by first | (rw [hy1057]; with_reducible exact H) | (have H2_ := (Option.bind_some _ _).symm.trans H; rw [hy1057]; with_reducible exact H2_) | (have H2_ := (Option.bind_some _ _).symm.trans H; with_reducible exact H2_) | with_reducible exact H | (rw [hy1057]; exact H) | exact H
    have Ny1057 := Aside0.mk hy1057
    clear hy1057
    simp only [Option.some.injEq, Prod.mk.injEq] at H
    obtain ⟨rfl, rfl⟩ := H
    go_enter Try.func47, Try.ntmps47
    try go_wp2_with (first | ((with_reducible refine gd_ 3 rfl ?_); refine bv_ 3 #[.slice A1_0 l1_0.length c1_0, .int .i64 a1_1, .int .i64 a1_2, .string a1_3] 43 ?_; intro gb1044 hg w13 hbox hb; have BK1044 := Aside0.mk (hbox); have GW1044 := Aside0.mk ((gw_ hg (hs_ HB.out))); replace HB := st_ HB hb; have GE1044 := Ge_.mk GW1044.out; clear hb hbox hg) | ((with_reducible refine gate_callee (f := 89) rfl ?_); refine gl_ (some 11) Try.func89 #[.slice A0 l0.length c0] ?_; (with_reducible refine (spec_l8Copy.calls k _ _ l0 t1045 _ ?side1 ?side2 A3.out).mono ?_); (case side1 => exact cp_ ((Kd.C_below HR0.out HB.out))); (case side2 => exact HC0.out); rintro e w14 ⟨v1046, rfl, ho0, hb⟩; refine ⟨_, rfl, ?_⟩; obtain ⟨gbz1046, hz1046⟩ := Kd.S_name ho0; have HO1047 := Aside0.mk (Kd.S_lower (Kd.S_newB (Kd.S_gez hz1046 ho0) (g := gb1044) (o := .cells #[.slice A1_0 l1_0.length c1_0, .int .i64 a1_1, .int .i64 a1_2, .string a1_3] 43 (0, 0)) (pb_ BK1044.out)) (below_size (hs_ HB.out))); replace BK1044 := bk2_ BK1044 hb; replace HB := st_ HB hb; (try clear hb); (try clear hk); (try clear ho0); obtain ⟨z15_0, z15_1, z15_2, z15_3, y15_0, y15_1, y15_2, y15_3⟩ := bc4_ BK1044.out) | ((with_reducible refine gate_callee (f := 14) rfl ?_); refine gl_ (some 19) Try.func14 #[.slice A0 l0.length c0, .slice A1_0 l1_0.length c1_0] ?_; (with_reducible refine (spec_HomeOf.calls k _ _ l0 _ _ l1_0 t1048 _ ?side1 ?side2 ?side3 ?side4 A7.out).mono ?_); (case side1 => exact cp_ ((Kd.C_below HR0.out HB.out))); (case side2 => exact HC0.out); (case side3 => exact cp_ ((Kd.C_below HR1_0.out HB.out))); (case side4 => exact HC1_0.out); rintro e w16 ⟨rfl, hb⟩; refine ⟨_, rfl, ?_⟩; replace HO1047 := Aside0.mk (Kd.S_below (sp_ HO1047.out) hb); replace BK1044 := bk2_ BK1044 hb; replace HB := st_ HB hb; (try clear hb); (try clear hk)))
    replace HO1047 := Aside0.mk (Kd.S_drew HO1047.out)
    replace BK1044 := Aside0.mk (blk_drew BK1044.out)
    replace HB := Aside0.mk (bd_ HB.out)
    have p1049 : 0 ≤ (t1048 : Int) := of_decide_eq_true (by with_reducible assumption)
    have q1049 : t1048 < (l0.length : Int) := of_decide_eq_true (by with_reducible assumption)
    obtain ⟨ad1049, A1049_2, c1049_2, e1049, hx1049_0, hx1049_1, hx1049_2, hl1049_2, hi1049_2⟩ := at_T57 HR0.out t1048 p1049 q1049
    have hw1049_2 := hx1049_2
    have hw1049_1 := hx1049_1
    have hw1049_0 := hx1049_0
    cases e1049
    replace hx1049_0 := cl_ HB.out hx1049_0
    replace hx1049_1 := cl_ HB.out hx1049_1
    replace hx1049_2 := cl_ HB.out hx1049_2
    have HR1049_2 := Aside0.mk hi1049_2
    have HC1049_2 := Aside0.mk hl1049_2
    clear hi1049_2 hl1049_2
    replace p1049 := eq_true p1049
    replace q1049 := eq_true q1049
    refine start_ (n := 12) (S := fun w' => w'.cell? ⟨gb1044, 0, none⟩ = some (.slice A1_0 l1_0.length c1_0) ∧ w'.cell? ⟨gb1044, 1, none⟩ = some (.int .i64 a1_1) ∧ w'.cell? ⟨gb1044, 2, none⟩ = some (.int .i64 a1_2) ∧ w'.cell? ⟨gb1044, 3, none⟩ = some (.string a1_3) ∧ w'.cell? (ad1049.add ((t1048).toNat * 3)) = some (.int .i64 ((rd_T57 l0 t1048).f0)) ∧ w'.cell? ⟨(ad1049.add ((t1048).toNat * 3)).block, (ad1049.add ((t1048).toNat * 3)).off + 1, none⟩ = some (.int .i64 ((rd_T57 l0 t1048).f1)) ∧ w'.cell? ⟨(ad1049.add ((t1048).toNat * 3)).block, (ad1049.add ((t1048).toNat * 3)).off + 2, none⟩ = some (.slice A1049_2 ((rd_T57 l0 t1048).f2).length c1049_2)) (ds := []) #[f_,f_,f_,f_,f_,f_,f_,f_,f_,f_,f_,f_] (by kernel_rfl) rfl rfl ⟨bx_ BK1044.out 0, bx_ BK1044.out 1, bx_ BK1044.out 2, bx_ BK1044.out 3, ((HB.out.cell (World.block_lt_of_cell? w _ hw1049_0)).trans hw1049_0), ((HB.out.cell (World.block_lt_of_cell? w _ hw1049_1)).trans hw1049_1), ((HB.out.cell (World.block_lt_of_cell? w _ hw1049_2)).trans hw1049_2)⟩ (fun hHeld => ?_); refine with_tabW spec_PutAlarm.tab5 spec_PutAlarm.bits5 (fun HT_ HW_ => ?_)
    generalize w16.drew = w17 at HO1047 BK1044 HB HR1049_2 hx1049_0 hx1049_1 hx1049_2 hHeld ⊢
    refine pw_ 0 21 (b_ 1 11) rfl rfl HT_.out ?_
    refine pw_ 1 22 (b_ 2 10) rfl rfl HT_.out ?_
    refine pw_ 2 23 (b_ 3 9) rfl rfl HT_.out ?_
    refine take_ (i := 3) (N := some 24) (v := ?_) (a' := ?_) #[t_,t_,t_,t_,f_,f_,f_,f_,f_,f_,f_,f_] rfl rfl (take_ofW HT_.out HW_.out (by kernel_rfl)) (fun _ _ _ h => h) (Or.inl ⟨by rfl, ?_⟩) hHeld ?_ ?_
    rotate_left
    ·
     rintro w' ⟨s0, s1, s2, s3, s4, s5, s6⟩
     go_simp
     with_reducible rfl
    rotate_left
    ·
     simp only [fr_]
     rfl
    refine take_ (i := 4) (N := some 25) (v := ?_) (a' := ?_) #[t_,t_,t_,t_,t_,f_,f_,f_,f_,f_,f_,f_] rfl rfl (take_ofW HT_.out HW_.out (by kernel_rfl)) (fun _ _ _ h => h) (Or.inl ⟨by rfl, ?_⟩) hHeld ?_ ?_
    rotate_left
    ·
     rintro w' ⟨s0, s1, s2, s3, s4, s5, s6⟩
     go_simp
     with_reducible rfl
    rotate_left
    ·
     simp only [fr_]
     rfl
    refine join_ (σ := Value × Nat × Nat) 2 #[t_,t_,t_,t_,t_,t_,t_,t_,t_,t_,f_,f_] (fun s_ => [(26, .tuple #[.agg #[.int .i64 t1050, .int .i64 t1051, s_.1], .bool t1055]), (8, .pointer (some ⟨s_.2.2, 0, none⟩)), (20, .tuple #[.agg #[.int .i64 t1050, .int .i64 t1051, s_.1], .bool t1055]), (27, .agg #[.int .i64 t1050, .int .i64 t1051, s_.1]), (28, .bool t1055)]) (fun s_ w' => (w'.cell? ⟨gb1044, 0, none⟩ = some (.slice A1_0 l1_0.length c1_0) ∧ w'.cell? ⟨gb1044, 1, none⟩ = some (.int .i64 a1_1) ∧ w'.cell? ⟨gb1044, 2, none⟩ = some (.int .i64 a1_2) ∧ w'.cell? ⟨gb1044, 3, none⟩ = some (.string a1_3) ∧ w'.cell? (ad1049.add ((t1048).toNat * 3)) = some (.int .i64 ((rd_T57 l0 t1048).f0)) ∧ w'.cell? ⟨(ad1049.add ((t1048).toNat * 3)).block, (ad1049.add ((t1048).toNat * 3)).off + 1, none⟩ = some (.int .i64 ((rd_T57 l0 t1048).f1)) ∧ w'.cell? ⟨(ad1049.add ((t1048).toNat * 3)).block, (ad1049.add ((t1048).toNat * 3)).off + 2, none⟩ = some (.slice A1049_2 ((rd_T57 l0 t1048).f2).length c1049_2)) ∧ (Kd.S k57 57 w' w.heap.size (fun k_ => k_ ≠ gb1044 ∧ k_ ≠ s_.2.2 ∧ gbz1046 ≤ k_ ∧ k_ < s_.2.1) v1046 t1045) ∧ (Kd.S k100 100 w' w.heap.size (fun k_ => k_ ≠ gb1044 ∧ s_.2.1 ≤ k_) s_.1 t1052) ∧ (w'.heap[gb1044]? = some (.cells #[.slice A1_0 l1_0.length c1_0, .int .i64 a1_1, .int .i64 a1_2, .string a1_3] 43 (0, 0))) ∧ (w'.heap[s_.2.2]? = some (.cells #[.int .i64 0, .int .i64 0, .slice none 0 0] 57 (0, 0))) ∧ (w.heap.size ≤ s_.2.2) ∧ (w.heap.size ≤ s_.2.2) ∧ (gb1044 ≠ s_.2.2) ∧ (s_.2.2 ≠ gb1044) ∧ (Below w.heap.size w w')) ?_ ?_
    rotate_left
    ·
     intro hCont
     refine two_ (i := 5) (j := 9) (Ni := some 26) (Nj := some 8) #[t_,t_,t_,t_,t_,t_,f_,f_,f_,f_,f_,f_] #[t_,t_,t_,t_,t_,f_,f_,f_,f_,t_,f_,f_] rfl rfl rfl rfl (two_of HT_.out (by kernel_rfl)) (by decide) (by decide) (fun K hK => ?_) (fun K hK => ?_)
     ·
      skip
      refine gs_ Try.func43 #[.agg #[.int .i64 ((rd_T57 l0 t1048).f0), .int .i64 ((rd_T57 l0 t1048).f1), .slice A1049_2 ((rd_T57 l0 t1048).f2).length c1049_2], .agg #[.slice A1_0 l1_0.length c1_0, .int .i64 a1_1, .int .i64 a1_2, .string a1_3]] ?_
      with_reducible refine (spec_PutIn.calls k ((rd_T57 l0 t1048).f0) ((rd_T57 l0 t1048).f1) _ _ ((rd_T57 l0 t1048).f2) _ _ l1_0 a1_1 a1_2 a1_3 t1050 t1051 t1052 t1055 _ ?side1 ?side2 ?side3 ?side4 A10.out).mono ?_
      (case side1 => exact cp_ ((Kd.C_below HR1049_2.out HB.out)))
      (case side2 => exact HC1049_2.out)
      (case side3 => exact cp_ ((Kd.C_below HR1_0.out HB.out)))
      (case side4 => exact HC1_0.out)
      rintro e w18 ⟨v1053, rfl, ho0, hb⟩
      refine ⟨_, rfl, ?_⟩
      obtain ⟨gbz1053, hz1053⟩ := Kd.S_name ho0
      replace HO1047 := Aside0.mk (Kd.S_below (Kd.S_ltz hz1053 (sp_ HO1047.out)) hb)
      have HO1054 := Aside0.mk (Kd.S_lower (Kd.S_newB (Kd.S_gez hz1053 ho0) (g := gb1044) (o := .cells #[.slice A1_0 l1_0.length c1_0, .int .i64 a1_1, .int .i64 a1_2, .string a1_3] 43 (0, 0)) (pb_ BK1044.out)) (below_size (hs_ HB.out)))
      replace BK1044 := bk2_ BK1044 hb
      replace HB := st_ HB hb
      (try clear hb)
      (try clear hk)
      (try clear ho0)
      refine hK.out _ _ ⟨bx_ BK1044.out 0, bx_ BK1044.out 1, bx_ BK1044.out 2, bx_ BK1044.out 3, ((HB.out.cell (World.block_lt_of_cell? w _ hw1049_0)).trans hw1049_0), ((HB.out.cell (World.block_lt_of_cell? w _ hw1049_1)).trans hw1049_1), ((HB.out.cell (World.block_lt_of_cell? w _ hw1049_2)).trans hw1049_2)⟩ (fun hHeld => ?_)
      clear hK K
      refine norm_ (a' := ?_) ?_ ?_
      rotate_left
      ·
       show Act.put _ (some 26) _ = _
       simp only [fr_]
       rfl
      refine pw_ 6 20 (b_ 7 5) rfl rfl HT_.out ?_
      refine pw_ 7 27 (b_ 8 4) rfl rfl HT_.out ?_
      refine pw_ 8 28 (b_ 9 3) rfl rfl HT_.out ?_
      refine one_ (i := 9) (N := some 8) #[t_,t_,t_,t_,t_,t_,t_,t_,t_,t_,f_,f_] rfl rfl (one_of HT_.out (by kernel_rfl)) (by decide) (fun K hK => ?_)
      refine bs1_ 8 #[.int .i64 0, .int .i64 0, .slice none 0 0] 57 ?_
      intro gb1056 hg w19 hbox hb
      replace HO1047 := Aside0.mk (Kd.S_below (Kd.S_elderB (sp_ HO1047.out) gb1056 (Nat.le_of_eq hg.symm)) hb)
      replace HO1054 := Aside0.mk (Kd.S_below (sp_ HO1054.out) hb)
      have BK1056 := Aside0.mk (hbox)
      have GW1056 := Aside0.mk ((gw_ hg (hs_ HB.out)))
      have GE1056 := Ge_.mk ((gw_ hg (hs_ HB.out)))
      replace HB := st_ HB hb
      have NB1044_1056 := Ne_.mk (nl_ BK1044.out hg)
      have NB1056_1044 := Ne_.mk (ng_ BK1044.out hg)
      replace BK1044 := bk2_ BK1044 hb
      clear hb hbox hg
      refine hK.out _ _ ⟨bx_ BK1044.out 0, bx_ BK1044.out 1, bx_ BK1044.out 2, bx_ BK1044.out 3, ((HB.out.cell (World.block_lt_of_cell? w _ hw1049_0)).trans hw1049_0), ((HB.out.cell (World.block_lt_of_cell? w _ hw1049_1)).trans hw1049_1), ((HB.out.cell (World.block_lt_of_cell? w _ hw1049_2)).trans hw1049_2)⟩ (fun hHeld => ?_)
      clear hK K
      refine norm_ (a' := ?_) ?_ ?_
      rotate_left
      ·
       show Act.put _ (some 8) _ = _
       simp only [fr_]
       rfl
      exact norm_ (by simp only [putAll, fr_]) (hCont (v1053, gbz1053, gb1056) _ ⟨hHeld, (Kd.S_mono (sp_ HO1047.out) (fun _ hk => ⟨hk.1.1.2, ⟨hk.2, ⟨hk.1.1.1.2, hk.1.2⟩⟩⟩)), (Kd.S_mono (sp_ HO1054.out) (fun _ hk => ⟨hk.2, hk.1.2⟩)), (pb_ BK1044.out), (pb_ BK1056.out), GW1056.out, GE1056.out, NB1044_1056.out, NB1056_1044.out, (hs_ HB.out)⟩)
     skip
     refine bs1_ 8 #[.int .i64 0, .int .i64 0, .slice none 0 0] 57 ?_
     intro gb1056 hg w18 hbox hb
     replace HO1047 := Aside0.mk (Kd.S_below (Kd.S_elderB (sp_ HO1047.out) gb1056 (Nat.le_of_eq hg.symm)) hb)
     have BK1056 := Aside0.mk (hbox)
     have GW1056 := Aside0.mk ((gw_ hg (hs_ HB.out)))
     have GE1056 := Ge_.mk ((gw_ hg (hs_ HB.out)))
     replace HB := st_ HB hb
     have NB1044_1056 := Ne_.mk (nl_ BK1044.out hg)
     have NB1056_1044 := Ne_.mk (ng_ BK1044.out hg)
     replace BK1044 := bk2_ BK1044 hb
     clear hb hbox hg
     refine hK.out _ _ ⟨bx_ BK1044.out 0, bx_ BK1044.out 1, bx_ BK1044.out 2, bx_ BK1044.out 3, ((HB.out.cell (World.block_lt_of_cell? w _ hw1049_0)).trans hw1049_0), ((HB.out.cell (World.block_lt_of_cell? w _ hw1049_1)).trans hw1049_1), ((HB.out.cell (World.block_lt_of_cell? w _ hw1049_2)).trans hw1049_2)⟩ (fun hHeld => ?_)
     clear hK K
     refine norm_ (a' := ?_) ?_ ?_
     rotate_left
     ·
      show Act.put _ (some 8) _ = _
      simp only [fr_]
      rfl
     refine one_ (i := 5) (N := some 26) #[t_,t_,t_,t_,t_,t_,f_,f_,f_,t_,f_,f_] rfl rfl (one_of HT_.out (by kernel_rfl)) (by decide) (fun K hK => ?_)
     refine gs_ Try.func43 #[.agg #[.int .i64 ((rd_T57 l0 t1048).f0), .int .i64 ((rd_T57 l0 t1048).f1), .slice A1049_2 ((rd_T57 l0 t1048).f2).length c1049_2], .agg #[.slice A1_0 l1_0.length c1_0, .int .i64 a1_1, .int .i64 a1_2, .string a1_3]] ?_
     with_reducible refine (spec_PutIn.calls k ((rd_T57 l0 t1048).f0) ((rd_T57 l0 t1048).f1) _ _ ((rd_T57 l0 t1048).f2) _ _ l1_0 a1_1 a1_2 a1_3 t1050 t1051 t1052 t1055 _ ?side1 ?side2 ?side3 ?side4 A10.out).mono ?_
     (case side1 => exact cp_ ((Kd.C_below HR1049_2.out HB.out)))
     (case side2 => exact HC1049_2.out)
     (case side3 => exact cp_ ((Kd.C_below HR1_0.out HB.out)))
     (case side4 => exact HC1_0.out)
     rintro e w19 ⟨v1053, rfl, ho0, hb⟩
     refine ⟨_, rfl, ?_⟩
     obtain ⟨gbz1053, hz1053⟩ := Kd.S_name ho0
     replace HO1047 := Aside0.mk (Kd.S_below (Kd.S_ltz hz1053 (sp_ HO1047.out)) hb)
     have HO1054 := Aside0.mk (Kd.S_lower (Kd.S_newB (Kd.S_gez hz1053 ho0) (g := gb1044) (o := .cells #[.slice A1_0 l1_0.length c1_0, .int .i64 a1_1, .int .i64 a1_2, .string a1_3] 43 (0, 0)) (pb_ BK1044.out)) (below_size (hs_ HB.out)))
     replace BK1044 := bk2_ BK1044 hb
     replace BK1056 := bk2_ BK1056 hb
     replace HB := st_ HB hb
     (try clear hb)
     (try clear hk)
     (try clear ho0)
     refine hK.out _ _ ⟨bx_ BK1044.out 0, bx_ BK1044.out 1, bx_ BK1044.out 2, bx_ BK1044.out 3, ((HB.out.cell (World.block_lt_of_cell? w _ hw1049_0)).trans hw1049_0), ((HB.out.cell (World.block_lt_of_cell? w _ hw1049_1)).trans hw1049_1), ((HB.out.cell (World.block_lt_of_cell? w _ hw1049_2)).trans hw1049_2)⟩ (fun hHeld => ?_)
     clear hK K
     refine norm_ (a' := ?_) ?_ ?_
     rotate_left
     ·
      show Act.put _ (some 26) _ = _
      simp only [fr_]
      rfl
     refine pw_ 6 20 #[t_,t_,t_,t_,t_,t_,t_,f_,f_,t_,f_,f_] rfl rfl HT_.out ?_
     refine pw_ 7 27 #[t_,t_,t_,t_,t_,t_,t_,t_,f_,t_,f_,f_] rfl rfl HT_.out ?_
     refine pw_ 8 28 (b_ 10 2) rfl rfl HT_.out ?_
     exact norm_ (by simp only [putAll, fr_]) (hCont (v1053, gbz1053, gb1056) _ ⟨hHeld, (Kd.S_mono (sp_ HO1047.out) (fun _ hk => ⟨hk.1.1.2, ⟨hk.1.2, ⟨hk.1.1.1.2, hk.2⟩⟩⟩)), (Kd.S_mono (sp_ HO1054.out) (fun _ hk => ⟨hk.2, hk.1.2⟩)), (pb_ BK1044.out), (pb_ BK1056.out), GW1056.out, GE1056.out, NB1044_1056.out, NB1056_1044.out, (hs_ HB.out)⟩)
    rintro ⟨v1053, gbz1053, gb1056⟩ w20 ⟨hS_, h0_, h1_, h2_, h3_, h4_, h5_, h6_, h7_, h8_⟩
    replace HO1047 : Aside0 (Kd.S k57 57 w20 w.heap.size (fun k_ => k_ ≠ gb1044 ∧ k_ ≠ gb1056 ∧ gbz1046 ≤ k_ ∧ k_ < gbz1053) v1046 t1045) := ⟨h0_⟩
    have HO1054 : Aside0 (Kd.S k100 100 w20 w.heap.size (fun k_ => k_ ≠ gb1044 ∧ gbz1053 ≤ k_) v1053 t1052) := ⟨h1_⟩
    replace BK1044 : Aside0 (w20.heap[gb1044]? = some (.cells #[.slice A1_0 l1_0.length c1_0, .int .i64 a1_1, .int .i64 a1_2, .string a1_3] 43 (0, 0))) := ⟨h2_⟩
    have BK1056 : Aside0 (w20.heap[gb1056]? = some (.cells #[.int .i64 0, .int .i64 0, .slice none 0 0] 57 (0, 0))) := ⟨h3_⟩
    have GW1056 : Aside0 (w.heap.size ≤ gb1056) := ⟨h4_⟩
    have GE1056 := Ge_.mk h5_
    have NB1044_1056 := Ne_.mk h6_
    have NB1056_1044 := Ne_.mk h7_
    replace HB : Aside0 (Below w.heap.size w w20) := ⟨h8_⟩
    clear h0_ h1_ h2_ h3_ h4_ h5_ h6_ h7_ h8_
    have hHeld : w20.cell? ⟨gb1044, 0, none⟩ = some (.slice A1_0 l1_0.length c1_0) ∧ w20.cell? ⟨gb1044, 1, none⟩ = some (.int .i64 a1_1) ∧ w20.cell? ⟨gb1044, 2, none⟩ = some (.int .i64 a1_2) ∧ w20.cell? ⟨gb1044, 3, none⟩ = some (.string a1_3) ∧ w20.cell? (ad1049.add ((t1048).toNat * 3)) = some (.int .i64 ((rd_T57 l0 t1048).f0)) ∧ w20.cell? ⟨(ad1049.add ((t1048).toNat * 3)).block, (ad1049.add ((t1048).toNat * 3)).off + 1, none⟩ = some (.int .i64 ((rd_T57 l0 t1048).f1)) ∧ w20.cell? ⟨(ad1049.add ((t1048).toNat * 3)).block, (ad1049.add ((t1048).toNat * 3)).off + 2, none⟩ = some (.slice A1049_2 ((rd_T57 l0 t1048).f2).length c1049_2) := hS_
    obtain ⟨Ao23, co23, eo23⟩ := Kd.S_slice HO1054.out
    (first | subst eo23 | (obtain ⟨rfl, rfl⟩ := si_ eo23))
    refine norm_ (a' := ?_) ?_ ?_
    rotate_left
    ·
     simp only [putAll, fr_]
     rfl
    refine one_ (i := 10) (N := none) #[t_,t_,t_,t_,t_,t_,t_,t_,t_,t_,t_,f_] rfl rfl (one_of HT_.out (by kernel_rfl)) (by decide) (fun K hK => ?_)
    have hs21 : w20.cell? ⟨gb1056, 0, none⟩ = some (.int .i64 0) := bx_ BK1056.out 0
    have hfs21 := blk_frozen BK1056.out 0
    have hns21_0 := NB1044_1056.out
    have hms21_0 := NB1056_1044.out
    have hs22 : w20.cell? ⟨gb1056, 1, none⟩ = some (.int .i64 0) := bx_ BK1056.out 1
    have hfs22 := blk_frozen BK1056.out 1
    have hns22_0 := NB1044_1056.out
    have hms22_0 := NB1056_1044.out
    have hs24 : w20.cell? ⟨gb1056, 2, none⟩ = some (.slice none 0 0) := bx_ BK1056.out 2
    have hfs24 := blk_frozen BK1056.out 2
    have hns24_0 := NB1044_1056.out
    have hms24_0 := NB1056_1044.out
    refine skip_ (w1 := ?_) (by rfl) rfl ?_ ?_
    rotate_left
    ·
     go_simp
     rfl
    refine hK.out _ _ ⟨(cg_ (hHeld.1)), (cg_ (hHeld.2.1)), (cg_ (hHeld.2.2.1)), (cg_ (hHeld.2.2.2.1)), (ce_ hw1049_0 GW1056.out ((ce_ hw1049_0 GW1056.out ((ce_ hw1049_0 GW1056.out (hHeld.2.2.2.2.1)))))), (ce_ hw1049_1 GW1056.out ((ce_ hw1049_1 GW1056.out ((ce_ hw1049_1 GW1056.out (hHeld.2.2.2.2.2.1)))))), (ce_ hw1049_2 GW1056.out ((ce_ hw1049_2 GW1056.out ((ce_ hw1049_2 GW1056.out (hHeld.2.2.2.2.2.2))))))⟩ (fun hHeld => ?_)
    clear hK K
    refine pw_ 11 9 (b_ 12 0) rfl rfl HT_.out ?_
    refine done_ (done_of HT_.out (by kernel_rfl)) ?_
    generalize hw_ : (((w20.setCell ⟨gb1056, 0, none⟩ (.int .i64 t1050)).setCell ⟨gb1056, 1, none⟩ (.int .i64 t1051)).setCell ⟨gb1056, 2, none⟩ (.slice Ao23 t1052.length co23)) = w25
    have n0_ : Aside0 (Kd.S k57 57 w25 w.heap.size (fun k_ => k_ ≠ gb1044 ∧ k_ ≠ gb1056 ∧ gbz1046 ≤ k_ ∧ k_ < gbz1053) v1046 t1045) := ⟨by rw [← hw_]; exact (Kd.S_mono (sf_ gb1056 (Kd.S_mono HO1047.out (fun k_ hk => (⟨hk, hk.2.1⟩ : _ ∧ k_ ≠ gb1056))) (fun _ hk => hk.2)) (fun _ hk => ⟨hk.1.1, ⟨hk.1.2.1, ⟨hk.1.2.2.1, hk.1.2.2.2⟩⟩⟩))⟩
    have n1_ : Aside0 (Kd.S k100 100 w25 w.heap.size (fun k_ => k_ ≠ gb1044 ∧ gbz1053 ≤ k_) (.slice Ao23 t1052.length co23) t1052) := ⟨by rw [← hw_]; exact (Kd.S_mono (sf_ gb1056 (Kd.S_types HO1054.out BK1056.out (by decide)) (fun _ hk => hk.2)) (fun _ hk => ⟨hk.1.1, hk.1.2⟩))⟩
    have n2_ : Aside0 (w25.heap[gb1044]? = some (.cells #[.slice A1_0 l1_0.length c1_0, .int .i64 a1_1, .int .i64 a1_2, .string a1_3] 43 (0, 0))) := ⟨by rw [← hw_]; exact (bq_ BK1044.out)⟩
    have n3_ : Aside0 (w25.heap[gb1056]? = some (.cells #[.int .i64 t1050, .int .i64 t1051, .slice Ao23 t1052.length co23] 57 (0, 0))) := ⟨by rw [← hw_]; exact (bp_ BK1056.out)⟩
    have n4_ : Aside0 (Below w.heap.size w w25) := ⟨by rw [← hw_]; exact (hs_ HB.out)⟩
    clear hw_
    (try clear HO1047)
    (try clear HO1054)
    (try clear BK1044)
    (try clear BK1056)
    (try clear HB)
    have HO1047 := n0_
    have HO1054 := n1_
    have BK1044 := n2_
    have BK1056 := n3_
    have HB := n4_
    clear n0_ n1_ n2_ n3_ n4_
    have hnb26 := NB1056_1044.out
    have hnc26 := NB1044_1056.out
    obtain ⟨z27_0, z27_1, z27_2, y27_0, y27_1, y27_2⟩ := bc3_ BK1056.out
    have p12 : 0 ≤ (t1048 : Int) := of_decide_eq_true (by with_reducible assumption)
    have q12 : (t1048 : Int) < ((t1045.length : Int) : Int) := of_decide_eq_true (by with_reducible assumption)
    obtain ⟨go12, co12, eo12, gb12, gl12, cl12, HG12⟩ := Kd.S_form HO1047.out (by omega)
    (first | cases eo12 | (injection eo12 with ea_ en_ ec_; (first | subst ea_ | (injection ea_ with ea_; subst ea_)); subst ec_; clear en_))
    have GB12 := Aside0.mk gb12
    have GG12 := Aside0.mk HG12
    clear gb12 gl12 HG12
    obtain ⟨_, ce12, hcl12, hM12, hcc12, hfr12, _, _⟩ := Kd.S_elem HO1047.out z57 (t1048 : Int) p12 q12
    obtain ⟨ve12_2, rfl, ge12_2⟩ := k57_openM hM12
    have hx12_0 : w25.cell? ⟨go12, (t1048 : Int).toNat * 3, none⟩ = some (.int .i64 ((rd_T57 t1045 t1048).f0)) := hcc12 0 _ rfl
    have hx12_1 : w25.cell? ⟨go12, (t1048 : Int).toNat * 3 + 1, none⟩ = some (.int .i64 ((rd_T57 t1045 t1048).f1)) := hcc12 1 _ rfl
    have hx12_2 : w25.cell? ⟨go12, (t1048 : Int).toNat * 3 + 2, none⟩ = some (ve12_2) := hcc12 2 _ rfl
    have hf12_0 : w25.frozen? ⟨go12, (t1048 : Int).toNat * 3, none⟩ = false := hfr12 0
    have hf12_1 : w25.frozen? ⟨go12, (t1048 : Int).toNat * 3 + 1, none⟩ = false := hfr12 1
    have hf12_2 : w25.frozen? ⟨go12, (t1048 : Int).toNat * 3 + 2, none⟩ = false := hfr12 2
    clear hcl12 hcc12 hfr12 hM12
    replace p12 := eq_true p12
    replace q12 := eq_true q12
    obtain ⟨PXP30, hPXP30, hPlP30⟩ := Kd.S_fp (Kd.S_types (Kd.S_apart' (HO1054.out) (Kd.S_typed HO1047.out) (by decide)) BK1056.out (by decide))
    have HX28 := Aside0.mk (show Kd.S k57 57 w25 w.heap.size (fun k_ => ((fun k_ => k_ ≠ gb1044 ∧ k_ ≠ gb1056)) k_ ∧ ¬ ((fun k_ => PXP30 k_)) k_) (.slice (some ⟨go12, 0, none⟩) t1045.length co12) t1045 from (Kd.S_mono (sp_ HO1047.out) (fun k_ hk => ⟨⟨hk.1, hk.2.1⟩, fun e_ => (fun ez_ => Nat.lt_irrefl _ (Nat.lt_of_lt_of_le hk.2.2.2 (hPlP30 _ ez_).1.1.1.2)) e_⟩)))
    obtain ⟨oki28, ce28, hcl28, hM28, hcc28, hfr28, hoki28, hH28⟩ := Kd.S_elem HX28.out z57 (t1048 : Int) (of_decide_eq_true (by with_reducible assumption)) (by have h_ : (t1048 : Int) < ((t1045.length : Int) : Int) := of_decide_eq_true (by with_reducible assumption); first | exact h_ | (have e_ := (Kd.S_reads' HO1047.out).1; omega) | simpa using h_)
    obtain ⟨ve28_2, rfl, ge28_2⟩ := k57_openM hM28
    have HP28 := Kd.S_seg hH28 (of_decide_eq_true (by with_reducible assumption)) (by have h_ : (t1048 : Int) < ((t1045.length : Int) : Int) := of_decide_eq_true (by with_reducible assumption); first | exact h_ | (have e_ := (Kd.S_reads' HO1047.out).1; omega) | simpa using h_) (seg := [.int .i64 t1050, .int .i64 t1051, .slice Ao23 t1052.length co23]) (j := 0) (show 3 ≤ 3 from by decide) (x' := (⟨t1050, t1051, t1052⟩ : S57)) (k57_mkM _ _ _ (⟨t1050, t1051, t1052⟩ : S57) (Kd.S_mono hPXP30 (fun _ h_ => Or.inr (h_)))) (fun _ hk => hk) (fun k_ hk_ => ⟨⟨(hPlP30 k_ hk_).1.1.1.1, (hPlP30 k_ hk_).1.2⟩, fun e_ => ((hPlP30 k_ hk_).1.1.2) (by rw [e_]; rfl)⟩)
    have hx28_0 := hcc28 0 _ rfl
    (try simp only [show (k57).sz = 3 from rfl, Nat.mul_one, Nat.add_zero] at hx28_0)
    have hf28_0 := hfr28 0
    (try simp only [show (k57).sz = 3 from rfl, Nat.mul_one, Nat.add_zero] at hf28_0)
    have hx28_1 := hcc28 1 _ rfl
    (try simp only [show (k57).sz = 3 from rfl, Nat.mul_one, Nat.add_zero] at hx28_1)
    have hf28_1 := hfr28 1
    (try simp only [show (k57).sz = 3 from rfl, Nat.mul_one, Nat.add_zero] at hf28_1)
    have hx28_2 := hcc28 2 _ rfl
    (try simp only [show (k57).sz = 3 from rfl, Nat.mul_one, Nat.add_zero] at hx28_2)
    have hf28_2 := hfr28 2
    (try simp only [show (k57).sz = 3 from rfl, Nat.mul_one, Nat.add_zero] at hf28_2)
    clear hcl28 hcc28 hfr28 hM28 hoki28 hH28
    try go_wp2_with (first | ((with_reducible refine gate_store (t := 57) (p := 32) rfl ?_); refine store_event (t := 57) (p := 32) (v := ?vo_w29) (w1 := (((w25.setCell ⟨go12, (t1048 : Int).toNat * 3, none⟩ (.int .i64 t1050)).setCell ⟨go12, (t1048 : Int).toNat * 3 + 1, none⟩ (.int .i64 t1051)).setCell ⟨go12, (t1048 : Int).toNat * 3 + 2, none⟩ (.slice Ao23 t1052.length co23))) ?hg ?ho ?hn ?hr ?_; (case ho => rfl); (case hg => rfl); (case hn => rfl); (case hr => first | (go_simp; done) | (go_simp; rfl)); intro w29 hw; have hg : w25.grownBy w29 (some go12) := (by rw [hw]; exact HP28.2); have hp_ : Kd.S k57 57 w29 w.heap.size (fun k_ => k_ ≠ gb1044 ∧ k_ ≠ gb1056) (.slice (some ⟨go12, 0, none⟩) t1045.length co12) y1057 := (by rw [hw, Ny1057.out]; exact HP28.1); clear HP28; replace BK1044 := Aside0.mk (blk_grown (bq_ BK1044.out) hg (Kd.S_ne HO1047.out BK1044.out (by decide))); replace BK1056 := Aside0.mk (blk_grown (bq_ BK1056.out) hg (Kd.S_away HO1047.out (fun _ hk => hk.2.1))); replace HO1047 := Aside0.mk (hp_); replace HB := Aside0.mk ((by rw [hw]; exact below_set (below_set (below_set (HB.out) GB12.out) GB12.out) GB12.out : Below w.heap.size w w29)); clear HO1054; clear hg hw hp_))
    go_ret2
    exact ⟨_, by first | rfl | (simp [errW_none, errW_some] <;> rfl) | (simp [*, errW_none, errW_some] <;> rfl), by (with_reducible repeat (first | apply Kd.S_alloc | apply Kd.S_drewN | apply Kd.S_drew)); exact Kd.S_mono HO1047.out (fun _ hk => trivial), by exact hs_ HB.out⟩
   rw [if_neg c11] at H
   exact absurd H (by simp)
  rw [if_neg c9] at H
  exact absurd H (by simp)
 rw [if_neg c8] at H
 exact absurd H (by simp)
def impl_PartOf.f (a0 : Int) (a1 : Int) : Option (Int) := if a1 < 1 then (some 0) else (if a0 < 0 then (some 0) else (if a1 = 0 then (none) else (some (Int.tmod a0 a1))))
theorem impl_PartOf.calls (a0 : Int) (a1 : Int) (r : Int) (w : World) (h : impl_PartOf.f a0 a1 = some r) :
  Calls Try.prog 59 #[.int .i64 a0, .int .i64 a1] w fun e w' => e = .returned (.int .i64 r) ∧ Drawn0 w w' := by
 have H : (if a1 < 1 then (some 0) else (if a0 < 0 then (some 0) else (if a1 = 0 then (none) else (some (Int.tmod a0 a1))))) = some r := h
 clear h
 by_cases c3 : a1 < 1
 ·
  rw [if_pos c3] at H
  have c3b0 := decide_eq_true c3
  clear c3
  obtain rfl := Option.some.inj H
  go_enter Try.func59, Try.ntmps59
  go_wp2
  go_ret
  exact ⟨by first | rfl | (simp; done) | (simp [*]; done), by repeat (first | exact Drawn0.refl _ | apply Drawn0.step)⟩
 rw [if_neg c3] at H
 have c3b0 : decide (a1 < 1) = false := decide_eq_false c3
 clear c3
 by_cases c4 : a0 < 0
 ·
  rw [if_pos c4] at H
  have c4b0 := decide_eq_true c4
  clear c4
  obtain rfl := Option.some.inj H
  go_enter Try.func59, Try.ntmps59
  go_wp2
  go_ret
  exact ⟨by first | rfl | (simp; done) | (simp [*]; done), by repeat (first | exact Drawn0.refl _ | apply Drawn0.step)⟩
 rw [if_neg c4] at H
 have c4b0 : decide (a0 < 0) = false := decide_eq_false c4
 clear c4
 by_cases c5 : a1 = 0
 ·
  rw [if_pos c5] at H
  exact absurd H (by simp)
 rw [if_neg c5] at H
 have c5b0 : (a1 == 0) = false := beq_eq_false_iff_ne.mpr c5
 have c5b1 : (a1 != 0) = true := bne_iff_ne.mpr c5
 obtain rfl := Option.some.inj H
 go_enter Try.func59, Try.ntmps59
 go_wp2
 go_ret
 exact ⟨by first | rfl | (simp; done) | (simp [*]; done), by repeat (first | exact Drawn0.refl _ | apply Drawn0.step)⟩
def impl_Sum.l0 : Nat → ByteArray → Int → Int → Option (Int)
 | 0, _, _, _ => none
 | k + 1, x0, x3, x4 => if x4 < (x0.size : Int) then (if 0 ≤ x4 then (impl_Sum.l0 k x0 (((Go.bits .xor .u32 x3 ((bt x0 x4) % 4294967296)) * 16777619) % 4294967296) (wrap64 (x4 + 1))) else (none)) else (some (wrap64 (x3)))
def impl_Sum.f (k : Nat) (a0 : ByteArray) : Option (Int) := impl_Sum.l0 k a0 2166136261 0
theorem impl_Sum.mono_l : ∀ k, (∀ y0 y1 y2, LeO (impl_Sum.l0 k y0 y1 y2) (impl_Sum.l0 (k + 1) y0 y1 y2))
 | 0 => fun _ _ _ r h => by simp [impl_Sum.l0] at h
 | k + 1 => by
  have ih0 := impl_Sum.mono_l k
  intro y0 y1 y2
  unfold impl_Sum.l0
  repeat' first
  | (with_reducible exact ih0 _ _ _)
  | (with_reducible exact LeO.refl _)
  | (with_reducible exact LeO.none _)
  | (with_reducible refine LeO.ite ?_ ?_)
  | (with_reducible refine LeO.bind ?_ (fun _ => ?_))
  | exact ih0 _ _ _
theorem impl_Sum.mono : ∀ a0 k, LeO (impl_Sum.f k a0) (impl_Sum.f (k + 1) a0) := by
 intro a0 k
 have ih0 := impl_Sum.mono_l k
 unfold impl_Sum.f
 repeat' first | (with_reducible first | exact ih0 _ _ _ | exact LeO.refl _ | exact LeO.none _ | refine LeO.ite ?_ ?_ | refine LeO.bind ?_ (fun _ => ?_)) | exact ih0 _ _ _
theorem impl_Sum.calls (k : Nat) (a0 : ByteArray) (r : Int) (w : World) (h : impl_Sum.f k a0 = some r) :
  Calls Try.prog 97 #[.string a0] w fun e w' => e = .returned (.int .i64 r) ∧ Drawn0 w w' := by
 have H : (impl_Sum.l0 k a0 2166136261 0) = some r := h
 clear h
 have H' := Aside0.mk H
 clear H
 go_enter Try.func97, Try.ntmps97
 go_wp2
 go_loopg [3, 4] k (fun kq v3 v4 w' => ∃ (x3_1 : Int) (x4_1 : Int), v3 = .int .u32 x3_1 ∧ v4 = .int .i64 x4_1 ∧ Aside0 (impl_Sum.l0 kq a0 x3_1 x4_1 = some r) ∧ Aside0 (kq ≤ k) ∧ Drawn0 w w')
 case atStart => exact ⟨(2166136261), (0), (by first | rfl | (simp; done) | (simp [*]; done)), (by first | rfl | (simp; done) | (simp [*]; done)), H', ⟨Nat.le_refl _⟩, by repeat (first | exact Drawn0.refl _ | apply Drawn0.step)⟩
 case round =>
  clear H'
  obtain ⟨x3_1, x4_1, rfl, rfl, HA, HK1, ⟨m1, rfl⟩⟩ := hrel
  cases gk with
  | zero => exact absurd HA.out (by simp [impl_Sum.l0])
  | succ k1 =>
   have H := HA.out
   clear HA
   simp only [impl_Sum.l0] at H
   by_cases c2 : x4_1 < (a0.size : Int)
   ·
    rw [if_pos c2] at H
    have c2b0 := decide_eq_true c2
    clear c2
    by_cases c3 : 0 ≤ x4_1
    ·
     rw [if_pos c3] at H
     have c3b0 := decide_eq_true c3
     clear c3
     have H' := Aside0.mk H
     clear H
     have p4 : 0 ≤ (x4_1 : Int) := of_decide_eq_true (by with_reducible assumption)
     have q4 : x4_1 < (a0.size : Int) := of_decide_eq_true (by with_reducible assumption)
     have hx4 := bt_at a0 x4_1
     replace p4 := eq_true p4
     replace q4 := eq_true q4
     go_wp2
     go_roundg k1
     case measure => have := HK1.out; omega
     case rel => exact ⟨(((Go.bits .xor .u32 x3_1 ((bt a0 x4_1) % 4294967296)) * 16777619) % 4294967296), (wrap64 (x4_1 + 1)), (by first | rfl | (simp; done) | (simp [*]; done)), (by first | rfl | (simp; done) | (simp [*]; done)), H', ⟨by have := HK1.out; omega⟩, by repeat (first | exact Drawn0.refl _ | apply Drawn0.step)⟩
    rw [if_neg c3] at H
    exact absurd H (by simp)
   rw [if_neg c2] at H
   have c2b0 : decide (x4_1 < (a0.size : Int)) = false := decide_eq_false c2
   clear c2
   obtain rfl := Option.some.inj H
   go_wp2
   go_ret
   exact ⟨by first | rfl | (simp; done) | (simp [*]; done), by repeat (first | exact Drawn0.refl _ | apply Drawn0.step)⟩
def impl_PlainOk.l0 : Nat → ByteArray → Int → Option (Bool)
 | 0, _, _ => none
 | k + 1, x0, x3 => if x3 < (x0.size : Int) then (if 0 ≤ x3 then (if (bt x0 x3) < 32 then (some false) else (if (bt x0 x3) > 126 then (some false) else (if (bt x0 x3) = 34 then (some false) else (if (bt x0 x3) = 92 then (some false) else (impl_PlainOk.l0 k x0 (wrap64 (x3 + 1))))))) else (none)) else (some true)
def impl_PlainOk.f (k : Nat) (a0 : ByteArray) : Option (Bool) := if (a0.size : Int) > 12 then (some false) else (impl_PlainOk.l0 k a0 0)
theorem impl_PlainOk.mono_l : ∀ k, (∀ y0 y1, LeO (impl_PlainOk.l0 k y0 y1) (impl_PlainOk.l0 (k + 1) y0 y1))
 | 0 => fun _ _ r h => by simp [impl_PlainOk.l0] at h
 | k + 1 => by
  have ih0 := impl_PlainOk.mono_l k
  intro y0 y1
  unfold impl_PlainOk.l0
  repeat' first
  | (with_reducible exact ih0 _ _)
  | (with_reducible exact LeO.refl _)
  | (with_reducible exact LeO.none _)
  | (with_reducible refine LeO.ite ?_ ?_)
  | (with_reducible refine LeO.bind ?_ (fun _ => ?_))
  | exact ih0 _ _
theorem impl_PlainOk.mono : ∀ a0 k, LeO (impl_PlainOk.f k a0) (impl_PlainOk.f (k + 1) a0) := by
 intro a0 k
 have ih0 := impl_PlainOk.mono_l k
 unfold impl_PlainOk.f
 repeat' first | (with_reducible first | exact ih0 _ _ | exact LeO.refl _ | exact LeO.none _ | refine LeO.ite ?_ ?_ | refine LeO.bind ?_ (fun _ => ?_)) | exact ih0 _ _
theorem impl_PlainOk.calls (k : Nat) (a0 : ByteArray) (r : Bool) (w : World) (h : impl_PlainOk.f k a0 = some r) :
  Calls Try.prog 122 #[.string a0] w fun e w' => e = .returned (.bool r) ∧ Drawn0 w w' := by
 have H : (if (a0.size : Int) > 12 then (some false) else (impl_PlainOk.l0 k a0 0)) = some r := h
 clear h
 by_cases c2 : (a0.size : Int) > 12
 ·
  rw [if_pos c2] at H
  have c2b0 : decide (12 < (a0.size : Int)) = true := decide_eq_true c2
  have c2b1 : decide (12 < a0.size) = true := decide_eq_true (by omega)
  clear c2
  obtain rfl := Option.some.inj H
  go_enter Try.func122, Try.ntmps122
  go_wp2
  go_ret
  exact ⟨by first | rfl | (simp; done) | (simp [*]; done), by repeat (first | exact Drawn0.refl _ | apply Drawn0.step)⟩
 rw [if_neg c2] at H
 have c2b0 : decide (12 < (a0.size : Int)) = false := decide_eq_false c2
 have c2b1 : decide (12 < a0.size) = false := decide_eq_false (by omega)
 clear c2
 have H' := Aside0.mk H
 clear H
 go_enter Try.func122, Try.ntmps122
 go_wp2
 go_loopg [3] k (fun kq v3 w' => ∃ (x3_1 : Int), v3 = .int .i64 x3_1 ∧ Aside0 (impl_PlainOk.l0 kq a0 x3_1 = some r) ∧ Aside0 (kq ≤ k) ∧ Drawn0 w w')
 case atStart => exact ⟨(0), (by first | rfl | (simp; done) | (simp [*]; done)), H', ⟨Nat.le_refl _⟩, by repeat (first | exact Drawn0.refl _ | apply Drawn0.step)⟩
 case round =>
  clear H'
  try clear c1
  try clear c2
  try clear c2b0
  try clear c2b1
  try clear p2
  obtain ⟨x3_1, rfl, HA, HK1, ⟨m1, rfl⟩⟩ := hrel
  cases gk with
  | zero => exact absurd HA.out (by simp [impl_PlainOk.l0])
  | succ k1 =>
   have H := HA.out
   clear HA
   simp only [impl_PlainOk.l0] at H
   by_cases c3 : x3_1 < (a0.size : Int)
   ·
    rw [if_pos c3] at H
    have c3b0 := decide_eq_true c3
    clear c3
    by_cases c4 : 0 ≤ x3_1
    ·
     rw [if_pos c4] at H
     have c4b0 := decide_eq_true c4
     clear c4
     by_cases c6 : (bt a0 x3_1) < 32
     ·
      rw [if_pos c6] at H
      have c6b0 := decide_eq_true c6
      clear c6
      obtain rfl := Option.some.inj H
      have p5 : 0 ≤ (x3_1 : Int) := of_decide_eq_true (by with_reducible assumption)
      have q5 : x3_1 < (a0.size : Int) := of_decide_eq_true (by with_reducible assumption)
      have hx5 := bt_at a0 x3_1
      replace p5 := eq_true p5
      replace q5 := eq_true q5
      go_wp2
      go_ret
      exact ⟨by first | rfl | (simp; done) | (simp [*]; done), by repeat (first | exact Drawn0.refl _ | apply Drawn0.step)⟩
     rw [if_neg c6] at H
     have c6b0 : decide ((bt a0 x3_1) < 32) = false := decide_eq_false c6
     clear c6
     by_cases c7 : (bt a0 x3_1) > 126
     ·
      rw [if_pos c7] at H
      have c7b0 : decide (126 < (bt a0 x3_1)) = true := decide_eq_true c7
      clear c7
      obtain rfl := Option.some.inj H
      have p5 : 0 ≤ (x3_1 : Int) := of_decide_eq_true (by with_reducible assumption)
      have q5 : x3_1 < (a0.size : Int) := of_decide_eq_true (by with_reducible assumption)
      have hx5 := bt_at a0 x3_1
      replace p5 := eq_true p5
      replace q5 := eq_true q5
      go_wp2
      go_ret
      exact ⟨by first | rfl | (simp; done) | (simp [*]; done), by repeat (first | exact Drawn0.refl _ | apply Drawn0.step)⟩
     rw [if_neg c7] at H
     have c7b0 : decide (126 < (bt a0 x3_1)) = false := decide_eq_false c7
     clear c7
     by_cases c8 : (bt a0 x3_1) = 34
     ·
      rw [if_pos c8] at H
      have c8b0 : ((bt a0 x3_1) == 34) = true := beq_iff_eq.mpr c8
      have c8b1 : ((bt a0 x3_1) != 34) = false := bne_eq_false_iff_eq.mpr c8
      clear c8
      obtain rfl := Option.some.inj H
      have p5 : 0 ≤ (x3_1 : Int) := of_decide_eq_true (by with_reducible assumption)
      have q5 : x3_1 < (a0.size : Int) := of_decide_eq_true (by with_reducible assumption)
      have hx5 := bt_at a0 x3_1
      replace p5 := eq_true p5
      replace q5 := eq_true q5
      go_wp2
      go_ret
      exact ⟨by first | rfl | (simp; done) | (simp [*]; done), by repeat (first | exact Drawn0.refl _ | apply Drawn0.step)⟩
     rw [if_neg c8] at H
     have c8b0 : ((bt a0 x3_1) == 34) = false := beq_eq_false_iff_ne.mpr c8
     have c8b1 : ((bt a0 x3_1) != 34) = true := bne_iff_ne.mpr c8
     by_cases c9 : (bt a0 x3_1) = 92
     ·
      rw [if_pos c9] at H
      have c9b0 : ((bt a0 x3_1) == 92) = true := beq_iff_eq.mpr c9
      have c9b1 : ((bt a0 x3_1) != 92) = false := bne_eq_false_iff_eq.mpr c9
      clear c9
      obtain rfl := Option.some.inj H
      have p5 : 0 ≤ (x3_1 : Int) := of_decide_eq_true (by with_reducible assumption)
      have q5 : x3_1 < (a0.size : Int) := of_decide_eq_true (by with_reducible assumption)
      have hx5 := bt_at a0 x3_1
      replace p5 := eq_true p5
      replace q5 := eq_true q5
      go_wp2
      go_ret
      exact ⟨by first | rfl | (simp; done) | (simp [*]; done), by repeat (first | exact Drawn0.refl _ | apply Drawn0.step)⟩
     rw [if_neg c9] at H
     have c9b0 : ((bt a0 x3_1) == 92) = false := beq_eq_false_iff_ne.mpr c9
     have c9b1 : ((bt a0 x3_1) != 92) = true := bne_iff_ne.mpr c9
     have H' := Aside0.mk H
     clear H
     have p5 : 0 ≤ (x3_1 : Int) := of_decide_eq_true (by with_reducible assumption)
     have q5 : x3_1 < (a0.size : Int) := of_decide_eq_true (by with_reducible assumption)
     have hx5 := bt_at a0 x3_1
     replace p5 := eq_true p5
     replace q5 := eq_true q5
     go_wp2
     go_roundg k1
     case measure => have := HK1.out; omega
     case rel => exact ⟨(wrap64 (x3_1 + 1)), (by first | rfl | (simp; done) | (simp [*]; done)), H', ⟨by have := HK1.out; omega⟩, by repeat (first | exact Drawn0.refl _ | apply Drawn0.step)⟩
    rw [if_neg c4] at H
    exact absurd H (by simp)
   rw [if_neg c3] at H
   have c3b0 : decide (x3_1 < (a0.size : Int)) = false := decide_eq_false c3
   clear c3
   obtain rfl := Option.some.inj H
   go_wp2
   go_ret
   exact ⟨by first | rfl | (simp; done) | (simp [*]; done), by repeat (first | exact Drawn0.refl _ | apply Drawn0.step)⟩
def impl_in.f (a0 : Int) (a1 : Int) (a2 : Int) : Option (Bool) := if a0 ≥ a1 then (some (decide (a0 ≤ a2))) else (some false)
theorem impl_in.calls (a0 : Int) (a1 : Int) (a2 : Int) (r : Bool) (w : World) (h : impl_in.f a0 a1 a2 = some r) :
  Calls Try.prog 73 #[.int .i64 a0, .int .i64 a1, .int .i64 a2] w fun e w' => e = .returned (.bool r) ∧ Drawn0 w w' := by
 have H : (if a0 ≥ a1 then (some (decide (a0 ≤ a2))) else (some false)) = some r := h
 clear h
 by_cases c4 : a0 ≥ a1
 ·
  rw [if_pos c4] at H
  have c4b0 : decide (a1 ≤ a0) = true := decide_eq_true c4
  clear c4
  obtain rfl := Option.some.inj H
  go_enter Try.func73, Try.ntmps73
  go_wp2
  go_ret
  exact ⟨by first | rfl | (simp; done) | (simp [*]; done), by repeat (first | exact Drawn0.refl _ | apply Drawn0.step)⟩
 rw [if_neg c4] at H
 have c4b0 : decide (a1 ≤ a0) = false := decide_eq_false c4
 clear c4
 obtain rfl := Option.some.inj H
 go_enter Try.func73, Try.ntmps73
 go_wp2
 go_ret
 exact ⟨by first | rfl | (simp; done) | (simp [*]; done), by repeat (first | exact Drawn0.refl _ | apply Drawn0.step)⟩
def impl_NameOk.l0 : Nat → ByteArray → Int → Option (Bool)
 | 0, _, _ => none
 | k + 1, x0, x3 => if x3 < (x0.size : Int) then (if 0 ≤ x3 then (if (bt x0 x3) < 97 then (some false) else (if (bt x0 x3) > 122 then (some false) else (impl_NameOk.l0 k x0 (wrap64 (x3 + 1))))) else (none)) else (some true)
def impl_NameOk.f (k : Nat) (a0 : ByteArray) : Option (Bool) := (impl_in.f (a0.size : Int) 1 8).bind fun t192 => (if t192 = true then (impl_NameOk.l0 k a0 0) else (some false))
theorem impl_NameOk.mono_l : ∀ k, (∀ y0 y1, LeO (impl_NameOk.l0 k y0 y1) (impl_NameOk.l0 (k + 1) y0 y1))
 | 0 => fun _ _ r h => by simp [impl_NameOk.l0] at h
 | k + 1 => by
  have ih0 := impl_NameOk.mono_l k
  intro y0 y1
  unfold impl_NameOk.l0
  repeat' first
  | (with_reducible exact ih0 _ _)
  | (with_reducible exact LeO.refl _)
  | (with_reducible exact LeO.none _)
  | (with_reducible refine LeO.ite ?_ ?_)
  | (with_reducible refine LeO.bind ?_ (fun _ => ?_))
  | exact ih0 _ _
theorem impl_NameOk.mono : ∀ a0 k, LeO (impl_NameOk.f k a0) (impl_NameOk.f (k + 1) a0) := by
 intro a0 k
 have ih0 := impl_NameOk.mono_l k
 unfold impl_NameOk.f
 repeat' first | (with_reducible first | exact ih0 _ _ | exact LeO.refl _ | exact LeO.none _ | refine LeO.ite ?_ ?_ | refine LeO.bind ?_ (fun _ => ?_)) | exact ih0 _ _
theorem impl_NameOk.calls (k : Nat) (a0 : ByteArray) (r : Bool) (w : World) (h : impl_NameOk.f k a0 = some r) :
  Calls Try.prog 149 #[.string a0] w fun e w' => e = .returned (.bool r) ∧ Drawn0 w w' := by
 have H : ((impl_in.f (a0.size : Int) 1 8).bind fun t192 => (if t192 = true then (impl_NameOk.l0 k a0 0) else (some false))) = some r := h
 clear h
 replace H := Option.bind_eq_some_iff.mp H
 obtain ⟨t192, A20, H⟩ := H
 have A2 := Aside0.mk A20
 clear A20
 by_cases c3 : t192 = true
 ·
  subst c3
  rw [if_pos rfl] at H
  have H' := Aside0.mk H
  clear H
  go_enter Try.func149, Try.ntmps149
  go_wp2_with (first | ((with_reducible refine gate_callee (f := 73) rfl ?_); refine gl_ (some 6) Try.func73 #[.int .i64 (a0.size : Int), .int .i64 1, .int .i64 8] ?_; (with_reducible refine (impl_in.calls (a0.size : Int) 1 8 true _ A2.out).mono ?_); rintro e w' ⟨rfl, ⟨nd, rfl⟩⟩; refine ⟨_, rfl, ?_⟩))
  go_loopg [3] k (fun kq v3 w' => ∃ (x3_1 : Int), v3 = .int .i64 x3_1 ∧ Aside0 (impl_NameOk.l0 kq a0 x3_1 = some r) ∧ Aside0 (kq ≤ k) ∧ Drawn0 w w')
  case atStart => exact ⟨(0), (by first | rfl | (simp; done) | (simp [*]; done)), H', ⟨Nat.le_refl _⟩, by repeat (first | exact Drawn0.refl _ | apply Drawn0.step)⟩
  case round =>
   clear H'
   try clear c1
   try clear p2
   try clear c3
   obtain ⟨x3_1, rfl, HA, HK1, ⟨m1, rfl⟩⟩ := hrel
   cases gk with
   | zero => exact absurd HA.out (by simp [impl_NameOk.l0])
   | succ k1 =>
    have H := HA.out
    clear HA
    simp only [impl_NameOk.l0] at H
    by_cases c4 : x3_1 < (a0.size : Int)
    ·
     rw [if_pos c4] at H
     have c4b0 := decide_eq_true c4
     clear c4
     by_cases c5 : 0 ≤ x3_1
     ·
      rw [if_pos c5] at H
      have c5b0 := decide_eq_true c5
      clear c5
      by_cases c7 : (bt a0 x3_1) < 97
      ·
       rw [if_pos c7] at H
       have c7b0 := decide_eq_true c7
       clear c7
       obtain rfl := Option.some.inj H
       have p6 : 0 ≤ (x3_1 : Int) := of_decide_eq_true (by with_reducible assumption)
       have q6 : x3_1 < (a0.size : Int) := of_decide_eq_true (by with_reducible assumption)
       have hx6 := bt_at a0 x3_1
       replace p6 := eq_true p6
       replace q6 := eq_true q6
       go_wp2
       go_ret
       exact ⟨by first | rfl | (simp; done) | (simp [*]; done), by repeat (first | exact Drawn0.refl _ | apply Drawn0.step)⟩
      rw [if_neg c7] at H
      have c7b0 : decide ((bt a0 x3_1) < 97) = false := decide_eq_false c7
      clear c7
      by_cases c9 : (bt a0 x3_1) > 122
      ·
       rw [if_pos c9] at H
       have c9b0 : decide (122 < (bt a0 x3_1)) = true := decide_eq_true c9
       clear c9
       obtain rfl := Option.some.inj H
       have p6 : 0 ≤ (x3_1 : Int) := of_decide_eq_true (by with_reducible assumption)
       have q6 : x3_1 < (a0.size : Int) := of_decide_eq_true (by with_reducible assumption)
       have hx6 := bt_at a0 x3_1
       replace p6 := eq_true p6
       replace q6 := eq_true q6
       have p8 : 0 ≤ (x3_1 : Int) := of_decide_eq_true (by with_reducible assumption)
       have q8 : x3_1 < (a0.size : Int) := of_decide_eq_true (by with_reducible assumption)
       have hx8 := bt_at a0 x3_1
       replace p8 := eq_true p8
       replace q8 := eq_true q8
       go_wp2
       go_ret
       exact ⟨by first | rfl | (simp; done) | (simp [*]; done), by repeat (first | exact Drawn0.refl _ | apply Drawn0.step)⟩
      rw [if_neg c9] at H
      have c9b0 : decide (122 < (bt a0 x3_1)) = false := decide_eq_false c9
      clear c9
      have H' := Aside0.mk H
      clear H
      have p6 : 0 ≤ (x3_1 : Int) := of_decide_eq_true (by with_reducible assumption)
      have q6 : x3_1 < (a0.size : Int) := of_decide_eq_true (by with_reducible assumption)
      have hx6 := bt_at a0 x3_1
      replace p6 := eq_true p6
      replace q6 := eq_true q6
      have p8 : 0 ≤ (x3_1 : Int) := of_decide_eq_true (by with_reducible assumption)
      have q8 : x3_1 < (a0.size : Int) := of_decide_eq_true (by with_reducible assumption)
      have hx8 := bt_at a0 x3_1
      replace p8 := eq_true p8
      replace q8 := eq_true q8
      go_wp2
      go_roundg k1
      case measure => have := HK1.out; omega
      case rel => exact ⟨(wrap64 (x3_1 + 1)), (by first | rfl | (simp; done) | (simp [*]; done)), H', ⟨by have := HK1.out; omega⟩, by repeat (first | exact Drawn0.refl _ | apply Drawn0.step)⟩
     rw [if_neg c5] at H
     exact absurd H (by simp)
    rw [if_neg c4] at H
    have c4b0 : decide (x3_1 < (a0.size : Int)) = false := decide_eq_false c4
    clear c4
    obtain rfl := Option.some.inj H
    go_wp2
    go_ret
    exact ⟨by first | rfl | (simp; done) | (simp [*]; done), by repeat (first | exact Drawn0.refl _ | apply Drawn0.step)⟩
 replace c3 := Bool.eq_false_iff.mpr c3
 subst c3
 rw [if_neg (show ¬ (false = true) by decide)] at H
 obtain rfl := Option.some.inj H
 go_enter Try.func149, Try.ntmps149
 go_wp2_with (first | ((with_reducible refine gate_callee (f := 73) rfl ?_); refine gl_ (some 6) Try.func73 #[.int .i64 (a0.size : Int), .int .i64 1, .int .i64 8] ?_; (with_reducible refine (impl_in.calls (a0.size : Int) 1 8 false _ A2.out).mono ?_); rintro e w' ⟨rfl, ⟨nd, rfl⟩⟩; refine ⟨_, rfl, ?_⟩))
 go_ret
 exact ⟨by first | rfl | (simp; done) | (simp [*]; done), by repeat (first | exact Drawn0.refl _ | apply Drawn0.step)⟩
def impl_LabelOk.f (k : Nat) (a0_0 : ByteArray) (a0_1 : ByteArray) : Option (Bool) := (impl_NameOk.f k a0_0).bind fun t194 => (if t194 = true then ((impl_PlainOk.f k a0_1).bind fun t195 => (some t195)) else (some false))
theorem impl_LabelOk.mono : ∀ a0 a1 k, LeO (impl_LabelOk.f k a0 a1) (impl_LabelOk.f (k + 1) a0 a1) := by
 intro a0 a1 k
 unfold impl_LabelOk.f
 repeat' first | (with_reducible first | exact impl_NameOk.mono _ _ | exact impl_PlainOk.mono _ _ | exact LeO.refl _ | exact LeO.none _ | refine LeO.ite ?_ ?_ | refine LeO.bind ?_ (fun _ => ?_)) | exact impl_NameOk.mono _ _ | exact impl_PlainOk.mono _ _
theorem impl_LabelOk.calls (k : Nat) (a0_0 : ByteArray) (a0_1 : ByteArray) (r : Bool) (w : World) (h : impl_LabelOk.f k a0_0 a0_1 = some r) :
  Calls Try.prog 133 #[.agg #[.string a0_0, .string a0_1]] w fun e w' => e = .returned (.bool r) ∧ Below w.heap.size w w' := by
 have hu88 := Try.underlying88
 have HB := Aside0.mk (Below.refl w.heap.size w)
 have H : ((impl_NameOk.f k a0_0).bind fun t194 => (if t194 = true then ((impl_PlainOk.f k a0_1).bind fun t195 => (some t195)) else (some false))) = some r := h
 clear h
 replace H := Option.bind_eq_some_iff.mp H
 obtain ⟨t194, A20, H⟩ := H
 have A2 := Aside0.mk A20
 clear A20
 by_cases c3 : t194 = true
 ·
  subst c3
  rw [if_pos rfl] at H
  replace H := Option.bind_eq_some_iff.mp H
  obtain ⟨t195, A40, H⟩ := H
  have A4 := Aside0.mk A40
  clear A40
  obtain rfl := Option.some.inj H
  go_enter Try.func133, Try.ntmps133
  go_wp2_with (first | ((with_reducible refine gd_ 1 rfl ?_); refine bv_ 1 #[.string a0_0, .string a0_1] 88 ?_; intro gb193 hg w5 hbox hb; have BK193 := Aside0.mk (hbox); have GW193 := Aside0.mk ((gw_ hg (hs_ HB.out))); replace HB := st_ HB hb; have GE193 := Ge_.mk GW193.out; clear hb hbox hg; obtain ⟨z6_0, z6_1, y6_0, y6_1⟩ := bc2_ BK193.out) | ((with_reducible refine gate_callee (f := 149) rfl ?_); refine gl_ (some 5) Try.func149 #[.string a0_0] ?_; (with_reducible refine (impl_NameOk.calls k a0_0 true _ A2.out).mono ?_); rintro e w' ⟨rfl, ⟨nd, rfl⟩⟩; refine ⟨_, rfl, ?_⟩) | (go_at_call 122; (with_reducible refine (impl_PlainOk.calls k a0_1 t195 _ A4.out).mono ?_); rintro e w' ⟨rfl, ⟨nd, rfl⟩⟩))
  go_ret
  exact an_ (by exact hs_ HB.out)
 replace c3 := Bool.eq_false_iff.mpr c3
 subst c3
 rw [if_neg (show ¬ (false = true) by decide)] at H
 obtain rfl := Option.some.inj H
 go_enter Try.func133, Try.ntmps133
 go_wp2_with (first | ((with_reducible refine gd_ 1 rfl ?_); refine bv_ 1 #[.string a0_0, .string a0_1] 88 ?_; intro gb193 hg w7 hbox hb; have BK193 := Aside0.mk (hbox); have GW193 := Aside0.mk ((gw_ hg (hs_ HB.out))); replace HB := st_ HB hb; have GE193 := Ge_.mk GW193.out; clear hb hbox hg; obtain ⟨z8_0, z8_1, y8_0, y8_1⟩ := bc2_ BK193.out) | ((with_reducible refine gate_callee (f := 149) rfl ?_); refine gl_ (some 5) Try.func149 #[.string a0_0] ?_; (with_reducible refine (impl_NameOk.calls k a0_0 false _ A2.out).mono ?_); rintro e w' ⟨rfl, ⟨nd, rfl⟩⟩; refine ⟨_, rfl, ?_⟩))
 go_ret
 exact an_ (by exact hs_ HB.out)
def impl_SetOk.l0 : Nat → List (S88) → List (S88) → Int → Int → Option (Bool)
 | 0, _, _, _, _ => none
 | k + 1, x0, x5, x6, x7 => if x7 < x6 then (if 0 ≤ x7 then (if x7 < (x5.length : Int) then (if x7 ≥ 4 then (some false) else ((impl_LabelOk.f k ((rd_T88 x5 x7).f0) ((rd_T88 x5 x7).f1)).bind fun t198 => (if t198 = true then (if x7 > 0 then (if 0 ≤ (wrap64 (x7 - 1)) then (if (wrap64 (x7 - 1)) < (x0.length : Int) then (if ((Op.bytesLess (((rd_T88 x0 (wrap64 (x7 - 1))).f0).toList) (((rd_T88 x5 x7).f0).toList)) = true) then (impl_SetOk.l0 k x0 x5 x6 (wrap64 (x7 + 1))) else (some false)) else (none)) else (none)) else (impl_SetOk.l0 k x0 x5 x6 (wrap64 (x7 + 1)))) else (some false)))) else (none)) else (none)) else (some true)
def impl_SetOk.f (k : Nat) (l0 : List (S88)) : Option (Bool) := impl_SetOk.l0 k l0 l0 (l0.length : Int) 0
theorem impl_SetOk.mono_l : ∀ k, (∀ y0 y1 y2 y3, LeO (impl_SetOk.l0 k y0 y1 y2 y3) (impl_SetOk.l0 (k + 1) y0 y1 y2 y3))
 | 0 => fun _ _ _ _ r h => by simp [impl_SetOk.l0] at h
 | k + 1 => by
  have ih0 := impl_SetOk.mono_l k
  intro y0 y1 y2 y3
  unfold impl_SetOk.l0
  repeat' first
  | (with_reducible exact ih0 _ _ _ _)
  | (with_reducible exact impl_LabelOk.mono _ _ _)
  | (with_reducible exact LeO.refl _)
  | (with_reducible exact LeO.none _)
  | (with_reducible refine LeO.ite ?_ ?_)
  | (with_reducible refine LeO.bind ?_ (fun _ => ?_))
  | exact ih0 _ _ _ _
  | exact impl_LabelOk.mono _ _ _
theorem impl_SetOk.mono : ∀ a0 k, LeO (impl_SetOk.f k a0) (impl_SetOk.f (k + 1) a0) := by
 intro a0 k
 have ih0 := impl_SetOk.mono_l k
 unfold impl_SetOk.f
 repeat' first | (with_reducible first | exact ih0 _ _ _ _ | exact impl_LabelOk.mono _ _ _ | exact LeO.refl _ | exact LeO.none _ | refine LeO.ite ?_ ?_ | refine LeO.bind ?_ (fun _ => ?_)) | exact ih0 _ _ _ _ | exact impl_LabelOk.mono _ _ _
def impl_SetOk.T4 : Bool × List (List Nat × List Nat) := (true, [([], []), ([0], [0]), ([1], [1]), ([2], [2]), ([3, 2, 2], [2, 3]), ([4, 2], [2, 4]), ([2, 5], [2, 5]), ([6, 4], [6]), ([7], [7]), ([8, 7], [7, 8]), ([9, 7, 7], [7, 9]), ([10], [10]), ([10], [10]), ([12, 10], [10, 12]), ([11, 13, 10], [10, 11, 13]), ([14, 10], [10, 14]), ([15, 10], [10, 15]), ([10], [10]), ([17, 10], [10, 17]), ([16, 18, 10], [10, 16, 18]), ([10, 19, 7], [7, 10, 19]), ([7, 20], [7, 20])])
def impl_SetOk.B4 : List Nat := [0, 1, 3, 7, 15, 31, 63, 127, 255, 511, 1023, 2047, 2047, 6143, 16383, 32767, 65535, 2047, 133119, 524287, 1048575, 2097151]
theorem impl_SetOk.tab4 : rtab .any (opsOf Try.f119 4) = impl_SetOk.T4 := by kernel_rfl
theorem impl_SetOk.bits4 : waitsOk impl_SetOk.T4.2 impl_SetOk.B4 = true := by kernel_rfl
theorem impl_SetOk.calls (k : Nat) (A0 : Option Addr) (c0 : Nat) (l0 : List (S88)) (r : Bool) (w : World) (hr0 : Kd.C k88 w A0 l0.length l0) (hc0 : l0.length ≤ c0) (h : impl_SetOk.f k l0 = some r) :
  Calls Try.prog 119 #[.slice A0 l0.length c0] w fun e w' => e = .returned (.bool r) ∧ Below w.heap.size w w' := by
 have hu88 := Try.underlying88
 have HR0 := Aside0.mk hr0
 have HC0 := Aside0.mk hc0
 clear hr0 hc0
 have HB := Aside0.mk (Below.refl w.heap.size w)
 have H : (impl_SetOk.l0 k l0 l0 (l0.length : Int) 0) = some r := h
 clear h
 have H' := Aside0.mk H
 clear H
 go_enter Try.func119, Try.ntmps119
 go_wp2
 go_loopg [7] k (fun kq v7 w' => ∃ (x7_1 : Int), v7 = .int .i64 x7_1 ∧ Aside0 (impl_SetOk.l0 kq l0 l0 (l0.length : Int) x7_1 = some r) ∧ Aside0 (kq ≤ k) ∧ Aside0 (Below w.heap.size w w'))
 case atStart => exact ⟨(0), (by first | rfl | (simp; done) | (simp [*]; done)), H', ⟨Nat.le_refl _⟩, ⟨by exact hs_ HB.out⟩⟩
 case round =>
  clear H'
  try clear c1
  obtain ⟨x7_1, rfl, HA, HK1, HB⟩ := hrel
  cases gk with
  | zero => exact absurd HA.out (by simp [impl_SetOk.l0])
  | succ k1 =>
   have H := HA.out
   clear HA
   simp only [impl_SetOk.l0] at H
   by_cases c2 : x7_1 < (l0.length : Int)
   ·
    rw [if_pos c2] at H
    have c2b0 := decide_eq_true c2
    clear c2
    by_cases c3 : 0 ≤ x7_1
    ·
     rw [if_pos c3] at H
     have c3b0 := decide_eq_true c3
     clear c3
     by_cases c4 : x7_1 < (l0.length : Int)
     ·
      rw [if_pos c4] at H
      have c4b0 := decide_eq_true c4
      clear c4
      by_cases c5 : x7_1 ≥ 4
      ·
       rw [if_pos c5] at H
       have c5b0 : decide (4 ≤ x7_1) = true := decide_eq_true c5
       clear c5
       obtain rfl := Option.some.inj H
       have p196 : 0 ≤ (x7_1 : Int) := of_decide_eq_true (by with_reducible assumption)
       have q196 : x7_1 < (l0.length : Int) := of_decide_eq_true (by with_reducible assumption)
       obtain ⟨ad196, e196, hx196_0, hx196_1⟩ := at_T88 HR0.out x7_1 p196 q196
       cases e196
       replace hx196_0 := cl_ HB.out hx196_0
       replace hx196_1 := cl_ HB.out hx196_1
       replace p196 := eq_true p196
       replace q196 := eq_true q196
       try go_wp2_with (first | ((with_reducible refine gd_ 4 rfl ?_); refine bv_ 4 #[.string (⟨#[]⟩ : ByteArray), .string (⟨#[]⟩ : ByteArray)] 88 ?_; intro gb197 hg w6 hbox hb; have BK197 := Aside0.mk (hbox); have GW197 := Aside0.mk ((gw_ hg (hs_ HB.out))); replace HB := st_ HB hb; have GE197 := Ge_.mk GW197.out; clear hb hbox hg; obtain ⟨z7_0, z7_1, y7_0, y7_1⟩ := bc2_ BK197.out))
       generalize hw_ : ((w6.setCell ⟨gb197, 0, none⟩ (.string ((rd_T88 l0 x7_1).f0))).setCell ⟨gb197, 1, none⟩ (.string ((rd_T88 l0 x7_1).f1))) = w8
       have n0_ : Aside0 (w8.heap[gb197]? = some (.cells #[.string ((rd_T88 l0 x7_1).f0), .string ((rd_T88 l0 x7_1).f1)] 88 (0, 0))) := ⟨by rw [← hw_]; exact (bp_ BK197.out)⟩
       have n1_ : Aside0 (Below w.heap.size w w8) := ⟨by rw [← hw_]; exact (hs_ HB.out)⟩
       clear hw_
       (try clear BK197)
       (try clear HB)
       have BK197 := n0_
       have HB := n1_
       clear n0_ n1_
       replace BK197 := Aside0.mk (blk_drew BK197.out)
       replace HB := Aside0.mk (bd_ HB.out)
       refine start_ (n := 22) (S := fun w' => True) (ds := []) #[f_,f_,f_,f_,f_,f_,f_,f_,f_,f_,f_,f_,f_,f_,f_,f_,f_,f_,f_,f_,f_,f_] (by kernel_rfl) rfl rfl trivial (fun hHeld => ?_); refine with_tabW impl_SetOk.tab4 impl_SetOk.bits4 (fun HT_ HW_ => ?_)
       generalize w8.drew = w9 at BK197 HB hHeld ⊢
       refine pw_ 0 12 (b_ 1 21) rfl rfl HT_.out ?_
       refine pw_ 1 13 (b_ 2 20) rfl rfl HT_.out ?_
       refine pw_ 2 14 (b_ 3 19) rfl rfl HT_.out ?_
       refine pv_ 3 15 ?_ (b_ 4 18) rfl rfl HT_.out ?_ ?_; rotate_left; simp only [fr_]; rfl
       refine pv_ 4 16 ?_ (b_ 5 17) rfl rfl HT_.out ?_ ?_; rotate_left; simp only [fr_]; rfl
       refine pv_ 5 17 ?_ (b_ 6 16) rfl rfl HT_.out ?_ ?_; rotate_left; simp only [fr_]; rfl
       refine pw_ 6 18 (b_ 7 15) rfl rfl HT_.out ?_
       refine pw_ 7 19 (b_ 8 14) rfl rfl HT_.out ?_
       refine pv_ 8 20 ?_ (b_ 9 13) rfl rfl HT_.out ?_ ?_; rotate_left; simp only [fr_]; rfl
       refine pv_ 9 21 ?_ (b_ 10 12) rfl rfl HT_.out ?_ ?_; rotate_left; simp only [fr_]; rfl
       refine pv_ 10 22 ?_ (b_ 11 11) rfl rfl HT_.out ?_ ?_; rotate_left; simp only [fr_]; rfl
       refine pv_ 11 23 ?_ (b_ 12 10) rfl rfl HT_.out ?_ ?_; rotate_left; simp only [fr_]; rfl
       refine pv_ 12 24 ?_ (b_ 13 9) rfl rfl HT_.out ?_ ?_; rotate_left; simp only [fr_]; rfl
       refine pv_ 13 25 ?_ (b_ 14 8) rfl rfl HT_.out ?_ ?_; rotate_left; simp only [fr_]; rfl
       refine pv_ 14 26 ?_ (b_ 15 7) rfl rfl HT_.out ?_ ?_; rotate_left; simp only [fr_]; rfl
       refine pv_ 15 27 ?_ (b_ 16 6) rfl rfl HT_.out ?_ ?_; rotate_left; simp only [fr_]; rfl
       refine pv_ 16 28 ?_ (b_ 17 5) rfl rfl HT_.out ?_ ?_; rotate_left; simp only [fr_]; rfl
       refine pv_ 17 29 ?_ (b_ 18 4) rfl rfl HT_.out ?_ ?_; rotate_left; simp only [fr_]; rfl
       refine pv_ 18 30 ?_ (b_ 19 3) rfl rfl HT_.out ?_ ?_; rotate_left; simp only [fr_]; rfl
       refine pv_ 19 31 ?_ (b_ 20 2) rfl rfl HT_.out ?_ ?_; rotate_left; simp only [fr_]; rfl
       refine pv_ 20 32 ?_ (b_ 21 1) rfl rfl HT_.out ?_ ?_; rotate_left; simp only [fr_]; rfl
       refine pw_ 21 33 (b_ 22 0) rfl rfl HT_.out ?_
       refine done_ (done_of HT_.out (by kernel_rfl)) ?_
       try go_wp2
       go_ret
       exact an_ (by exact hs_ HB.out)
      rw [if_neg c5] at H
      have c5b0 : decide (4 ≤ x7_1) = false := decide_eq_false c5
      clear c5
      replace H := Option.bind_eq_some_iff.mp H
      obtain ⟨t198, A100, H⟩ := H
      have A10 := Aside0.mk A100
      clear A100
      by_cases c11 : t198 = true
      ·
       subst c11
       rw [if_pos rfl] at H
       by_cases c12 : x7_1 > 0
       ·
        rw [if_pos c12] at H
        have c12b0 : decide (0 < x7_1) = true := decide_eq_true c12
        clear c12
        obtain ⟨ji13, hji13⟩ : ∃ j_ : Int, (wrap64 (x7_1 - 1)) = j_ := ⟨_, rfl⟩
        replace H : (if 0 ≤ (ji13) then (if (ji13) < (l0.length : Int) then (if ((Op.bytesLess (((rd_T88 l0 (ji13)).f0).toList) (((rd_T88 l0 x7_1).f0).toList)) = true) then (impl_SetOk.l0 k1 l0 l0 (l0.length : Int) (wrap64 (x7_1 + 1))) else (some false)) else (none)) else (none)) = some r := by first | (rw [hji13] at H; exact H) | (simp only [hji13] at H ⊢; exact H)
        (try rw [hji13] at A10)
        have hji13w : (IntKind.i64.wrap (x7_1 - 1)) = ji13 := (i64_w _).trans hji13
        by_cases c14 : 0 ≤ (ji13)
        ·
         rw [if_pos c14] at H
         have c14b0 := decide_eq_true c14
         clear c14
         by_cases c15 : (ji13) < (l0.length : Int)
         ·
          rw [if_pos c15] at H
          have c15b0 := decide_eq_true c15
          clear c15
          by_cases c16 : ((Op.bytesLess (((rd_T88 l0 (ji13)).f0).toList) (((rd_T88 l0 x7_1).f0).toList)) = true)
          ·
           rw [if_pos c16] at H
           have c16b0 : (Op.bytesLess (((rd_T88 l0 (ji13)).f0).toList) (((rd_T88 l0 x7_1).f0).toList)) = true := c16
           clear c16
           have H' := Aside0.mk H
           clear H
           have p196 : 0 ≤ (x7_1 : Int) := of_decide_eq_true (by with_reducible assumption)
           have q196 : x7_1 < (l0.length : Int) := of_decide_eq_true (by with_reducible assumption)
           obtain ⟨ad196, e196, hx196_0, hx196_1⟩ := at_T88 HR0.out x7_1 p196 q196
           cases e196
           replace hx196_0 := cl_ HB.out hx196_0
           replace hx196_1 := cl_ HB.out hx196_1
           replace p196 := eq_true p196
           replace q196 := eq_true q196
           try go_wp2_with (first | ((with_reducible refine gd_ 4 rfl ?_); refine bv_ 4 #[.string (⟨#[]⟩ : ByteArray), .string (⟨#[]⟩ : ByteArray)] 88 ?_; intro gb197 hg w17 hbox hb; have BK197 := Aside0.mk (hbox); have GW197 := Aside0.mk ((gw_ hg (hs_ HB.out))); replace HB := st_ HB hb; have GE197 := Ge_.mk GW197.out; clear hb hbox hg; obtain ⟨z18_0, z18_1, y18_0, y18_1⟩ := bc2_ BK197.out))
           generalize hw_ : ((w17.setCell ⟨gb197, 0, none⟩ (.string ((rd_T88 l0 x7_1).f0))).setCell ⟨gb197, 1, none⟩ (.string ((rd_T88 l0 x7_1).f1))) = w19
           have n0_ : Aside0 (w19.heap[gb197]? = some (.cells #[.string ((rd_T88 l0 x7_1).f0), .string ((rd_T88 l0 x7_1).f1)] 88 (0, 0))) := ⟨by rw [← hw_]; exact (bp_ BK197.out)⟩
           have n1_ : Aside0 (Below w.heap.size w w19) := ⟨by rw [← hw_]; exact (hs_ HB.out)⟩
           clear hw_
           (try clear BK197)
           (try clear HB)
           have BK197 := n0_
           have HB := n1_
           clear n0_ n1_
           replace BK197 := Aside0.mk (blk_drew BK197.out)
           replace HB := Aside0.mk (bd_ HB.out)
           have p199 : 0 ≤ ((ji13) : Int) := of_decide_eq_true (by with_reducible assumption)
           have q199 : (ji13) < (l0.length : Int) := of_decide_eq_true (by with_reducible assumption)
           obtain ⟨ad199, e199, hx199_0, hx199_1⟩ := at_T88 HR0.out (ji13) p199 q199
           have hw199_1 := hx199_1
           have hw199_0 := hx199_0
           obtain rfl : ad196 = ad199 := (by injection e199)
           replace hx199_0 := cl_ HB.out hx199_0
           replace hx199_1 := cl_ HB.out hx199_1
           replace p199 := eq_true p199
           replace q199 := eq_true q199
           refine start_ (n := 22) (S := fun w' => w'.cell? ⟨gb197, 0, none⟩ = some (.string ((rd_T88 l0 x7_1).f0)) ∧ w'.cell? ⟨gb197, 1, none⟩ = some (.string ((rd_T88 l0 x7_1).f1)) ∧ w'.cell? (ad196.add (((ji13)).toNat * 2)) = some (.string ((rd_T88 l0 (ji13)).f0)) ∧ w'.cell? ⟨(ad196.add (((ji13)).toNat * 2)).block, (ad196.add (((ji13)).toNat * 2)).off + 1, none⟩ = some (.string ((rd_T88 l0 (ji13)).f1))) (ds := []) #[f_,f_,f_,f_,f_,f_,f_,f_,f_,f_,f_,f_,f_,f_,f_,f_,f_,f_,f_,f_,f_,f_] (by kernel_rfl) rfl rfl ⟨bx_ BK197.out 0, bx_ BK197.out 1, ((HB.out.cell (World.block_lt_of_cell? w _ hw199_0)).trans hw199_0), ((HB.out.cell (World.block_lt_of_cell? w _ hw199_1)).trans hw199_1)⟩ (fun hHeld => ?_); refine with_tabW impl_SetOk.tab4 impl_SetOk.bits4 (fun HT_ HW_ => ?_)
           generalize w19.drew = w20 at BK197 HB hx199_0 hx199_1 hHeld ⊢
           refine pw_ 0 12 (b_ 1 21) rfl rfl HT_.out ?_
           refine pw_ 1 13 (b_ 2 20) rfl rfl HT_.out ?_
           refine pw_ 2 14 (b_ 3 19) rfl rfl HT_.out ?_
           refine take_ (i := 3) (N := some 15) (v := ?_) (a' := ?_) #[t_,t_,t_,t_,f_,f_,f_,f_,f_,f_,f_,f_,f_,f_,f_,f_,f_,f_,f_,f_,f_,f_] rfl rfl (take_ofW HT_.out HW_.out (by kernel_rfl)) (fun _ _ _ h => h) (Or.inl ⟨by rfl, ?_⟩) hHeld ?_ ?_
           rotate_left
           ·
            rintro w' ⟨s0, s1, s2, s3⟩
            go_simp
            with_reducible rfl
           rotate_left
           ·
            simp only [fr_]
            rfl
           refine one_ (i := 4) (N := some 16) #[t_,t_,t_,t_,t_,f_,f_,f_,f_,f_,f_,f_,f_,f_,f_,f_,f_,f_,f_,f_,f_,f_] rfl rfl (one_of HT_.out (by kernel_rfl)) (by decide) (fun K hK => ?_)
           refine gs_ Try.func133 #[.agg #[.string ((rd_T88 l0 x7_1).f0), .string ((rd_T88 l0 x7_1).f1)]] ?_
           with_reducible refine (impl_LabelOk.calls k1 ((rd_T88 l0 x7_1).f0) ((rd_T88 l0 x7_1).f1) true _ A10.out).mono ?_
           rintro e w21 ⟨rfl, hb⟩
           refine ⟨_, rfl, ?_⟩
           replace BK197 := bk2_ BK197 hb
           replace HB := st_ HB hb
           (try clear hb)
           (try clear hk)
           refine hK.out _ _ ⟨bx_ BK197.out 0, bx_ BK197.out 1, ((HB.out.cell (World.block_lt_of_cell? w _ hw199_0)).trans hw199_0), ((HB.out.cell (World.block_lt_of_cell? w _ hw199_1)).trans hw199_1)⟩ (fun hHeld => ?_)
           clear hK K
           refine norm_ (a' := ?_) ?_ ?_
           rotate_left
           ·
            show Act.put _ (some 16) _ = _
            simp only [fr_]
            rfl
           refine pw_ 5 17 (b_ 6 16) rfl rfl HT_.out ?_
           refine pw_ 6 18 (b_ 7 15) rfl rfl HT_.out ?_
           refine pw_ 7 19 (b_ 8 14) rfl rfl HT_.out ?_
           refine pw_ 8 20 (b_ 9 13) rfl rfl HT_.out ?_
           refine pw_ 9 21 (b_ 10 12) rfl rfl HT_.out ?_
           refine pw_ 10 22 (b_ 11 11) rfl rfl HT_.out ?_
           refine pw_ 11 23 (b_ 12 10) rfl rfl HT_.out ?_
           refine pw_ 12 24 (b_ 13 9) rfl rfl HT_.out ?_
           refine pw_ 13 25 (b_ 14 8) rfl rfl HT_.out ?_
           refine pw_ 14 26 (b_ 15 7) rfl rfl HT_.out ?_
           refine pw_ 15 27 (b_ 16 6) rfl rfl HT_.out ?_
           refine pw_ 17 29 #[t_,t_,t_,t_,t_,t_,t_,t_,t_,t_,t_,t_,t_,t_,t_,t_,f_,t_,f_,f_,f_,f_] rfl rfl HT_.out ?_
           refine take_ (i := 16) (N := some 28) (v := ?_) (a' := ?_) #[t_,t_,t_,t_,t_,t_,t_,t_,t_,t_,t_,t_,t_,t_,t_,t_,t_,t_,f_,f_,f_,f_] rfl rfl (take_ofW HT_.out HW_.out (by kernel_rfl)) (fun _ _ _ h => h) (Or.inl ⟨by rfl, ?_⟩) hHeld ?_ ?_
           rotate_left
           ·
            rintro w' ⟨s0, s1, s2, s3⟩
            go_simp
            with_reducible rfl
           rotate_left
           ·
            simp only [fr_]
            rfl
           refine take_ (i := 18) (N := some 30) (v := ?_) (a' := ?_) #[t_,t_,t_,t_,t_,t_,t_,t_,t_,t_,t_,t_,t_,t_,t_,t_,t_,t_,t_,f_,f_,f_] rfl rfl (take_ofW HT_.out HW_.out (by kernel_rfl)) (fun _ _ _ h => h) (Or.inl ⟨by rfl, ?_⟩) hHeld ?_ ?_
           rotate_left
           ·
            rintro w' ⟨s0, s1, s2, s3⟩
            go_simp
            with_reducible rfl
           rotate_left
           ·
            simp only [fr_]
            rfl
           refine pw_ 19 31 (b_ 20 2) rfl rfl HT_.out ?_
           refine pw_ 20 32 (b_ 21 1) rfl rfl HT_.out ?_
           refine pw_ 21 33 (b_ 22 0) rfl rfl HT_.out ?_
           refine done_ (done_of HT_.out (by kernel_rfl)) ?_
           try go_wp2
           go_roundg k1
           case measure => have := HK1.out; omega
           case rel => exact ⟨(wrap64 (x7_1 + 1)), (by first | rfl | (simp; done) | (simp [*]; done)), H', ⟨by have := HK1.out; omega⟩, ⟨by exact hs_ HB.out⟩⟩
          rw [if_neg c16] at H
          have c16b0 : (Op.bytesLess (((rd_T88 l0 (ji13)).f0).toList) (((rd_T88 l0 x7_1).f0).toList)) = false := by simpa using c16
          clear c16
          obtain rfl := Option.some.inj H
          have p196 : 0 ≤ (x7_1 : Int) := of_decide_eq_true (by with_reducible assumption)
          have q196 : x7_1 < (l0.length : Int) := of_decide_eq_true (by with_reducible assumption)
          obtain ⟨ad196, e196, hx196_0, hx196_1⟩ := at_T88 HR0.out x7_1 p196 q196
          cases e196
          replace hx196_0 := cl_ HB.out hx196_0
          replace hx196_1 := cl_ HB.out hx196_1
          replace p196 := eq_true p196
          replace q196 := eq_true q196
          try go_wp2_with (first | ((with_reducible refine gd_ 4 rfl ?_); refine bv_ 4 #[.string (⟨#[]⟩ : ByteArray), .string (⟨#[]⟩ : ByteArray)] 88 ?_; intro gb197 hg w22 hbox hb; have BK197 := Aside0.mk (hbox); have GW197 := Aside0.mk ((gw_ hg (hs_ HB.out))); replace HB := st_ HB hb; have GE197 := Ge_.mk GW197.out; clear hb hbox hg; obtain ⟨z23_0, z23_1, y23_0, y23_1⟩ := bc2_ BK197.out))
          generalize hw_ : ((w22.setCell ⟨gb197, 0, none⟩ (.string ((rd_T88 l0 x7_1).f0))).setCell ⟨gb197, 1, none⟩ (.string ((rd_T88 l0 x7_1).f1))) = w24
          have n0_ : Aside0 (w24.heap[gb197]? = some (.cells #[.string ((rd_T88 l0 x7_1).f0), .string ((rd_T88 l0 x7_1).f1)] 88 (0, 0))) := ⟨by rw [← hw_]; exact (bp_ BK197.out)⟩
          have n1_ : Aside0 (Below w.heap.size w w24) := ⟨by rw [← hw_]; exact (hs_ HB.out)⟩
          clear hw_
          (try clear BK197)
          (try clear HB)
          have BK197 := n0_
          have HB := n1_
          clear n0_ n1_
          replace BK197 := Aside0.mk (blk_drew BK197.out)
          replace HB := Aside0.mk (bd_ HB.out)
          have p199 : 0 ≤ ((ji13) : Int) := of_decide_eq_true (by with_reducible assumption)
          have q199 : (ji13) < (l0.length : Int) := of_decide_eq_true (by with_reducible assumption)
          obtain ⟨ad199, e199, hx199_0, hx199_1⟩ := at_T88 HR0.out (ji13) p199 q199
          have hw199_1 := hx199_1
          have hw199_0 := hx199_0
          obtain rfl : ad196 = ad199 := (by injection e199)
          replace hx199_0 := cl_ HB.out hx199_0
          replace hx199_1 := cl_ HB.out hx199_1
          replace p199 := eq_true p199
          replace q199 := eq_true q199
          refine start_ (n := 22) (S := fun w' => w'.cell? ⟨gb197, 0, none⟩ = some (.string ((rd_T88 l0 x7_1).f0)) ∧ w'.cell? ⟨gb197, 1, none⟩ = some (.string ((rd_T88 l0 x7_1).f1)) ∧ w'.cell? (ad196.add (((ji13)).toNat * 2)) = some (.string ((rd_T88 l0 (ji13)).f0)) ∧ w'.cell? ⟨(ad196.add (((ji13)).toNat * 2)).block, (ad196.add (((ji13)).toNat * 2)).off + 1, none⟩ = some (.string ((rd_T88 l0 (ji13)).f1))) (ds := []) #[f_,f_,f_,f_,f_,f_,f_,f_,f_,f_,f_,f_,f_,f_,f_,f_,f_,f_,f_,f_,f_,f_] (by kernel_rfl) rfl rfl ⟨bx_ BK197.out 0, bx_ BK197.out 1, ((HB.out.cell (World.block_lt_of_cell? w _ hw199_0)).trans hw199_0), ((HB.out.cell (World.block_lt_of_cell? w _ hw199_1)).trans hw199_1)⟩ (fun hHeld => ?_); refine with_tabW impl_SetOk.tab4 impl_SetOk.bits4 (fun HT_ HW_ => ?_)
          generalize w24.drew = w25 at BK197 HB hx199_0 hx199_1 hHeld ⊢
          refine pw_ 0 12 (b_ 1 21) rfl rfl HT_.out ?_
          refine pw_ 1 13 (b_ 2 20) rfl rfl HT_.out ?_
          refine pw_ 2 14 (b_ 3 19) rfl rfl HT_.out ?_
          refine take_ (i := 3) (N := some 15) (v := ?_) (a' := ?_) #[t_,t_,t_,t_,f_,f_,f_,f_,f_,f_,f_,f_,f_,f_,f_,f_,f_,f_,f_,f_,f_,f_] rfl rfl (take_ofW HT_.out HW_.out (by kernel_rfl)) (fun _ _ _ h => h) (Or.inl ⟨by rfl, ?_⟩) hHeld ?_ ?_
          rotate_left
          ·
           rintro w' ⟨s0, s1, s2, s3⟩
           go_simp
           with_reducible rfl
          rotate_left
          ·
           simp only [fr_]
           rfl
          refine one_ (i := 4) (N := some 16) #[t_,t_,t_,t_,t_,f_,f_,f_,f_,f_,f_,f_,f_,f_,f_,f_,f_,f_,f_,f_,f_,f_] rfl rfl (one_of HT_.out (by kernel_rfl)) (by decide) (fun K hK => ?_)
          refine gs_ Try.func133 #[.agg #[.string ((rd_T88 l0 x7_1).f0), .string ((rd_T88 l0 x7_1).f1)]] ?_
          with_reducible refine (impl_LabelOk.calls k1 ((rd_T88 l0 x7_1).f0) ((rd_T88 l0 x7_1).f1) true _ A10.out).mono ?_
          rintro e w26 ⟨rfl, hb⟩
          refine ⟨_, rfl, ?_⟩
          replace BK197 := bk2_ BK197 hb
          replace HB := st_ HB hb
          (try clear hb)
          (try clear hk)
          refine hK.out _ _ ⟨bx_ BK197.out 0, bx_ BK197.out 1, ((HB.out.cell (World.block_lt_of_cell? w _ hw199_0)).trans hw199_0), ((HB.out.cell (World.block_lt_of_cell? w _ hw199_1)).trans hw199_1)⟩ (fun hHeld => ?_)
          clear hK K
          refine norm_ (a' := ?_) ?_ ?_
          rotate_left
          ·
           show Act.put _ (some 16) _ = _
           simp only [fr_]
           rfl
          refine pw_ 5 17 (b_ 6 16) rfl rfl HT_.out ?_
          refine pw_ 6 18 (b_ 7 15) rfl rfl HT_.out ?_
          refine pw_ 7 19 (b_ 8 14) rfl rfl HT_.out ?_
          refine pw_ 8 20 (b_ 9 13) rfl rfl HT_.out ?_
          refine pw_ 9 21 (b_ 10 12) rfl rfl HT_.out ?_
          refine pw_ 10 22 (b_ 11 11) rfl rfl HT_.out ?_
          refine pw_ 11 23 (b_ 12 10) rfl rfl HT_.out ?_
          refine pw_ 12 24 (b_ 13 9) rfl rfl HT_.out ?_
          refine pw_ 13 25 (b_ 14 8) rfl rfl HT_.out ?_
          refine pw_ 14 26 (b_ 15 7) rfl rfl HT_.out ?_
          refine pw_ 15 27 (b_ 16 6) rfl rfl HT_.out ?_
          refine pw_ 17 29 #[t_,t_,t_,t_,t_,t_,t_,t_,t_,t_,t_,t_,t_,t_,t_,t_,f_,t_,f_,f_,f_,f_] rfl rfl HT_.out ?_
          refine take_ (i := 16) (N := some 28) (v := ?_) (a' := ?_) #[t_,t_,t_,t_,t_,t_,t_,t_,t_,t_,t_,t_,t_,t_,t_,t_,t_,t_,f_,f_,f_,f_] rfl rfl (take_ofW HT_.out HW_.out (by kernel_rfl)) (fun _ _ _ h => h) (Or.inl ⟨by rfl, ?_⟩) hHeld ?_ ?_
          rotate_left
          ·
           rintro w' ⟨s0, s1, s2, s3⟩
           go_simp
           with_reducible rfl
          rotate_left
          ·
           simp only [fr_]
           rfl
          refine take_ (i := 18) (N := some 30) (v := ?_) (a' := ?_) #[t_,t_,t_,t_,t_,t_,t_,t_,t_,t_,t_,t_,t_,t_,t_,t_,t_,t_,t_,f_,f_,f_] rfl rfl (take_ofW HT_.out HW_.out (by kernel_rfl)) (fun _ _ _ h => h) (Or.inl ⟨by rfl, ?_⟩) hHeld ?_ ?_
          rotate_left
          ·
           rintro w' ⟨s0, s1, s2, s3⟩
           go_simp
           with_reducible rfl
          rotate_left
          ·
           simp only [fr_]
           rfl
          refine pw_ 19 31 (b_ 20 2) rfl rfl HT_.out ?_
          refine pw_ 20 32 (b_ 21 1) rfl rfl HT_.out ?_
          refine pw_ 21 33 (b_ 22 0) rfl rfl HT_.out ?_
          refine done_ (done_of HT_.out (by kernel_rfl)) ?_
          try go_wp2
          go_ret
          exact ⟨by first | rfl | (simp [errW_none, errW_some] <;> rfl) | (simp only [← hji13]; first | rfl | (simp [errW_none, errW_some] <;> rfl)) | (simp [*, errW_none, errW_some] <;> rfl), by exact hs_ HB.out⟩
         rw [if_neg c15] at H
         exact absurd H (by simp)
        rw [if_neg c14] at H
        exact absurd H (by simp)
       rw [if_neg c12] at H
       have c12b0 : decide (0 < x7_1) = false := decide_eq_false c12
       clear c12
       have H' := Aside0.mk H
       clear H
       have p196 : 0 ≤ (x7_1 : Int) := of_decide_eq_true (by with_reducible assumption)
       have q196 : x7_1 < (l0.length : Int) := of_decide_eq_true (by with_reducible assumption)
       obtain ⟨ad196, e196, hx196_0, hx196_1⟩ := at_T88 HR0.out x7_1 p196 q196
       cases e196
       replace hx196_0 := cl_ HB.out hx196_0
       replace hx196_1 := cl_ HB.out hx196_1
       replace p196 := eq_true p196
       replace q196 := eq_true q196
       try go_wp2_with (first | ((with_reducible refine gd_ 4 rfl ?_); refine bv_ 4 #[.string (⟨#[]⟩ : ByteArray), .string (⟨#[]⟩ : ByteArray)] 88 ?_; intro gb197 hg w27 hbox hb; have BK197 := Aside0.mk (hbox); have GW197 := Aside0.mk ((gw_ hg (hs_ HB.out))); replace HB := st_ HB hb; have GE197 := Ge_.mk GW197.out; clear hb hbox hg; obtain ⟨z28_0, z28_1, y28_0, y28_1⟩ := bc2_ BK197.out))
       generalize hw_ : ((w27.setCell ⟨gb197, 0, none⟩ (.string ((rd_T88 l0 x7_1).f0))).setCell ⟨gb197, 1, none⟩ (.string ((rd_T88 l0 x7_1).f1))) = w29
       have n0_ : Aside0 (w29.heap[gb197]? = some (.cells #[.string ((rd_T88 l0 x7_1).f0), .string ((rd_T88 l0 x7_1).f1)] 88 (0, 0))) := ⟨by rw [← hw_]; exact (bp_ BK197.out)⟩
       have n1_ : Aside0 (Below w.heap.size w w29) := ⟨by rw [← hw_]; exact (hs_ HB.out)⟩
       clear hw_
       (try clear BK197)
       (try clear HB)
       have BK197 := n0_
       have HB := n1_
       clear n0_ n1_
       replace BK197 := Aside0.mk (blk_drew BK197.out)
       replace HB := Aside0.mk (bd_ HB.out)
       refine start_ (n := 22) (S := fun w' => w'.cell? ⟨gb197, 0, none⟩ = some (.string ((rd_T88 l0 x7_1).f0)) ∧ w'.cell? ⟨gb197, 1, none⟩ = some (.string ((rd_T88 l0 x7_1).f1))) (ds := []) #[f_,f_,f_,f_,f_,f_,f_,f_,f_,f_,f_,f_,f_,f_,f_,f_,f_,f_,f_,f_,f_,f_] (by kernel_rfl) rfl rfl ⟨bx_ BK197.out 0, bx_ BK197.out 1⟩ (fun hHeld => ?_); refine with_tabW impl_SetOk.tab4 impl_SetOk.bits4 (fun HT_ HW_ => ?_)
       generalize w29.drew = w30 at BK197 HB hHeld ⊢
       refine pw_ 0 12 (b_ 1 21) rfl rfl HT_.out ?_
       refine pw_ 1 13 (b_ 2 20) rfl rfl HT_.out ?_
       refine pw_ 2 14 (b_ 3 19) rfl rfl HT_.out ?_
       refine take_ (i := 3) (N := some 15) (v := ?_) (a' := ?_) #[t_,t_,t_,t_,f_,f_,f_,f_,f_,f_,f_,f_,f_,f_,f_,f_,f_,f_,f_,f_,f_,f_] rfl rfl (take_ofW HT_.out HW_.out (by kernel_rfl)) (fun _ _ _ h => h) (Or.inl ⟨by rfl, ?_⟩) hHeld ?_ ?_
       rotate_left
       ·
        rintro w' ⟨s0, s1⟩
        go_simp
        with_reducible rfl
       rotate_left
       ·
        simp only [fr_]
        rfl
       refine one_ (i := 4) (N := some 16) #[t_,t_,t_,t_,t_,f_,f_,f_,f_,f_,f_,f_,f_,f_,f_,f_,f_,f_,f_,f_,f_,f_] rfl rfl (one_of HT_.out (by kernel_rfl)) (by decide) (fun K hK => ?_)
       refine gs_ Try.func133 #[.agg #[.string ((rd_T88 l0 x7_1).f0), .string ((rd_T88 l0 x7_1).f1)]] ?_
       with_reducible refine (impl_LabelOk.calls k1 ((rd_T88 l0 x7_1).f0) ((rd_T88 l0 x7_1).f1) true _ A10.out).mono ?_
       rintro e w31 ⟨rfl, hb⟩
       refine ⟨_, rfl, ?_⟩
       replace BK197 := bk2_ BK197 hb
       replace HB := st_ HB hb
       (try clear hb)
       (try clear hk)
       refine hK.out _ _ ⟨bx_ BK197.out 0, bx_ BK197.out 1⟩ (fun hHeld => ?_)
       clear hK K
       refine norm_ (a' := ?_) ?_ ?_
       rotate_left
       ·
        show Act.put _ (some 16) _ = _
        simp only [fr_]
        rfl
       refine pw_ 5 17 (b_ 6 16) rfl rfl HT_.out ?_
       refine pw_ 6 18 (b_ 7 15) rfl rfl HT_.out ?_
       refine pw_ 7 19 (b_ 8 14) rfl rfl HT_.out ?_
       refine pw_ 8 20 (b_ 9 13) rfl rfl HT_.out ?_
       refine pw_ 9 21 (b_ 10 12) rfl rfl HT_.out ?_
       refine pw_ 10 22 (b_ 11 11) rfl rfl HT_.out ?_
       refine pv_ 11 23 ?_ (b_ 12 10) rfl rfl HT_.out ?_ ?_; rotate_left; simp only [fr_]; rfl
       refine pv_ 12 24 ?_ (b_ 13 9) rfl rfl HT_.out ?_ ?_; rotate_left; simp only [fr_]; rfl
       refine pv_ 13 25 ?_ (b_ 14 8) rfl rfl HT_.out ?_ ?_; rotate_left; simp only [fr_]; rfl
       refine pv_ 14 26 ?_ (b_ 15 7) rfl rfl HT_.out ?_ ?_; rotate_left; simp only [fr_]; rfl
       refine pv_ 15 27 ?_ (b_ 16 6) rfl rfl HT_.out ?_ ?_; rotate_left; simp only [fr_]; rfl
       refine pv_ 16 28 ?_ (b_ 17 5) rfl rfl HT_.out ?_ ?_; rotate_left; simp only [fr_]; rfl
       refine pv_ 17 29 ?_ (b_ 18 4) rfl rfl HT_.out ?_ ?_; rotate_left; simp only [fr_]; rfl
       refine pv_ 18 30 ?_ (b_ 19 3) rfl rfl HT_.out ?_ ?_; rotate_left; simp only [fr_]; rfl
       refine pv_ 19 31 ?_ (b_ 20 2) rfl rfl HT_.out ?_ ?_; rotate_left; simp only [fr_]; rfl
       refine pw_ 20 32 (b_ 21 1) rfl rfl HT_.out ?_
       refine pw_ 21 33 (b_ 22 0) rfl rfl HT_.out ?_
       refine done_ (done_of HT_.out (by kernel_rfl)) ?_
       try go_wp2
       go_roundg k1
       case measure => have := HK1.out; omega
       case rel => exact ⟨(wrap64 (x7_1 + 1)), (by first | rfl | (simp; done) | (simp [*]; done)), H', ⟨by have := HK1.out; omega⟩, ⟨by exact hs_ HB.out⟩⟩
      replace c11 := Bool.eq_false_iff.mpr c11
      subst c11
      rw [if_neg (show ¬ (false = true) by decide)] at H
      obtain rfl := Option.some.inj H
      have p196 : 0 ≤ (x7_1 : Int) := of_decide_eq_true (by with_reducible assumption)
      have q196 : x7_1 < (l0.length : Int) := of_decide_eq_true (by with_reducible assumption)
      obtain ⟨ad196, e196, hx196_0, hx196_1⟩ := at_T88 HR0.out x7_1 p196 q196
      cases e196
      replace hx196_0 := cl_ HB.out hx196_0
      replace hx196_1 := cl_ HB.out hx196_1
      replace p196 := eq_true p196
      replace q196 := eq_true q196
      try go_wp2_with (first | ((with_reducible refine gd_ 4 rfl ?_); refine bv_ 4 #[.string (⟨#[]⟩ : ByteArray), .string (⟨#[]⟩ : ByteArray)] 88 ?_; intro gb197 hg w32 hbox hb; have BK197 := Aside0.mk (hbox); have GW197 := Aside0.mk ((gw_ hg (hs_ HB.out))); replace HB := st_ HB hb; have GE197 := Ge_.mk GW197.out; clear hb hbox hg; obtain ⟨z33_0, z33_1, y33_0, y33_1⟩ := bc2_ BK197.out))
      generalize hw_ : ((w32.setCell ⟨gb197, 0, none⟩ (.string ((rd_T88 l0 x7_1).f0))).setCell ⟨gb197, 1, none⟩ (.string ((rd_T88 l0 x7_1).f1))) = w34
      have n0_ : Aside0 (w34.heap[gb197]? = some (.cells #[.string ((rd_T88 l0 x7_1).f0), .string ((rd_T88 l0 x7_1).f1)] 88 (0, 0))) := ⟨by rw [← hw_]; exact (bp_ BK197.out)⟩
      have n1_ : Aside0 (Below w.heap.size w w34) := ⟨by rw [← hw_]; exact (hs_ HB.out)⟩
      clear hw_
      (try clear BK197)
      (try clear HB)
      have BK197 := n0_
      have HB := n1_
      clear n0_ n1_
      replace BK197 := Aside0.mk (blk_drew BK197.out)
      replace HB := Aside0.mk (bd_ HB.out)
      refine start_ (n := 22) (S := fun w' => w'.cell? ⟨gb197, 0, none⟩ = some (.string ((rd_T88 l0 x7_1).f0)) ∧ w'.cell? ⟨gb197, 1, none⟩ = some (.string ((rd_T88 l0 x7_1).f1))) (ds := []) #[f_,f_,f_,f_,f_,f_,f_,f_,f_,f_,f_,f_,f_,f_,f_,f_,f_,f_,f_,f_,f_,f_] (by kernel_rfl) rfl rfl ⟨bx_ BK197.out 0, bx_ BK197.out 1⟩ (fun hHeld => ?_); refine with_tabW impl_SetOk.tab4 impl_SetOk.bits4 (fun HT_ HW_ => ?_)
      generalize w34.drew = w35 at BK197 HB hHeld ⊢
      refine pw_ 0 12 (b_ 1 21) rfl rfl HT_.out ?_
      refine pw_ 1 13 (b_ 2 20) rfl rfl HT_.out ?_
      refine pw_ 2 14 (b_ 3 19) rfl rfl HT_.out ?_
      refine take_ (i := 3) (N := some 15) (v := ?_) (a' := ?_) #[t_,t_,t_,t_,f_,f_,f_,f_,f_,f_,f_,f_,f_,f_,f_,f_,f_,f_,f_,f_,f_,f_] rfl rfl (take_ofW HT_.out HW_.out (by kernel_rfl)) (fun _ _ _ h => h) (Or.inl ⟨by rfl, ?_⟩) hHeld ?_ ?_
      rotate_left
      ·
       rintro w' ⟨s0, s1⟩
       go_simp
       with_reducible rfl
      rotate_left
      ·
       simp only [fr_]
       rfl
      refine one_ (i := 4) (N := some 16) #[t_,t_,t_,t_,t_,f_,f_,f_,f_,f_,f_,f_,f_,f_,f_,f_,f_,f_,f_,f_,f_,f_] rfl rfl (one_of HT_.out (by kernel_rfl)) (by decide) (fun K hK => ?_)
      refine gs_ Try.func133 #[.agg #[.string ((rd_T88 l0 x7_1).f0), .string ((rd_T88 l0 x7_1).f1)]] ?_
      with_reducible refine (impl_LabelOk.calls k1 ((rd_T88 l0 x7_1).f0) ((rd_T88 l0 x7_1).f1) false _ A10.out).mono ?_
      rintro e w36 ⟨rfl, hb⟩
      refine ⟨_, rfl, ?_⟩
      replace BK197 := bk2_ BK197 hb
      replace HB := st_ HB hb
      (try clear hb)
      (try clear hk)
      refine hK.out _ _ ⟨bx_ BK197.out 0, bx_ BK197.out 1⟩ (fun hHeld => ?_)
      clear hK K
      refine norm_ (a' := ?_) ?_ ?_
      rotate_left
      ·
       show Act.put _ (some 16) _ = _
       simp only [fr_]
       rfl
      refine pw_ 5 17 (b_ 6 16) rfl rfl HT_.out ?_
      refine pw_ 6 18 (b_ 7 15) rfl rfl HT_.out ?_
      refine pw_ 7 19 (b_ 8 14) rfl rfl HT_.out ?_
      refine pv_ 8 20 ?_ (b_ 9 13) rfl rfl HT_.out ?_ ?_; rotate_left; simp only [fr_]; rfl
      refine pv_ 9 21 ?_ (b_ 10 12) rfl rfl HT_.out ?_ ?_; rotate_left; simp only [fr_]; rfl
      refine pv_ 10 22 ?_ (b_ 11 11) rfl rfl HT_.out ?_ ?_; rotate_left; simp only [fr_]; rfl
      refine pv_ 11 23 ?_ (b_ 12 10) rfl rfl HT_.out ?_ ?_; rotate_left; simp only [fr_]; rfl
      refine pv_ 12 24 ?_ (b_ 13 9) rfl rfl HT_.out ?_ ?_; rotate_left; simp only [fr_]; rfl
      refine pv_ 13 25 ?_ (b_ 14 8) rfl rfl HT_.out ?_ ?_; rotate_left; simp only [fr_]; rfl
      refine pv_ 14 26 ?_ (b_ 15 7) rfl rfl HT_.out ?_ ?_; rotate_left; simp only [fr_]; rfl
      refine pv_ 15 27 ?_ (b_ 16 6) rfl rfl HT_.out ?_ ?_; rotate_left; simp only [fr_]; rfl
      refine pv_ 16 28 ?_ (b_ 17 5) rfl rfl HT_.out ?_ ?_; rotate_left; simp only [fr_]; rfl
      refine pv_ 17 29 ?_ (b_ 18 4) rfl rfl HT_.out ?_ ?_; rotate_left; simp only [fr_]; rfl
      refine pv_ 18 30 ?_ (b_ 19 3) rfl rfl HT_.out ?_ ?_; rotate_left; simp only [fr_]; rfl
      refine pv_ 19 31 ?_ (b_ 20 2) rfl rfl HT_.out ?_ ?_; rotate_left; simp only [fr_]; rfl
      refine pv_ 20 32 ?_ (b_ 21 1) rfl rfl HT_.out ?_ ?_; rotate_left; simp only [fr_]; rfl
      refine pw_ 21 33 (b_ 22 0) rfl rfl HT_.out ?_
      refine done_ (done_of HT_.out (by kernel_rfl)) ?_
      try go_wp2
      go_ret
      exact an_ (by exact hs_ HB.out)
     rw [if_neg c4] at H
     exact absurd H (by simp)
    rw [if_neg c3] at H
    exact absurd H (by simp)
   rw [if_neg c2] at H
   have c2b0 : decide (x7_1 < (l0.length : Int)) = false := decide_eq_false c2
   clear c2
   obtain rfl := Option.some.inj H
   go_wp2
   go_ret
   exact an_ (by exact hs_ HB.out)
end Go.Proofs.Yticgekgojgkbgaa.Print
end
section
namespace Go.Proofs
open Go.Shelf
def Try.lays156_ren : Go.Shelf.Ren := ⟨fun | 156 => 120 | 165 => 134 | 166 => 135 | 169 => 136 | 240 => 150 | 241 => 151 | 276 => 153 | 277 => 154 | n => n, fun | 31 => 133 | 9 => 9 | 3 => 3 | 4 => 4 | 0 => 0 | 20 => 20 | 72 => 151 | 76 => 155 | 70 => 149 | 37 => 126 | 75 => 154 | 127 => 163 | 164 => 137 | 5 => 5 | 80 => 157 | n => n, fun | n => n⟩
theorem Try.lays156 : Go.Proofs.Lays.n156 Try.prog Try.lays156_ren := {
  mixed := by kernel_rfl
  f156 := Try.func120.trans (congrArg some (by kernel_rfl))
  f165 := Try.func134.trans (congrArg some (by kernel_rfl))
  f166 := Try.func135.trans (congrArg some (by kernel_rfl))
  f169 := Try.func136.trans (congrArg some (by kernel_rfl))
  f240 := Try.func150.trans (congrArg some (by kernel_rfl))
  f241 := Try.func151.trans (congrArg some (by kernel_rfl))
  f276 := Try.func153.trans (congrArg some (by kernel_rfl))
  f277 := Try.func154.trans (congrArg some (by kernel_rfl))
  t0 := Try.underlying0
  a0 := Try.isAgg0
  z0 := Try.sizeOf0
  v0 := Try.zeroValue0
  t3 := Try.underlying3
  a3 := Try.isAgg3
  z3 := Try.sizeOf3
  v3 := Try.zeroValue3
  t4 := Try.underlying4
  a4 := Try.isAgg4
  z4 := Try.sizeOf4
  v4 := Try.zeroValue4
  t9 := Try.underlying9
  a9 := Try.isAgg9
  z9 := Try.sizeOf9
  v9 := Try.zeroValue9
  t20 := Try.underlying20
  a20 := Try.isAgg20
  z20 := Try.sizeOf20
  v20 := Try.zeroValue20
  t31 := Try.underlying133
  a31 := Try.isAgg133
  z31 := Try.sizeOf133
  v31 := Try.zeroValue133
  t37 := Try.underlying126
  a37 := Try.isAgg126
  z37 := Try.sizeOf126
  v37 := Try.zeroValue126
  t70 := Try.underlying149
  a70 := Try.isAgg149
  z70 := Try.sizeOf149
  v70 := Try.zeroValue149
  t72 := Try.underlying151
  a72 := Try.isAgg151
  z72 := Try.sizeOf151
  v72 := Try.zeroValue151
  t75 := Try.underlying154
  a75 := Try.isAgg154
  z75 := Try.sizeOf154
  v75 := Try.zeroValue154
  t76 := Try.underlying155
  a76 := Try.isAgg155
  z76 := Try.sizeOf155
  v76 := Try.zeroValue155
  t127 := Try.underlying163
  a127 := Try.isAgg163
  z127 := Try.sizeOf163
  v127 := Try.zeroValue163
  t164 := Try.underlying137
  a164 := Try.isAgg137
  z164 := Try.sizeOf137
  v164 := Try.zeroValue137 }
theorem Try.Builder_Extra_156 : Builder.Extra Try.prog Try.lays156_ren := {
  sizeBuilder := by kernel_rfl
  liesBuilder := by kernel_rfl
  t5 := Try.underlying5
  a5 := Try.isAgg5
  z5 := Try.sizeOf5
  v5 := Try.zeroValue5
  infoByte := by kernel_rfl
  cellsByte := by kernel_rfl
  sizeByte := by kernel_rfl
  neB5 := by decide }
open Go.RowKit in
theorem Try.strings_Join_none (a : Option Addr) (c : Nat) (sep : ByteArray) (w : World) :
    Calls Try.prog 120 #[.slice a 0 c, .string sep] w fun e w' => e = .returned (.string ⟨#[]⟩) ∧ w' = w := Any.strings_Join_none Try.lays156 Try.Builder_Extra_156 a c sep w
open Go.RowKit in
theorem Try.strings_Join (bk o c : Nat) (xs : List ByteArray) (sep : ByteArray) (w : World) (hcells : ∀ (j : Nat) x, xs[j]? = some x → w.cell? ⟨bk, o + j, none⟩ = some (.string x)) (hbk : bk < w.heap.size) (hN : xs.length ≤ 140737488355328) (hcap : xs.length ≤ c) (hlen : (Lib.join (xs.map (·.data.toList)) sep.data.toList).length ≤ 140737488355328) :
    Calls Try.prog 120 #[.slice (some ⟨bk, o, none⟩) xs.length c, .string sep] w fun e w' => e = .returned (.string ⟨(Lib.join (xs.map (·.data.toList)) sep.data.toList).toArray⟩) ∧ Below w.heap.size w w' := Any.strings_Join Try.lays156 Try.Builder_Extra_156 bk o c xs sep w hcells hbk hN hcap hlen
end Go.Proofs
end
section
namespace Go.Proofs.Yticgekgojgkbgaa.Print
open Go.RowKit Go.Proofs.YticgekgojgkbgaaV.PrintWords Go.Proofs.YticgekgojgkbgaaV.PrintLast Go.Proofs.YticgekgojgkbgaaV.PrintMore
attribute [local go_sem] max2_int min2_int max_two min_two max_three min_three max_four min_four
set_option linter.unusedVariables false
set_option linter.unusedSimpArgs false
set_option maxHeartbeats 8000000
set_option maxRecDepth 100000
def strings_Join.f (l0 : List ByteArray) (a1 : ByteArray) : Option ByteArray := if l0.length ≤ 140737488355328 ∧ (Lib.join (l0.map (·.data.toList)) a1.data.toList).length ≤ 140737488355328 then some ⟨(Lib.join (l0.map (·.data.toList)) a1.data.toList).toArray⟩ else none
theorem strings_Join.calls (A0 : Option Addr) (c0 : Nat) (l0 : List ByteArray) (a1 : ByteArray) (r : ByteArray) (w : World) (hr0 : Kd.C Kd.string w A0 l0.length l0) (hc0 : l0.length ≤ c0) (h : strings_Join.f l0 a1 = some r) :
 Calls Try.prog 120 #[.slice A0 l0.length c0, .string a1] w fun e w' => e = .returned (.string r) ∧ Below w.heap.size w w' := by
 unfold strings_Join.f at h
 split at h
 ·
  rename_i hb
  injection h with h
  subst h
  by_cases h0 : l0 = []
  ·
   subst h0
   exact (Try.strings_Join_none A0 c0 a1 w).mono fun e w' ⟨he, hw⟩ => ⟨he, hw ▸ Below.refl _ _⟩
  obtain ⟨ad, rfl, hcell⟩ := hr0.2.2 (List.length_pos_iff.2 h0)
  have hc : ∀ (j : Nat) x, l0[j]? = some x → w.cell? (ad.add j) = some (.string x) := by
   intro j x hx
   obtain ⟨c, hl, hk, hu⟩ := hcell j x hx
   have := hu 0 (.string x) (by rw [show c = [.string x] from hk]; rfl)
   simpa [Kd.string, Kd.scalar] using this
  have hp : 0 < l0.length := List.length_pos_iff.2 h0
  have hs := hc 0 l0[0] (List.getElem?_eq_getElem hp)
  have hb0 : ad.block < w.heap.size := by
   have h1 := hs
   rw [show ad.add 0 = ad from rfl] at h1
   unfold World.cell? at h1
   by_cases hlt : ad.block < w.heap.size
   ·
    exact hlt
   rw [Array.getElem?_eq_none (by omega)] at h1; simp at h1
  have hspot : ad = ⟨ad.block, ad.off, none⟩ := by
   have h1 := hs
   rw [show ad.add 0 = ad from rfl] at h1
   unfold World.cell? at h1
   rcases ad with ⟨b, o, s⟩
   cases s with
   | none => rfl
   | some s => simp only [Option.isSome_some, if_true] at h1; split at h1 <;> simp at h1
  have hcells : ∀ (j : Nat) x, l0[j]? = some x → w.cell? ⟨ad.block, ad.off + j, none⟩ = some (.string x) := by
   intro j x hx
   have := hc j x hx
   unfold Addr.add at this
   by_cases hj : j = 0
   ·
    subst hj; rw [if_pos rfl] at this; rw [hspot] at this; exact this
   rw [if_neg hj] at this; exact this
  rw [show (some ad : Option Addr) = some ⟨ad.block, ad.off, none⟩ from by rw [← hspot]]
  exact Try.strings_Join ad.block ad.off c0 l0 a1 w hcells hb0 hb.1 hc0 hb.2
 exact absurd h (by simp)
def impl_SetText.l0 : Nat → List ByteArray → List (S88) → Int → Int → Option (ByteArray)
 | 0, _, _, _, _ => none
 | k + 1, x3, x9, x10, x11 => if x11 < x10 then (if 0 ≤ x11 then (if x11 < (x9.length : Int) then (if ((rd_T88 x9 x11).f0).size + 2 ≤ 9223372036854775807 then (if (((rd_T88 x9 x11).f0) ++ (⟨#[61, 34]⟩ : ByteArray)).size + ((rd_T88 x9 x11).f1).size ≤ 9223372036854775807 then (if ((((rd_T88 x9 x11).f0) ++ (⟨#[61, 34]⟩ : ByteArray)) ++ ((rd_T88 x9 x11).f1)).size + 1 ≤ 9223372036854775807 then (if x3.length < 8796093022208 then (impl_SetText.l0 k (x3 ++ [((((rd_T88 x9 x11).f0) ++ (⟨#[61, 34]⟩ : ByteArray)) ++ ((rd_T88 x9 x11).f1)) ++ (⟨#[34]⟩ : ByteArray)]) x9 x10 (wrap64 (x11 + 1))) else (none)) else (none)) else (none)) else (none)) else (none)) else (none)) else ((strings_Join.f x3 (⟨#[44, 32]⟩ : ByteArray)).bind fun t206 => (if 1 + t206.size ≤ 9223372036854775807 then (if ((⟨#[123]⟩ : ByteArray) ++ t206).size + 1 ≤ 9223372036854775807 then (some (((⟨#[123]⟩ : ByteArray) ++ t206) ++ (⟨#[125]⟩ : ByteArray))) else (none)) else (none)))
def impl_SetText.f (k : Nat) (l0 : List (S88)) : Option (ByteArray) := (impl_SetOk.f k l0).bind fun t200 => (if t200 = true then (impl_SetText.l0 k ([] : List ByteArray) l0 (l0.length : Int) 0) else (some (⟨#[]⟩ : ByteArray)))
theorem impl_SetText.mono_l : ∀ k, (∀ y0 y1 y2 y3, LeO (impl_SetText.l0 k y0 y1 y2 y3) (impl_SetText.l0 (k + 1) y0 y1 y2 y3))
 | 0 => fun _ _ _ _ r h => by simp [impl_SetText.l0] at h
 | k + 1 => by
  have ih0 := impl_SetText.mono_l k
  intro y0 y1 y2 y3
  unfold impl_SetText.l0
  repeat' first
  | (with_reducible exact ih0 _ _ _ _)
  | (with_reducible exact impl_SetOk.mono _ _)
  | (with_reducible exact LeO.refl _)
  | (with_reducible exact LeO.none _)
  | (with_reducible refine LeO.ite ?_ ?_)
  | (with_reducible refine LeO.bind ?_ (fun _ => ?_))
  | exact ih0 _ _ _ _
  | exact impl_SetOk.mono _ _
theorem impl_SetText.mono : ∀ a0 k, LeO (impl_SetText.f k a0) (impl_SetText.f (k + 1) a0) := by
 intro a0 k
 have ih0 := impl_SetText.mono_l k
 unfold impl_SetText.f
 repeat' first | (with_reducible first | exact ih0 _ _ _ _ | exact impl_SetOk.mono _ _ | exact LeO.refl _ | exact LeO.none _ | refine LeO.ite ?_ ?_ | refine LeO.bind ?_ (fun _ => ?_)) | exact ih0 _ _ _ _ | exact impl_SetOk.mono _ _
theorem impl_SetText.calls (k : Nat) (A0 : Option Addr) (c0 : Nat) (l0 : List (S88)) (r : ByteArray) (w : World) (hr0 : Kd.C k88 w A0 l0.length l0) (hc0 : l0.length ≤ c0) (h : impl_SetText.f k l0 = some r) :
  Calls Try.prog 98 #[.slice A0 l0.length c0] w fun e w' => e = .returned (.string r) ∧ Below w.heap.size w w' := by
 have hu88 := Try.underlying88
 have HR0 := Aside0.mk hr0
 have HC0 := Aside0.mk hc0
 clear hr0 hc0
 have HB := Aside0.mk (Below.refl w.heap.size w)
 have H : ((impl_SetOk.f k l0).bind fun t200 => (if t200 = true then (impl_SetText.l0 k ([] : List ByteArray) l0 (l0.length : Int) 0) else (some (⟨#[]⟩ : ByteArray)))) = some r := h
 clear h
 replace H := Option.bind_eq_some_iff.mp H
 obtain ⟨t200, A20, H⟩ := H
 have A2 := Aside0.mk A20
 clear A20
 by_cases c3 : t200 = true
 ·
  subst c3
  rw [if_pos rfl] at H
  have H' := Aside0.mk H
  clear H
  go_enter Try.func98, Try.ntmps98
  go_wp2_with (first | ((with_reducible refine gate_callee (f := 119) rfl ?_); refine gl_ (some 7) Try.func119 #[.slice A0 l0.length c0] ?_; (with_reducible refine (impl_SetOk.calls k _ _ l0 true _ ?side1 ?side2 A2.out).mono ?_); (case side1 => exact cp_ (HR0.out)); (case side2 => exact HC0.out); rintro e w4 ⟨rfl, hb⟩; refine ⟨_, rfl, ?_⟩; replace HB := st_ HB hb; (try clear hb); (try clear hk)))
  go_loopg [3, 11] k (fun kq v3 v11 w' => ∃ (x3_1 : List ByteArray) (x11_1 : Int), v11 = .int .i64 x11_1 ∧ Aside0 (impl_SetText.l0 kq x3_1 l0 (l0.length : Int) x11_1 = some r) ∧ Aside0 (kq ≤ k) ∧ Aside0 (Kd.R Kd.string 9 w' w.heap.size (fun _ => True) v3 x3_1) ∧ Aside0 (Below w.heap.size w w'))
  case atStart => exact ⟨(([] : List ByteArray)), (0), (by first | rfl | (simp; done) | (simp [*]; done)), H', ⟨Nat.le_refl _⟩, ⟨by first | exact Kd.R_nil _ _ _ _ _ | exact Kd.N_nil _ _ _ _ _ | exact Kd.V_nil _ _ _ _ _ | exact Kd.Q_nil _ _ _ _ _ | exact Kd.S_nil _ _ _ _ _⟩, ⟨by exact hs_ HB.out⟩⟩
  case round =>
   clear H'
   try clear c1
   try clear p2
   try clear c3
   obtain ⟨x3_1, x11_1, rfl, HA, HK1, HO_3, HB⟩ := hrel
   cases gk with
   | zero => exact absurd HA.out (by simp [impl_SetText.l0])
   | succ k1 =>
    have H := HA.out
    clear HA
    simp only [impl_SetText.l0] at H
    by_cases c5 : x11_1 < (l0.length : Int)
    ·
     rw [if_pos c5] at H
     have c5b0 := decide_eq_true c5
     clear c5
     by_cases c6 : 0 ≤ x11_1
     ·
      rw [if_pos c6] at H
      have c6b0 := decide_eq_true c6
      clear c6
      by_cases c7 : x11_1 < (l0.length : Int)
      ·
       rw [if_pos c7] at H
       have c7b0 := decide_eq_true c7
       clear c7
       by_cases c8 : ((rd_T88 l0 x11_1).f0).size + 2 ≤ 9223372036854775807
       ·
        rw [if_pos c8] at H
        have c8b0 := eq_true c8
        have c8b1 := decide_eq_true c8
        try have c8b2 : (9223372036854775807 < ((rd_T88 l0 x11_1).f0).size + 2) = False := eq_false (Nat.not_lt.2 c8)
        by_cases c9 : (((rd_T88 l0 x11_1).f0) ++ (⟨#[61, 34]⟩ : ByteArray)).size + ((rd_T88 l0 x11_1).f1).size ≤ 9223372036854775807
        ·
         rw [if_pos c9] at H
         have c9b0 := eq_true c9
         have c9b1 := decide_eq_true c9
         try have c9b2 : (9223372036854775807 < (((rd_T88 l0 x11_1).f0) ++ (⟨#[61, 34]⟩ : ByteArray)).size + ((rd_T88 l0 x11_1).f1).size) = False := eq_false (Nat.not_lt.2 c9)
         have c9s := c9
         simp only [ByteArray.size_append, show (⟨#[61, 34]⟩ : ByteArray).size = 2 from rfl] at c9s
         have c9b3 := eq_false (Nat.not_lt.2 c9s)
         have c9b4 := decide_eq_true c9s
         have c9b5 := eq_true c9s
         clear c9s
         by_cases c10 : ((((rd_T88 l0 x11_1).f0) ++ (⟨#[61, 34]⟩ : ByteArray)) ++ ((rd_T88 l0 x11_1).f1)).size + 1 ≤ 9223372036854775807
         ·
          rw [if_pos c10] at H
          have c10b0 := eq_true c10
          have c10b1 := decide_eq_true c10
          try have c10b2 : (9223372036854775807 < ((((rd_T88 l0 x11_1).f0) ++ (⟨#[61, 34]⟩ : ByteArray)) ++ ((rd_T88 l0 x11_1).f1)).size + 1) = False := eq_false (Nat.not_lt.2 c10)
          have c10s := c10
          simp only [ByteArray.size_append, show (⟨#[61, 34]⟩ : ByteArray).size = 2 from rfl] at c10s
          have c10b3 := eq_false (Nat.not_lt.2 c10s)
          have c10b4 := decide_eq_true c10s
          have c10b5 := eq_true c10s
          clear c10s
          by_cases c11 : x3_1.length < 8796093022208
          ·
           rw [if_pos c11] at H
           have LMc11 := Aside0.mk c11
           clear c11
           obtain ⟨y203, hy203⟩ : ∃ y_ : List ByteArray, y_ = (x3_1 ++ [((((rd_T88 l0 x11_1).f0) ++ (⟨#[61, 34]⟩ : ByteArray)) ++ ((rd_T88 l0 x11_1).f1)) ++ (⟨#[34]⟩ : ByteArray)]) := ⟨_, rfl⟩
           replace H : (impl_SetText.l0 k1 y203 l0 (l0.length : Int) (wrap64 (x11_1 + 1))) = some r := by first | (rw [hy203]; with_reducible exact H) | (have H2_ := (Option.bind_some _ _).symm.trans H; rw [hy203]; with_reducible exact H2_) | (have H2_ := (Option.bind_some _ _).symm.trans H; with_reducible exact H2_) | with_reducible exact H | (rw [hy203]; exact H) | exact H
           have Ny203 := Aside0.mk hy203
           clear hy203
           have H' := Aside0.mk H
           clear H
           have p201 : 0 ≤ (x11_1 : Int) := of_decide_eq_true (by with_reducible assumption)
           have q201 : x11_1 < (l0.length : Int) := of_decide_eq_true (by with_reducible assumption)
           obtain ⟨ad201, e201, hx201_0, hx201_1⟩ := at_T88 HR0.out x11_1 p201 q201
           cases e201
           replace hx201_0 := cl_ HB.out hx201_0
           replace hx201_1 := cl_ HB.out hx201_1
           replace p201 := eq_true p201
           replace q201 := eq_true q201
           go_wp2_with (first | ((with_reducible refine gd_ 5 rfl ?_); refine bv_ 5 #[.string (⟨#[]⟩ : ByteArray), .string (⟨#[]⟩ : ByteArray)] 88 ?_; intro gb202 hg w12 hbox hb; replace HO_3 := Aside0.mk (Kd.R_below (rp_ HO_3.out) hb); have BK202 := Aside0.mk (hbox); have GW202 := Aside0.mk ((gw_ hg (hs_ HB.out))); replace HB := st_ HB hb; have GE202 := Ge_.mk GW202.out; clear hb hbox hg; obtain ⟨z13_0, z13_1, y13_0, y13_1⟩ := bc2_ BK202.out) | ((with_reducible refine gate_builtin (b := .append) (xs := #[.tmp 15, .tmp 23]) rfl ?_); at_builtin; refine Kd.R_append Kd.string (w0 := w) w.heap.size rfl (.tmp 15) (.tmp 23) 133 9 (.string ⟨#[]⟩) 16 rfl Try.underlying133 info9 rfl (by decide) (by omega) u3 x3_1 (((((rd_T88 l0 x11_1).f0) ++ (⟨#[61, 34]⟩ : ByteArray)) ++ ((rd_T88 l0 x11_1).f1)) ++ (⟨#[34]⟩ : ByteArray)) [.string (((((rd_T88 l0 x11_1).f0) ++ (⟨#[61, 34]⟩ : ByteArray)) ++ ((rd_T88 l0 x11_1).f1)) ++ (⟨#[34]⟩ : ByteArray))] (fun _ => True) (fun _ => False) rfl (by first | (go_simp; done) | (go_simp; rfl)) ?aP (fun _ hk => hk.elim) ?aF ?aO ?aB ?aS ?aL ?_; (case aP => exact rfl); (case aB => exact (hs_ HB.out)); (case aF => exact (fun _ _ => trivial)); (case aO => exact (Kd.R_mono (rf_ gb202 (Kd.R_types HO_3.out BK202.out (by decide)) (fun _ hk => hk.2)) (fun _ hk => trivial))); (case aS => exact (below_size (hs_ HB.out))); (case aL => have := LMc11.out; omega); intro v204 w14 ho hb hg hat; rw [← Ny203.out] at ho; replace BK202 := Aside0.mk (blk_grown (g := gb202) (o := .cells #[.string ((rd_T88 l0 x11_1).f0), .string ((rd_T88 l0 x11_1).f1)] 88 (0, 0)) (bp_ BK202.out) hg (Kd.R_ne HO_3.out BK202.out (by decide))); replace HB := Aside0.mk (hb); have HO205 := Aside0.mk (ho); clear HO_3; clear ho hb hg hat))
           go_roundg k1
           case measure => have := HK1.out; omega
           case rel => exact ⟨(y203), (wrap64 (x11_1 + 1)), (by first | rfl | (simp; done) | (simp [*]; done)), H', ⟨by have := HK1.out; omega⟩, ⟨by (with_reducible repeat (first | apply Kd.R_alloc | apply Kd.R_drewN | apply Kd.R_drew)); exact HO205.out⟩, ⟨by exact hs_ HB.out⟩⟩
          rw [if_neg c11] at H
          exact absurd H (by simp)
         rw [if_neg c10] at H
         exact absurd H (by simp)
        rw [if_neg c9] at H
        exact absurd H (by simp)
       rw [if_neg c8] at H
       exact absurd H (by simp)
      rw [if_neg c7] at H
      exact absurd H (by simp)
     rw [if_neg c6] at H
     exact absurd H (by simp)
    rw [if_neg c5] at H
    have c5b0 : decide (x11_1 < (l0.length : Int)) = false := decide_eq_false c5
    clear c5
    replace H := Option.bind_eq_some_iff.mp H
    obtain ⟨t206, A150, H⟩ := H
    have A15 := Aside0.mk A150
    clear A150
    by_cases c16 : 1 + t206.size ≤ 9223372036854775807
    ·
     rw [if_pos c16] at H
     have c16b0 := eq_true c16
     have c16b1 := decide_eq_true c16
     try have c16b2 : (9223372036854775807 < 1 + t206.size) = False := eq_false (Nat.not_lt.2 c16)
     by_cases c17 : ((⟨#[123]⟩ : ByteArray) ++ t206).size + 1 ≤ 9223372036854775807
     ·
      rw [if_pos c17] at H
      have c17b0 := eq_true c17
      have c17b1 := decide_eq_true c17
      try have c17b2 : (9223372036854775807 < ((⟨#[123]⟩ : ByteArray) ++ t206).size + 1) = False := eq_false (Nat.not_lt.2 c17)
      have c17s := c17
      simp only [ByteArray.size_append, show (⟨#[123]⟩ : ByteArray).size = 1 from rfl] at c17s
      have c17b3 := eq_false (Nat.not_lt.2 c17s)
      have c17b4 := decide_eq_true c17s
      have c17b5 := eq_true c17s
      clear c17s
      obtain rfl := Option.some.inj H
      obtain ⟨Ao18, co18, eo18⟩ := Kd.R_slice HO_3.out
      subst eo18
      go_wp2_with (first | ((with_reducible refine gate_callee (f := 120) rfl ?_); refine gl_ (some 27) Try.func120 #[.slice Ao18 x3_1.length co18, .string (⟨#[44, 32]⟩ : ByteArray)] ?_; (with_reducible refine (strings_Join.calls _ _ x3_1 (⟨#[44, 32]⟩ : ByteArray) t206 _ ?side1 ?side2 A15.out).mono ?_); (case side1 => exact cp_ ((Kd.R_reads' HO_3.out).2.2)); (case side2 => exact (Kd.R_reads' HO_3.out).2.1); rintro e w19 ⟨rfl, hb⟩; refine ⟨_, rfl, ?_⟩; replace HO_3 := Aside0.mk (Kd.R_below (rp_ HO_3.out) hb); replace HB := st_ HB hb; (try clear hb); (try clear hk)))
      go_ret
      exact an_ (by exact hs_ HB.out)
     rw [if_neg c17] at H
     exact absurd H (by simp)
    rw [if_neg c16] at H
    exact absurd H (by simp)
 replace c3 := Bool.eq_false_iff.mpr c3
 subst c3
 rw [if_neg (show ¬ (false = true) by decide)] at H
 obtain rfl := Option.some.inj H
 go_enter Try.func98, Try.ntmps98
 go_wp2_with (first | ((with_reducible refine gate_callee (f := 119) rfl ?_); refine gl_ (some 7) Try.func119 #[.slice A0 l0.length c0] ?_; (with_reducible refine (impl_SetOk.calls k _ _ l0 false _ ?side1 ?side2 A2.out).mono ?_); (case side1 => exact cp_ (HR0.out)); (case side2 => exact HC0.out); rintro e w20 ⟨rfl, hb⟩; refine ⟨_, rfl, ?_⟩; replace HB := st_ HB hb; (try clear hb); (try clear hk)))
 go_ret
 exact an_ (by exact hs_ HB.out)
def impl_Finger.f (k : Nat) (l0 : List (S88)) : Option (Int) := (impl_SetText.f k l0).bind fun t207 => ((impl_Sum.f k t207).bind fun t208 => (some (Int.tmod (Go.bits .xor .i64 t208 (t208 / 65536)) 32)))
theorem impl_Finger.mono : ∀ a0 k, LeO (impl_Finger.f k a0) (impl_Finger.f (k + 1) a0) := by
 intro a0 k
 unfold impl_Finger.f
 repeat' first | (with_reducible first | exact impl_SetText.mono _ _ | exact impl_Sum.mono _ _ | exact LeO.refl _ | exact LeO.none _ | refine LeO.ite ?_ ?_ | refine LeO.bind ?_ (fun _ => ?_)) | exact impl_SetText.mono _ _ | exact impl_Sum.mono _ _
theorem impl_Finger.calls (k : Nat) (A0 : Option Addr) (c0 : Nat) (l0 : List (S88)) (r : Int) (w : World) (hr0 : Kd.C k88 w A0 l0.length l0) (hc0 : l0.length ≤ c0) (h : impl_Finger.f k l0 = some r) :
  Calls Try.prog 60 #[.slice A0 l0.length c0] w fun e w' => e = .returned (.int .i64 r) ∧ Below w.heap.size w w' := by
 have HR0 := Aside0.mk hr0
 have HC0 := Aside0.mk hc0
 clear hr0 hc0
 have HB := Aside0.mk (Below.refl w.heap.size w)
 have H : ((impl_SetText.f k l0).bind fun t207 => ((impl_Sum.f k t207).bind fun t208 => (some (Int.tmod (Go.bits .xor .i64 t208 (t208 / 65536)) 32)))) = some r := h
 clear h
 replace H := Option.bind_eq_some_iff.mp H
 obtain ⟨t207, A20, H⟩ := H
 have A2 := Aside0.mk A20
 clear A20
 replace H := Option.bind_eq_some_iff.mp H
 obtain ⟨t208, A30, H⟩ := H
 have A3 := Aside0.mk A30
 clear A30
 obtain rfl := Option.some.inj H
 go_enter Try.func60, Try.ntmps60
 go_wp2_with (first | ((with_reducible refine gate_callee (f := 98) rfl ?_); refine gl_ (some 5) Try.func98 #[.slice A0 l0.length c0] ?_; (with_reducible refine (impl_SetText.calls k _ _ l0 t207 _ ?side1 ?side2 A2.out).mono ?_); (case side1 => exact cp_ (HR0.out)); (case side2 => exact HC0.out); rintro e w4 ⟨rfl, hb⟩; refine ⟨_, rfl, ?_⟩; replace HB := st_ HB hb; (try clear hb); (try clear hk)) | ((with_reducible refine gate_callee (f := 97) rfl ?_); refine gl_ (some 6) Try.func97 #[.string t207] ?_; (with_reducible refine (impl_Sum.calls k t207 t208 _ A3.out).mono ?_); rintro e w' ⟨rfl, ⟨nd, rfl⟩⟩; refine ⟨_, rfl, ?_⟩))
 go_ret
 exact an_ (by exact hs_ HB.out)
def impl_HomeOf.f (k : Nat) (l0 : List (S57)) (l1 : List (S88)) : Option (Int) := (impl_Finger.f k l1).bind fun t209 => ((impl_PartOf.f t209 (l0.length : Int)).bind fun t210 => (some t210))
theorem impl_HomeOf.mono : ∀ a0 a1 k, LeO (impl_HomeOf.f k a0 a1) (impl_HomeOf.f (k + 1) a0 a1) := by
 intro a0 a1 k
 unfold impl_HomeOf.f
 repeat' first | (with_reducible first | exact impl_Finger.mono _ _ | exact LeO.refl _ | exact LeO.none _ | refine LeO.ite ?_ ?_ | refine LeO.bind ?_ (fun _ => ?_)) | exact impl_Finger.mono _ _
theorem impl_HomeOf.calls (k : Nat) (A0 : Option Addr) (c0 : Nat) (l0 : List (S57)) (A1 : Option Addr) (c1 : Nat) (l1 : List (S88)) (r : Int) (w : World) (hr0 : Kd.C k57 w A0 l0.length l0) (hc0 : l0.length ≤ c0) (hr1 : Kd.C k88 w A1 l1.length l1) (hc1 : l1.length ≤ c1) (h : impl_HomeOf.f k l0 l1 = some r) :
  Calls Try.prog 17 #[.slice A0 l0.length c0, .slice A1 l1.length c1] w fun e w' => e = .returned (.int .i64 r) ∧ Below w.heap.size w w' := by
 have HR0 := Aside0.mk hr0
 have HC0 := Aside0.mk hc0
 clear hr0 hc0
 have HR1 := Aside0.mk hr1
 have HC1 := Aside0.mk hc1
 clear hr1 hc1
 have HB := Aside0.mk (Below.refl w.heap.size w)
 have H : ((impl_Finger.f k l1).bind fun t209 => ((impl_PartOf.f t209 (l0.length : Int)).bind fun t210 => (some t210))) = some r := h
 clear h
 replace H := Option.bind_eq_some_iff.mp H
 obtain ⟨t209, A30, H⟩ := H
 have A3 := Aside0.mk A30
 clear A30
 replace H := Option.bind_eq_some_iff.mp H
 obtain ⟨t210, A40, H⟩ := H
 have A4 := Aside0.mk A40
 clear A40
 obtain rfl := Option.some.inj H
 go_enter Try.func17, Try.ntmps17
 go_wp2_with (first | ((with_reducible refine gate_callee (f := 60) rfl ?_); refine gl_ (some 6) Try.func60 #[.slice A1 l1.length c1] ?_; (with_reducible refine (impl_Finger.calls k _ _ l1 t209 _ ?side1 ?side2 A3.out).mono ?_); (case side1 => exact cp_ (HR1.out)); (case side2 => exact HC1.out); rintro e w5 ⟨rfl, hb⟩; refine ⟨_, rfl, ?_⟩; replace HB := st_ HB hb; (try clear hb); (try clear hk)) | ((with_reducible refine gate_callee (f := 59) rfl ?_); refine gl_ (some 9) Try.func59 #[.int .i64 t209, .int .i64 (l0.length : Int)] ?_; (with_reducible refine (impl_PartOf.calls t209 (l0.length : Int) t210 _ A4.out).mono ?_); rintro e w' ⟨rfl, ⟨nd, rfl⟩⟩; refine ⟨_, rfl, ?_⟩))
 go_ret
 exact an_ (by exact hs_ HB.out)
def impl_chainOf.l0 : Nat → Int → List (S100) → Int → Int → Option (Int)
 | 0, _, _, _, _ => none
 | k + 1, x1, x8, x9, x10 => if x10 < x9 then (if 0 ≤ x10 then (if x10 < (x8.length : Int) then (if ((rd_T100 x8 x10).f0) = x1 then (some x10) else (impl_chainOf.l0 k x1 x8 x9 (wrap64 (x10 + 1)))) else (none)) else (none)) else (some (-1))
def impl_chainOf.f (k : Nat) (a0_0 : Int) (a0_1 : Int) (l0_2 : List (S100)) (a1 : Int) : Option (Int) := impl_chainOf.l0 k a1 l0_2 (l0_2.length : Int) 0
theorem impl_chainOf.mono_l : ∀ k, (∀ y0 y1 y2 y3, LeO (impl_chainOf.l0 k y0 y1 y2 y3) (impl_chainOf.l0 (k + 1) y0 y1 y2 y3))
 | 0 => fun _ _ _ _ r h => by simp [impl_chainOf.l0] at h
 | k + 1 => by
  have ih0 := impl_chainOf.mono_l k
  intro y0 y1 y2 y3
  unfold impl_chainOf.l0
  repeat' first
  | (with_reducible exact ih0 _ _ _ _)
  | (with_reducible exact LeO.refl _)
  | (with_reducible exact LeO.none _)
  | (with_reducible refine LeO.ite ?_ ?_)
  | (with_reducible refine LeO.bind ?_ (fun _ => ?_))
  | exact ih0 _ _ _ _
theorem impl_chainOf.mono : ∀ a0 a1 a2 a3 k, LeO (impl_chainOf.f k a0 a1 a2 a3) (impl_chainOf.f (k + 1) a0 a1 a2 a3) := by
 intro a0 a1 a2 a3 k
 have ih0 := impl_chainOf.mono_l k
 unfold impl_chainOf.f
 repeat' first | (with_reducible first | exact ih0 _ _ _ _ | exact LeO.refl _ | exact LeO.none _ | refine LeO.ite ?_ ?_ | refine LeO.bind ?_ (fun _ => ?_)) | exact ih0 _ _ _ _
theorem impl_chainOf.calls (k : Nat) (a0_0 : Int) (a0_1 : Int) (A0_2 : Option Addr) (c0_2 : Nat) (l0_2 : List (S100)) (a1 : Int) (r : Int) (w : World) (hr0_2 : Kd.C k100 w A0_2 l0_2.length l0_2) (hc0_2 : l0_2.length ≤ c0_2) (h : impl_chainOf.f k a0_0 a0_1 l0_2 a1 = some r) :
  Calls Try.prog 78 #[.agg #[.int .i64 a0_0, .int .i64 a0_1, .slice A0_2 l0_2.length c0_2], .int .i64 a1] w fun e w' => e = .returned (.int .i64 r) ∧ Below w.heap.size w w' := by
 have hu57 := Try.underlying57
 have hu100 := Try.underlying100
 have HR0_2 := Aside0.mk hr0_2
 have HC0_2 := Aside0.mk hc0_2
 clear hr0_2 hc0_2
 have HB := Aside0.mk (Below.refl w.heap.size w)
 have H : (impl_chainOf.l0 k a1 l0_2 (l0_2.length : Int) 0) = some r := h
 clear h
 have H' := Aside0.mk H
 clear H
 go_enter Try.func78, Try.ntmps78
 go_wp2_with (first | ((with_reducible refine gd_ 2 rfl ?_); refine bv_ 2 #[.int .i64 a0_0, .int .i64 a0_1, .slice A0_2 l0_2.length c0_2] 57 ?_; intro gb497 hg w3 hbox hb; have BK497 := Aside0.mk (hbox); have GW497 := Aside0.mk ((gw_ hg (hs_ HB.out))); replace HB := st_ HB hb; have GE497 := Ge_.mk GW497.out; clear hb hbox hg; obtain ⟨z4_0, z4_1, z4_2, y4_0, y4_1, y4_2⟩ := bc3_ BK497.out))
 go_loopg [10] k (fun kq v10 w' => ∃ (x10_1 : Int), v10 = .int .i64 x10_1 ∧ Aside0 (impl_chainOf.l0 kq a1 l0_2 (l0_2.length : Int) x10_1 = some r) ∧ Aside0 (kq ≤ k) ∧ Aside0 (w'.heap[gb497]? = some (.cells #[.int .i64 a0_0, .int .i64 a0_1, (.slice A0_2 l0_2.length c0_2)] 57 (0, 0))) ∧ Aside0 (Below w.heap.size w w'))
 case atStart => exact ⟨(0), (by first | rfl | (simp; done) | (simp [*]; done)), H', ⟨Nat.le_refl _⟩, ⟨bq_ BK497.out⟩, ⟨by exact hs_ HB.out⟩⟩
 case round =>
  clear H'
  try clear p2
  try clear z4_0 z4_1 z4_2 y4_0 y4_1 y4_2
  obtain ⟨x10_1, rfl, HA, HK1, BK497, HB⟩ := hrel
  cases gk with
  | zero => exact absurd HA.out (by simp [impl_chainOf.l0])
  | succ k1 =>
   have H := HA.out
   clear HA
   simp only [impl_chainOf.l0] at H
   by_cases c5 : x10_1 < (l0_2.length : Int)
   ·
    rw [if_pos c5] at H
    have c5b0 := decide_eq_true c5
    clear c5
    by_cases c6 : 0 ≤ x10_1
    ·
     rw [if_pos c6] at H
     have c6b0 := decide_eq_true c6
     clear c6
     by_cases c7 : x10_1 < (l0_2.length : Int)
     ·
      rw [if_pos c7] at H
      have c7b0 := decide_eq_true c7
      clear c7
      by_cases c8 : ((rd_T100 l0_2 x10_1).f0) = a1
      ·
       rw [if_pos c8] at H
       have c8b0 : (((rd_T100 l0_2 x10_1).f0) == a1) = true := beq_iff_eq.mpr c8
       have c8b1 : (((rd_T100 l0_2 x10_1).f0) != a1) = false := bne_eq_false_iff_eq.mpr c8
       clear c8
       obtain rfl := Option.some.inj H
       have p498 : 0 ≤ (x10_1 : Int) := of_decide_eq_true (by with_reducible assumption)
       have q498 : x10_1 < (l0_2.length : Int) := of_decide_eq_true (by with_reducible assumption)
       obtain ⟨ad498, A498_1, c498_1, e498, hx498_0, hx498_1, hl498_1, hi498_1⟩ := at_T100 HR0_2.out x10_1 p498 q498
       cases e498
       replace hx498_0 := cl_ HB.out hx498_0
       replace hx498_1 := cl_ HB.out hx498_1
       have HR498_1 := Aside0.mk hi498_1
       have HC498_1 := Aside0.mk hl498_1
       clear hi498_1 hl498_1
       replace p498 := eq_true p498
       replace q498 := eq_true q498
       go_wp2_with (first | ((with_reducible refine gd_ 6 rfl ?_); refine bv_ 6 #[.int .i64 0, .slice none 0 0] 100 ?_; intro gb499 hg w9 hbox hb; have BK499 := Aside0.mk (hbox); have GW499 := Aside0.mk ((gw_ hg (hs_ HB.out))); replace HB := st_ HB hb; have GE499 := Ge_.mk GW499.out; have NB497_499 := Ne_.mk (nl_ BK497.out hg); replace BK497 := bk2_ BK497 hb; have NB499_497 := Ne_.mk (NB497_499.out.symm); clear hb hbox hg; have hnb10 := NB499_497.out; have hnc10 := NB497_499.out; obtain ⟨z11_0, z11_1, y11_0, y11_1⟩ := bc2_ BK499.out))
       go_ret
       exact an_ (by exact hs_ HB.out)
      rw [if_neg c8] at H
      have c8b0 : (((rd_T100 l0_2 x10_1).f0) == a1) = false := beq_eq_false_iff_ne.mpr c8
      have c8b1 : (((rd_T100 l0_2 x10_1).f0) != a1) = true := bne_iff_ne.mpr c8
      have H' := Aside0.mk H
      clear H
      have p498 : 0 ≤ (x10_1 : Int) := of_decide_eq_true (by with_reducible assumption)
      have q498 : x10_1 < (l0_2.length : Int) := of_decide_eq_true (by with_reducible assumption)
      obtain ⟨ad498, A498_1, c498_1, e498, hx498_0, hx498_1, hl498_1, hi498_1⟩ := at_T100 HR0_2.out x10_1 p498 q498
      cases e498
      replace hx498_0 := cl_ HB.out hx498_0
      replace hx498_1 := cl_ HB.out hx498_1
      have HR498_1 := Aside0.mk hi498_1
      have HC498_1 := Aside0.mk hl498_1
      clear hi498_1 hl498_1
      replace p498 := eq_true p498
      replace q498 := eq_true q498
      go_wp2_with (first | ((with_reducible refine gd_ 6 rfl ?_); refine bv_ 6 #[.int .i64 0, .slice none 0 0] 100 ?_; intro gb499 hg w12 hbox hb; have BK499 := Aside0.mk (hbox); have GW499 := Aside0.mk ((gw_ hg (hs_ HB.out))); replace HB := st_ HB hb; have GE499 := Ge_.mk GW499.out; have NB497_499 := Ne_.mk (nl_ BK497.out hg); replace BK497 := bk2_ BK497 hb; have NB499_497 := Ne_.mk (NB497_499.out.symm); clear hb hbox hg; have hnb13 := NB499_497.out; have hnc13 := NB497_499.out; obtain ⟨z14_0, z14_1, y14_0, y14_1⟩ := bc2_ BK499.out))
      go_roundg k1
      case measure => have := HK1.out; omega
      case rel => exact ⟨(wrap64 (x10_1 + 1)), (by first | rfl | (simp; done) | (simp [*]; done)), H', ⟨by have := HK1.out; omega⟩, ⟨bq_ BK497.out⟩, ⟨by exact hs_ HB.out⟩⟩
     rw [if_neg c7] at H
     exact absurd H (by simp)
    rw [if_neg c6] at H
    exact absurd H (by simp)
   rw [if_neg c5] at H
   have c5b0 : decide (x10_1 < (l0_2.length : Int)) = false := decide_eq_false c5
   clear c5
   obtain rfl := Option.some.inj H
   go_wp2
   go_ret
   exact an_ (by exact hs_ HB.out)
def impl_copySet.f (l0 : List (S88)) : Option ((List (S88))) := if ([] : List (S88)).length + l0.length < 4398046511104 then (some (([] : List (S88)) ++ l0)) else (none)
theorem impl_copySet.calls (A0 : Option Addr) (c0 : Nat) (l0 : List (S88)) (r : List (S88)) (w : World) (hr0 : Kd.C k88 w A0 l0.length l0) (hc0 : l0.length ≤ c0) (h : impl_copySet.f l0 = some r) :
  Calls Try.prog 107 #[.slice A0 l0.length c0] w fun e w' => ∃ v0_ : Value, e = .returned (v0_) ∧ Kd.R k88 88 w' w.heap.size (fun _ => True) v0_ r ∧ Below w.heap.size w w' := by
 have HR0 := Aside0.mk hr0
 have HC0 := Aside0.mk hc0
 clear hr0 hc0
 have HB := Aside0.mk (Below.refl w.heap.size w)
 have H : (if ([] : List (S88)).length + l0.length < 4398046511104 then (some (([] : List (S88)) ++ l0)) else (none)) = some r := h
 clear h
 by_cases c2 : ([] : List (S88)).length + l0.length < 4398046511104
 ·
  rw [if_pos c2] at H
  have LMc2 := Aside0.mk c2
  clear c2
  obtain ⟨y502, hy502⟩ : ∃ y_ : List (S88), y_ = (([] : List (S88)) ++ l0) := ⟨_, rfl⟩
  replace H : (some y502) = some r := by first | (rw [hy502]; with_reducible exact H) | (have H2_ := (Option.bind_some _ _).symm.trans H; rw [hy502]; with_reducible exact H2_) | (have H2_ := (Option.bind_some _ _).symm.trans H; with_reducible exact H2_) | with_reducible exact H | (rw [hy502]; exact H) | exact H
  have Ny502 := Aside0.mk hy502
  clear hy502
  obtain rfl := Option.some.inj H
  go_enter Try.func107, Try.ntmps107
  go_wp2_with (first | ((with_reducible refine gate_builtin (b := .append) (xs := #[.const (.slice none 0 0), .tmp 3]) rfl ?_); at_builtin; refine Kd.R_append_rows k88 (w0 := w) w.heap.size rfl (.const (.slice none 0 0)) (.tmp 3) 29 88 (.agg #[(.string ⟨#[]⟩), (.string ⟨#[]⟩)]) 32 rfl Try.underlying29 info88 rfl (by decide) (by omega) (.slice none 0 0) ([] : List (S88)) l0 _ _ _ (fun _ => True) (fun _ => False) rfl rfl ?aO ?aR (fun _ _ h => h) (fun _ h => h.elim) ?aF ?aB ?aS ?aL ?_; (case aR => repeat (first | exact HR0.out | (with_reducible first | refine ca_ ?_ _ | refine cn_ ?_ _ | refine cd_ ?_))); (case aB => exact (hs_ HB.out)); (case aF => exact (fun _ _ => trivial)); (case aO => exact ((Kd.R_nil _ _ _ _ (fun _ => True)))); (case aS => exact (below_size (hs_ HB.out))); (case aL => have := LMc2.out; omega); intro v503 w3 ho hb hg hat; rw [← Ny502.out] at ho; replace HB := Aside0.mk (hb); have HO504 := Aside0.mk (ho); clear ho hb hg hat))
  go_ret
  exact ⟨_, by first | rfl | (simp [errW_none, errW_some] <;> rfl) | (simp [*, errW_none, errW_some] <;> rfl), by (with_reducible repeat (first | apply Kd.R_alloc | apply Kd.R_drewN | apply Kd.R_drew)); exact HO504.out, by exact hs_ HB.out⟩
 rw [if_neg c2] at H
 exact absurd H (by simp)
def impl_copyAlarm.f (l0_0 : List (S88)) (a0_1 : Int) (a0_2 : Int) (a0_3 : ByteArray) : Option ((List (S88)) × Int × Int × ByteArray) := (impl_copySet.f l0_0).bind fun t507 => (some (t507, a0_1, a0_2, a0_3))
theorem impl_copyAlarm.calls (A0_0 : Option Addr) (c0_0 : Nat) (l0_0 : List (S88)) (a0_1 : Int) (a0_2 : Int) (a0_3 : ByteArray) (r1 : List (S88)) (r2 : Int) (r3 : Int) (r4 : ByteArray) (w : World) (hr0_0 : Kd.C k88 w A0_0 l0_0.length l0_0) (hc0_0 : l0_0.length ≤ c0_0) (h : impl_copyAlarm.f l0_0 a0_1 a0_2 a0_3 = some (r1, r2, r3, r4)) :
  Calls Try.prog 80 #[.agg #[.slice A0_0 l0_0.length c0_0, .int .i64 a0_1, .int .i64 a0_2, .string a0_3]] w fun e w' => ∃ v0_ : Value, e = .returned (.agg #[v0_, .int .i64 r2, .int .i64 r3, .string r4]) ∧ Kd.R k88 88 w' w.heap.size (fun _ => True) v0_ r1 ∧ Below w.heap.size w w' := by
 have hu43 := Try.underlying43
 have HR0_0 := Aside0.mk hr0_0
 have HC0_0 := Aside0.mk hc0_0
 clear hr0_0 hc0_0
 have HB := Aside0.mk (Below.refl w.heap.size w)
 have H : ((impl_copySet.f l0_0).bind fun t507 => (some (t507, a0_1, a0_2, a0_3))) = some (r1, r2, r3, r4) := h
 clear h
 replace H := Option.bind_eq_some_iff.mp H
 obtain ⟨t507, A20, H⟩ := H
 have A2 := Aside0.mk A20
 clear A20
 simp only [Option.some.injEq, Prod.mk.injEq] at H
 obtain ⟨rfl, rfl, rfl, rfl⟩ := H
 go_enter Try.func80, Try.ntmps80
 go_wp2_with (first | ((with_reducible refine gd_ 1 rfl ?_); refine bv_ 1 #[.slice A0_0 l0_0.length c0_0, .int .i64 a0_1, .int .i64 a0_2, .string a0_3] 43 ?_; intro gb505 hg w3 hbox hb; have BK505 := Aside0.mk (hbox); have GW505 := Aside0.mk ((gw_ hg (hs_ HB.out))); replace HB := st_ HB hb; have GE505 := Ge_.mk GW505.out; clear hb hbox hg) | ((with_reducible refine gd_ 2 rfl ?_); refine bv_ 2 #[.slice none 0 0, .int .i64 0, .int .i64 0, .string (⟨#[]⟩ : ByteArray)] 43 ?_; intro gb506 hg w4 hbox hb; have BK506 := Aside0.mk (hbox); have GW506 := Aside0.mk ((gw_ hg (hs_ HB.out))); replace HB := st_ HB hb; have GE506 := Ge_.mk GW506.out; have NB505_506 := Ne_.mk (nl_ BK505.out hg); replace BK505 := bk2_ BK505 hb; have NB506_505 := Ne_.mk (NB505_506.out.symm); clear hb hbox hg; have hnb5 := NB505_506.out; have hnc5 := NB506_505.out; obtain ⟨z6_0, z6_1, z6_2, z6_3, y6_0, y6_1, y6_2, y6_3⟩ := bc4_ BK505.out) | ((with_reducible refine gate_callee (f := 107) rfl ?_); refine gl_ (some 5) Try.func107 #[.slice A0_0 l0_0.length c0_0] ?_; (with_reducible refine (impl_copySet.calls _ _ l0_0 t507 _ ?side1 ?side2 A2.out).mono ?_); (case side1 => exact cp_ ((Kd.C_below HR0_0.out HB.out))); (case side2 => exact HC0_0.out); rintro e w7 ⟨v508, rfl, ho0, hb⟩; refine ⟨_, rfl, ?_⟩; have HO509 := Aside0.mk (Kd.R_lower ho0 (below_size (hs_ HB.out))); replace BK505 := bk2_ BK505 hb; replace BK506 := bk2_ BK506 hb; replace HB := st_ HB hb; (try clear hb); (try clear hk); (try clear ho0); obtain ⟨Ao8, co8, eo8⟩ := Kd.R_slice HO509.out; subst eo8; obtain ⟨z9_0, z9_1, z9_2, z9_3, y9_0, y9_1, y9_2, y9_3⟩ := bc4_ BK505.out; obtain ⟨z10_0, z10_1, z10_2, z10_3, y10_0, y10_1, y10_2, y10_3⟩ := bc4_ BK506.out))
 refine bodyPost_ret (results_cell_row rfl _ _ gb506 43 #[.slice Ao8 t507.length co8, .int .i64 a0_1, .int .i64 a0_2, .string a0_3] (0, 0) _ rfl (bp_ BK506.out) Try.underlying43 rfl (by kernel_rfl)) rfl ?_
 exact ⟨_, by first | rfl | (simp [errW_none, errW_some] <;> rfl) | (simp [*, errW_none, errW_some] <;> rfl), by (with_reducible repeat (first | apply Kd.R_alloc | apply Kd.R_drewN | apply Kd.R_drew)); exact Kd.R_mono (rf_ gb506 (Kd.R_far (p := ⟨gb505, 0, none⟩) (Kd.R_types (Kd.R_types HO509.out BK505.out (by decide)) BK506.out (by decide)) (fun _ hk => hk.1.2) (.slice Ao8 t507.length co8)) (fun _ hk => hk.2)) (fun _ hk => trivial), by exact hs_ HB.out⟩
def impl_copyAlarms.l0 : Nat → List (S43) → List (S43) → Int → Int → Option ((List (S43)))
 | 0, _, _, _, _ => none
 | k + 1, x3, x6, x7, x8 => if x8 < x7 then (if 0 ≤ x8 then (if x8 < (x6.length : Int) then ((impl_copyAlarm.f ((rd_T43 x6 x8).f0) ((rd_T43 x6 x8).f1) ((rd_T43 x6 x8).f2) ((rd_T43 x6 x8).f3)).bind fun bt824 => (if x3.length < 2513169434916 then (impl_copyAlarms.l0 k (x3 ++ [(⟨bt824.1, bt824.2.1, bt824.2.2.1, bt824.2.2.2⟩ : S43)]) x6 x7 (wrap64 (x8 + 1))) else (none))) else (none)) else (none)) else (some x3)
def impl_copyAlarms.f (k : Nat) (l0 : List (S43)) : Option ((List (S43))) := impl_copyAlarms.l0 k ([] : List (S43)) l0 (l0.length : Int) 0
theorem impl_copyAlarms.mono_l : ∀ k, (∀ y0 y1 y2 y3, LeO (impl_copyAlarms.l0 k y0 y1 y2 y3) (impl_copyAlarms.l0 (k + 1) y0 y1 y2 y3))
 | 0 => fun _ _ _ _ r h => by simp [impl_copyAlarms.l0] at h
 | k + 1 => by
  have ih0 := impl_copyAlarms.mono_l k
  intro y0 y1 y2 y3
  unfold impl_copyAlarms.l0
  repeat' first
  | (with_reducible exact ih0 _ _ _ _)
  | (with_reducible exact LeO.refl _)
  | (with_reducible exact LeO.none _)
  | (with_reducible refine LeO.ite ?_ ?_)
  | (with_reducible refine LeO.bind ?_ (fun _ => ?_))
  | exact ih0 _ _ _ _
theorem impl_copyAlarms.mono : ∀ a0 k, LeO (impl_copyAlarms.f k a0) (impl_copyAlarms.f (k + 1) a0) := by
 intro a0 k
 have ih0 := impl_copyAlarms.mono_l k
 unfold impl_copyAlarms.f
 repeat' first | (with_reducible first | exact ih0 _ _ _ _ | exact LeO.refl _ | exact LeO.none _ | refine LeO.ite ?_ ?_ | refine LeO.bind ?_ (fun _ => ?_)) | exact ih0 _ _ _ _
theorem impl_copyAlarms.calls (k : Nat) (A0 : Option Addr) (c0 : Nat) (l0 : List (S43)) (r : List (S43)) (w : World) (hr0 : Kd.C k43 w A0 l0.length l0) (hc0 : l0.length ≤ c0) (h : impl_copyAlarms.f k l0 = some r) :
  Calls Try.prog 114 #[.slice A0 l0.length c0] w fun e w' => ∃ v0_ : Value, e = .returned (v0_) ∧ Kd.S k43 43 w' w.heap.size (fun _ => True) v0_ r ∧ Below w.heap.size w w' := by
 have hu43 := Try.underlying43
 have HR0 := Aside0.mk hr0
 have HC0 := Aside0.mk hc0
 clear hr0 hc0
 have HB := Aside0.mk (Below.refl w.heap.size w)
 have H : (impl_copyAlarms.l0 k ([] : List (S43)) l0 (l0.length : Int) 0) = some r := h
 clear h
 have H' := Aside0.mk H
 clear H
 go_enter Try.func114, Try.ntmps114
 go_wp2
 go_loopg [3, 8] k (fun kq v3 v8 w' => ∃ (x3_1 : List (S43)) (x8_1 : Int), v8 = .int .i64 x8_1 ∧ Aside0 (impl_copyAlarms.l0 kq x3_1 l0 (l0.length : Int) x8_1 = some r) ∧ Aside0 (kq ≤ k) ∧ Aside0 (Kd.S k43 43 w' w.heap.size (fun _ => True) v3 x3_1) ∧ Aside0 (Below w.heap.size w w'))
 case atStart => exact ⟨(([] : List (S43))), (0), (by first | rfl | (simp; done) | (simp [*]; done)), H', ⟨Nat.le_refl _⟩, ⟨by first | exact Kd.S_nil _ _ _ _ _ | exact Kd.N_nil _ _ _ _ _ | exact Kd.V_nil _ _ _ _ _ | exact Kd.Q_nil _ _ _ _ _ | exact Kd.R_nil _ _ _ _ _⟩, ⟨by exact hs_ HB.out⟩⟩
 case round =>
  clear H'
  try clear c1
  obtain ⟨x3_1, x8_1, rfl, HA, HK1, HO_3, HB⟩ := hrel
  cases gk with
  | zero => exact absurd HA.out (by simp [impl_copyAlarms.l0])
  | succ k1 =>
   have H := HA.out
   clear HA
   simp only [impl_copyAlarms.l0] at H
   by_cases c2 : x8_1 < (l0.length : Int)
   ·
    rw [if_pos c2] at H
    have c2b0 := decide_eq_true c2
    clear c2
    by_cases c3 : 0 ≤ x8_1
    ·
     rw [if_pos c3] at H
     have c3b0 := decide_eq_true c3
     clear c3
     by_cases c4 : x8_1 < (l0.length : Int)
     ·
      rw [if_pos c4] at H
      have c4b0 := decide_eq_true c4
      clear c4
      replace H := Option.bind_eq_some_iff.mp H
      obtain ⟨⟨t824, t827, t828, t829⟩, A50, H⟩ := H
      have A5 := Aside0.mk A50
      clear A50
      by_cases c6 : x3_1.length < 2513169434916
      ·
       rw [if_pos c6] at H
       have LMc6 := Aside0.mk c6
       clear c6
       obtain ⟨y830, hy830⟩ : ∃ y_ : List (S43), y_ = (x3_1 ++ [(⟨t824, t827, t828, t829⟩ : S43)]) := ⟨_, rfl⟩
       replace H : (impl_copyAlarms.l0 k1 y830 l0 (l0.length : Int) (wrap64 (x8_1 + 1))) = some r := by first | (rw [hy830]; with_reducible exact H) | (have H2_ := (Option.bind_some _ _).symm.trans H; rw [hy830]; with_reducible exact H2_) | (have H2_ := (Option.bind_some _ _).symm.trans H; with_reducible exact H2_) | with_reducible exact H | (rw [hy830]; exact H) | exact H
       have Ny830 := Aside0.mk hy830
       clear hy830
       have H' := Aside0.mk H
       clear H
       have p822 : 0 ≤ (x8_1 : Int) := of_decide_eq_true (by with_reducible assumption)
       have q822 : x8_1 < (l0.length : Int) := of_decide_eq_true (by with_reducible assumption)
       obtain ⟨ad822, A822_0, c822_0, e822, hx822_0, hx822_1, hx822_2, hx822_3, hl822_0, hi822_0⟩ := at_T43 HR0.out x8_1 p822 q822
       cases e822
       replace hx822_0 := cl_ HB.out hx822_0
       replace hx822_1 := cl_ HB.out hx822_1
       replace hx822_2 := cl_ HB.out hx822_2
       replace hx822_3 := cl_ HB.out hx822_3
       have HR822_0 := Aside0.mk hi822_0
       have HC822_0 := Aside0.mk hl822_0
       clear hi822_0 hl822_0
       replace p822 := eq_true p822
       replace q822 := eq_true q822
       go_wp2_with (first | ((with_reducible refine gd_ 5 rfl ?_); refine bv_ 5 #[.slice none 0 0, .int .i64 0, .int .i64 0, .string (⟨#[]⟩ : ByteArray)] 43 ?_; intro gb823 hg w7 hbox hb; replace HO_3 := Aside0.mk (Kd.S_below (Kd.S_elderB (sp_ HO_3.out) gb823 (Nat.le_of_eq hg.symm)) hb); have BK823 := Aside0.mk (hbox); have GW823 := Aside0.mk ((gw_ hg (hs_ HB.out))); replace HB := st_ HB hb; have GE823 := Ge_.mk GW823.out; clear hb hbox hg; obtain ⟨z8_0, z8_1, z8_2, z8_3, y8_0, y8_1, y8_2, y8_3⟩ := bc4_ BK823.out) | ((with_reducible refine gate_callee (f := 80) rfl ?_); refine gl_ (some 14) Try.func80 #[.agg #[.slice A822_0 ((rd_T43 l0 x8_1).f0).length c822_0, .int .i64 ((rd_T43 l0 x8_1).f1), .int .i64 ((rd_T43 l0 x8_1).f2), .string ((rd_T43 l0 x8_1).f3)]] ?_; (with_reducible refine (impl_copyAlarm.calls _ _ ((rd_T43 l0 x8_1).f0) ((rd_T43 l0 x8_1).f1) ((rd_T43 l0 x8_1).f2) ((rd_T43 l0 x8_1).f3) t824 t827 t828 t829 _ ?side1 ?side2 A5.out).mono ?_); (case side1 => exact Kd.C_below HR822_0.out (hs_ HB.out)); (case side2 => exact HC822_0.out); rintro e w9 ⟨v825, rfl, ho0, hb⟩; refine ⟨_, rfl, ?_⟩; replace HO_3 := Aside0.mk (Kd.S_elder' (by (with_reducible repeat (first | apply Kd.S_alloc | apply Kd.S_drewN | apply Kd.S_drew)); exact (Kd.S_mono (sf_ gb823 (Kd.S_mono HO_3.out (fun k_ hk => (⟨hk, hk.2⟩ : _ ∧ k_ ≠ gb823))) (fun _ hk => hk.2)) (fun _ h_ => h_.1))) (Kd.R_base ho0) hb); have HO826 := Aside0.mk (Kd.R_lower ho0 (below_size (hs_ HB.out))); replace BK823 := Aside0.mk (blk_below (g := gb823) (o := .cells #[.slice A822_0 ((rd_T43 l0 x8_1).f0).length c822_0, .int .i64 ((rd_T43 l0 x8_1).f1), .int .i64 ((rd_T43 l0 x8_1).f2), .string ((rd_T43 l0 x8_1).f3)] 43 (0, 0)) (bp_ BK823.out) hb); replace HB := st_ HB hb; (try clear hb); (try clear hk); (try clear ho0); obtain ⟨Ao11, co11, eo11⟩ := Kd.R_slice HO826.out; subst eo11) | ((with_reducible refine gate_builtin (b := .append) (xs := #[.tmp 12, .tmp 15]) rfl ?_); at_builtin; refine Kd.S_append k43 (w0 := w) w.heap.size rfl (.tmp 12) (.tmp 15) 44 43 (.agg #[(.slice none 0 0), (.int .i64 0), (.int .i64 0), (.string ⟨#[]⟩)]) 56 rfl Try.underlying44 info43 rfl (by decide) (by omega) u3 x3_1 (⟨t824, t827, t828, t829⟩ : S43) [.slice Ao11 t824.length co11, .int .i64 t827, .int .i64 t828, .string t829] (fun k_ => k_ ≠ gb823) (fun k_ => some k_ = (.slice Ao11 t824.length co11 : Value).ownBlock) rfl rfl ?aP (fun k_ hk_ => ((Kd.R_mono (ok' := fun k_ => ((fun k_ => k_ ≠ gb823)) k_ ∧ some k_ ≠ (u3 : Value).ownBlock) (Kd.R_types (Kd.R_apart' (HO826.out) (Kd.S_typed HO_3.out) (by decide)) BK823.out (by decide)) (fun k_ hk => ⟨hk.2, hk.1.2⟩))).1 k_ hk_.symm) ?aF ?aO ?aB ?aS ?aL ?_; (case aP => exact k43_mkM _ _ _ (⟨t824, t827, t828, t829⟩ : S43) (Kd.R_mono (Kd.R_tight rfl (Kd.R_mono (ok' := fun k_ => ((fun k_ => k_ ≠ gb823)) k_ ∧ some k_ ≠ (u3 : Value).ownBlock) (Kd.R_types (Kd.R_apart' (HO826.out) (Kd.S_typed HO_3.out) (by decide)) BK823.out (by decide)) (fun k_ hk => ⟨hk.2, hk.1.2⟩))) (fun _ h_ => h_))); (case aB => exact (hs_ HB.out)); (case aF => exact (fun k_ hk => Kd.freshB (g := gb823) (o := .cells #[.slice A822_0 ((rd_T43 l0 x8_1).f0).length c822_0, .int .i64 ((rd_T43 l0 x8_1).f1), .int .i64 ((rd_T43 l0 x8_1).f2), .string ((rd_T43 l0 x8_1).f3)] 43 (0, 0)) (pb_ BK823.out) k_ hk)); (case aO => exact (Kd.S_mono (sp_ HO_3.out) (fun k_ hk => ⟨hk.1.2, fun e_ => hk.2 e_⟩))); (case aS => exact (below_size (hs_ HB.out))); (case aL => have := LMc6.out; omega); intro v831 w10 ho hb hg hat; rw [← Ny830.out] at ho; replace BK823 := Aside0.mk (blk_grown (bq_ BK823.out) hg (Kd.S_away HO_3.out (fun _ hk => hk.1.2))); replace HB := Aside0.mk (hb); have HO832 := Aside0.mk (ho); clear HO_3 HO826; clear ho hb hg hat))
       go_roundg k1
       case measure => have := HK1.out; omega
       case rel => exact ⟨(y830), (wrap64 (x8_1 + 1)), (by first | rfl | (simp; done) | (simp [*]; done)), H', ⟨by have := HK1.out; omega⟩, ⟨by (with_reducible repeat (first | apply Kd.S_alloc | apply Kd.S_drewN | apply Kd.S_drew)); exact Kd.S_mono HO832.out (fun _ hk => trivial)⟩, ⟨by exact hs_ HB.out⟩⟩
      rw [if_neg c6] at H
      exact absurd H (by simp)
     rw [if_neg c4] at H
     exact absurd H (by simp)
    rw [if_neg c3] at H
    exact absurd H (by simp)
   rw [if_neg c2] at H
   have c2b0 : decide (x8_1 < (l0.length : Int)) = false := decide_eq_false c2
   clear c2
   obtain rfl := Option.some.inj H
   go_wp2
   go_ret
   exact ⟨_, by first | rfl | (simp [errW_none, errW_some] <;> rfl) | (simp [*, errW_none, errW_some] <;> rfl), by (with_reducible repeat (first | apply Kd.S_alloc | apply Kd.S_drewN | apply Kd.S_drew)); exact HO_3.out, by exact hs_ HB.out⟩
end Go.Proofs.Yticgekgojgkbgaa.Print
end
