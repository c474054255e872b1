import Derived.Test.YtanfohlpkppeiaaDoorMFnConfsCard1
import Derived.Laws.Cover1
section
namespace Go.Proofs.YtanfohlpkppeiaaDoor.Print
open Go.RowKit Go.Proofs.YtanfohlpkppeiaaDoorV.PrintWords Go.Proofs.YtanfohlpkppeiaaDoorV.PrintLast Go.Proofs.YtanfohlpkppeiaaDoorV.PrintMore
attribute [local go_sem] max2_int min2_int max_two min_two max_three min_three max_four min_four
set_option linter.unusedVariables false
set_option linter.unusedSimpArgs false
set_option maxHeartbeats 8000000
set_option maxRecDepth 100000
def spec_l4All.l0 : Nat → List (S37) → List (S37) → Int → Option ((List (S37)))
 | 0, _, _, _ => none
 | k + 1, x0, x3, x4 => if x4 < (x0.length : Int) then (if 0 ≤ x4 then ((spec_l4Copy.f ((rd_T37 x0 x4).f0) ((rd_T37 x0 x4).f1) ((rd_T37 x0 x4).f2) ((rd_T37 x0 x4).f3)).bind fun bt412 => (if x3.length < 2513169434916 then (spec_l4All.l0 k x0 (x3 ++ [(⟨bt412.1, bt412.2.1, bt412.2.2.1, bt412.2.2.2⟩ : S37)]) (wrap64 (x4 + 1))) else (none))) else (none)) else (some x3)
def spec_l4All.f (k : Nat) (l0 : List (S37)) : Option ((List (S37))) := spec_l4All.l0 k l0 (([] : List (S37))) 0
theorem spec_l4All.mono_l : ∀ k, (∀ y0 y1 y2, LeO (spec_l4All.l0 k y0 y1 y2) (spec_l4All.l0 (k + 1) y0 y1 y2))
 | 0 => fun _ _ _ r h => by simp [spec_l4All.l0] at h
 | k + 1 => by
  have ih0 := spec_l4All.mono_l k
  intro y0 y1 y2
  unfold spec_l4All.l0
  repeat' first
  | (with_reducible exact ih0 _ _ _)
  | (with_reducible exact LeO.refl _)
  | (with_reducible exact LeO.none _)
  | (with_reducible refine LeO.ite ?_ ?_)
  | (with_reducible refine LeO.bind ?_ (fun _ => ?_))
  | exact ih0 _ _ _
theorem spec_l4All.mono : ∀ a0 k, LeO (spec_l4All.f k a0) (spec_l4All.f (k + 1) a0) := by
 intro a0 k
 have ih0 := spec_l4All.mono_l k
 unfold spec_l4All.f
 repeat' first | (with_reducible first | exact ih0 _ _ _ | exact LeO.refl _ | exact LeO.none _ | refine LeO.ite ?_ ?_ | refine LeO.bind ?_ (fun _ => ?_)) | exact ih0 _ _ _
theorem spec_l4All.calls (k : Nat) (A0 : Option Addr) (c0 : Nat) (l0 : List (S37)) (r : List (S37)) (w : World) (hr0 : Kd.C k37 w A0 l0.length l0) (hc0 : l0.length ≤ c0) (h : spec_l4All.f k l0 = some r) :
  Calls Tryd.prog 73 #[.slice A0 l0.length c0] w fun e w' => ∃ v0_ : Value, e = .returned (v0_) ∧ Kd.S k37 37 w' w.heap.size (fun _ => True) v0_ r ∧ Below w.heap.size w w' := by
 have hu37 := Tryd.underlying37
 have HR0 := Aside0.mk hr0
 have HC0 := Aside0.mk hc0
 clear hr0 hc0
 have HB := Aside0.mk (Below.refl w.heap.size w)
 have H : (spec_l4All.l0 k l0 (([] : List (S37))) 0) = some r := h
 clear h
 obtain ⟨y408, hy408⟩ : ∃ y_ : List (S37), y_ = (([] : List (S37))) := ⟨_, rfl⟩
 replace H : (spec_l4All.l0 k l0 y408 0) = some r := by first | (rw [hy408]; with_reducible exact H) | (have H2_ := (Option.bind_some _ _).symm.trans H; rw [hy408]; with_reducible exact H2_) | (have H2_ := (Option.bind_some _ _).symm.trans H; with_reducible exact H2_) | with_reducible exact H | (rw [hy408]; exact H) | exact H
 have Ny408 := Aside0.mk hy408
 clear hy408
 have H' := Aside0.mk H
 clear H
 go_enter Tryd.func73, Tryd.ntmps73
 go_wp2_with (first | ((with_reducible refine gd_ 6 rfl ?_); refine Kd.S_lit k37 _ 37 ?hg (N := 6) ?hd (xs := ([] : List (S37))) (inner := []) (ok := fun _ => True) (okp := fun _ => True) ?hr ?hp (fun _ hk => hk) trivial (Below.refl _ _) (Nat.le_refl _) (by simp) ?_; (case hd => rfl); (case hg => rfl); (case hr => first | (go_simp; done) | (go_simp; rfl)); (case hp => exact (Reps.none _ _)); intro v409 w2 ho3 hb hg_ hnew_; clear hg_ hnew_; (first | rw [← Ny408.out] at ho3 | (simp only [Int.reduceToNat] at ho3; rw [← Ny408.out] at ho3)); have HO410 := Aside0.mk (Kd.S_lower ho3 (below_size (hs_ HB.out))); have n1_ := st_ HB hb; clear HB; have HB := n1_; clear n1_; clear hb ho3))
 go_loopg [3, 4] k (fun kq v3 v4 w' => ∃ (x3_1 : List (S37)) (x4_1 : Int), v4 = .int .i64 x4_1 ∧ Aside0 (spec_l4All.l0 kq l0 x3_1 x4_1 = some r) ∧ Aside0 (kq ≤ k) ∧ Aside0 (Kd.S k37 37 w' w.heap.size (fun _ => True) v3 x3_1) ∧ Aside0 (Below w.heap.size w w'))
 case atStart => exact ⟨(y408), (0), (by first | rfl | (simp; done) | (simp [*]; done)), H', ⟨Nat.le_refl _⟩, ⟨by (with_reducible repeat (first | apply Kd.S_alloc | apply Kd.S_drewN | apply Kd.S_drew)); exact HO410.out⟩, ⟨by exact hs_ HB.out⟩⟩
 case round =>
  clear H'
  try clear p2
  obtain ⟨x3_1, x4_1, rfl, HA, HK1, HO_3, HB⟩ := hrel
  cases gk with
  | zero => exact absurd HA.out (by simp [spec_l4All.l0])
  | succ k1 =>
   have H := HA.out
   clear HA
   simp only [spec_l4All.l0] at H
   by_cases c4 : x4_1 < (l0.length : Int)
   ·
    rw [if_pos c4] at H
    have c4b0 := decide_eq_true c4
    clear c4
    by_cases c5 : 0 ≤ x4_1
    ·
     rw [if_pos c5] at H
     have c5b0 := decide_eq_true c5
     clear c5
     replace H := Option.bind_eq_some_iff.mp H
     obtain ⟨⟨t412, t415, t416, t417⟩, A60, H⟩ := H
     have A6 := Aside0.mk A60
     clear A60
     by_cases c7 : x3_1.length < 2513169434916
     ·
      rw [if_pos c7] at H
      have LMc7 := Aside0.mk c7
      clear c7
      obtain ⟨y419, hy419⟩ : ∃ y_ : List (S37), y_ = (x3_1 ++ [(⟨t412, t415, t416, t417⟩ : S37)]) := ⟨_, rfl⟩
      replace H : (spec_l4All.l0 k1 l0 y419 (wrap64 (x4_1 + 1))) = some r := by first | (rw [hy419]; with_reducible exact H) | (have H2_ := (Option.bind_some _ _).symm.trans H; rw [hy419]; with_reducible exact H2_) | (have H2_ := (Option.bind_some _ _).symm.trans H; with_reducible exact H2_) | with_reducible exact H | (rw [hy419]; exact H) | exact H
      have Ny419 := Aside0.mk hy419
      clear hy419
      have H' := Aside0.mk H
      clear H
      have p411 : 0 ≤ (x4_1 : Int) := of_decide_eq_true (by with_reducible assumption)
      have q411 : x4_1 < (l0.length : Int) := of_decide_eq_true (by with_reducible assumption)
      obtain ⟨ad411, A411_0, c411_0, e411, hx411_0, hx411_1, hx411_2, hx411_3, hl411_0, hi411_0⟩ := at_T37 HR0.out x4_1 p411 q411
      cases e411
      replace hx411_0 := cl_ HB.out hx411_0
      replace hx411_1 := cl_ HB.out hx411_1
      replace hx411_2 := cl_ HB.out hx411_2
      replace hx411_3 := cl_ HB.out hx411_3
      have HR411_0 := Aside0.mk hi411_0
      have HC411_0 := Aside0.mk hl411_0
      clear hi411_0 hl411_0
      replace p411 := eq_true p411
      replace q411 := eq_true q411
      go_wp2_with (first | ((with_reducible refine gate_callee (f := 71) rfl ?_); refine gl_ (some 17) Tryd.func71 #[.agg #[.slice A411_0 ((rd_T37 l0 x4_1).f0).length c411_0, .int .i64 ((rd_T37 l0 x4_1).f1), .int .i64 ((rd_T37 l0 x4_1).f2), .string ((rd_T37 l0 x4_1).f3)]] ?_; (with_reducible refine (spec_l4Copy.calls _ _ ((rd_T37 l0 x4_1).f0) ((rd_T37 l0 x4_1).f1) ((rd_T37 l0 x4_1).f2) ((rd_T37 l0 x4_1).f3) t412 t415 t416 t417 _ ?side1 ?side2 A6.out).mono ?_); (case side1 => exact cp_ ((Kd.C_below HR411_0.out HB.out))); (case side2 => exact HC411_0.out); rintro e w8 ⟨v413, rfl, ho0, hb⟩; refine ⟨_, rfl, ?_⟩; replace HO_3 := Aside0.mk (Kd.S_elder' (sp_ HO_3.out) (Kd.R_base ho0) hb); have HO414 := Aside0.mk (Kd.R_lower ho0 (below_size (hs_ HB.out))); replace HB := st_ HB hb; (try clear hb); (try clear hk); (try clear ho0)) | ((with_reducible refine gd_ 5 rfl ?_); refine bv_ 5 #[.slice none 0 0, .int .i64 0, .int .i64 0, .string (⟨#[]⟩ : ByteArray)] 37 ?_; intro gb418 hg w9 hbox hb; replace HO_3 := Aside0.mk (Kd.S_below (Kd.S_elderB (sp_ HO_3.out) gb418 (Nat.le_of_eq hg.symm)) hb); replace HO414 := rb_ HO414 hb; have BK418 := Aside0.mk (hbox); have GW418 := Ge_.mk ((gw_ hg (hs_ HB.out))); replace HB := st_ HB hb; have GE418 := Ge_.mk GW418.out; clear hb hbox hg; obtain ⟨Ao10, co10, eo10⟩ := Kd.R_slice HO414.out; subst eo10; obtain ⟨z11_0, z11_1, z11_2, z11_3, y11_0, y11_1, y11_2, y11_3⟩ := bc4_ BK418.out) | ((with_reducible refine gate_store (t := 37) (p := 5) rfl ?_); refine store_event (t := 37) (p := 5) (v := ?vo_w12) (w1 := ((((w9.setCell ⟨gb418, 0, none⟩ (.slice Ao10 t412.length co10)).setCell ⟨gb418, 1, none⟩ (.int .i64 t415)).setCell ⟨gb418, 2, none⟩ (.int .i64 t416)).setCell ⟨gb418, 3, none⟩ (.string t417))) ?hg ?ho ?hn ?hr ?_; (case ho => rfl); (case hg => rfl); (case hn => rfl); (case hr => first | (go_simp; done) | (go_simp; rfl)); intro w12 hw; replace HO_3 : Aside0 (Kd.S k37 37 w12 w.heap.size (fun k_ => some k_ ≠ (.slice Ao10 t412.length co10 : Value).ownBlock ∧ k_ ≠ gb418) u3 x3_1) := ⟨(by rw [hw]; exact (Kd.S_mono (sf_ gb418 (Kd.S_mono HO_3.out (fun k_ hk => (⟨hk, hk.2⟩ : _ ∧ k_ ≠ gb418))) (fun _ hk => hk.2)) (fun _ hk => ⟨hk.1.1.2, hk.1.2⟩)))⟩; replace HO414 : Aside0 (Kd.R k83 83 w12 w.heap.size (fun _ => True) (.slice Ao10 t412.length co10) t412) := ⟨(by rw [hw]; exact (Kd.R_mono (rf_ gb418 (Kd.R_types HO414.out BK418.out (by decide)) (fun _ hk => hk.2)) (fun _ hk => trivial)))⟩; replace BK418 : Aside0 (w12.heap[gb418]? = some (.cells #[.slice Ao10 t412.length co10, .int .i64 t415, .int .i64 t416, .string t417] 37 (0, 0))) := ⟨(by rw [hw]; exact (bp_ BK418.out))⟩; replace HB : Aside0 (Below w.heap.size w w12) := ⟨(by rw [hw]; exact (hs_ HB.out))⟩; clear hw; obtain ⟨z13_0, z13_1, z13_2, z13_3, y13_0, y13_1, y13_2, y13_3⟩ := bc4_ BK418.out) | ((with_reducible refine gate_builtin (b := .append) (xs := #[.tmp 18, .tmp 20]) rfl ?_); at_builtin; refine Kd.S_append k37 (w0 := w) w.heap.size rfl (.tmp 18) (.tmp 20) 31 37 (.agg #[(.slice none 0 0), (.int .i64 0), (.int .i64 0), (.string ⟨#[]⟩)]) 56 rfl Tryd.underlying31 info37 rfl (by decide) (by omega) u3 x3_1 (⟨t412, t415, t416, t417⟩ : S37) [.slice Ao10 t412.length co10, .int .i64 t415, .int .i64 t416, .string t417] (fun k_ => k_ ≠ gb418) (fun k_ => some k_ = (.slice Ao10 t412.length co10 : Value).ownBlock) rfl rfl ?aP (fun k_ hk_ => ((Kd.R_mono (ok' := fun k_ => ((fun k_ => k_ ≠ gb418)) k_ ∧ some k_ ≠ (u3 : Value).ownBlock) (Kd.R_types (Kd.R_apart' (HO414.out) (Kd.S_typed HO_3.out) (by decide)) BK418.out (by decide)) (fun k_ hk => ⟨hk.2, hk.1.2⟩))).1 k_ hk_.symm) ?aF ?aO ?aB ?aS ?aL ?_; (case aP => exact k37_mkM _ _ _ (⟨t412, t415, t416, t417⟩ : S37) (Kd.R_mono (Kd.R_tight rfl (Kd.R_mono (ok' := fun k_ => ((fun k_ => k_ ≠ gb418)) k_ ∧ some k_ ≠ (u3 : Value).ownBlock) (Kd.R_types (Kd.R_apart' (HO414.out) (Kd.S_typed HO_3.out) (by decide)) BK418.out (by decide)) (fun k_ hk => ⟨hk.2, hk.1.2⟩))) (fun _ h_ => h_))); (case aB => exact (hs_ HB.out)); (case aF => exact (fun k_ hk => Kd.freshB (g := gb418) (o := .cells #[.slice Ao10 t412.length co10, .int .i64 t415, .int .i64 t416, .string t417] 37 (0, 0)) (pb_ BK418.out) k_ hk)); (case aO => exact (Kd.S_mono (sp_ HO_3.out) (fun k_ hk => ⟨hk.2, fun e_ => hk.1 e_⟩))); (case aS => exact (below_size (hs_ HB.out))); (case aL => have := LMc7.out; omega); intro v420 w14 ho hb hg hat; rw [← Ny419.out] at ho; replace BK418 := Aside0.mk (blk_grown (bq_ BK418.out) hg (Kd.S_away HO_3.out (fun _ hk => hk.2))); replace HB := Aside0.mk (hb); have HO421 := Aside0.mk (ho); clear HO_3 HO414; clear ho hb hg hat))
      go_roundg k1
      case measure => have := HK1.out; omega
      case rel => exact ⟨(y419), (wrap64 (x4_1 + 1)), (by first | rfl | (simp; done) | (simp [*]; done)), H', ⟨by have := HK1.out; omega⟩, ⟨by (with_reducible repeat (first | apply Kd.S_alloc | apply Kd.S_drewN | apply Kd.S_drew)); exact Kd.S_mono HO421.out (fun _ hk => trivial)⟩, ⟨by exact hs_ HB.out⟩⟩
     rw [if_neg c7] at H
     exact absurd H (by simp)
    rw [if_neg c5] at H
    exact absurd H (by simp)
   rw [if_neg c4] at H
   have c4b0 : decide (x4_1 < (l0.length : Int)) = false := decide_eq_false c4
   clear c4
   obtain rfl := Option.some.inj H
   go_wp2
   go_ret
   exact ⟨_, by first | rfl | (simp [errW_none, errW_some] <;> rfl) | (simp [*, errW_none, errW_some] <;> rfl), by (with_reducible repeat (first | apply Kd.S_alloc | apply Kd.S_drewN | apply Kd.S_drew)); exact HO_3.out, by exact hs_ HB.out⟩
def spec_l11Copy.f (k : Nat) (a0_0 : Int) (l0_1 : List (S83)) (a0_2 : Int) (a0_3 : Int) (l0_4 : List (S37)) : Option (Int × (List (S83)) × Int × Int × (List (S37))) := (some (([] : List (S83)) : List (S83))).bind fun y424 => (if y424.length + l0_1.length < 4398046511104 then ((spec_l4All.f k l0_4).bind fun t430 => (some (a0_0, (y424 ++ l0_1), a0_2, a0_3, t430))) else (none))
theorem spec_l11Copy.mono : ∀ a0 a1 a2 a3 a4 k, LeO (spec_l11Copy.f k a0 a1 a2 a3 a4) (spec_l11Copy.f (k + 1) a0 a1 a2 a3 a4) := by
 intro a0 a1 a2 a3 a4 k
 unfold spec_l11Copy.f
 repeat' first | (with_reducible first | exact spec_l4All.mono _ _ | exact LeO.refl _ | exact LeO.none _ | refine LeO.ite ?_ ?_ | refine LeO.bind ?_ (fun _ => ?_)) | exact spec_l4All.mono _ _
theorem spec_l11Copy.calls (k : Nat) (a0_0 : Int) (A0_1 : Option Addr) (c0_1 : Nat) (l0_1 : List (S83)) (a0_2 : Int) (a0_3 : Int) (A0_4 : Option Addr) (c0_4 : Nat) (l0_4 : List (S37)) (r1 : Int) (r2 : List (S83)) (r3 : Int) (r4 : Int) (r5 : List (S37)) (w : World) (hr0_1 : Kd.C k83 w A0_1 l0_1.length l0_1) (hc0_1 : l0_1.length ≤ c0_1) (hr0_4 : Kd.C k37 w A0_4 l0_4.length l0_4) (hc0_4 : l0_4.length ≤ c0_4) (h : spec_l11Copy.f k a0_0 l0_1 a0_2 a0_3 l0_4 = some (r1, r2, r3, r4, r5)) :
  Calls Tryd.prog 70 #[.agg #[.int .i64 a0_0, .slice A0_1 l0_1.length c0_1, .int .i64 a0_2, .int .i64 a0_3, .slice A0_4 l0_4.length c0_4]] w fun e w' => ∃ v1_ v4_ : Value, e = .returned (.agg #[.int .i64 r1, v1_, .int .i64 r3, .int .i64 r4, v4_]) ∧ Kd.R k83 83 w' w.heap.size (fun _ => True) v1_ r2 ∧ Kd.S k37 37 w' w.heap.size (fun k_ => some k_ ≠ (v1_ : Value).ownBlock) v4_ r5 ∧ Below w.heap.size w w' := by
 have hu33 := Tryd.underlying33
 have HR0_1 := Aside0.mk hr0_1
 have HC0_1 := Aside0.mk hc0_1
 clear hr0_1 hc0_1
 have HR0_4 := Aside0.mk hr0_4
 have HC0_4 := Aside0.mk hc0_4
 clear hr0_4 hc0_4
 have HB := Aside0.mk (Below.refl w.heap.size w)
 have H : ((some (([] : List (S83)) : List (S83))).bind fun y424 => (if y424.length + l0_1.length < 4398046511104 then ((spec_l4All.f k l0_4).bind fun t430 => (some (a0_0, (y424 ++ l0_1), a0_2, a0_3, t430))) else (none))) = some (r1, r2, r3, r4, r5) := h
 clear h
 obtain ⟨y424, hy424⟩ : ∃ y_ : List (S83), y_ = (([] : List (S83))) := ⟨_, rfl⟩
 replace H : (if y424.length + l0_1.length < 4398046511104 then ((spec_l4All.f k l0_4).bind fun t430 => (some (a0_0, (y424 ++ l0_1), a0_2, a0_3, t430))) else (none)) = some (r1, r2, r3, r4, r5) := by first | (rw [hy424]; with_reducible exact H) | (have H2_ := (Option.bind_some _ _).symm.trans H; rw [hy424]; with_reducible exact H2_) | (have H2_ := (Option.bind_some _ _).symm.trans H; with_reducible exact H2_) | with_reducible exact H | (rw [hy424]; exact H) | exact H
 have Ny424 := Aside0.mk hy424
 clear hy424
 by_cases c2 : y424.length + l0_1.length < 4398046511104
 ·
  rw [if_pos c2] at H
  have LMc2 := Aside0.mk c2
  clear c2
  obtain ⟨y427, hy427⟩ : ∃ y_ : List (S83), y_ = (y424 ++ l0_1) := ⟨_, rfl⟩
  replace H : ((spec_l4All.f k l0_4).bind fun t430 => (some (a0_0, y427, a0_2, a0_3, t430))) = some (r1, r2, r3, r4, r5) := by first | (rw [hy427]; with_reducible exact H) | (have H2_ := (Option.bind_some _ _).symm.trans H; rw [hy427]; with_reducible exact H2_) | (have H2_ := (Option.bind_some _ _).symm.trans H; with_reducible exact H2_) | with_reducible exact H | (rw [hy427]; exact H) | exact H
  have Ny427 := Aside0.mk hy427
  clear hy427
  replace H := Option.bind_eq_some_iff.mp H
  obtain ⟨t430, A30, H⟩ := H
  have A3 := Aside0.mk A30
  clear A30
  simp only [Option.some.injEq, Prod.mk.injEq] at H
  obtain ⟨rfl, rfl, rfl, rfl, rfl⟩ := H
  go_enter Tryd.func70, Tryd.ntmps70
  go_wp2_with (first | ((with_reducible refine gd_ 1 rfl ?_); refine bv_ 1 #[.int .i64 a0_0, .slice A0_1 l0_1.length c0_1, .int .i64 a0_2, .int .i64 a0_3, .slice A0_4 l0_4.length c0_4] 33 ?_; intro gb422 hg w4 hbox hb; have BK422 := Aside0.mk (hbox); have GW422 := Ge_.mk ((gw_ hg (hs_ HB.out))); replace HB := st_ HB hb; have GE422 := Ge_.mk GW422.out; clear hb hbox hg) | ((with_reducible refine gd_ 2 rfl ?_); refine bv_ 2 #[.int .i64 0, .slice none 0 0, .int .i64 0, .int .i64 0, .slice none 0 0] 33 ?_; intro gb423 hg w5 hbox hb; have BK423 := Aside0.mk (hbox); have GW423 := Ge_.mk ((gw_ hg (hs_ HB.out))); replace HB := st_ HB hb; have GE423 := Ge_.mk GW423.out; have NB422_423 := nk_ BK422 hg; replace BK422 := bk2_ BK422 hb; have NB423_422 := ns_ NB422_423; clear hb hbox hg) | ((with_reducible refine gd_ 3 rfl ?_); refine Kd.R_lit k83 _ 83 ?hg (N := 3) ?hd (xs := ([] : List (S83))) (inner := []) (ok := fun _ => True) (okp := fun _ => True) ?hr ?hp (fun _ hk => hk) trivial (Below.refl _ _) (Nat.le_refl _) (by simp) ?_; (case hd => rfl); (case hg => rfl); (case hr => first | (go_simp; done) | (go_simp; rfl)); (case hp => exact (Reps.none _ _)); intro v425 w6 ho7 hb hg_ hnew_; clear hg_ hnew_; (first | rw [← Ny424.out] at ho7 | (simp only [Int.reduceToNat] at ho7; rw [← Ny424.out] at ho7)); have HO426 := Aside0.mk (Kd.R_lower ho7 (below_size (hs_ HB.out))); replace BK422 := bk2_ BK422 hb; replace BK423 := bk2_ BK423 hb; replace HB := st_ HB hb; clear hb ho7; have hnb8 := NB422_423.out; have hnc8 := NB423_422.out; obtain ⟨z9_0, z9_1, z9_2, z9_3, z9_4, y9_0, y9_1, y9_2, y9_3, y9_4⟩ := bc5_ BK422.out) | ((with_reducible refine gate_builtin (b := .append) (xs := #[.tmp 3, .tmp 5]) rfl ?_); at_builtin; refine Kd.R_append_rows k83 (w0 := w) w.heap.size rfl (.tmp 3) (.tmp 5) 30 83 (.agg #[(.string ⟨#[]⟩), (.string ⟨#[]⟩)]) 32 rfl Tryd.underlying30 info83 rfl (by decide) (by omega) v425 y424 l0_1 _ _ _ (fun _ => True) (fun _ => False) rfl rfl ?aO ?aR (fun _ _ h => h) (fun _ h => h.elim) ?aF ?aB ?aS ?aL ?_; (case aR => repeat (first | exact (Kd.C_below HR0_1.out HB.out) | (with_reducible first | refine ca_ ?_ _ | refine cn_ ?_ _ | refine cd_ ?_))); (case aB => exact (hs_ HB.out)); (case aF => exact (fun _ _ => trivial)); (case aO => exact (rp_ HO426.out)); (case aS => exact (below_size (hs_ HB.out))); (case aL => have := LMc2.out; omega); intro v428 w10 ho hb hg hat; rw [← Ny427.out] at ho; replace BK422 := Aside0.mk (blk_grown (bq_ BK422.out) hg (Kd.R_ne HO426.out BK422.out (by decide))); replace BK423 := Aside0.mk (blk_grown (bq_ BK423.out) hg (Kd.R_ne HO426.out BK423.out (by decide))); replace HB := Aside0.mk (hb); have HO429 := Aside0.mk (ho); clear HO426; clear ho hb hg hat; obtain ⟨Ao11, co11, eo11⟩ := Kd.R_slice HO429.out; subst eo11; obtain ⟨z12_0, z12_1, z12_2, z12_3, z12_4, y12_0, y12_1, y12_2, y12_3, y12_4⟩ := bc5_ BK422.out) | ((with_reducible refine gate_callee (f := 73) rfl ?_); refine gl_ (some 10) Tryd.func73 #[.slice A0_4 l0_4.length c0_4] ?_; (with_reducible refine (spec_l4All.calls k _ _ l0_4 t430 _ ?side1 ?side2 A3.out).mono ?_); (case side1 => exact Kd.C_below HR0_4.out (hs_ HB.out)); (case side2 => exact HC0_4.out); rintro e w13 ⟨v431, rfl, ho0, hb⟩; refine ⟨_, rfl, ?_⟩; have HO432 := Aside0.mk (Kd.S_lower (Kd.S_new' ho0 (Kd.R_lt (by (with_reducible repeat (first | apply Kd.R_alloc | apply Kd.R_drewN | apply Kd.R_drew)); exact (Kd.R_mono (rf_ gb422 (Kd.R_types HO429.out BK422.out (by decide)) (fun _ hk => hk.2)) (fun _ h_ => h_.1))))) (below_size (hs_ HB.out))); replace HO429 := Aside0.mk (Kd.R_below (by (with_reducible repeat (first | apply Kd.R_alloc | apply Kd.R_drewN | apply Kd.R_drew)); exact (Kd.R_mono (rf_ gb422 (Kd.R_types HO429.out BK422.out (by decide)) (fun _ hk => hk.2)) (fun _ h_ => h_.1))) hb); replace BK422 := Aside0.mk (blk_below (g := gb422) (o := .cells #[.int .i64 a0_0, .slice Ao11 y427.length co11, .int .i64 a0_2, .int .i64 a0_3, .slice A0_4 l0_4.length c0_4] 33 (0, 0)) (bp_ BK422.out) hb); replace BK423 := bk2_ BK423 hb; replace HB := st_ HB hb; (try clear hb); (try clear hk); (try clear ho0); obtain ⟨Ao14, co14, eo14⟩ := Kd.S_slice HO432.out; subst eo14; obtain ⟨z15_0, z15_1, z15_2, z15_3, z15_4, y15_0, y15_1, y15_2, y15_3, y15_4⟩ := bc5_ BK422.out; obtain ⟨z16_0, z16_1, z16_2, z16_3, z16_4, y16_0, y16_1, y16_2, y16_3, y16_4⟩ := bc5_ BK423.out))
  refine bodyPost_ret (results_cell_row rfl _ _ gb423 33 #[.int .i64 a0_0, .slice Ao11 y427.length co11, .int .i64 a0_2, .int .i64 a0_3, .slice Ao14 t430.length co14] (0, 0) _ rfl (bp_ BK423.out) Tryd.underlying33 rfl (by kernel_rfl)) rfl ?_
  exact ⟨_, _, by first | rfl | (simp [errW_none, errW_some] <;> rfl) | (simp [*, errW_none, errW_some] <;> rfl), by (with_reducible repeat (first | apply Kd.R_alloc | apply Kd.R_drewN | apply Kd.R_drew)); exact Kd.R_mono (rf_ gb423 (Kd.R_far (p := ⟨gb422, 4, none⟩) (Kd.R_types (Kd.R_types HO429.out BK422.out (by decide)) BK423.out (by decide)) (fun _ hk => hk.1.2) (.slice Ao14 t430.length co14)) (fun _ hk => hk.2)) (fun _ hk => trivial), by (with_reducible repeat (first | apply Kd.S_alloc | apply Kd.S_drewN | apply Kd.S_drew)); exact Kd.S_mono (sf_ gb423 (Kd.S_far (p := ⟨gb422, 4, none⟩) (Kd.S_types (Kd.S_types HO432.out BK422.out (by decide)) BK423.out (by decide)) (fun _ hk => hk.1.2) (.slice Ao14 t430.length co14)) (fun _ hk => hk.2)) (fun _ hk => hk.1.1.2), by exact hs_ HB.out⟩
 rw [if_neg c2] at H
 exact absurd H (by simp)
def spec_Less.f (a0 : ByteArray) (a1 : ByteArray) : Option (Bool) := some (Op.bytesLess a0.toList a1.toList)
theorem spec_Less.calls (a0 : ByteArray) (a1 : ByteArray) (r : Bool) (w : World) (h : spec_Less.f a0 a1 = some r) :
  Calls Tryd.prog 76 #[.string a0, .string a1] w fun e w' => e = .returned (.bool r) ∧ Drawn0 w w' := by
 have H : (some (Op.bytesLess a0.toList a1.toList)) = some r := h
 clear h
 obtain rfl := Option.some.inj H
 go_enter Tryd.func76, Tryd.ntmps76
 go_wp2
 go_ret
 exact ⟨by first | rfl | (simp; done) | (simp [*]; done), by repeat (first | exact Drawn0.refl _ | apply Drawn0.step)⟩
mutual
def spec_SetLess.l0 : Nat → List (S83) → List (S83) → Int → Option (Bool)
 | 0, _, _, _ => none
 | k + 1, x0, x1, x5 => if x5 < (x0.length : Int) then (spec_SetLess.j1 k x0 x1 x5 (decide (x5 < (x1.length : Int)))) else (spec_SetLess.j1 k x0 x1 x5 false)
def spec_SetLess.j1 : Nat → List (S83) → List (S83) → Int → Bool → Option (Bool)
 | 0, _, _, _, _ => none
 | k + 1, x0, x1, x5, x15 => if x15 = true then (if 0 ≤ x5 then (if x5 < (x0.length : Int) then (if x5 < (x1.length : Int) then (if ((rd_T83 x0 x5).f0).toList = ((rd_T83 x1 x5).f0).toList then (if ((rd_T83 x0 x5).f1).toList = ((rd_T83 x1 x5).f1).toList then (spec_SetLess.l0 k x0 x1 (wrap64 (x5 + 1))) else ((spec_Less.f ((rd_T83 x0 x5).f1) ((rd_T83 x1 x5).f1)).bind fun t439 => (some t439))) else ((spec_Less.f ((rd_T83 x0 x5).f0) ((rd_T83 x1 x5).f0)).bind fun t442 => (some t442))) else (none)) else (none)) else (none)) else (some (decide ((x0.length : Int) < (x1.length : Int))))
end
def spec_SetLess.f (k : Nat) (l0 : List (S83)) (l1 : List (S83)) : Option (Bool) := spec_SetLess.l0 k l0 l1 0
theorem spec_SetLess.mono_l : ∀ k, (∀ y0 y1 y2, LeO (spec_SetLess.l0 k y0 y1 y2) (spec_SetLess.l0 (k + 1) y0 y1 y2)) ∧ (∀ y0 y1 y2 y3, LeO (spec_SetLess.j1 k y0 y1 y2 y3) (spec_SetLess.j1 (k + 1) y0 y1 y2 y3))
 | 0 => ⟨fun _ _ _ r h => by simp [spec_SetLess.l0] at h, fun _ _ _ _ r h => by simp [spec_SetLess.j1] at h⟩
 | k + 1 => by
  obtain ⟨ih0, ih1⟩ := spec_SetLess.mono_l k
  refine ⟨?_, ?_⟩
  ·
   intro y0 y1 y2
   unfold spec_SetLess.l0
   repeat' first
   | (with_reducible exact ih0 _ _ _)
   | (with_reducible exact ih1 _ _ _ _)
   | (with_reducible exact LeO.refl _)
   | (with_reducible exact LeO.none _)
   | (with_reducible refine LeO.ite ?_ ?_)
   | (with_reducible refine LeO.bind ?_ (fun _ => ?_))
   | exact ih0 _ _ _
   | exact ih1 _ _ _ _
  intro y0 y1 y2 y3
  unfold spec_SetLess.j1
  repeat' first
  | (with_reducible exact ih0 _ _ _)
  | (with_reducible exact ih1 _ _ _ _)
  | (with_reducible exact LeO.refl _)
  | (with_reducible exact LeO.none _)
  | (with_reducible refine LeO.ite ?_ ?_)
  | (with_reducible refine LeO.bind ?_ (fun _ => ?_))
  | exact ih0 _ _ _
  | exact ih1 _ _ _ _
theorem spec_SetLess.mono : ∀ a0 a1 k, LeO (spec_SetLess.f k a0 a1) (spec_SetLess.f (k + 1) a0 a1) := by
 intro a0 a1 k
 obtain ⟨ih0, ih1⟩ := spec_SetLess.mono_l k
 unfold spec_SetLess.f
 repeat' first | (with_reducible first | exact ih0 _ _ _ | exact ih1 _ _ _ _ | exact LeO.refl _ | exact LeO.none _ | refine LeO.ite ?_ ?_ | refine LeO.bind ?_ (fun _ => ?_)) | exact ih0 _ _ _ | exact ih1 _ _ _ _
theorem spec_SetLess.calls (k : Nat) (A0 : Option Addr) (c0 : Nat) (l0 : List (S83)) (A1 : Option Addr) (c1 : Nat) (l1 : List (S83)) (r : Bool) (w : World) (hr0 : Kd.C k83 w A0 l0.length l0) (hc0 : l0.length ≤ c0) (hr1 : Kd.C k83 w A1 l1.length l1) (hc1 : l1.length ≤ c1) (h : spec_SetLess.f k l0 l1 = some r) :
  Calls Tryd.prog 72 #[.slice A0 l0.length c0, .slice A1 l1.length c1] w fun e w' => e = .returned (.bool r) ∧ Drawn0 w w' := by
 have HR0 := Aside0.mk hr0
 have HC0 := Aside0.mk hc0
 clear hr0 hc0
 have HR1 := Aside0.mk hr1
 have HC1 := Aside0.mk hc1
 clear hr1 hc1
 have H : (spec_SetLess.l0 k l0 l1 0) = some r := h
 clear h
 have H' := Aside0.mk H
 clear H
 go_enter Tryd.func72, Tryd.ntmps72
 go_wp2
 repeat (go_quiet (fail); try go_wp2)
 go_loopg [5] k (fun kq v5 w' => ∃ (x5_1 : Int), v5 = .int .i64 x5_1 ∧ Aside0 (spec_SetLess.l0 kq l0 l1 x5_1 = some r) ∧ Aside0 (kq ≤ k) ∧ Drawn0 w w')
 case atStart => exact ⟨(0), (by first | rfl | (simp; done) | (simp [*]; done)), H', ⟨Nat.le_refl _⟩, by repeat (first | exact Drawn0.refl _ | apply Drawn0.step)⟩
 case round =>
  clear H'
  try clear c1
  try clear p2
  obtain ⟨x5_1, rfl, HA, HK1, ⟨m1, rfl⟩⟩ := hrel
  cases gk with
  | zero => exact absurd HA.out (by simp [spec_SetLess.l0])
  | succ k1 =>
   have H := HA.out
   clear HA
   simp only [spec_SetLess.l0] at H
   have HC3 := Aside0.mk H
   clear H
   go_upto_region 2 with (fail)
   repeat (go_quiet (fail); go_upto_region 2 with (fail))
   go_cut [15] (fun v15 wc => ∃ (kq : Nat) (x15_2 : Bool), v15 = .bool x15_2 ∧ Aside0 (spec_SetLess.j1 kq l0 l1 x5_1 x15_2 = some r) ∧ Aside0 (kq ≤ k1) ∧ Drawn0 w wc)
   case first =>
    have H := HC3.out
    clear HC3
    by_cases c4 : x5_1 < (l0.length : Int)
    ·
     rw [if_pos c4] at H
     have c4b0 := decide_eq_true c4
     clear c4
     (first | rw [c4b0] | (simp only [i64_w, i32_w]; rw [c4b0]) | skip)
     have H' := Aside0.mk H
     clear H
     go_wp2
     repeat (go_quiet (fail); try go_wp2)
     go_meet
     case rel => exact ⟨_, (decide (x5_1 < (l1.length : Int))), (by first | rfl | (simp; done) | (simp [*]; done)), H', ⟨by have := HK1.out; first | omega | exact Nat.le_refl _⟩, by repeat (first | exact Drawn0.refl _ | apply Drawn0.step)⟩
    rw [if_neg c4] at H
    have c4b0 : decide (x5_1 < (l0.length : Int)) = false := decide_eq_false c4
    clear c4
    (first | rw [c4b0] | (simp only [i64_w, i32_w]; rw [c4b0]) | skip)
    have H' := Aside0.mk H
    clear H
    go_wp2
    repeat (go_quiet (fail); try go_wp2)
    go_meet
    case rel => exact ⟨_, (false), (by first | rfl | (simp; done) | (simp [*]; done)), H', ⟨by have := HK1.out; first | omega | exact Nat.le_refl _⟩, by repeat (first | exact Drawn0.refl _ | apply Drawn0.step)⟩
   case rest =>
    clear HC3
    try clear c1
    try clear p2
    try clear c4
    try clear c4b0
    try clear p2
    obtain ⟨kq, x15_2, rfl, HA, HJ2, ⟨mc2, rfl⟩⟩ := hcut
    cases kq with
    | zero => exact absurd HA.out (by simp [spec_SetLess.j1])
    | succ kj2 =>
     have H := HA.out
     clear HA
     simp only [spec_SetLess.j1] at H
     by_cases c5 : x15_2 = true
     ·
      subst c5
      rw [if_pos rfl] at H
      by_cases c6 : 0 ≤ x5_1
      ·
       rw [if_pos c6] at H
       have c6b0 := decide_eq_true c6
       clear c6
       by_cases c7 : x5_1 < (l0.length : Int)
       ·
        rw [if_pos c7] at H
        have c7b0 := decide_eq_true c7
        clear c7
        by_cases c8 : x5_1 < (l1.length : Int)
        ·
         rw [if_pos c8] at H
         have c8b0 := decide_eq_true c8
         clear c8
         by_cases c9 : ((rd_T83 l0 x5_1).f0).toList = ((rd_T83 l1 x5_1).f0).toList
         ·
          rw [if_pos c9] at H
          have c9b0 : (((rd_T83 l0 x5_1).f0).toList == ((rd_T83 l1 x5_1).f0).toList) = true := beq_iff_eq.mpr c9
          have c9b1 : (((rd_T83 l0 x5_1).f0).toList != ((rd_T83 l1 x5_1).f0).toList) = false := bne_eq_false_iff_eq.mpr c9
          clear c9
          by_cases c10 : ((rd_T83 l0 x5_1).f1).toList = ((rd_T83 l1 x5_1).f1).toList
          ·
           rw [if_pos c10] at H
           have c10b0 : (((rd_T83 l0 x5_1).f1).toList == ((rd_T83 l1 x5_1).f1).toList) = true := beq_iff_eq.mpr c10
           have c10b1 : (((rd_T83 l0 x5_1).f1).toList != ((rd_T83 l1 x5_1).f1).toList) = false := bne_eq_false_iff_eq.mpr c10
           clear c10
           have H' := Aside0.mk H
           clear H
           have p433 : 0 ≤ (x5_1 : Int) := of_decide_eq_true (by with_reducible assumption)
           have q433 : x5_1 < (l0.length : Int) := of_decide_eq_true (by with_reducible assumption)
           obtain ⟨ad433, e433, hx433_0, hx433_1⟩ := at_T83 HR0.out x5_1 p433 q433
           cases e433
           replace p433 := eq_true p433
           replace q433 := eq_true q433
           have p434 : 0 ≤ (x5_1 : Int) := of_decide_eq_true (by with_reducible assumption)
           have q434 : x5_1 < (l1.length : Int) := of_decide_eq_true (by with_reducible assumption)
           obtain ⟨ad434, e434, hx434_0, hx434_1⟩ := at_T83 HR1.out x5_1 p434 q434
           cases e434
           replace p434 := eq_true p434
           replace q434 := eq_true q434
           have p435 : 0 ≤ (x5_1 : Int) := of_decide_eq_true (by with_reducible assumption)
           have q435 : x5_1 < (l0.length : Int) := of_decide_eq_true (by with_reducible assumption)
           obtain ⟨ad435, e435, hx435_0, hx435_1⟩ := at_T83 HR0.out x5_1 p435 q435
           obtain rfl : ad433 = ad435 := (by injection e435)
           replace p435 := eq_true p435
           replace q435 := eq_true q435
           have p436 : 0 ≤ (x5_1 : Int) := of_decide_eq_true (by with_reducible assumption)
           have q436 : x5_1 < (l1.length : Int) := of_decide_eq_true (by with_reducible assumption)
           obtain ⟨ad436, e436, hx436_0, hx436_1⟩ := at_T83 HR1.out x5_1 p436 q436
           obtain rfl : ad434 = ad436 := (by injection e436)
           replace p436 := eq_true p436
           replace q436 := eq_true q436
           go_wp2
           repeat (go_quiet (fail); try go_wp2)
           go_roundg kj2
           case measure => have := HK1.out; have := HJ2.out; omega
           case rel => exact ⟨(wrap64 (x5_1 + 1)), (by first | rfl | (simp; done) | (simp [*]; done)), H', ⟨by have := HK1.out; have := HJ2.out; omega⟩, by repeat (first | exact Drawn0.refl _ | apply Drawn0.step)⟩
          rw [if_neg c10] at H
          have c10b0 : (((rd_T83 l0 x5_1).f1).toList == ((rd_T83 l1 x5_1).f1).toList) = false := beq_eq_false_iff_ne.mpr c10
          have c10b1 : (((rd_T83 l0 x5_1).f1).toList != ((rd_T83 l1 x5_1).f1).toList) = true := bne_iff_ne.mpr c10
          replace H := Option.bind_eq_some_iff.mp H
          obtain ⟨t439, A110, H⟩ := H
          have A11 := Aside0.mk A110
          clear A110
          obtain rfl := Option.some.inj H
          have p433 : 0 ≤ (x5_1 : Int) := of_decide_eq_true (by with_reducible assumption)
          have q433 : x5_1 < (l0.length : Int) := of_decide_eq_true (by with_reducible assumption)
          obtain ⟨ad433, e433, hx433_0, hx433_1⟩ := at_T83 HR0.out x5_1 p433 q433
          cases e433
          replace p433 := eq_true p433
          replace q433 := eq_true q433
          have p434 : 0 ≤ (x5_1 : Int) := of_decide_eq_true (by with_reducible assumption)
          have q434 : x5_1 < (l1.length : Int) := of_decide_eq_true (by with_reducible assumption)
          obtain ⟨ad434, e434, hx434_0, hx434_1⟩ := at_T83 HR1.out x5_1 p434 q434
          cases e434
          replace p434 := eq_true p434
          replace q434 := eq_true q434
          have p435 : 0 ≤ (x5_1 : Int) := of_decide_eq_true (by with_reducible assumption)
          have q435 : x5_1 < (l0.length : Int) := of_decide_eq_true (by with_reducible assumption)
          obtain ⟨ad435, e435, hx435_0, hx435_1⟩ := at_T83 HR0.out x5_1 p435 q435
          obtain rfl : ad433 = ad435 := (by injection e435)
          replace p435 := eq_true p435
          replace q435 := eq_true q435
          have p436 : 0 ≤ (x5_1 : Int) := of_decide_eq_true (by with_reducible assumption)
          have q436 : x5_1 < (l1.length : Int) := of_decide_eq_true (by with_reducible assumption)
          obtain ⟨ad436, e436, hx436_0, hx436_1⟩ := at_T83 HR1.out x5_1 p436 q436
          obtain rfl : ad434 = ad436 := (by injection e436)
          replace p436 := eq_true p436
          replace q436 := eq_true q436
          have p437 : 0 ≤ (x5_1 : Int) := of_decide_eq_true (by with_reducible assumption)
          have q437 : x5_1 < (l0.length : Int) := of_decide_eq_true (by with_reducible assumption)
          obtain ⟨ad437, e437, hx437_0, hx437_1⟩ := at_T83 HR0.out x5_1 p437 q437
          obtain rfl : ad433 = ad437 := (by injection e437)
          replace p437 := eq_true p437
          replace q437 := eq_true q437
          have p438 : 0 ≤ (x5_1 : Int) := of_decide_eq_true (by with_reducible assumption)
          have q438 : x5_1 < (l1.length : Int) := of_decide_eq_true (by with_reducible assumption)
          obtain ⟨ad438, e438, hx438_0, hx438_1⟩ := at_T83 HR1.out x5_1 p438 q438
          obtain rfl : ad434 = ad438 := (by injection e438)
          replace p438 := eq_true p438
          replace q438 := eq_true q438
          go_wp2_with (first | (go_at_call 76; (with_reducible refine (spec_Less.calls ((rd_T83 l0 x5_1).f1) ((rd_T83 l1 x5_1).f1) t439 _ A11.out).mono ?_); rintro e w' ⟨rfl, ⟨nd, rfl⟩⟩; (try first | exact ⟨rfl, _, World.drewN_drewN _ _ _⟩ | exact ⟨rfl, _, Eq.trans (World.drewN_drewN _ _ _) (congrArg (World.drewN _) (Nat.add_assoc _ _ _))⟩)))
          repeat (go_quiet (first | (go_at_call 76; (with_reducible refine (spec_Less.calls ((rd_T83 l0 x5_1).f1) ((rd_T83 l1 x5_1).f1) t439 _ A11.out).mono ?_); rintro e w' ⟨rfl, ⟨nd, rfl⟩⟩; (try first | exact ⟨rfl, _, World.drewN_drewN _ _ _⟩ | exact ⟨rfl, _, Eq.trans (World.drewN_drewN _ _ _) (congrArg (World.drewN _) (Nat.add_assoc _ _ _))⟩))); try go_wp2_with (first | (go_at_call 76; (with_reducible refine (spec_Less.calls ((rd_T83 l0 x5_1).f1) ((rd_T83 l1 x5_1).f1) t439 _ A11.out).mono ?_); rintro e w' ⟨rfl, ⟨nd, rfl⟩⟩; (try first | exact ⟨rfl, _, World.drewN_drewN _ _ _⟩ | exact ⟨rfl, _, Eq.trans (World.drewN_drewN _ _ _) (congrArg (World.drewN _) (Nat.add_assoc _ _ _))⟩))))
          go_ret
          exact ⟨by first | rfl | (simp; done) | (simp [*]; done), by repeat (first | exact Drawn0.refl _ | apply Drawn0.step)⟩
         rw [if_neg c9] at H
         have c9b0 : (((rd_T83 l0 x5_1).f0).toList == ((rd_T83 l1 x5_1).f0).toList) = false := beq_eq_false_iff_ne.mpr c9
         have c9b1 : (((rd_T83 l0 x5_1).f0).toList != ((rd_T83 l1 x5_1).f0).toList) = true := bne_iff_ne.mpr c9
         replace H := Option.bind_eq_some_iff.mp H
         obtain ⟨t442, A120, H⟩ := H
         have A12 := Aside0.mk A120
         clear A120
         obtain rfl := Option.some.inj H
         have p433 : 0 ≤ (x5_1 : Int) := of_decide_eq_true (by with_reducible assumption)
         have q433 : x5_1 < (l0.length : Int) := of_decide_eq_true (by with_reducible assumption)
         obtain ⟨ad433, e433, hx433_0, hx433_1⟩ := at_T83 HR0.out x5_1 p433 q433
         cases e433
         replace p433 := eq_true p433
         replace q433 := eq_true q433
         have p434 : 0 ≤ (x5_1 : Int) := of_decide_eq_true (by with_reducible assumption)
         have q434 : x5_1 < (l1.length : Int) := of_decide_eq_true (by with_reducible assumption)
         obtain ⟨ad434, e434, hx434_0, hx434_1⟩ := at_T83 HR1.out x5_1 p434 q434
         cases e434
         replace p434 := eq_true p434
         replace q434 := eq_true q434
         have p440 : 0 ≤ (x5_1 : Int) := of_decide_eq_true (by with_reducible assumption)
         have q440 : x5_1 < (l0.length : Int) := of_decide_eq_true (by with_reducible assumption)
         obtain ⟨ad440, e440, hx440_0, hx440_1⟩ := at_T83 HR0.out x5_1 p440 q440
         obtain rfl : ad433 = ad440 := (by injection e440)
         replace p440 := eq_true p440
         replace q440 := eq_true q440
         have p441 : 0 ≤ (x5_1 : Int) := of_decide_eq_true (by with_reducible assumption)
         have q441 : x5_1 < (l1.length : Int) := of_decide_eq_true (by with_reducible assumption)
         obtain ⟨ad441, e441, hx441_0, hx441_1⟩ := at_T83 HR1.out x5_1 p441 q441
         obtain rfl : ad434 = ad441 := (by injection e441)
         replace p441 := eq_true p441
         replace q441 := eq_true q441
         go_wp2_with (first | (go_at_call 76; (with_reducible refine (spec_Less.calls ((rd_T83 l0 x5_1).f0) ((rd_T83 l1 x5_1).f0) t442 _ A12.out).mono ?_); rintro e w' ⟨rfl, ⟨nd, rfl⟩⟩; (try first | exact ⟨rfl, _, World.drewN_drewN _ _ _⟩ | exact ⟨rfl, _, Eq.trans (World.drewN_drewN _ _ _) (congrArg (World.drewN _) (Nat.add_assoc _ _ _))⟩)))
         repeat (go_quiet (first | (go_at_call 76; (with_reducible refine (spec_Less.calls ((rd_T83 l0 x5_1).f0) ((rd_T83 l1 x5_1).f0) t442 _ A12.out).mono ?_); rintro e w' ⟨rfl, ⟨nd, rfl⟩⟩; (try first | exact ⟨rfl, _, World.drewN_drewN _ _ _⟩ | exact ⟨rfl, _, Eq.trans (World.drewN_drewN _ _ _) (congrArg (World.drewN _) (Nat.add_assoc _ _ _))⟩))); try go_wp2_with (first | (go_at_call 76; (with_reducible refine (spec_Less.calls ((rd_T83 l0 x5_1).f0) ((rd_T83 l1 x5_1).f0) t442 _ A12.out).mono ?_); rintro e w' ⟨rfl, ⟨nd, rfl⟩⟩; (try first | exact ⟨rfl, _, World.drewN_drewN _ _ _⟩ | exact ⟨rfl, _, Eq.trans (World.drewN_drewN _ _ _) (congrArg (World.drewN _) (Nat.add_assoc _ _ _))⟩))))
         go_ret
         exact ⟨by first | rfl | (simp; done) | (simp [*]; done), by repeat (first | exact Drawn0.refl _ | apply Drawn0.step)⟩
        rw [if_neg c8] at H
        exact absurd H (by simp)
       rw [if_neg c7] at H
       exact absurd H (by simp)
      rw [if_neg c6] at H
      exact absurd H (by simp)
     replace c5 := Bool.eq_false_iff.mpr c5
     subst c5
     rw [if_neg (show ¬ (false = true) by decide)] at H
     obtain rfl := Option.some.inj H
     go_wp2
     repeat (go_quiet (fail); try go_wp2)
     go_ret
     exact ⟨by first | rfl | (simp; done) | (simp [*]; done), by repeat (first | exact Drawn0.refl _ | apply Drawn0.step)⟩
mutual
def spec_JoinIn.l0 : Nat → Int → Int → List (S83) → Int → Int → List (S37) → List (S83) → Int → Int → ByteArray → Int → List (S83) → Int → Int → List (S37) → List (S83) → Int → Int → ByteArray → Option (Int × (List (S83)) × Int × Int × (List (S37)))
 | 0, _, _, _, _, _, _, _, _, _, _, _, _, _, _, _, _, _, _, _ => none
 | k + 1, x7, x444000, x444001, x444002, x444003, x444004, x445000, x445001, x445002, x445003, x456000, x456001, x456002, x456003, x456004, x463000, x463001, x463002, x463003 => if x7 < (x444004.length : Int) then (if 0 ≤ x7 then ((spec_SameSet.f k ((rd_T37 x444004 x7).f0) x445000).bind fun t464 => (if t464 = true then (if x7 < (x456004.length : Int) then (some (x456000, x456001, x456002, x456003, (x456004.set (x7 : Int).toNat (⟨x463000, x463001, x463002, x463003⟩ : S37)))) else (none)) else (spec_JoinIn.l0 k (wrap64 (x7 + 1)) x444000 x444001 x444002 x444003 x444004 x445000 x445001 x445002 x445003 x456000 x456001 x456002 x456003 x456004 x463000 x463001 x463002 x463003))) else (none)) else (spec_JoinIn.l1 k 0 x444000 x444001 x444002 x444003 x444004 x445000 x445001 x445002 x445003 x456000 x456001 x456002 x456003 x456004 x463000 x463001 x463002 x463003)
def spec_JoinIn.l1 : Nat → Int → Int → List (S83) → Int → Int → List (S37) → List (S83) → Int → Int → ByteArray → Int → List (S83) → Int → Int → List (S37) → List (S83) → Int → Int → ByteArray → Option (Int × (List (S83)) × Int × Int × (List (S37)))
 | 0, _, _, _, _, _, _, _, _, _, _, _, _, _, _, _, _, _, _, _ => none
 | k + 1, x8, x444000, x444001, x444002, x444003, x444004, x445000, x445001, x445002, x445003, x456000, x456001, x456002, x456003, x456004, x463000, x463001, x463002, x463003 => if x8 < (x444004.length : Int) then (if 0 ≤ x8 then ((spec_SetLess.f k x445000 ((rd_T37 x444004 x8).f0)).bind fun t467 => (if t467 = true then (if x8 ≤ (x444004.length : Int) then ((spec_l4All.f k (x444004.take (x8 : Int).toNat)).bind fun t472 => (if t472.length < 2513169434916 then ((some (t472 ++ [(⟨x463000, x463001, x463002, x463003⟩ : S37)] : List (S37))).bind fun y476 => ((spec_l4All.f k (x444004.drop (x8 : Int).toNat)).bind fun t483 => (if y476.length + t483.length < 2513169434916 then (some (x456000, x456001, x456002, x456003, (y476 ++ t483))) else (none)))) else (none))) else (none)) else (spec_JoinIn.l1 k (wrap64 (x8 + 1)) x444000 x444001 x444002 x444003 x444004 x445000 x445001 x445002 x445003 x456000 x456001 x456002 x456003 x456004 x463000 x463001 x463002 x463003))) else (none)) else (if 0 ≤ x8 then (if x8 ≤ (x444004.length : Int) then ((spec_l4All.f k (x444004.take (x8 : Int).toNat)).bind fun t493 => (if t493.length < 2513169434916 then ((some (t493 ++ [(⟨x463000, x463001, x463002, x463003⟩ : S37)] : List (S37))).bind fun y497 => ((spec_l4All.f k (x444004.drop (x8 : Int).toNat)).bind fun t504 => (if y497.length + t504.length < 2513169434916 then (some (x456000, x456001, x456002, x456003, (y497 ++ t504))) else (none)))) else (none))) else (none)) else (none))
end
def spec_JoinIn.f (k : Nat) (a0_0 : Int) (l0_1 : List (S83)) (a0_2 : Int) (a0_3 : Int) (l0_4 : List (S37)) (l1_0 : List (S83)) (a1_1 : Int) (a1_2 : Int) (a1_3 : ByteArray) : Option (Int × (List (S83)) × Int × Int × (List (S37))) := (spec_l11Copy.f k a0_0 l0_1 a0_2 a0_3 l0_4).bind fun bt446 => ((spec_l4Copy.f l1_0 a1_1 a1_2 a1_3).bind fun bt456 => (spec_JoinIn.l0 k 0 a0_0 l0_1 a0_2 a0_3 l0_4 l1_0 a1_1 a1_2 a1_3 bt446.1 bt446.2.1 bt446.2.2.1 bt446.2.2.2.1 bt446.2.2.2.2 bt456.1 bt456.2.1 bt456.2.2.1 bt456.2.2.2))
theorem spec_JoinIn.mono_l : ∀ k, (∀ y0 y1 y2 y3 y4 y5 y6 y7 y8 y9 y10 y11 y12 y13 y14 y15 y16 y17 y18, LeO (spec_JoinIn.l0 k y0 y1 y2 y3 y4 y5 y6 y7 y8 y9 y10 y11 y12 y13 y14 y15 y16 y17 y18) (spec_JoinIn.l0 (k + 1) y0 y1 y2 y3 y4 y5 y6 y7 y8 y9 y10 y11 y12 y13 y14 y15 y16 y17 y18)) ∧ (∀ y0 y1 y2 y3 y4 y5 y6 y7 y8 y9 y10 y11 y12 y13 y14 y15 y16 y17 y18, LeO (spec_JoinIn.l1 k y0 y1 y2 y3 y4 y5 y6 y7 y8 y9 y10 y11 y12 y13 y14 y15 y16 y17 y18) (spec_JoinIn.l1 (k + 1) y0 y1 y2 y3 y4 y5 y6 y7 y8 y9 y10 y11 y12 y13 y14 y15 y16 y17 y18))
 | 0 => ⟨fun _ _ _ _ _ _ _ _ _ _ _ _ _ _ _ _ _ _ _ r h => by simp [spec_JoinIn.l0] at h, fun _ _ _ _ _ _ _ _ _ _ _ _ _ _ _ _ _ _ _ r h => by simp [spec_JoinIn.l1] at h⟩
 | k + 1 => by
  obtain ⟨ih0, ih1⟩ := spec_JoinIn.mono_l k
  refine ⟨?_, ?_⟩
  ·
   intro y0 y1 y2 y3 y4 y5 y6 y7 y8 y9 y10 y11 y12 y13 y14 y15 y16 y17 y18
   unfold spec_JoinIn.l0
   repeat' first
   | (with_reducible exact ih0 _ _ _ _ _ _ _ _ _ _ _ _ _ _ _ _ _ _ _)
   | (with_reducible exact ih1 _ _ _ _ _ _ _ _ _ _ _ _ _ _ _ _ _ _ _)
   | (with_reducible exact spec_SameSet.mono _ _ _)
   | (with_reducible exact spec_SetLess.mono _ _ _)
   | (with_reducible exact spec_l11Copy.mono _ _ _ _ _ _)
   | (with_reducible exact spec_l4All.mono _ _)
   | (with_reducible exact LeO.refl _)
   | (with_reducible exact LeO.none _)
   | (with_reducible refine LeO.ite ?_ ?_)
   | (with_reducible refine LeO.bind ?_ (fun _ => ?_))
   | exact ih0 _ _ _ _ _ _ _ _ _ _ _ _ _ _ _ _ _ _ _
   | exact ih1 _ _ _ _ _ _ _ _ _ _ _ _ _ _ _ _ _ _ _
   | exact spec_SameSet.mono _ _ _
   | exact spec_SetLess.mono _ _ _
   | exact spec_l11Copy.mono _ _ _ _ _ _
   | exact spec_l4All.mono _ _
  intro y0 y1 y2 y3 y4 y5 y6 y7 y8 y9 y10 y11 y12 y13 y14 y15 y16 y17 y18
  unfold spec_JoinIn.l1
  repeat' first
  | (with_reducible exact ih0 _ _ _ _ _ _ _ _ _ _ _ _ _ _ _ _ _ _ _)
  | (with_reducible exact ih1 _ _ _ _ _ _ _ _ _ _ _ _ _ _ _ _ _ _ _)
  | (with_reducible exact spec_SameSet.mono _ _ _)
  | (with_reducible exact spec_SetLess.mono _ _ _)
  | (with_reducible exact spec_l11Copy.mono _ _ _ _ _ _)
  | (with_reducible exact spec_l4All.mono _ _)
  | (with_reducible exact LeO.refl _)
  | (with_reducible exact LeO.none _)
  | (with_reducible refine LeO.ite ?_ ?_)
  | (with_reducible refine LeO.bind ?_ (fun _ => ?_))
  | exact ih0 _ _ _ _ _ _ _ _ _ _ _ _ _ _ _ _ _ _ _
  | exact ih1 _ _ _ _ _ _ _ _ _ _ _ _ _ _ _ _ _ _ _
  | exact spec_SameSet.mono _ _ _
  | exact spec_SetLess.mono _ _ _
  | exact spec_l11Copy.mono _ _ _ _ _ _
  | exact spec_l4All.mono _ _
theorem spec_JoinIn.mono : ∀ a0 a1 a2 a3 a4 a5 a6 a7 a8 k, LeO (spec_JoinIn.f k a0 a1 a2 a3 a4 a5 a6 a7 a8) (spec_JoinIn.f (k + 1) a0 a1 a2 a3 a4 a5 a6 a7 a8) := by
 intro a0 a1 a2 a3 a4 a5 a6 a7 a8 k
 obtain ⟨ih0, ih1⟩ := spec_JoinIn.mono_l k
 unfold spec_JoinIn.f
 repeat' first | (with_reducible first | exact ih0 _ _ _ _ _ _ _ _ _ _ _ _ _ _ _ _ _ _ _ | exact ih1 _ _ _ _ _ _ _ _ _ _ _ _ _ _ _ _ _ _ _ | exact spec_SameSet.mono _ _ _ | exact spec_SetLess.mono _ _ _ | exact spec_l11Copy.mono _ _ _ _ _ _ | exact spec_l4All.mono _ _ | exact LeO.refl _ | exact LeO.none _ | refine LeO.ite ?_ ?_ | refine LeO.bind ?_ (fun _ => ?_)) | exact ih0 _ _ _ _ _ _ _ _ _ _ _ _ _ _ _ _ _ _ _ | exact ih1 _ _ _ _ _ _ _ _ _ _ _ _ _ _ _ _ _ _ _ | exact spec_SameSet.mono _ _ _ | exact spec_SetLess.mono _ _ _ | exact spec_l11Copy.mono _ _ _ _ _ _ | exact spec_l4All.mono _ _
def spec_JoinIn.T6 : Bool × List (List Nat × List Nat) := (true, [([], []), ([0], [0]), ([], []), ([1, 2], [1, 2]), ([3], [3]), ([4], [4]), ([], []), ([6], [6]), ([5, 7], [5, 7])])
def spec_JoinIn.B6 : List Nat := [0, 1, 0, 7, 15, 31, 0, 64, 255]
theorem spec_JoinIn.tab6 : rtab .any (opsOf Tryd.f48 6) = spec_JoinIn.T6 := by kernel_rfl
theorem spec_JoinIn.bits6 : waitsOk spec_JoinIn.T6.2 spec_JoinIn.B6 = true := by kernel_rfl
def spec_JoinIn.T10 : Bool × List (List Nat × List Nat) := (true, [([], []), ([], []), ([1], [1]), ([2], [2]), ([0, 3], [0, 3]), ([4], [4]), ([5], [5]), ([6, 5], [5, 6]), ([5], [5]), ([8, 5], [5, 8]), ([5], [5]), ([9, 10, 5], [5, 9, 10]), ([11, 5], [5, 11]), ([12, 5], [5, 12]), ([7, 13, 5, 5], [5, 7, 13]), ([14, 5], [5, 14]), ([5, 15], [5, 15])])
def spec_JoinIn.B10 : List Nat := [0, 0, 2, 6, 15, 31, 63, 127, 63, 319, 63, 1855, 3903, 7999, 16383, 32767, 65535]
theorem spec_JoinIn.tab10 : rtab .any (opsOf Tryd.f48 10) = spec_JoinIn.T10 := by kernel_rfl
theorem spec_JoinIn.bits10 : waitsOk spec_JoinIn.T10.2 spec_JoinIn.B10 = true := by kernel_rfl
def spec_JoinIn.T12 : Bool × List (List Nat × List Nat) := (true, [([], []), ([0], [0]), ([], []), ([1, 2], [1, 2]), ([3], [3]), ([], []), ([5], [5]), ([4, 6, 4], [4, 6]), ([], []), ([8], [8]), ([], []), ([9, 10], [9, 10]), ([11, 7], [11]), ([7, 12, 12], [7, 12]), ([0, 1, 2, 3, 4, 5, 6, 7, 8, 9, 10, 11, 12, 13], []), ([14, 13, 13, 0, 1, 2, 3, 4, 5, 6, 7, 8, 9, 10, 11, 12, 13], [13, 14])])
def spec_JoinIn.B12 : List Nat := [0, 1, 0, 7, 15, 0, 32, 127, 0, 256, 0, 1792, 4095, 8191, 16383, 32767]
theorem spec_JoinIn.tab12 : rtab .any (opsOf Tryd.f48 12) = spec_JoinIn.T12 := by kernel_rfl
theorem spec_JoinIn.bits12 : waitsOk spec_JoinIn.T12.2 spec_JoinIn.B12 = true := by kernel_rfl
theorem spec_JoinIn.calls (k : Nat) (a0_0 : Int) (A0_1 : Option Addr) (c0_1 : Nat) (l0_1 : List (S83)) (a0_2 : Int) (a0_3 : Int) (A0_4 : Option Addr) (c0_4 : Nat) (l0_4 : List (S37)) (A1_0 : Option Addr) (c1_0 : Nat) (l1_0 : List (S83)) (a1_1 : Int) (a1_2 : Int) (a1_3 : ByteArray) (r1 : Int) (r2 : List (S83)) (r3 : Int) (r4 : Int) (r5 : List (S37)) (w : World) (hr0_1 : Kd.C k83 w A0_1 l0_1.length l0_1) (hc0_1 : l0_1.length ≤ c0_1) (hr0_4 : Kd.C k37 w A0_4 l0_4.length l0_4) (hc0_4 : l0_4.length ≤ c0_4) (hr1_0 : Kd.C k83 w A1_0 l1_0.length l1_0) (hc1_0 : l1_0.length ≤ c1_0) (h : spec_JoinIn.f k a0_0 l0_1 a0_2 a0_3 l0_4 l1_0 a1_1 a1_2 a1_3 = some (r1, r2, r3, r4, r5)) :
  Calls Tryd.prog 48 #[.agg #[.int .i64 a0_0, .slice A0_1 l0_1.length c0_1, .int .i64 a0_2, .int .i64 a0_3, .slice A0_4 l0_4.length c0_4], .agg #[.slice A1_0 l1_0.length c1_0, .int .i64 a1_1, .int .i64 a1_2, .string a1_3]] w fun e w' => ∃ v1_ v4_ : Value, e = .returned (.agg #[.int .i64 r1, v1_, .int .i64 r3, .int .i64 r4, v4_]) ∧ Kd.R k83 83 w' w.heap.size (fun _ => True) v1_ r2 ∧ Kd.S k37 37 w' w.heap.size (fun k_ => some k_ ≠ (v1_ : Value).ownBlock) v4_ r5 ∧ Below w.heap.size w w' := by
 have hu33 := Tryd.underlying33
 have hu37 := Tryd.underlying37
 have HR0_1 := Aside0.mk hr0_1
 have HC0_1 := Aside0.mk hc0_1
 clear hr0_1 hc0_1
 have HR0_4 := Aside0.mk hr0_4
 have HC0_4 := Aside0.mk hc0_4
 clear hr0_4 hc0_4
 have HR1_0 := Aside0.mk hr1_0
 have HC1_0 := Aside0.mk hc1_0
 clear hr1_0 hc1_0
 have HB := Aside0.mk (Below.refl w.heap.size w)
 have H : ((spec_l11Copy.f k a0_0 l0_1 a0_2 a0_3 l0_4).bind fun bt446 => ((spec_l4Copy.f l1_0 a1_1 a1_2 a1_3).bind fun bt456 => (spec_JoinIn.l0 k 0 a0_0 l0_1 a0_2 a0_3 l0_4 l1_0 a1_1 a1_2 a1_3 bt446.1 bt446.2.1 bt446.2.2.1 bt446.2.2.2.1 bt446.2.2.2.2 bt456.1 bt456.2.1 bt456.2.2.1 bt456.2.2.2))) = some (r1, r2, r3, r4, r5) := h
 clear h
 replace H := Option.bind_eq_some_iff.mp H
 obtain ⟨⟨t446, t447, t450, t451, t452⟩, A30, H⟩ := H
 have A3 := Aside0.mk A30
 clear A30
 replace H := Option.bind_eq_some_iff.mp H
 obtain ⟨⟨t456, t459, t460, t461⟩, A40, H⟩ := H
 have A4 := Aside0.mk A40
 clear A40
 have H' := Aside0.mk H
 clear H
 go_enter Tryd.func48, Tryd.ntmps48
 go_wp2_with (first | ((with_reducible refine gd_ 2 rfl ?_); refine bv_ 2 #[.int .i64 a0_0, .slice A0_1 l0_1.length c0_1, .int .i64 a0_2, .int .i64 a0_3, .slice A0_4 l0_4.length c0_4] 33 ?_; intro gb443 hg w5 hbox hb; have BK443 := Aside0.mk (hbox); have GW443 := Ge_.mk ((gw_ hg (hs_ HB.out))); replace HB := st_ HB hb; have GE443 := Ge_.mk GW443.out; clear hb hbox hg) | ((with_reducible refine gd_ 3 rfl ?_); refine bv_ 3 #[.slice A1_0 l1_0.length c1_0, .int .i64 a1_1, .int .i64 a1_2, .string a1_3] 37 ?_; intro gb444 hg w6 hbox hb; have BK444 := Aside0.mk (hbox); have GW444 := Ge_.mk ((gw_ hg (hs_ HB.out))); replace HB := st_ HB hb; have GE444 := Ge_.mk GW444.out; have NB443_444 := nk_ BK443 hg; replace BK443 := bk2_ BK443 hb; have NB444_443 := ns_ NB443_444; clear hb hbox hg) | ((with_reducible refine gd_ 4 rfl ?_); refine bv_ 4 #[.int .i64 0, .slice none 0 0, .int .i64 0, .int .i64 0, .slice none 0 0] 33 ?_; intro gb445 hg w7 hbox hb; have BK445 := Aside0.mk (hbox); have GW445 := Ge_.mk ((gw_ hg (hs_ HB.out))); replace HB := st_ HB hb; have GE445 := Ge_.mk GW445.out; have NB443_445 := nk_ BK443 hg; replace BK443 := bk2_ BK443 hb; have NB445_443 := ns_ NB443_445; have NB444_445 := nk_ BK444 hg; replace BK444 := bk2_ BK444 hb; have NB445_444 := ns_ NB444_445; clear hb hbox hg; have hnb8 := NB443_444.out; have hnc8 := NB444_443.out; have hnb9 := NB443_445.out; have hnc9 := NB445_443.out; obtain ⟨z10_0, z10_1, z10_2, z10_3, z10_4, y10_0, y10_1, y10_2, y10_3, y10_4⟩ := bc5_ BK443.out) | ((with_reducible refine gate_callee (f := 70) rfl ?_); refine gl_ (some 10) Tryd.func70 #[.agg #[.int .i64 a0_0, .slice A0_1 l0_1.length c0_1, .int .i64 a0_2, .int .i64 a0_3, .slice A0_4 l0_4.length c0_4]] ?_; (with_reducible refine (spec_l11Copy.calls k a0_0 _ _ l0_1 a0_2 a0_3 _ _ l0_4 t446 t447 t450 t451 t452 _ ?side1 ?side2 ?side3 ?side4 A3.out).mono ?_); (case side1 => exact cp_ ((Kd.C_below HR0_1.out HB.out))); (case side2 => exact HC0_1.out); (case side3 => exact cp_ ((Kd.C_below HR0_4.out HB.out))); (case side4 => exact HC0_4.out); rintro e w11 ⟨v448, v453, rfl, ho0, ho1, hb⟩; refine ⟨_, rfl, ?_⟩; obtain ⟨gbz448, hz448⟩ := Kd.R_name ho0; have HO449 := Aside0.mk (Kd.R_lower (Kd.R_gez hz448 ho0) (below_size (hs_ HB.out))); have HO454 := Aside0.mk (Kd.S_lower (Kd.S_newB (Kd.S_gez hz448 ho1) (g := gb444) (o := .cells #[.slice A1_0 l1_0.length c1_0, .int .i64 a1_1, .int .i64 a1_2, .string a1_3] 37 (0, 0)) (pb_ BK444.out)) (below_size (hs_ HB.out))); replace BK443 := bk2_ BK443 hb; replace BK444 := bk2_ BK444 hb; replace BK445 := bk2_ BK445 hb; replace HB := st_ HB hb; (try clear hb); (try clear hk); (try clear ho0); (try clear ho1)) | ((with_reducible refine gd_ 5 rfl ?_); refine bv_ 5 #[.int .i64 0, .slice none 0 0, .int .i64 0, .int .i64 0, .slice none 0 0] 33 ?_; intro gb455 hg w12 hbox hb; replace HO449 := rb_ HO449 hb; replace HO454 := sb_ HO454 hb; have BK455 := Aside0.mk (hbox); have GW455 := Ge_.mk ((gw_ hg (hs_ HB.out))); replace HB := st_ HB hb; have GE455 := Ge_.mk GW455.out; have NB443_455 := nk_ BK443 hg; replace BK443 := bk2_ BK443 hb; have NB455_443 := ns_ NB443_455; have NB444_455 := nk_ BK444 hg; replace BK444 := bk2_ BK444 hb; have NB455_444 := ns_ NB444_455; have NB445_455 := nk_ BK445 hg; replace BK445 := bk2_ BK445 hb; have NB455_445 := ns_ NB445_455; clear hb hbox hg; have hnb13 := NB455_443.out; have hnc13 := NB443_455.out; have hnb14 := NB455_444.out; have hnc14 := NB444_455.out; have hnb15 := NB455_445.out; have hnc15 := NB445_455.out; obtain ⟨z16_0, z16_1, z16_2, z16_3, z16_4, y16_0, y16_1, y16_2, y16_3, y16_4⟩ := bc5_ BK455.out; obtain ⟨Ao17, co17, eo17⟩ := Kd.R_slice HO449.out; subst eo17; obtain ⟨Ao18, co18, eo18⟩ := Kd.S_slice HO454.out; subst eo18; have hnb19 := NB444_445.out; have hnc19 := NB445_444.out; obtain ⟨z20_0, z20_1, z20_2, z20_3, y20_0, y20_1, y20_2, y20_3⟩ := bc4_ BK444.out) | ((with_reducible refine gate_callee (f := 71) rfl ?_); refine gl_ (some 12) Tryd.func71 #[.agg #[.slice A1_0 l1_0.length c1_0, .int .i64 a1_1, .int .i64 a1_2, .string a1_3]] ?_; (with_reducible refine (spec_l4Copy.calls _ _ l1_0 a1_1 a1_2 a1_3 t456 t459 t460 t461 _ ?side1 ?side2 A4.out).mono ?_); (case side1 => exact Kd.C_below HR1_0.out (hs_ HB.out)); (case side2 => exact HC1_0.out); rintro e w21 ⟨v457, rfl, ho0, hb⟩; refine ⟨_, rfl, ?_⟩; obtain ⟨gbz457, hz457⟩ := Kd.R_name ho0; replace HO449 := Aside0.mk (Kd.R_below (Kd.R_ltz hz457 (by (with_reducible repeat (first | apply Kd.R_alloc | apply Kd.R_drewN | apply Kd.R_drew)); exact (Kd.R_mono (rf_ gb455 (Kd.R_types HO449.out BK455.out (by decide)) (fun _ hk => hk.2)) (fun _ h_ => h_.1)))) hb); replace HO454 := Aside0.mk (Kd.S_below (Kd.S_ltz hz457 (by (with_reducible repeat (first | apply Kd.S_alloc | apply Kd.S_drewN | apply Kd.S_drew)); exact (Kd.S_mono (sf_ gb455 (Kd.S_types HO454.out BK455.out (by decide)) (fun _ hk => hk.2)) (fun _ h_ => h_.1)))) hb); have HO458 := Aside0.mk (Kd.R_lower (Kd.R_gez hz457 ho0) (below_size (hs_ HB.out))); replace BK443 := bk2_ BK443 hb; replace BK444 := bk2_ BK444 hb; replace BK445 := bk2_ BK445 hb; replace BK455 := Aside0.mk (blk_below (g := gb455) (o := .cells #[.int .i64 t446, .slice Ao17 t447.length co17, .int .i64 t450, .int .i64 t451, .slice Ao18 t452.length co18] 33 (0, 0)) (bp_ BK455.out) hb); replace HB := st_ HB hb; (try clear hb); (try clear hk); (try clear ho0)) | ((with_reducible refine gd_ 6 rfl ?_); refine bv_ 6 #[.slice none 0 0, .int .i64 0, .int .i64 0, .string (⟨#[]⟩ : ByteArray)] 37 ?_; intro gb462 hg w22 hbox hb; replace HO449 := rb_ HO449 hb; replace HO454 := Aside0.mk (Kd.S_below (Kd.S_elderB (sp_ HO454.out) gb462 (Nat.le_of_eq hg.symm)) hb); replace HO458 := rb_ HO458 hb; have BK462 := Aside0.mk (hbox); have GW462 := Ge_.mk ((gw_ hg (hs_ HB.out))); have GE462 := Ge_.mk ((gw_ hg (hs_ HB.out))); replace HB := st_ HB hb; have NB443_462 := nk_ BK443 hg; replace BK443 := bk2_ BK443 hb; have NB462_443 := ns_ NB443_462; have NB444_462 := nk_ BK444 hg; replace BK444 := bk2_ BK444 hb; have NB462_444 := ns_ NB444_462; have NB445_462 := nk_ BK445 hg; replace BK445 := bk2_ BK445 hb; have NB462_445 := ns_ NB445_462; have NB455_462 := nk_ BK455 hg; replace BK455 := bk2_ BK455 hb; have NB462_455 := ns_ NB455_462; clear hb hbox hg; obtain ⟨Ao23, co23, eo23⟩ := Kd.R_slice HO458.out; subst eo23; have hnb24 := NB462_443.out; have hnc24 := NB443_462.out; have hnb25 := NB462_444.out; have hnc25 := NB444_462.out; have hnb26 := NB462_445.out; have hnc26 := NB445_462.out; have hnb27 := NB462_455.out; have hnc27 := NB455_462.out; obtain ⟨z28_0, z28_1, z28_2, z28_3, y28_0, y28_1, y28_2, y28_3⟩ := bc4_ BK462.out))
 go_loopg [7] k (fun kq v7 w' => ∃ (x7_1 : Int) (x446000_1 : Int) (x446002_1 : Int) (x446003_1 : Int) (x456004_1 : List (S37)) (u456004 : Value), v7 = .int .i64 x7_1 ∧ Aside0 (spec_JoinIn.l0 kq x7_1 a0_0 l0_1 a0_2 a0_3 l0_4 l1_0 a1_1 a1_2 a1_3 t446 t447 t450 t451 x456004_1 t456 t459 t460 t461 = some (r1, r2, r3, r4, r5)) ∧ Aside0 (kq ≤ k) ∧ Aside0 (Kd.R k83 83 w' w.heap.size (fun k_ => some k_ ≠ ((.slice Ao23 t456.length co23) : Value).ownBlock) (.slice Ao17 t447.length co17) t447) ∧ Aside0 (Kd.S k37 37 w' w.heap.size (fun k_ => some k_ ≠ ((.slice Ao17 t447.length co17) : Value).ownBlock ∧ some k_ ≠ ((.slice Ao23 t456.length co23) : Value).ownBlock ∧ k_ ≠ gb444 ∧ k_ ≠ gb462) u456004 x456004_1) ∧ Aside0 (Kd.R k83 83 w' w.heap.size (fun k_ => some k_ ≠ ((.slice Ao17 t447.length co17) : Value).ownBlock) (.slice Ao23 t456.length co23) t456) ∧ Aside0 (w'.heap[gb443]? = some (.cells #[.int .i64 a0_0, (.slice A0_1 l0_1.length c0_1), .int .i64 a0_2, .int .i64 a0_3, (.slice A0_4 l0_4.length c0_4)] 33 (0, 0))) ∧ Aside0 (w'.heap[gb444]? = some (.cells #[(.slice A1_0 l1_0.length c1_0), .int .i64 a1_1, .int .i64 a1_2, .string a1_3] 37 (0, 0))) ∧ Aside0 (w'.heap[gb445]? = some (.cells #[.int .i64 x446000_1, (.slice none 0 0), .int .i64 x446002_1, .int .i64 x446003_1, (.slice none 0 0)] 33 (0, 0))) ∧ Aside0 (w'.heap[gb455]? = some (.cells #[.int .i64 t446, (.slice Ao17 t447.length co17), .int .i64 t450, .int .i64 t451, u456004] 33 (0, 0))) ∧ Aside0 (w'.heap[gb462]? = some (.cells #[(.slice Ao23 t456.length co23), .int .i64 t459, .int .i64 t460, .string t461] 37 (0, 0))) ∧ Aside0 (Below w.heap.size w w'))
 case atStart => exact ⟨(0), (0), (0), (0), (t452), (.slice Ao18 t452.length co18), (by first | rfl | (simp; done) | (simp [*]; done)), H', ⟨Nat.le_refl _⟩, ⟨by (with_reducible repeat (first | apply Kd.R_alloc | apply Kd.R_drewN | apply Kd.R_drew)); exact Kd.R_mono (rf_ gb462 (Kd.R_types (Kd.R_times HO449.out HO458.out.1 (fun k_ hk hz_ => Nat.lt_irrefl _ (Nat.lt_of_lt_of_le hk.2 hz_.2))) BK462.out (by decide)) (fun _ hk => hk.2)) (fun _ hk => hk.1.2)⟩, ⟨by (with_reducible repeat (first | apply Kd.S_alloc | apply Kd.S_drewN | apply Kd.S_drew)); exact Kd.S_mono (sf_ gb462 (Kd.S_mono (Kd.S_times HO454.out HO458.out.1 (fun k_ hk hz_ => Nat.lt_irrefl _ (Nat.lt_of_lt_of_le hk.1.2 hz_.2))) (fun k_ hk => (⟨hk, hk.1.2⟩ : _ ∧ k_ ≠ gb462))) (fun _ hk => hk.2)) (fun _ hk => ⟨hk.1.1.1.1.1.1, ⟨hk.1.2, ⟨hk.1.1.1.1.2, hk.1.1.2⟩⟩⟩)⟩, ⟨by (with_reducible repeat (first | apply Kd.R_alloc | apply Kd.R_drewN | apply Kd.R_drew)); exact Kd.R_mono (rf_ gb462 (Kd.R_types (Kd.R_times HO458.out HO449.out.1 (fun k_ hk hz_ => Nat.lt_irrefl _ (Nat.lt_of_lt_of_le hz_.2 hk.2))) BK462.out (by decide)) (fun _ hk => hk.2)) (fun _ hk => hk.1.2)⟩, ⟨bq_ BK443.out⟩, ⟨bq_ BK444.out⟩, ⟨bq_ BK445.out⟩, ⟨bq_ BK455.out⟩, ⟨bp_ BK462.out⟩, ⟨by exact hs_ HB.out⟩⟩
 case round =>
  clear H'
  try clear c1
  try clear c2
  try clear p2
  try clear c4
  try clear c7
  try clear c8
  try clear c9
  try clear c13
  try clear c14
  try clear c15
  try clear c19
  try clear c24
  try clear c25
  try clear c26
  try clear c27
  try clear z10_0 z10_1 z10_2 z10_3 z10_4
  try clear z16_0 z16_1 z16_2 z16_3 z16_4
  try clear z20_0 z20_1 z20_2 z20_3
  try clear z28_0 z28_1 z28_2 z28_3
  try clear y10_0 y10_1 y10_2 y10_3 y10_4
  try clear y16_0 y16_1 y16_2 y16_3 y16_4
  try clear y20_0 y20_1 y20_2 y20_3
  try clear y28_0 y28_1 y28_2 y28_3
  obtain ⟨x7_1, x446000_1, x446002_1, x446003_1, x456004_1, u456004, rfl, HA, HK1, HO_456001, HO_456004, HO_463000, BK443, BK444, BK445, BK455, BK462, HB⟩ := hrel
  cases gk with
  | zero => exact absurd HA.out (by simp [spec_JoinIn.l0])
  | succ k1 =>
   have H := HA.out
   clear HA
   simp only [spec_JoinIn.l0] at H
   by_cases c29 : x7_1 < (l0_4.length : Int)
   ·
    rw [if_pos c29] at H
    have c29b0 := decide_eq_true c29
    clear c29
    by_cases c30 : 0 ≤ x7_1
    ·
     rw [if_pos c30] at H
     have c30b0 := decide_eq_true c30
     clear c30
     replace H := Option.bind_eq_some_iff.mp H
     obtain ⟨t464, A310, H⟩ := H
     have A31 := Aside0.mk A310
     clear A310
     have AHz_ := Aside0.mk H
     clear H
     have hnb35 := NB443_444.out
     have hnc35 := NB444_443.out
     have hnb36 := NB443_445.out
     have hnc36 := NB445_443.out
     have hnb37 := NB443_455.out
     have hnc37 := NB455_443.out
     have hnb38 := NB443_462.out
     have hnc38 := NB462_443.out
     obtain ⟨z39_0, z39_1, z39_2, z39_3, z39_4, y39_0, y39_1, y39_2, y39_3, y39_4⟩ := bc5_ BK443.out
     have H := AHz_.out
     clear AHz_
     by_cases c32 : t464 = true
     ·
      subst c32
      rw [if_pos rfl] at H
      by_cases c33 : x7_1 < (x456004_1.length : Int)
      ·
       rw [if_pos c33] at H
       have c33b0 := decide_eq_true c33
       clear c33
       obtain ⟨y465, hy465⟩ : ∃ y_ : List (S37), y_ = (x456004_1.set (x7_1 : Int).toNat (⟨t456, t459, t460, t461⟩ : S37)) := ⟨_, rfl⟩
       replace H : (some (t446, t447, t450, t451, y465)) = some (r1, r2, r3, r4, r5) := by first | (rw [hy465]; with_reducible exact H) | (have H2_ := (Option.bind_some _ _).symm.trans H; rw [hy465]; with_reducible exact H2_) | (have H2_ := (Option.bind_some _ _).symm.trans H; with_reducible exact H2_) | with_reducible exact H | (rw [hy465]; exact H) | exact H
       have Ny465 := Aside0.mk hy465
       clear hy465
       simp only [Option.some.injEq, Prod.mk.injEq] at H
       obtain ⟨rfl, rfl, rfl, rfl, rfl⟩ := H
       try go_wp2
       replace HO_456001 := Aside0.mk (Kd.R_drew HO_456001.out)
       replace HO_456004 := Aside0.mk (Kd.S_drew HO_456004.out)
       replace HO_463000 := Aside0.mk (Kd.R_drew HO_463000.out)
       replace BK443 := Aside0.mk (blk_drew BK443.out)
       replace BK444 := Aside0.mk (blk_drew BK444.out)
       replace BK445 := Aside0.mk (blk_drew BK445.out)
       replace BK455 := Aside0.mk (blk_drew BK455.out)
       replace BK462 := Aside0.mk (blk_drew BK462.out)
       replace HB := Aside0.mk (bd_ HB.out)
       have p463 : 0 ≤ (x7_1 : Int) := of_decide_eq_true (by with_reducible assumption)
       have q463 : x7_1 < (l0_4.length : Int) := of_decide_eq_true (by with_reducible assumption)
       obtain ⟨ad463, A463_0, c463_0, e463, hx463_0, hx463_1, hx463_2, hx463_3, hl463_0, hi463_0⟩ := at_T37 HR0_4.out x7_1 p463 q463
       have hw463_3 := hx463_3
       have hw463_2 := hx463_2
       have hw463_1 := hx463_1
       have hw463_0 := hx463_0
       cases e463
       replace hx463_0 := cl_ HB.out hx463_0
       replace hx463_1 := cl_ HB.out hx463_1
       replace hx463_2 := cl_ HB.out hx463_2
       replace hx463_3 := cl_ HB.out hx463_3
       have HR463_0 := Aside0.mk hi463_0
       have HC463_0 := Aside0.mk hl463_0
       clear hi463_0 hl463_0
       replace p463 := eq_true p463
       replace q463 := eq_true q463
       refine start_ (n := 9) (S := fun w' => w'.cell? ⟨gb443, 0, none⟩ = some (.int .i64 a0_0) ∧ w'.cell? ⟨gb443, 1, none⟩ = some (.slice A0_1 l0_1.length c0_1) ∧ w'.cell? ⟨gb443, 2, none⟩ = some (.int .i64 a0_2) ∧ w'.cell? ⟨gb443, 3, none⟩ = some (.int .i64 a0_3) ∧ w'.cell? ⟨gb443, 4, none⟩ = some (.slice (some ad463) l0_4.length c0_4) ∧ w'.cell? ⟨gb444, 0, none⟩ = some (.slice A1_0 l1_0.length c1_0) ∧ w'.cell? ⟨gb444, 1, none⟩ = some (.int .i64 a1_1) ∧ w'.cell? ⟨gb444, 2, none⟩ = some (.int .i64 a1_2) ∧ w'.cell? ⟨gb444, 3, none⟩ = some (.string a1_3) ∧ w'.cell? (ad463.add ((x7_1).toNat * 4)) = some (.slice A463_0 ((rd_T37 l0_4 x7_1).f0).length c463_0) ∧ w'.cell? ⟨(ad463.add ((x7_1).toNat * 4)).block, (ad463.add ((x7_1).toNat * 4)).off + 1, none⟩ = some (.int .i64 ((rd_T37 l0_4 x7_1).f1)) ∧ w'.cell? ⟨(ad463.add ((x7_1).toNat * 4)).block, (ad463.add ((x7_1).toNat * 4)).off + 2, none⟩ = some (.int .i64 ((rd_T37 l0_4 x7_1).f2)) ∧ w'.cell? ⟨(ad463.add ((x7_1).toNat * 4)).block, (ad463.add ((x7_1).toNat * 4)).off + 3, none⟩ = some (.string ((rd_T37 l0_4 x7_1).f3))) (ds := []) (b_ 0 9) (by kernel_rfl) rfl rfl ⟨bx_ BK443.out 0, bx_ BK443.out 1, bx_ BK443.out 2, bx_ BK443.out 3, bx_ BK443.out 4, bx_ BK444.out 0, bx_ BK444.out 1, bx_ BK444.out 2, bx_ BK444.out 3, ((HB.out.cell (World.block_lt_of_cell? w _ hw463_0)).trans hw463_0), ((HB.out.cell (World.block_lt_of_cell? w _ hw463_1)).trans hw463_1), ((HB.out.cell (World.block_lt_of_cell? w _ hw463_2)).trans hw463_2), ((HB.out.cell (World.block_lt_of_cell? w _ hw463_3)).trans hw463_3)⟩ (fun hHeld => ?_); refine with_tabW spec_JoinIn.tab6 spec_JoinIn.bits6 (fun HT_ HW_ => ?_)
       generalize wr.drew = w40 at HO_456001 HO_456004 HO_463000 BK443 BK444 BK445 BK455 BK462 HB HR463_0 hx463_0 hx463_1 hx463_2 hx463_3 hHeld ⊢
       refine pw_ 0 20 (b_ 1 8) rfl rfl HT_.out ?_
       refine pw_ 2 22 #[t_,f_,t_,f_,f_,f_,f_,f_,f_] rfl rfl HT_.out ?_
       refine pw_ 6 26 #[t_,f_,t_,f_,f_,f_,t_,f_,f_] rfl rfl HT_.out ?_
       refine take_ (i := 1) (N := some 21) (v := ?_) (a' := ?_) #[t_,t_,t_,f_,f_,f_,t_,f_,f_] rfl rfl (take_ofW HT_.out HW_.out (by kernel_rfl)) (fun _ _ _ h => h) (Or.inl ⟨by rfl, ?_⟩) hHeld ?_ ?_
       rotate_left
       ·
        rintro w' ⟨s0, s1, s2, s3, s4, s5, s6, s7, s8, s9, s10, s11, s12⟩
        go_simp
        with_reducible rfl
       rotate_left
       ·
        simp only [fr_]
        rfl
       refine pw_ 3 23 #[t_,t_,t_,t_,f_,f_,t_,f_,f_] rfl rfl HT_.out ?_
       refine pw_ 4 24 #[t_,t_,t_,t_,t_,f_,t_,f_,f_] rfl rfl HT_.out ?_
       refine take_ (i := 5) (N := some 25) (v := ?_) (a' := ?_) (b_ 7 2) rfl rfl (take_ofW HT_.out HW_.out (by kernel_rfl)) (fun _ _ _ h => h) (Or.inl ⟨by rfl, ?_⟩) hHeld ?_ ?_
       rotate_left
       ·
        rintro w' ⟨s0, s1, s2, s3, s4, s5, s6, s7, s8, s9, s10, s11, s12⟩
        go_simp
        with_reducible rfl
       rotate_left
       ·
        simp only [fr_]
        rfl
       refine take_ (i := 7) (N := some 27) (v := ?_) (a' := ?_) (b_ 8 1) rfl rfl (take_ofW HT_.out HW_.out (by kernel_rfl)) (fun _ _ _ h => h) (Or.inl ⟨by rfl, ?_⟩) hHeld ?_ ?_
       rotate_left
       ·
        rintro w' ⟨s0, s1, s2, s3, s4, s5, s6, s7, s8, s9, s10, s11, s12⟩
        go_simp
        with_reducible rfl
       rotate_left
       ·
        simp only [fr_]
        rfl
       refine one_ (i := 8) (N := some 28) (b_ 9 0) rfl rfl (one_of HT_.out (by kernel_rfl)) (by decide) (fun K hK => ?_)
       refine gs_ Tryd.func69 #[.slice A463_0 ((rd_T37 l0_4 x7_1).f0).length c463_0, .slice A1_0 l1_0.length c1_0] ?_
       with_reducible refine (spec_SameSet.calls k1 _ _ ((rd_T37 l0_4 x7_1).f0) _ _ l1_0 true _ ?side1 ?side2 ?side3 ?side4 A31.out).mono ?_
       (case side1 => exact cp_ ((Kd.C_below HR463_0.out HB.out)))
       (case side2 => exact HC463_0.out)
       (case side3 => exact cp_ ((Kd.C_below HR1_0.out HB.out)))
       (case side4 => exact HC1_0.out)
       rintro e w' ⟨rfl, ⟨nd, rfl⟩⟩
       refine ⟨_, rfl, ?_⟩
       refine hK.out _ _ ⟨bx_ BK443.out 0, bx_ BK443.out 1, bx_ BK443.out 2, bx_ BK443.out 3, bx_ BK443.out 4, bx_ BK444.out 0, bx_ BK444.out 1, bx_ BK444.out 2, bx_ BK444.out 3, ((HB.out.cell (World.block_lt_of_cell? w _ hw463_0)).trans hw463_0), ((HB.out.cell (World.block_lt_of_cell? w _ hw463_1)).trans hw463_1), ((HB.out.cell (World.block_lt_of_cell? w _ hw463_2)).trans hw463_2), ((HB.out.cell (World.block_lt_of_cell? w _ hw463_3)).trans hw463_3)⟩ (fun hHeld => ?_)
       clear hK K
       refine norm_ (a' := ?_) ?_ ?_
       rotate_left
       ·
        show Act.put _ (some 28) _ = _
        simp only [fr_]
        rfl
       refine done_ (done_of HT_.out (by kernel_rfl)) ?_
       (try (rw [drewN_self w40]; generalize hq_ : World.drewN w40 _ = w40; replace HO_456001 : Aside0 (Kd.R k83 83 w40 w.heap.size (fun k_ => some k_ ≠ (.slice Ao23 t456.length co23 : Value).ownBlock) (.slice Ao17 t447.length co17) t447) := ⟨by rw [← hq_]; exact (rp_ HO_456001.out)⟩; replace HO_456004 : Aside0 (Kd.S k37 37 w40 w.heap.size (fun k_ => some k_ ≠ (.slice Ao17 t447.length co17 : Value).ownBlock ∧ some k_ ≠ (.slice Ao23 t456.length co23 : Value).ownBlock ∧ k_ ≠ gb444 ∧ k_ ≠ gb462) u456004 x456004_1) := ⟨by rw [← hq_]; exact (sp_ HO_456004.out)⟩; replace HO_463000 : Aside0 (Kd.R k83 83 w40 w.heap.size (fun k_ => some k_ ≠ (.slice Ao17 t447.length co17 : Value).ownBlock) (.slice Ao23 t456.length co23) t456) := ⟨by rw [← hq_]; exact (rp_ HO_463000.out)⟩; replace BK443 : Aside0 (w40.heap[gb443]? = some (.cells #[.int .i64 a0_0, .slice A0_1 l0_1.length c0_1, .int .i64 a0_2, .int .i64 a0_3, .slice (some ad463) l0_4.length c0_4] 33 (0, 0))) := ⟨by rw [← hq_]; exact (pb_ BK443.out)⟩; replace BK444 : Aside0 (w40.heap[gb444]? = some (.cells #[.slice A1_0 l1_0.length c1_0, .int .i64 a1_1, .int .i64 a1_2, .string a1_3] 37 (0, 0))) := ⟨by rw [← hq_]; exact (pb_ BK444.out)⟩; replace BK445 : Aside0 (w40.heap[gb445]? = some (.cells #[.int .i64 x446000_1, .slice none 0 0, .int .i64 x446002_1, .int .i64 x446003_1, .slice none 0 0] 33 (0, 0))) := ⟨by rw [← hq_]; exact (pb_ BK445.out)⟩; replace BK455 : Aside0 (w40.heap[gb455]? = some (.cells #[.int .i64 t446, .slice Ao17 t447.length co17, .int .i64 t450, .int .i64 t451, u456004] 33 (0, 0))) := ⟨by rw [← hq_]; exact (pb_ BK455.out)⟩; replace BK462 : Aside0 (w40.heap[gb462]? = some (.cells #[.slice Ao23 t456.length co23, .int .i64 t459, .int .i64 t460, .string t461] 37 (0, 0))) := ⟨by rw [← hq_]; exact (pb_ BK462.out)⟩; replace HB : Aside0 (Below w.heap.size w w40) := ⟨by rw [← hq_]; exact (hs_ HB.out)⟩; clear hq_))
       have hnb41 := NB455_444.out
       have hnc41 := NB444_455.out
       have hnb42 := NB455_445.out
       have hnc42 := NB445_455.out
       have hnb43 := NB455_462.out
       have hnc43 := NB462_455.out
       obtain ⟨z44_0, z44_1, z44_2, z44_3, z44_4, y44_0, y44_1, y44_2, y44_3, y44_4⟩ := bc5_ BK455.out
       have hnb45 := NB462_444.out
       have hnc45 := NB444_462.out
       have hnb46 := NB462_445.out
       have hnc46 := NB445_462.out
       obtain ⟨z47_0, z47_1, z47_2, z47_3, y47_0, y47_1, y47_2, y47_3⟩ := bc4_ BK462.out
       have p34 : 0 ≤ (x7_1 : Int) := of_decide_eq_true (by with_reducible assumption)
       have q34 : (x7_1 : Int) < ((x456004_1.length : Int) : Int) := of_decide_eq_true (by with_reducible assumption)
       obtain ⟨go34, co34, eo34, gb34, gl34, cl34, HG34⟩ := Kd.S_form HO_456004.out (by omega)
       (first | cases eo34 | (injection eo34 with ea_ en_ ec_; (first | subst ea_ | (injection ea_ with ea_; subst ea_)); subst ec_; clear en_))
       have GB34 := Aside0.mk gb34
       have GG34 := Aside0.mk HG34
       clear gb34 gl34 HG34
       obtain ⟨_, ce34, hcl34, hM34, hcc34, hfr34, _, _⟩ := Kd.S_elem HO_456004.out z37 (x7_1 : Int) p34 q34
       obtain ⟨ve34_0, rfl, ge34_0⟩ := k37_openM hM34
       have hx34_0 : w40.cell? ⟨go34, (x7_1 : Int).toNat * 4, none⟩ = some (ve34_0) := hcc34 0 _ rfl
       have hx34_1 : w40.cell? ⟨go34, (x7_1 : Int).toNat * 4 + 1, none⟩ = some (.int .i64 ((rd_T37 x456004_1 x7_1).f1)) := hcc34 1 _ rfl
       have hx34_2 : w40.cell? ⟨go34, (x7_1 : Int).toNat * 4 + 2, none⟩ = some (.int .i64 ((rd_T37 x456004_1 x7_1).f2)) := hcc34 2 _ rfl
       have hx34_3 : w40.cell? ⟨go34, (x7_1 : Int).toNat * 4 + 3, none⟩ = some (.string ((rd_T37 x456004_1 x7_1).f3)) := hcc34 3 _ rfl
       have hf34_0 : w40.frozen? ⟨go34, (x7_1 : Int).toNat * 4, none⟩ = false := hfr34 0
       have hf34_1 : w40.frozen? ⟨go34, (x7_1 : Int).toNat * 4 + 1, none⟩ = false := hfr34 1
       have hf34_2 : w40.frozen? ⟨go34, (x7_1 : Int).toNat * 4 + 2, none⟩ = false := hfr34 2
       have hf34_3 : w40.frozen? ⟨go34, (x7_1 : Int).toNat * 4 + 3, none⟩ = false := hfr34 3
       clear hcl34 hcc34 hfr34 hM34
       replace p34 := eq_true p34
       replace q34 := eq_true q34
       have HX48 := Aside0.mk (show Kd.S k37 37 w40 w.heap.size (fun k_ => ((fun k_ => some k_ ≠ (.slice Ao17 t447.length co17 : Value).ownBlock ∧ k_ ≠ gb444 ∧ k_ ≠ gb462)) k_ ∧ ¬ ((fun k_ => some k_ = (.slice Ao23 t456.length co23 : Value).ownBlock)) k_) (.slice (some ⟨go34, 0, none⟩) x456004_1.length co34) x456004_1 from (Kd.S_mono (sp_ HO_456004.out) (fun k_ hk => ⟨⟨hk.1, ⟨hk.2.2.1, hk.2.2.2⟩⟩, fun e_ => hk.2.1 e_⟩)))
       obtain ⟨oki48, ce48, hcl48, hM48, hcc48, hfr48, hoki48, hH48⟩ := Kd.S_elem HX48.out z37 (x7_1 : Int) (of_decide_eq_true (by with_reducible assumption)) (by have h_ : (x7_1 : Int) < ((x456004_1.length : Int) : Int) := of_decide_eq_true (by with_reducible assumption); first | exact h_ | (have e_ := (Kd.S_reads' HO_456004.out).1; omega) | simpa using h_)
       obtain ⟨ve48_0, rfl, ge48_0⟩ := k37_openM hM48
       have HP48 := Kd.S_seg hH48 (of_decide_eq_true (by with_reducible assumption)) (by have h_ : (x7_1 : Int) < ((x456004_1.length : Int) : Int) := of_decide_eq_true (by with_reducible assumption); first | exact h_ | (have e_ := (Kd.S_reads' HO_456004.out).1; omega) | simpa using h_) (seg := [.slice Ao23 t456.length co23, .int .i64 t459, .int .i64 t460, .string t461]) (j := 0) (show 4 ≤ 4 from by decide) (x' := (⟨t456, t459, t460, t461⟩ : S37)) (k37_mkM _ _ _ (⟨t456, t459, t460, t461⟩ : S37) (Kd.R_mono (Kd.R_tight rfl (Kd.R_mono (ok' := fun k_ => ((fun k_ => some k_ ≠ (.slice Ao17 t447.length co17 : Value).ownBlock ∧ k_ ≠ gb444 ∧ k_ ≠ gb462)) k_ ∧ k_ ≠ go34) (Kd.R_types (Kd.R_types (Kd.R_apart' (HO_463000.out) (Kd.S_typed HO_456004.out) (by decide)) BK444.out (by decide)) BK462.out (by decide)) (fun k_ hk => ⟨⟨hk.1.1.1, ⟨hk.1.2, hk.2⟩⟩, fun e_ => (hk.1.1.2) (by rw [e_]; rfl)⟩))) (fun _ h_ => Or.inr (h_)))) (fun _ hk => hk) (fun k_ hk_ => ((Kd.R_mono (ok' := fun k_ => ((fun k_ => some k_ ≠ (.slice Ao17 t447.length co17 : Value).ownBlock ∧ k_ ≠ gb444 ∧ k_ ≠ gb462)) k_ ∧ k_ ≠ go34) (Kd.R_types (Kd.R_types (Kd.R_apart' (HO_463000.out) (Kd.S_typed HO_456004.out) (by decide)) BK444.out (by decide)) BK462.out (by decide)) (fun k_ hk => ⟨⟨hk.1.1.1, ⟨hk.1.2, hk.2⟩⟩, fun e_ => (hk.1.1.2) (by rw [e_]; rfl)⟩))).1 k_ hk_.symm)
       have hx48_0 := hcc48 0 _ rfl
       (try simp only [show (k37).sz = 4 from rfl, Nat.mul_one, Nat.add_zero] at hx48_0)
       have hf48_0 := hfr48 0
       (try simp only [show (k37).sz = 4 from rfl, Nat.mul_one, Nat.add_zero] at hf48_0)
       have hx48_1 := hcc48 1 _ rfl
       (try simp only [show (k37).sz = 4 from rfl, Nat.mul_one, Nat.add_zero] at hx48_1)
       have hf48_1 := hfr48 1
       (try simp only [show (k37).sz = 4 from rfl, Nat.mul_one, Nat.add_zero] at hf48_1)
       have hx48_2 := hcc48 2 _ rfl
       (try simp only [show (k37).sz = 4 from rfl, Nat.mul_one, Nat.add_zero] at hx48_2)
       have hf48_2 := hfr48 2
       (try simp only [show (k37).sz = 4 from rfl, Nat.mul_one, Nat.add_zero] at hf48_2)
       have hx48_3 := hcc48 3 _ rfl
       (try simp only [show (k37).sz = 4 from rfl, Nat.mul_one, Nat.add_zero] at hx48_3)
       have hf48_3 := hfr48 3
       (try simp only [show (k37).sz = 4 from rfl, Nat.mul_one, Nat.add_zero] at hf48_3)
       clear hcl48 hcc48 hfr48 hM48 hoki48 hH48
       try go_wp2_with (first | ((with_reducible refine gate_store (t := 37) (p := 33) rfl ?_); refine store_event (t := 37) (p := 33) (v := ?vo_w49) (w1 := ((((w40.setCell ⟨go34, (x7_1 : Int).toNat * 4, none⟩ (.slice Ao23 t456.length co23)).setCell ⟨go34, (x7_1 : Int).toNat * 4 + 1, none⟩ (.int .i64 t459)).setCell ⟨go34, (x7_1 : Int).toNat * 4 + 2, none⟩ (.int .i64 t460)).setCell ⟨go34, (x7_1 : Int).toNat * 4 + 3, none⟩ (.string t461))) ?hg ?ho ?hn ?hr ?_; (case ho => rfl); (case hg => rfl); (case hn => rfl); (case hr => first | (go_simp; done) | (go_simp; rfl)); intro w49 hw; have hg : w40.grownBy w49 (some go34) := (by rw [hw]; exact HP48.2); have hp_ : Kd.S k37 37 w49 w.heap.size (fun k_ => some k_ ≠ (.slice Ao17 t447.length co17 : Value).ownBlock ∧ k_ ≠ gb444 ∧ k_ ≠ gb462) (.slice (some ⟨go34, 0, none⟩) x456004_1.length co34) y465 := (by rw [hw, Ny465.out]; exact HP48.1); clear HP48; replace HO_456001 := Aside0.mk (Kd.R_over' (v := (.slice (some ⟨go34, 0, none⟩) x456004_1.length co34)) (rp_ HO_456001.out) (Kd.S_typed HO_456004.out) (by decide) hg); replace BK443 := Aside0.mk (blk_grown (bq_ BK443.out) hg (Kd.S_ne HO_456004.out BK443.out (by decide))); replace BK444 := Aside0.mk (blk_grown (bq_ BK444.out) hg (Kd.S_away HO_456004.out (fun _ hk => hk.2.2.1))); replace BK445 := Aside0.mk (blk_grown (bq_ BK445.out) hg (Kd.S_ne HO_456004.out BK445.out (by decide))); replace BK455 := Aside0.mk (blk_grown (bq_ BK455.out) hg (Kd.S_ne HO_456004.out BK455.out (by decide))); replace BK462 := Aside0.mk (blk_grown (bq_ BK462.out) hg (Kd.S_away HO_456004.out (fun _ hk => hk.2.2.2))); replace HO_456004 := Aside0.mk (hp_); replace HB := Aside0.mk ((by rw [hw]; exact below_set (below_set (below_set (below_set (HB.out) GB34.out) GB34.out) GB34.out) GB34.out : Below w.heap.size w w49)); clear HO_463000; clear hg hw hp_; obtain ⟨z50_0, z50_1, z50_2, z50_3, z50_4, y50_0, y50_1, y50_2, y50_3, y50_4⟩ := bc5_ BK455.out; have hnb51 := NB445_444.out; have hnc51 := NB444_445.out; obtain ⟨z52_0, z52_1, z52_2, z52_3, z52_4, y52_0, y52_1, y52_2, y52_3, y52_4⟩ := bc5_ BK445.out))
       refine bodyPost_ret (results_cell_row rfl _ _ gb445 33 #[.int .i64 t446, .slice Ao17 t447.length co17, .int .i64 t450, .int .i64 t451, .slice (some ⟨go34, 0, none⟩) x456004_1.length co34] (0, 0) _ rfl (bp_ BK445.out) Tryd.underlying33 rfl (by kernel_rfl)) rfl ?_
       exact ⟨_, _, by first | rfl | (simp [errW_none, errW_some] <;> rfl) | (simp [*, errW_none, errW_some] <;> rfl), by (with_reducible repeat (first | apply Kd.R_alloc | apply Kd.R_drewN | apply Kd.R_drew)); exact Kd.R_mono (rf_ gb445 (Kd.R_types HO_456001.out BK445.out (by decide)) (fun _ hk => hk.2)) (fun _ hk => trivial), by (with_reducible repeat (first | apply Kd.S_alloc | apply Kd.S_drewN | apply Kd.S_drew)); exact Kd.S_mono (sf_ gb445 (Kd.S_types HO_456004.out BK445.out (by decide)) (fun _ hk => hk.2)) (fun _ hk => hk.1.1), by exact hs_ HB.out⟩
      rw [if_neg c33] at H
      exact absurd H (by simp)
     replace c32 := Bool.eq_false_iff.mpr c32
     subst c32
     rw [if_neg (show ¬ (false = true) by decide)] at H
     have H' := Aside0.mk H
     clear H
     try go_wp2
     replace HO_456001 := Aside0.mk (Kd.R_drew HO_456001.out)
     replace HO_456004 := Aside0.mk (Kd.S_drew HO_456004.out)
     replace HO_463000 := Aside0.mk (Kd.R_drew HO_463000.out)
     replace BK443 := Aside0.mk (blk_drew BK443.out)
     replace BK444 := Aside0.mk (blk_drew BK444.out)
     replace BK445 := Aside0.mk (blk_drew BK445.out)
     replace BK455 := Aside0.mk (blk_drew BK455.out)
     replace BK462 := Aside0.mk (blk_drew BK462.out)
     replace HB := Aside0.mk (bd_ HB.out)
     have p463 : 0 ≤ (x7_1 : Int) := of_decide_eq_true (by with_reducible assumption)
     have q463 : x7_1 < (l0_4.length : Int) := of_decide_eq_true (by with_reducible assumption)
     obtain ⟨ad463, A463_0, c463_0, e463, hx463_0, hx463_1, hx463_2, hx463_3, hl463_0, hi463_0⟩ := at_T37 HR0_4.out x7_1 p463 q463
     have hw463_3 := hx463_3
     have hw463_2 := hx463_2
     have hw463_1 := hx463_1
     have hw463_0 := hx463_0
     cases e463
     replace hx463_0 := cl_ HB.out hx463_0
     replace hx463_1 := cl_ HB.out hx463_1
     replace hx463_2 := cl_ HB.out hx463_2
     replace hx463_3 := cl_ HB.out hx463_3
     have HR463_0 := Aside0.mk hi463_0
     have HC463_0 := Aside0.mk hl463_0
     clear hi463_0 hl463_0
     replace p463 := eq_true p463
     replace q463 := eq_true q463
     refine start_ (n := 9) (S := fun w' => w'.cell? ⟨gb443, 0, none⟩ = some (.int .i64 a0_0) ∧ w'.cell? ⟨gb443, 1, none⟩ = some (.slice A0_1 l0_1.length c0_1) ∧ w'.cell? ⟨gb443, 2, none⟩ = some (.int .i64 a0_2) ∧ w'.cell? ⟨gb443, 3, none⟩ = some (.int .i64 a0_3) ∧ w'.cell? ⟨gb443, 4, none⟩ = some (.slice (some ad463) l0_4.length c0_4) ∧ w'.cell? ⟨gb444, 0, none⟩ = some (.slice A1_0 l1_0.length c1_0) ∧ w'.cell? ⟨gb444, 1, none⟩ = some (.int .i64 a1_1) ∧ w'.cell? ⟨gb444, 2, none⟩ = some (.int .i64 a1_2) ∧ w'.cell? ⟨gb444, 3, none⟩ = some (.string a1_3) ∧ w'.cell? (ad463.add ((x7_1).toNat * 4)) = some (.slice A463_0 ((rd_T37 l0_4 x7_1).f0).length c463_0) ∧ w'.cell? ⟨(ad463.add ((x7_1).toNat * 4)).block, (ad463.add ((x7_1).toNat * 4)).off + 1, none⟩ = some (.int .i64 ((rd_T37 l0_4 x7_1).f1)) ∧ w'.cell? ⟨(ad463.add ((x7_1).toNat * 4)).block, (ad463.add ((x7_1).toNat * 4)).off + 2, none⟩ = some (.int .i64 ((rd_T37 l0_4 x7_1).f2)) ∧ w'.cell? ⟨(ad463.add ((x7_1).toNat * 4)).block, (ad463.add ((x7_1).toNat * 4)).off + 3, none⟩ = some (.string ((rd_T37 l0_4 x7_1).f3))) (ds := []) (b_ 0 9) (by kernel_rfl) rfl rfl ⟨bx_ BK443.out 0, bx_ BK443.out 1, bx_ BK443.out 2, bx_ BK443.out 3, bx_ BK443.out 4, bx_ BK444.out 0, bx_ BK444.out 1, bx_ BK444.out 2, bx_ BK444.out 3, ((HB.out.cell (World.block_lt_of_cell? w _ hw463_0)).trans hw463_0), ((HB.out.cell (World.block_lt_of_cell? w _ hw463_1)).trans hw463_1), ((HB.out.cell (World.block_lt_of_cell? w _ hw463_2)).trans hw463_2), ((HB.out.cell (World.block_lt_of_cell? w _ hw463_3)).trans hw463_3)⟩ (fun hHeld => ?_); refine with_tabW spec_JoinIn.tab6 spec_JoinIn.bits6 (fun HT_ HW_ => ?_)
     generalize wr.drew = w58 at HO_456001 HO_456004 HO_463000 BK443 BK444 BK445 BK455 BK462 HB HR463_0 hx463_0 hx463_1 hx463_2 hx463_3 hHeld ⊢
     refine pw_ 0 20 (b_ 1 8) rfl rfl HT_.out ?_
     refine pw_ 2 22 #[t_,f_,t_,f_,f_,f_,f_,f_,f_] rfl rfl HT_.out ?_
     refine pw_ 6 26 #[t_,f_,t_,f_,f_,f_,t_,f_,f_] rfl rfl HT_.out ?_
     refine take_ (i := 1) (N := some 21) (v := ?_) (a' := ?_) #[t_,t_,t_,f_,f_,f_,t_,f_,f_] rfl rfl (take_ofW HT_.out HW_.out (by kernel_rfl)) (fun _ _ _ h => h) (Or.inl ⟨by rfl, ?_⟩) hHeld ?_ ?_
     rotate_left
     ·
      rintro w' ⟨s0, s1, s2, s3, s4, s5, s6, s7, s8, s9, s10, s11, s12⟩
      go_simp
      with_reducible rfl
     rotate_left
     ·
      simp only [fr_]
      rfl
     refine pw_ 3 23 #[t_,t_,t_,t_,f_,f_,t_,f_,f_] rfl rfl HT_.out ?_
     refine pw_ 4 24 #[t_,t_,t_,t_,t_,f_,t_,f_,f_] rfl rfl HT_.out ?_
     refine take_ (i := 5) (N := some 25) (v := ?_) (a' := ?_) (b_ 7 2) rfl rfl (take_ofW HT_.out HW_.out (by kernel_rfl)) (fun _ _ _ h => h) (Or.inl ⟨by rfl, ?_⟩) hHeld ?_ ?_
     rotate_left
     ·
      rintro w' ⟨s0, s1, s2, s3, s4, s5, s6, s7, s8, s9, s10, s11, s12⟩
      go_simp
      with_reducible rfl
     rotate_left
     ·
      simp only [fr_]
      rfl
     refine take_ (i := 7) (N := some 27) (v := ?_) (a' := ?_) (b_ 8 1) rfl rfl (take_ofW HT_.out HW_.out (by kernel_rfl)) (fun _ _ _ h => h) (Or.inl ⟨by rfl, ?_⟩) hHeld ?_ ?_
     rotate_left
     ·
      rintro w' ⟨s0, s1, s2, s3, s4, s5, s6, s7, s8, s9, s10, s11, s12⟩
      go_simp
      with_reducible rfl
     rotate_left
     ·
      simp only [fr_]
      rfl
     refine one_ (i := 8) (N := some 28) (b_ 9 0) rfl rfl (one_of HT_.out (by kernel_rfl)) (by decide) (fun K hK => ?_)
     refine gs_ Tryd.func69 #[.slice A463_0 ((rd_T37 l0_4 x7_1).f0).length c463_0, .slice A1_0 l1_0.length c1_0] ?_
     with_reducible refine (spec_SameSet.calls k1 _ _ ((rd_T37 l0_4 x7_1).f0) _ _ l1_0 false _ ?side1 ?side2 ?side3 ?side4 A31.out).mono ?_
     (case side1 => exact cp_ ((Kd.C_below HR463_0.out HB.out)))
     (case side2 => exact HC463_0.out)
     (case side3 => exact cp_ ((Kd.C_below HR1_0.out HB.out)))
     (case side4 => exact HC1_0.out)
     rintro e w' ⟨rfl, ⟨nd, rfl⟩⟩
     refine ⟨_, rfl, ?_⟩
     refine hK.out _ _ ⟨bx_ BK443.out 0, bx_ BK443.out 1, bx_ BK443.out 2, bx_ BK443.out 3, bx_ BK443.out 4, bx_ BK444.out 0, bx_ BK444.out 1, bx_ BK444.out 2, bx_ BK444.out 3, ((HB.out.cell (World.block_lt_of_cell? w _ hw463_0)).trans hw463_0), ((HB.out.cell (World.block_lt_of_cell? w _ hw463_1)).trans hw463_1), ((HB.out.cell (World.block_lt_of_cell? w _ hw463_2)).trans hw463_2), ((HB.out.cell (World.block_lt_of_cell? w _ hw463_3)).trans hw463_3)⟩ (fun hHeld => ?_)
     clear hK K
     refine norm_ (a' := ?_) ?_ ?_
     rotate_left
     ·
      show Act.put _ (some 28) _ = _
      simp only [fr_]
      rfl
     refine done_ (done_of HT_.out (by kernel_rfl)) ?_
     try go_wp2
     go_roundg k1
     case measure => have := HK1.out; omega
     case rel => exact ⟨(wrap64 (x7_1 + 1)), (x446000_1), (x446002_1), (x446003_1), (x456004_1), (u456004), (by first | rfl | (simp; done) | (simp [*]; done)), H', ⟨by have := HK1.out; omega⟩, ⟨by (with_reducible repeat (first | apply Kd.R_alloc | apply Kd.R_drewN | apply Kd.R_drew)); exact HO_456001.out⟩, ⟨by (with_reducible repeat (first | apply Kd.S_alloc | apply Kd.S_drewN | apply Kd.S_drew)); exact HO_456004.out⟩, ⟨by (with_reducible repeat (first | apply Kd.R_alloc | apply Kd.R_drewN | apply Kd.R_drew)); exact HO_463000.out⟩, ⟨bq_ BK443.out⟩, ⟨bq_ BK444.out⟩, ⟨bq_ BK445.out⟩, ⟨bq_ BK455.out⟩, ⟨bq_ BK462.out⟩, ⟨by exact hs_ HB.out⟩⟩
    rw [if_neg c30] at H
    exact absurd H (by simp)
   rw [if_neg c29] at H
   have c29b0 : decide (x7_1 < (l0_4.length : Int)) = false := decide_eq_false c29
   clear c29
   have H' := Aside0.mk H
   clear H
   have hnb59 := NB443_444.out
   have hnc59 := NB444_443.out
   have hnb60 := NB443_445.out
   have hnc60 := NB445_443.out
   have hnb61 := NB443_455.out
   have hnc61 := NB455_443.out
   have hnb62 := NB443_462.out
   have hnc62 := NB462_443.out
   obtain ⟨z63_0, z63_1, z63_2, z63_3, z63_4, y63_0, y63_1, y63_2, y63_3, y63_4⟩ := bc5_ BK443.out
   go_wp2
   go_loopg [8] k1 (fun kq v8 w' => ∃ (x8_2 : Int), v8 = .int .i64 x8_2 ∧ Aside0 (spec_JoinIn.l1 kq x8_2 a0_0 l0_1 a0_2 a0_3 l0_4 l1_0 a1_1 a1_2 a1_3 t446 t447 t450 t451 x456004_1 t456 t459 t460 t461 = some (r1, r2, r3, r4, r5)) ∧ Aside0 (kq ≤ k1) ∧ Aside0 (Kd.R k83 83 w' w.heap.size (fun k_ => some k_ ≠ ((.slice Ao23 t456.length co23) : Value).ownBlock) (.slice Ao17 t447.length co17) t447) ∧ Aside0 (Kd.S k37 37 w' w.heap.size (fun k_ => some k_ ≠ ((.slice Ao17 t447.length co17) : Value).ownBlock ∧ some k_ ≠ ((.slice Ao23 t456.length co23) : Value).ownBlock ∧ k_ ≠ gb444 ∧ k_ ≠ gb462) u456004 x456004_1) ∧ Aside0 (Kd.R k83 83 w' w.heap.size (fun k_ => some k_ ≠ ((.slice Ao17 t447.length co17) : Value).ownBlock) (.slice Ao23 t456.length co23) t456) ∧ Aside0 (w'.heap[gb443]? = some (.cells #[.int .i64 a0_0, (.slice A0_1 l0_1.length c0_1), .int .i64 a0_2, .int .i64 a0_3, (.slice A0_4 l0_4.length c0_4)] 33 (0, 0))) ∧ Aside0 (w'.heap[gb444]? = some (.cells #[(.slice A1_0 l1_0.length c1_0), .int .i64 a1_1, .int .i64 a1_2, .string a1_3] 37 (0, 0))) ∧ Aside0 (w'.heap[gb445]? = some (.cells #[.int .i64 x446000_1, (.slice none 0 0), .int .i64 x446002_1, .int .i64 x446003_1, (.slice none 0 0)] 33 (0, 0))) ∧ Aside0 (w'.heap[gb455]? = some (.cells #[.int .i64 t446, (.slice Ao17 t447.length co17), .int .i64 t450, .int .i64 t451, u456004] 33 (0, 0))) ∧ Aside0 (w'.heap[gb462]? = some (.cells #[(.slice Ao23 t456.length co23), .int .i64 t459, .int .i64 t460, .string t461] 37 (0, 0))) ∧ Aside0 (Below w.heap.size w w'))
   case atStart => exact ⟨(0), (by first | rfl | (simp; done) | (simp [*]; done)), H', ⟨Nat.le_refl _⟩, ⟨by (with_reducible repeat (first | apply Kd.R_alloc | apply Kd.R_drewN | apply Kd.R_drew)); exact HO_456001.out⟩, ⟨by (with_reducible repeat (first | apply Kd.S_alloc | apply Kd.S_drewN | apply Kd.S_drew)); exact HO_456004.out⟩, ⟨by (with_reducible repeat (first | apply Kd.R_alloc | apply Kd.R_drewN | apply Kd.R_drew)); exact HO_463000.out⟩, ⟨bq_ BK443.out⟩, ⟨bq_ BK444.out⟩, ⟨bq_ BK445.out⟩, ⟨bq_ BK455.out⟩, ⟨bq_ BK462.out⟩, ⟨by exact hs_ HB.out⟩⟩
   case round =>
    clear H'
    try clear c1
    try clear c2
    try clear p2
    try clear c3
    try clear p3
    try clear q3
    try clear hx3
    try clear hf3
    try clear c4
    try clear p4
    try clear q4
    try clear hx4
    try clear hf4
    try clear c5
    try clear c6
    try clear p6
    try clear c7
    try clear c8
    try clear c9
    try clear c13
    try clear c14
    try clear c15
    try clear c19
    try clear c24
    try clear c25
    try clear c26
    try clear c27
    try clear c29
    try clear c29b0
    try clear c30
    try clear c30b0
    try clear c32
    try clear c33
    try clear c33b0
    try clear c34
    try clear p34
    try clear q34
    try clear hx34
    try clear hf34
    try clear c35
    try clear c36
    try clear c37
    try clear c38
    try clear c41
    try clear c42
    try clear c43
    try clear c45
    try clear c46
    try clear p46
    try clear q46
    try clear hx46
    try clear c48
    try clear hx48
    try clear hf48
    try clear c51
    try clear c53
    try clear c54
    try clear c55
    try clear c56
    try clear c59
    try clear c60
    try clear c61
    try clear c62
    try clear z63_0 z63_1 z63_2 z63_3 z63_4 y63_0 y63_1 y63_2 y63_3 y63_4
    try clear hx34_0
    try clear hx34_1
    try clear hx34_2
    try clear hx34_3
    try clear hx463_0
    try clear hx463_1
    try clear hx463_2
    try clear hx463_3
    try clear hx48_0
    try clear hx48_1
    try clear hx48_2
    try clear hx48_3
    try clear p2
    try clear p34
    try clear p463
    try clear q34
    try clear q463
    obtain ⟨x8_2, rfl, HA, HK2, HO_456001, HO_456004, HO_463000, BK443, BK444, BK445, BK455, BK462, HB⟩ := hrel
    cases gk with
    | zero => exact absurd HA.out (by simp [spec_JoinIn.l1])
    | succ k2 =>
     have H := HA.out
     clear HA
     simp only [spec_JoinIn.l1] at H
     by_cases c64 : x8_2 < (l0_4.length : Int)
     ·
      rw [if_pos c64] at H
      have c64b0 := decide_eq_true c64
      clear c64
      by_cases c65 : 0 ≤ x8_2
      ·
       rw [if_pos c65] at H
       have c65b0 := decide_eq_true c65
       clear c65
       replace H := Option.bind_eq_some_iff.mp H
       obtain ⟨t467, A660, H⟩ := H
       have A66 := Aside0.mk A660
       clear A660
       by_cases c67 : t467 = true
       ·
        subst c67
        rw [if_pos rfl] at H
        have c68b0 := eq_true (of_decide_eq_true (by with_reducible assumption) : 0 ≤ x8_2)
        by_cases c69 : x8_2 ≤ (l0_4.length : Int)
        ·
         rw [if_pos c69] at H
         have c69b0 := eq_true c69
         have c69b1 := decide_eq_true c69
         clear c69
         obtain ⟨y468, hy468⟩ : ∃ y_ : List (S37), y_ = (l0_4.take (x8_2 : Int).toNat) := ⟨_, rfl⟩
         replace H : ((spec_l4All.f k2 y468).bind fun t472 => (if t472.length < 2513169434916 then ((some (t472 ++ [(⟨t456, t459, t460, t461⟩ : S37)] : List (S37))).bind fun y476 => ((spec_l4All.f k2 (l0_4.drop (x8_2 : Int).toNat)).bind fun t483 => (if y476.length + t483.length < 2513169434916 then (some (t446, t447, t450, t451, (y476 ++ t483))) else (none)))) else (none))) = some (r1, r2, r3, r4, r5) := by first | (rw [hy468]; with_reducible exact H) | (have H2_ := (Option.bind_some _ _).symm.trans H; rw [hy468]; with_reducible exact H2_) | (have H2_ := (Option.bind_some _ _).symm.trans H; with_reducible exact H2_) | with_reducible exact H | (rw [hy468]; exact H) | exact H
         have Ny468 := Aside0.mk hy468
         clear hy468
         replace H := Option.bind_eq_some_iff.mp H
         obtain ⟨t472, A700, H⟩ := H
         have A70 := Aside0.mk A700
         clear A700
         by_cases c71 : t472.length < 2513169434916
         ·
          rw [if_pos c71] at H
          have LMc71 := Aside0.mk c71
          clear c71
          obtain ⟨y476, hy476⟩ : ∃ y_ : List (S37), y_ = (t472 ++ [(⟨t456, t459, t460, t461⟩ : S37)]) := ⟨_, rfl⟩
          replace H : ((spec_l4All.f k2 (l0_4.drop (x8_2 : Int).toNat)).bind fun t483 => (if y476.length + t483.length < 2513169434916 then (some (t446, t447, t450, t451, (y476 ++ t483))) else (none))) = some (r1, r2, r3, r4, r5) := by first | (rw [hy476]; with_reducible exact H) | (have H2_ := (Option.bind_some _ _).symm.trans H; rw [hy476]; with_reducible exact H2_) | (have H2_ := (Option.bind_some _ _).symm.trans H; with_reducible exact H2_) | with_reducible exact H | (rw [hy476]; exact H) | exact H
          have Ny476 := Aside0.mk hy476
          clear hy476
          have c72b0 := eq_true (of_decide_eq_true (by with_reducible assumption) : 0 ≤ x8_2)
          have c73b0 := eq_true (of_decide_eq_true (by with_reducible assumption) : x8_2 ≤ (l0_4.length : Int))
          obtain ⟨y479, hy479⟩ : ∃ y_ : List (S37), y_ = (l0_4.drop (x8_2 : Int).toNat) := ⟨_, rfl⟩
          replace H : ((spec_l4All.f k2 y479).bind fun t483 => (if y476.length + t483.length < 2513169434916 then (some (t446, t447, t450, t451, (y476 ++ t483))) else (none))) = some (r1, r2, r3, r4, r5) := by first | (rw [hy479]; with_reducible exact H) | (have H2_ := (Option.bind_some _ _).symm.trans H; rw [hy479]; with_reducible exact H2_) | (have H2_ := (Option.bind_some _ _).symm.trans H; with_reducible exact H2_) | with_reducible exact H | (rw [hy479]; exact H) | exact H
          have Ny479 := Aside0.mk hy479
          clear hy479
          replace H := Option.bind_eq_some_iff.mp H
          obtain ⟨t483, A740, H⟩ := H
          have A74 := Aside0.mk A740
          clear A740
          by_cases c75 : y476.length + t483.length < 2513169434916
          ·
           rw [if_pos c75] at H
           have LMc75 := Aside0.mk c75
           clear c75
           obtain ⟨y486, hy486⟩ : ∃ y_ : List (S37), y_ = (y476 ++ t483) := ⟨_, rfl⟩
           replace H : (some (t446, t447, t450, t451, y486)) = some (r1, r2, r3, r4, r5) := by first | (rw [hy486]; with_reducible exact H) | (have H2_ := (Option.bind_some _ _).symm.trans H; rw [hy486]; with_reducible exact H2_) | (have H2_ := (Option.bind_some _ _).symm.trans H; with_reducible exact H2_) | with_reducible exact H | (rw [hy486]; exact H) | exact H
           have Ny486 := Aside0.mk hy486
           clear hy486
           simp only [Option.some.injEq, Prod.mk.injEq] at H
           obtain ⟨rfl, rfl, rfl, rfl, rfl⟩ := H
           try go_wp2
           replace HO_456001 := Aside0.mk (Kd.R_drew HO_456001.out)
           replace HO_456004 := Aside0.mk (Kd.S_drew HO_456004.out)
           replace HO_463000 := Aside0.mk (Kd.R_drew HO_463000.out)
           replace BK443 := Aside0.mk (blk_drew BK443.out)
           replace BK444 := Aside0.mk (blk_drew BK444.out)
           replace BK445 := Aside0.mk (blk_drew BK445.out)
           replace BK455 := Aside0.mk (blk_drew BK455.out)
           replace BK462 := Aside0.mk (blk_drew BK462.out)
           replace HB := Aside0.mk (bd_ HB.out)
           have p466 : 0 ≤ (x8_2 : Int) := of_decide_eq_true (by with_reducible assumption)
           have q466 : x8_2 < (l0_4.length : Int) := of_decide_eq_true (by with_reducible assumption)
           obtain ⟨ad466, A466_0, c466_0, e466, hx466_0, hx466_1, hx466_2, hx466_3, hl466_0, hi466_0⟩ := at_T37 HR0_4.out x8_2 p466 q466
           have hw466_3 := hx466_3
           have hw466_2 := hx466_2
           have hw466_1 := hx466_1
           have hw466_0 := hx466_0
           cases e466
           replace hx466_0 := cl_ HB.out hx466_0
           replace hx466_1 := cl_ HB.out hx466_1
           replace hx466_2 := cl_ HB.out hx466_2
           replace hx466_3 := cl_ HB.out hx466_3
           have HR466_0 := Aside0.mk hi466_0
           have HC466_0 := Aside0.mk hl466_0
           clear hi466_0 hl466_0
           replace p466 := eq_true p466
           replace q466 := eq_true q466
           refine start_ (n := 17) (S := fun w' => w'.cell? ⟨gb443, 0, none⟩ = some (.int .i64 a0_0) ∧ w'.cell? ⟨gb443, 1, none⟩ = some (.slice A0_1 l0_1.length c0_1) ∧ w'.cell? ⟨gb443, 2, none⟩ = some (.int .i64 a0_2) ∧ w'.cell? ⟨gb443, 3, none⟩ = some (.int .i64 a0_3) ∧ w'.cell? ⟨gb443, 4, none⟩ = some (.slice (some ad466) l0_4.length c0_4) ∧ w'.cell? ⟨gb444, 0, none⟩ = some (.slice A1_0 l1_0.length c1_0) ∧ w'.cell? ⟨gb444, 1, none⟩ = some (.int .i64 a1_1) ∧ w'.cell? ⟨gb444, 2, none⟩ = some (.int .i64 a1_2) ∧ w'.cell? ⟨gb444, 3, none⟩ = some (.string a1_3) ∧ w'.cell? (ad466.add ((x8_2).toNat * 4)) = some (.slice A466_0 ((rd_T37 l0_4 x8_2).f0).length c466_0) ∧ w'.cell? ⟨(ad466.add ((x8_2).toNat * 4)).block, (ad466.add ((x8_2).toNat * 4)).off + 1, none⟩ = some (.int .i64 ((rd_T37 l0_4 x8_2).f1)) ∧ w'.cell? ⟨(ad466.add ((x8_2).toNat * 4)).block, (ad466.add ((x8_2).toNat * 4)).off + 2, none⟩ = some (.int .i64 ((rd_T37 l0_4 x8_2).f2)) ∧ w'.cell? ⟨(ad466.add ((x8_2).toNat * 4)).block, (ad466.add ((x8_2).toNat * 4)).off + 3, none⟩ = some (.string ((rd_T37 l0_4 x8_2).f3))) (ds := []) (b_ 0 17) (by kernel_rfl) rfl rfl ⟨bx_ BK443.out 0, bx_ BK443.out 1, bx_ BK443.out 2, bx_ BK443.out 3, bx_ BK443.out 4, bx_ BK444.out 0, bx_ BK444.out 1, bx_ BK444.out 2, bx_ BK444.out 3, ((HB.out.cell (World.block_lt_of_cell? w _ hw466_0)).trans hw466_0), ((HB.out.cell (World.block_lt_of_cell? w _ hw466_1)).trans hw466_1), ((HB.out.cell (World.block_lt_of_cell? w _ hw466_2)).trans hw466_2), ((HB.out.cell (World.block_lt_of_cell? w _ hw466_3)).trans hw466_3)⟩ (fun hHeld => ?_); refine with_tabW spec_JoinIn.tab10 spec_JoinIn.bits10 (fun HT_ HW_ => ?_)
           generalize wr.drew = w76 at HO_456001 HO_456004 HO_463000 BK443 BK444 BK445 BK455 BK462 HB HR466_0 hx466_0 hx466_1 hx466_2 hx466_3 hHeld ⊢
           refine pw_ 0 35 (b_ 1 16) rfl rfl HT_.out ?_
           refine pw_ 1 36 (b_ 2 15) rfl rfl HT_.out ?_
           refine take_ (i := 2) (N := some 37) (v := ?_) (a' := ?_) (b_ 3 14) rfl rfl (take_ofW HT_.out HW_.out (by kernel_rfl)) (fun _ _ _ h => h) (Or.inl ⟨by rfl, ?_⟩) hHeld ?_ ?_
           rotate_left
           ·
            rintro w' ⟨s0, s1, s2, s3, s4, s5, s6, s7, s8, s9, s10, s11, s12⟩
            go_simp
            with_reducible rfl
           rotate_left
           ·
            simp only [fr_]
            rfl
           refine pw_ 3 38 (b_ 4 13) rfl rfl HT_.out ?_
           refine pw_ 4 39 (b_ 5 12) rfl rfl HT_.out ?_
           refine pw_ 5 40 (b_ 6 11) rfl rfl HT_.out ?_
           refine pw_ 6 41 (b_ 7 10) rfl rfl HT_.out ?_
           refine pw_ 8 43 #[t_,t_,t_,t_,t_,t_,t_,f_,t_,f_,f_,f_,f_,f_,f_,f_,f_] rfl rfl HT_.out ?_
           refine pw_ 10 45 #[t_,t_,t_,t_,t_,t_,t_,f_,t_,f_,t_,f_,f_,f_,f_,f_,f_] rfl rfl HT_.out ?_
           refine take_ (i := 7) (N := some 42) (v := ?_) (a' := ?_) #[t_,t_,t_,t_,t_,t_,t_,t_,t_,f_,t_,f_,f_,f_,f_,f_,f_] rfl rfl (take_ofW HT_.out HW_.out (by kernel_rfl)) (fun _ _ _ h => h) (Or.inl ⟨by rfl, ?_⟩) hHeld ?_ ?_
           rotate_left
           ·
            rintro w' ⟨s0, s1, s2, s3, s4, s5, s6, s7, s8, s9, s10, s11, s12⟩
            go_simp
            with_reducible rfl
           rotate_left
           ·
            simp only [fr_]
            rfl
           refine take_ (i := 9) (N := some 44) (v := ?_) (a' := ?_) (b_ 11 6) rfl rfl (take_ofW HT_.out HW_.out (by kernel_rfl)) (fun _ _ _ h => h) (Or.inl ⟨by rfl, ?_⟩) hHeld ?_ ?_
           rotate_left
           ·
            rintro w' ⟨s0, s1, s2, s3, s4, s5, s6, s7, s8, s9, s10, s11, s12⟩
            go_simp
            with_reducible rfl
           rotate_left
           ·
            simp only [fr_]
            rfl
           refine pw_ 11 46 (b_ 12 5) rfl rfl HT_.out ?_
           refine pw_ 12 47 (b_ 13 4) rfl rfl HT_.out ?_
           refine take_ (i := 13) (N := some 48) (v := ?_) (a' := ?_) (b_ 14 3) rfl rfl (take_ofW HT_.out HW_.out (by kernel_rfl)) (fun _ _ _ h => h) (Or.inl ⟨by rfl, ?_⟩) hHeld ?_ ?_
           rotate_left
           ·
            rintro w' ⟨s0, s1, s2, s3, s4, s5, s6, s7, s8, s9, s10, s11, s12⟩
            go_simp
            with_reducible rfl
           rotate_left
           ·
            simp only [fr_]
            rfl
           refine one_ (i := 14) (N := some 49) (b_ 15 2) rfl rfl (one_of HT_.out (by kernel_rfl)) (by decide) (fun K hK => ?_)
           refine gs_ Tryd.func72 #[.slice A1_0 l1_0.length c1_0, .slice A466_0 ((rd_T37 l0_4 x8_2).f0).length c466_0] ?_
           with_reducible refine (spec_SetLess.calls k2 _ _ l1_0 _ _ ((rd_T37 l0_4 x8_2).f0) true _ ?side1 ?side2 ?side3 ?side4 A66.out).mono ?_
           (case side1 => exact cp_ ((Kd.C_below HR1_0.out HB.out)))
           (case side2 => exact HC1_0.out)
           (case side3 => exact cp_ ((Kd.C_below HR466_0.out HB.out)))
           (case side4 => exact HC466_0.out)
           rintro e w' ⟨rfl, ⟨nd, rfl⟩⟩
           refine ⟨_, rfl, ?_⟩
           refine hK.out _ _ ⟨bx_ BK443.out 0, bx_ BK443.out 1, bx_ BK443.out 2, bx_ BK443.out 3, bx_ BK443.out 4, bx_ BK444.out 0, bx_ BK444.out 1, bx_ BK444.out 2, bx_ BK444.out 3, ((HB.out.cell (World.block_lt_of_cell? w _ hw466_0)).trans hw466_0), ((HB.out.cell (World.block_lt_of_cell? w _ hw466_1)).trans hw466_1), ((HB.out.cell (World.block_lt_of_cell? w _ hw466_2)).trans hw466_2), ((HB.out.cell (World.block_lt_of_cell? w _ hw466_3)).trans hw466_3)⟩ (fun hHeld => ?_)
           clear hK K
           refine norm_ (a' := ?_) ?_ ?_
           rotate_left
           ·
            show Act.put _ (some 49) _ = _
            simp only [fr_]
            rfl
           refine pw_ 15 50 (b_ 16 1) rfl rfl HT_.out ?_
           refine pw_ 16 51 (b_ 17 0) rfl rfl HT_.out ?_
           refine done_ (done_of HT_.out (by kernel_rfl)) ?_
           try go_wp2
           (try (rw [drewN_self w76]; generalize hq_ : World.drewN w76 _ = w76; replace HO_456001 : Aside0 (Kd.R k83 83 w76 w.heap.size (fun k_ => some k_ ≠ (.slice Ao23 t456.length co23 : Value).ownBlock) (.slice Ao17 t447.length co17) t447) := ⟨by rw [← hq_]; exact (rp_ HO_456001.out)⟩; replace HO_456004 : Aside0 (Kd.S k37 37 w76 w.heap.size (fun k_ => some k_ ≠ (.slice Ao17 t447.length co17 : Value).ownBlock ∧ some k_ ≠ (.slice Ao23 t456.length co23 : Value).ownBlock ∧ k_ ≠ gb444 ∧ k_ ≠ gb462) u456004 x456004_1) := ⟨by rw [← hq_]; exact (sp_ HO_456004.out)⟩; replace HO_463000 : Aside0 (Kd.R k83 83 w76 w.heap.size (fun k_ => some k_ ≠ (.slice Ao17 t447.length co17 : Value).ownBlock) (.slice Ao23 t456.length co23) t456) := ⟨by rw [← hq_]; exact (rp_ HO_463000.out)⟩; replace BK443 : Aside0 (w76.heap[gb443]? = some (.cells #[.int .i64 a0_0, .slice A0_1 l0_1.length c0_1, .int .i64 a0_2, .int .i64 a0_3, .slice (some ad466) l0_4.length c0_4] 33 (0, 0))) := ⟨by rw [← hq_]; exact (pb_ BK443.out)⟩; replace BK444 : Aside0 (w76.heap[gb444]? = some (.cells #[.slice A1_0 l1_0.length c1_0, .int .i64 a1_1, .int .i64 a1_2, .string a1_3] 37 (0, 0))) := ⟨by rw [← hq_]; exact (pb_ BK444.out)⟩; replace BK445 : Aside0 (w76.heap[gb445]? = some (.cells #[.int .i64 x446000_1, .slice none 0 0, .int .i64 x446002_1, .int .i64 x446003_1, .slice none 0 0] 33 (0, 0))) := ⟨by rw [← hq_]; exact (pb_ BK445.out)⟩; replace BK455 : Aside0 (w76.heap[gb455]? = some (.cells #[.int .i64 t446, .slice Ao17 t447.length co17, .int .i64 t450, .int .i64 t451, u456004] 33 (0, 0))) := ⟨by rw [← hq_]; exact (pb_ BK455.out)⟩; replace BK462 : Aside0 (w76.heap[gb462]? = some (.cells #[.slice Ao23 t456.length co23, .int .i64 t459, .int .i64 t460, .string t461] 37 (0, 0))) := ⟨by rw [← hq_]; exact (pb_ BK462.out)⟩; replace HB : Aside0 (Below w.heap.size w w76) := ⟨by rw [← hq_]; exact (hs_ HB.out)⟩; clear hq_))
           replace HO_456001 := Aside0.mk (Kd.R_drew HO_456001.out)
           replace HO_456004 := Aside0.mk (Kd.S_drew HO_456004.out)
           replace HO_463000 := Aside0.mk (Kd.R_drew HO_463000.out)
           replace BK443 := Aside0.mk (blk_drew BK443.out)
           replace BK444 := Aside0.mk (blk_drew BK444.out)
           replace BK445 := Aside0.mk (blk_drew BK445.out)
           replace BK455 := Aside0.mk (blk_drew BK455.out)
           replace BK462 := Aside0.mk (blk_drew BK462.out)
           replace HB := Aside0.mk (bd_ HB.out)
           have q78 : (x8_2 : Int) ≤ ((l0_4.length : Int) : Int) := of_decide_eq_true (by with_reducible assumption)
           obtain ⟨i078, hi078, _, hsz78, _⟩ := info_parts info37
           have hroom78 : l0_4.length ≤ c0_4 := HC0_4.out
           have hC78 : Kd.C k37 _ (some ad466) l0_4.length l0_4 := HR0_4.out
           have hcut78 := cut_to (P := Tryd.prog) 31 37 .i64 Tryd.underlying31 hi078 (some ad466) l0_4.length c0_4 x8_2 (of_decide_eq_true (by with_reducible assumption)) q78 hroom78
           have hr78 := Kd.C_take (m := (x8_2 : Int).toNat) hC78 (by omega)
           have hy78 : y468.length = (x8_2 : Int).toNat := (by rw [Ny468.out, List.length_take]; omega)
           rw [← Ny468.out] at hr78
           rw [← hy78] at hcut78
           have HR471 := Aside0.mk hr78
           have HC471 := Aside0.mk (show y468.length ≤ c0_4 from by omega)
           clear hr78 hC78 hroom78 hi078 hsz78
           have KY78 := Aside0.mk hy78
           clear hy78
           replace q78 := eq_true q78
           have q79 : (x8_2 : Int) ≤ ((l0_4.length : Int) : Int) := of_decide_eq_true (by with_reducible assumption)
           obtain ⟨i079, hi079, _, hsz79, _⟩ := info_parts info37
           have hroom79 : l0_4.length ≤ c0_4 := HC0_4.out
           have hC79 : Kd.C k37 _ (some ad466) l0_4.length l0_4 := HR0_4.out
           have q079 : (0 : Int) ≤ (x8_2 : Int) := of_decide_eq_true (by with_reducible assumption)
           have hcut79 := cut_from (P := Tryd.prog) 31 37 .i64 Tryd.underlying31 hi079 4 hsz79 (some ad466) l0_4.length c0_4 x8_2 q079 q79
           have hr79 := Kd.C_drop (m := (x8_2 : Int).toNat) (c := c0_4) hC79 (by omega) hroom79
           obtain ⟨A79, hA79⟩ : ∃ A1, A1 = (if c0_4 = (x8_2 : Int).toNat then (some ad466) else ((some ad466) : Option Addr).map (·.add ((x8_2 : Int).toNat * 4))) := ⟨_, rfl⟩
           obtain ⟨c79, hc79⟩ : ∃ c1, c1 = c0_4 - (x8_2 : Int).toNat := ⟨_, rfl⟩
           have hy79 : y479.length = l0_4.length - (x8_2 : Int).toNat := (by rw [Ny479.out, List.length_drop] <;> omega)
           rw [show (l0_4).drop (x8_2 : Int).toNat = y479 from Ny479.out.symm] at hr79
           replace hr79 : Kd.C k37 _ A79 y479.length y479 := (by rw [hA79]; exact hr79)
           rw [← hy79, ← hA79, ← hc79] at hcut79
           have HR482 := Aside0.mk hr79
           have HC482 := Aside0.mk (show y479.length ≤ c79 from by rw [hy79, hc79]; exact Nat.sub_le_sub_right hroom79 _)
           clear hr79 hC79 hroom79 hi079 hsz79 hc79
           have KY79 := Aside0.mk hy79
           have KA79 := Aside0.mk hA79
           clear hy79 hA79
           replace q79 := eq_true q79
           refine start_ (n := 16) (S := fun w' => w'.cell? ⟨gb443, 0, none⟩ = some (.int .i64 a0_0) ∧ w'.cell? ⟨gb443, 1, none⟩ = some (.slice A0_1 l0_1.length c0_1) ∧ w'.cell? ⟨gb443, 2, none⟩ = some (.int .i64 a0_2) ∧ w'.cell? ⟨gb443, 3, none⟩ = some (.int .i64 a0_3) ∧ w'.cell? ⟨gb443, 4, none⟩ = some (.slice (some ad466) l0_4.length c0_4) ∧ w'.cell? ⟨gb462, 0, none⟩ = some (.slice Ao23 t456.length co23) ∧ w'.cell? ⟨gb462, 1, none⟩ = some (.int .i64 t459) ∧ w'.cell? ⟨gb462, 2, none⟩ = some (.int .i64 t460) ∧ w'.cell? ⟨gb462, 3, none⟩ = some (.string t461)) (ds := []) (b_ 0 16) (by kernel_rfl) rfl rfl ⟨bx_ BK443.out 0, bx_ BK443.out 1, bx_ BK443.out 2, bx_ BK443.out 3, bx_ BK443.out 4, bx_ BK462.out 0, bx_ BK462.out 1, bx_ BK462.out 2, bx_ BK462.out 3⟩ (fun hHeld => ?_); refine with_tabW spec_JoinIn.tab12 spec_JoinIn.bits12 (fun HT_ HW_ => ?_)
           generalize w76.drew = w77 at HO_456001 HO_456004 HO_463000 BK443 BK444 BK445 BK455 BK462 HB HR471 HR482 hHeld ⊢
           refine pw_ 0 54 (b_ 1 15) rfl rfl HT_.out ?_
           refine pw_ 2 56 #[t_,f_,t_,f_,f_,f_,f_,f_,f_,f_,f_,f_,f_,f_,f_,f_] rfl rfl HT_.out ?_
           refine pw_ 8 62 #[t_,f_,t_,f_,f_,f_,f_,f_,t_,f_,f_,f_,f_,f_,f_,f_] rfl rfl HT_.out ?_
           refine pw_ 10 64 #[t_,f_,t_,f_,f_,f_,f_,f_,t_,f_,t_,f_,f_,f_,f_,f_] rfl rfl HT_.out ?_
           refine take_ (i := 1) (N := some 55) (v := ?_) (a' := ?_) #[t_,t_,t_,f_,f_,f_,f_,f_,t_,f_,t_,f_,f_,f_,f_,f_] rfl rfl (take_ofW HT_.out HW_.out (by kernel_rfl)) (fun _ _ _ h => h) (Or.inl ⟨by rfl, ?_⟩) hHeld ?_ ?_
           rotate_left
           ·
            rintro w' ⟨s0, s1, s2, s3, s4, s5, s6, s7, s8⟩
            go_simp
            with_reducible rfl
           rotate_left
           ·
            simp only [fr_]
            rfl
           refine pw_ 3 57 #[t_,t_,t_,t_,f_,f_,f_,f_,t_,f_,t_,f_,f_,f_,f_,f_] rfl rfl HT_.out ?_
           refine take_ (i := 5) (N := some 59) (v := ?_) (a' := ?_) #[t_,t_,t_,t_,f_,t_,f_,f_,t_,f_,t_,f_,f_,f_,f_,f_] rfl rfl (take_ofW HT_.out HW_.out (by kernel_rfl)) (fun _ _ _ h => h) (Or.inl ⟨by rfl, ?_⟩) hHeld ?_ ?_
           rotate_left
           ·
            rintro w' ⟨s0, s1, s2, s3, s4, s5, s6, s7, s8⟩
            go_simp
            with_reducible rfl
           rotate_left
           ·
            simp only [fr_]
            rfl
           refine take_ (i := 9) (N := some 63) (v := ?_) (a' := ?_) #[t_,t_,t_,t_,f_,t_,f_,f_,t_,t_,t_,f_,f_,f_,f_,f_] rfl rfl (take_ofW HT_.out HW_.out (by kernel_rfl)) (fun _ _ _ h => h) (Or.inl ⟨by rfl, ?_⟩) hHeld ?_ ?_
           rotate_left
           ·
            rintro w' ⟨s0, s1, s2, s3, s4, s5, s6, s7, s8⟩
            go_simp
            with_reducible rfl
           rotate_left
           ·
            simp only [fr_]
            rfl
           refine pw_ 11 65 #[t_,t_,t_,t_,f_,t_,f_,f_,t_,t_,t_,t_,f_,f_,f_,f_] rfl rfl HT_.out ?_
           refine join_ (σ := Value × Nat × Nat) 5 #[t_,t_,t_,t_,t_,t_,t_,f_,t_,t_,t_,t_,f_,f_,f_,f_] (fun s_ => [(58, s_.1), (60, .slice (some ⟨s_.2.2, 0, none⟩) 1 1)]) (fun s_ w' => (w'.cell? ⟨gb443, 0, none⟩ = some (.int .i64 a0_0) ∧ w'.cell? ⟨gb443, 1, none⟩ = some (.slice A0_1 l0_1.length c0_1) ∧ w'.cell? ⟨gb443, 2, none⟩ = some (.int .i64 a0_2) ∧ w'.cell? ⟨gb443, 3, none⟩ = some (.int .i64 a0_3) ∧ w'.cell? ⟨gb443, 4, none⟩ = some (.slice (some ad466) l0_4.length c0_4) ∧ w'.cell? ⟨gb462, 0, none⟩ = some (.slice Ao23 t456.length co23) ∧ w'.cell? ⟨gb462, 1, none⟩ = some (.int .i64 t459) ∧ w'.cell? ⟨gb462, 2, none⟩ = some (.int .i64 t460) ∧ w'.cell? ⟨gb462, 3, none⟩ = some (.string t461)) ∧ (Kd.S k37 37 w' w.heap.size (fun k_ => k_ ≠ gb444 ∧ k_ ≠ gb462 ∧ k_ ≠ s_.2.2 ∧ s_.2.1 ≤ k_) s_.1 t472) ∧ (Kd.R k83 83 w' w.heap.size (fun k_ => some k_ ≠ (.slice Ao23 t456.length co23 : Value).ownBlock ∧ k_ < s_.2.1) (.slice Ao17 t447.length co17) t447) ∧ (Kd.S k37 37 w' w.heap.size (fun k_ => some k_ ≠ (.slice Ao17 t447.length co17 : Value).ownBlock ∧ some k_ ≠ (.slice Ao23 t456.length co23 : Value).ownBlock ∧ k_ ≠ gb444 ∧ k_ ≠ gb462 ∧ k_ ≠ s_.2.2 ∧ k_ < s_.2.1) u456004 x456004_1) ∧ (Kd.R k83 83 w' w.heap.size (fun k_ => some k_ ≠ (.slice Ao17 t447.length co17 : Value).ownBlock ∧ k_ < s_.2.1) (.slice Ao23 t456.length co23) t456) ∧ (w'.heap[gb443]? = some (.cells #[.int .i64 a0_0, .slice A0_1 l0_1.length c0_1, .int .i64 a0_2, .int .i64 a0_3, .slice (some ad466) l0_4.length c0_4] 33 (0, 0))) ∧ (w'.heap[gb444]? = some (.cells #[.slice A1_0 l1_0.length c1_0, .int .i64 a1_1, .int .i64 a1_2, .string a1_3] 37 (0, 0))) ∧ (w'.heap[gb445]? = some (.cells #[.int .i64 x446000_1, .slice none 0 0, .int .i64 x446002_1, .int .i64 x446003_1, .slice none 0 0] 33 (0, 0))) ∧ (w'.heap[gb455]? = some (.cells #[.int .i64 t446, .slice Ao17 t447.length co17, .int .i64 t450, .int .i64 t451, u456004] 33 (0, 0))) ∧ (w'.heap[gb462]? = some (.cells #[.slice Ao23 t456.length co23, .int .i64 t459, .int .i64 t460, .string t461] 37 (0, 0))) ∧ (w'.heap[s_.2.2]? = some (.cells #[.slice Ao23 t456.length co23, .int .i64 t459, .int .i64 t460, .string t461] 37 (0, 0))) ∧ (w.heap.size ≤ s_.2.2) ∧ (w.heap.size ≤ s_.2.2) ∧ (gb443 ≠ s_.2.2) ∧ (s_.2.2 ≠ gb443) ∧ (gb444 ≠ s_.2.2) ∧ (s_.2.2 ≠ gb444) ∧ (gb445 ≠ s_.2.2) ∧ (s_.2.2 ≠ gb445) ∧ (gb455 ≠ s_.2.2) ∧ (s_.2.2 ≠ gb455) ∧ (gb462 ≠ s_.2.2) ∧ (s_.2.2 ≠ gb462) ∧ (Below w.heap.size w w')) ?_ ?_
           rotate_left
           ·
            intro hCont
            refine two_ (i := 4) (j := 6) (Ni := some 58) (Nj := some 60) #[t_,t_,t_,t_,t_,t_,f_,f_,t_,t_,t_,t_,f_,f_,f_,f_] #[t_,t_,t_,t_,f_,t_,t_,f_,t_,t_,t_,t_,f_,f_,f_,f_] rfl rfl rfl rfl (two_of HT_.out (by kernel_rfl)) (by decide) (by decide) (fun K hK => ?_) (fun K hK => ?_)
            ·
             skip
             refine gs_ Tryd.func73 #[.slice (some ad466) y468.length c0_4] ?_
             with_reducible refine (spec_l4All.calls k2 _ _ y468 t472 _ ?side1 ?side2 A70.out).mono ?_
             (case side1 => exact cp_ ((Kd.C_below HR471.out HB.out)))
             (case side2 => exact HC471.out)
             rintro e w80 ⟨v473, rfl, ho0, hb⟩
             refine ⟨_, rfl, ?_⟩
             obtain ⟨gbz473, hz473⟩ := Kd.S_name ho0
             replace HO_456001 := Aside0.mk (Kd.R_below (Kd.R_ltz hz473 (rp_ HO_456001.out)) hb)
             replace HO_456004 := Aside0.mk (Kd.S_below (Kd.S_ltz hz473 (sp_ HO_456004.out)) hb)
             replace HO_463000 := Aside0.mk (Kd.R_below (Kd.R_ltz hz473 (rp_ HO_463000.out)) hb)
             have HO474 := Aside0.mk (Kd.S_lower (Kd.S_newB (Kd.S_newB (Kd.S_gez hz473 ho0) (g := gb444) (o := .cells #[.slice A1_0 l1_0.length c1_0, .int .i64 a1_1, .int .i64 a1_2, .string a1_3] 37 (0, 0)) (pb_ BK444.out)) (g := gb462) (o := .cells #[.slice Ao23 t456.length co23, .int .i64 t459, .int .i64 t460, .string t461] 37 (0, 0)) (pb_ BK462.out)) (below_size (hs_ HB.out)))
             replace BK443 := bk2_ BK443 hb
             replace BK444 := bk2_ BK444 hb
             replace BK445 := bk2_ BK445 hb
             replace BK455 := bk2_ BK455 hb
             replace BK462 := bk2_ BK462 hb
             replace HB := st_ HB hb
             (try clear hb)
             (try clear hk)
             (try clear ho0)
             refine hK.out _ _ (f5_ BK443.out (e4_ BK462.out)) (fun hHeld => ?_)
             clear hK K
             refine norm_ (a' := ?_) ?_ ?_
             rotate_left
             ·
              show Act.put _ (some 58) _ = _
              simp only [fr_]
              rfl
             refine one_ (i := 6) (N := some 60) #[t_,t_,t_,t_,t_,t_,t_,f_,t_,t_,t_,t_,f_,f_,f_,f_] rfl rfl (one_of HT_.out (by kernel_rfl)) (by decide) (fun K hK => ?_)
             refine box_stepL ?hg (N := 60) ?hd (cs := #[.slice Ao23 t456.length co23, .int .i64 t459, .int .i64 t460, .string t461]) (t := 37) ?hr ?_; (case hd => rfl); (case hg => rfl); (case hr => first | (go_simp; done) | (go_simp; rfl))
             intro gb475 hg w81 hbox hb
             replace HO_456001 := rb_ HO_456001 hb
             replace HO_456004 := Aside0.mk (Kd.S_below (Kd.S_elderB (sp_ HO_456004.out) gb475 (Nat.le_of_eq hg.symm)) hb)
             replace HO_463000 := rb_ HO_463000 hb
             replace HO474 := Aside0.mk (Kd.S_below (Kd.S_elderB (sp_ HO474.out) gb475 (Nat.le_of_eq hg.symm)) hb)
             have BK475 := Aside0.mk (hbox)
             have GW475 := Ge_.mk ((gw_ hg (hs_ HB.out)))
             have GE475 := Ge_.mk ((gw_ hg (hs_ HB.out)))
             replace HB := st_ HB hb
             have NB443_475 := nk_ BK443 hg
             have NB475_443 := Ne_.mk (ng_ BK443.out hg)
             replace BK443 := bk2_ BK443 hb
             have NB444_475 := nk_ BK444 hg
             have NB475_444 := Ne_.mk (ng_ BK444.out hg)
             replace BK444 := bk2_ BK444 hb
             have NB445_475 := nk_ BK445 hg
             have NB475_445 := Ne_.mk (ng_ BK445.out hg)
             replace BK445 := bk2_ BK445 hb
             have NB455_475 := nk_ BK455 hg
             have NB475_455 := Ne_.mk (ng_ BK455.out hg)
             replace BK455 := bk2_ BK455 hb
             have NB462_475 := nk_ BK462 hg
             have NB475_462 := Ne_.mk (ng_ BK462.out hg)
             replace BK462 := bk2_ BK462 hb
             clear hb hbox hg
             refine hK.out _ _ (f5_ BK443.out (e4_ BK462.out)) (fun hHeld => ?_)
             clear hK K
             refine norm_ (a' := ?_) ?_ ?_
             rotate_left
             ·
              show Act.put _ (some 60) _ = _
              simp only [fr_]
              rfl
             exact norm_ (by simp only [putAll, fr_]) (hCont (v473, gbz473, gb475) _ ⟨hHeld, (Kd.S_mono (sp_ HO474.out) (fun _ hk => ⟨hk.1.1.2, ⟨hk.1.2, ⟨hk.2, hk.1.1.1.2⟩⟩⟩)), (rp_ HO_456001.out), (Kd.S_mono (sp_ HO_456004.out) (fun _ hk => ⟨hk.1.1.1, ⟨hk.1.1.2.1, ⟨hk.1.1.2.2.1, ⟨hk.1.1.2.2.2, ⟨hk.2, hk.1.2⟩⟩⟩⟩⟩)), (rp_ HO_463000.out), (pb_ BK443.out), (pb_ BK444.out), (pb_ BK445.out), (pb_ BK455.out), (pb_ BK462.out), (pb_ BK475.out), GW475.out, GE475.out, NB443_475.out, NB475_443.out, NB444_475.out, NB475_444.out, NB445_475.out, NB475_445.out, NB455_475.out, NB475_455.out, NB462_475.out, NB475_462.out, (hs_ HB.out)⟩)
            skip
            refine box_stepL ?hg (N := 60) ?hd (cs := #[.slice Ao23 t456.length co23, .int .i64 t459, .int .i64 t460, .string t461]) (t := 37) ?hr ?_; (case hd => rfl); (case hg => rfl); (case hr => first | (go_simp; done) | (go_simp; rfl))
            intro gb475 hg w80 hbox hb
            replace HO_456001 := rb_ HO_456001 hb
            replace HO_456004 := Aside0.mk (Kd.S_below (Kd.S_elderB (sp_ HO_456004.out) gb475 (Nat.le_of_eq hg.symm)) hb)
            replace HO_463000 := rb_ HO_463000 hb
            have BK475 := Aside0.mk (hbox)
            have GW475 := Ge_.mk ((gw_ hg (hs_ HB.out)))
            have GE475 := Ge_.mk ((gw_ hg (hs_ HB.out)))
            replace HB := st_ HB hb
            have NB443_475 := nk_ BK443 hg
            have NB475_443 := Ne_.mk (ng_ BK443.out hg)
            replace BK443 := bk2_ BK443 hb
            have NB444_475 := nk_ BK444 hg
            have NB475_444 := Ne_.mk (ng_ BK444.out hg)
            replace BK444 := bk2_ BK444 hb
            have NB445_475 := nk_ BK445 hg
            have NB475_445 := Ne_.mk (ng_ BK445.out hg)
            replace BK445 := bk2_ BK445 hb
            have NB455_475 := nk_ BK455 hg
            have NB475_455 := Ne_.mk (ng_ BK455.out hg)
            replace BK455 := bk2_ BK455 hb
            have NB462_475 := nk_ BK462 hg
            have NB475_462 := Ne_.mk (ng_ BK462.out hg)
            replace BK462 := bk2_ BK462 hb
            clear hb hbox hg
            refine hK.out _ _ (f5_ BK443.out (e4_ BK462.out)) (fun hHeld => ?_)
            clear hK K
            refine norm_ (a' := ?_) ?_ ?_
            rotate_left
            ·
             show Act.put _ (some 60) _ = _
             simp only [fr_]
             rfl
            refine one_ (i := 4) (N := some 58) #[t_,t_,t_,t_,t_,t_,t_,f_,t_,t_,t_,t_,f_,f_,f_,f_] rfl rfl (one_of HT_.out (by kernel_rfl)) (by decide) (fun K hK => ?_)
            refine gs_ Tryd.func73 #[.slice (some ad466) y468.length c0_4] ?_
            with_reducible refine (spec_l4All.calls k2 _ _ y468 t472 _ ?side1 ?side2 A70.out).mono ?_
            (case side1 => exact cp_ ((Kd.C_below HR471.out HB.out)))
            (case side2 => exact HC471.out)
            rintro e w81 ⟨v473, rfl, ho0, hb⟩
            refine ⟨_, rfl, ?_⟩
            obtain ⟨gbz473, hz473⟩ := Kd.S_name ho0
            replace HO_456001 := Aside0.mk (Kd.R_below (Kd.R_ltz hz473 (rp_ HO_456001.out)) hb)
            replace HO_456004 := Aside0.mk (Kd.S_below (Kd.S_ltz hz473 (sp_ HO_456004.out)) hb)
            replace HO_463000 := Aside0.mk (Kd.R_below (Kd.R_ltz hz473 (rp_ HO_463000.out)) hb)
            have HO474 := Aside0.mk (Kd.S_lower (Kd.S_newB (Kd.S_newB (Kd.S_newB (Kd.S_gez hz473 ho0) (g := gb444) (o := .cells #[.slice A1_0 l1_0.length c1_0, .int .i64 a1_1, .int .i64 a1_2, .string a1_3] 37 (0, 0)) (pb_ BK444.out)) (g := gb462) (o := .cells #[.slice Ao23 t456.length co23, .int .i64 t459, .int .i64 t460, .string t461] 37 (0, 0)) (pb_ BK462.out)) (g := gb475) (o := .cells #[.slice Ao23 t456.length co23, .int .i64 t459, .int .i64 t460, .string t461] 37 (0, 0)) (pb_ BK475.out)) (below_size (hs_ HB.out)))
            replace BK443 := bk2_ BK443 hb
            replace BK444 := bk2_ BK444 hb
            replace BK445 := bk2_ BK445 hb
            replace BK455 := bk2_ BK455 hb
            replace BK462 := bk2_ BK462 hb
            replace BK475 := bk2_ BK475 hb
            replace HB := st_ HB hb
            (try clear hb)
            (try clear hk)
            (try clear ho0)
            refine hK.out _ _ (f5_ BK443.out (e4_ BK462.out)) (fun hHeld => ?_)
            clear hK K
            refine norm_ (a' := ?_) ?_ ?_
            rotate_left
            ·
             show Act.put _ (some 58) _ = _
             simp only [fr_]
             rfl
            exact norm_ (by simp only [putAll, fr_]) (hCont (v473, gbz473, gb475) _ ⟨hHeld, (Kd.S_mono (sp_ HO474.out) (fun _ hk => ⟨hk.1.1.2, ⟨hk.1.2, ⟨hk.2, hk.1.1.1.2⟩⟩⟩)), (rp_ HO_456001.out), (Kd.S_mono (sp_ HO_456004.out) (fun _ hk => ⟨hk.1.1.1, ⟨hk.1.1.2.1, ⟨hk.1.1.2.2.1, ⟨hk.1.1.2.2.2, ⟨hk.1.2, hk.2⟩⟩⟩⟩⟩)), (rp_ HO_463000.out), (pb_ BK443.out), (pb_ BK444.out), (pb_ BK445.out), (pb_ BK455.out), (pb_ BK462.out), (pb_ BK475.out), GW475.out, GE475.out, NB443_475.out, NB475_443.out, NB444_475.out, NB475_444.out, NB445_475.out, NB475_445.out, NB455_475.out, NB475_455.out, NB462_475.out, NB475_462.out, (hs_ HB.out)⟩)
           rintro ⟨v473, gbz473, gb475⟩ w82 ⟨hS_, h0_, h1_, h2_, h3_, h4_, h5_, h6_, h7_, h8_, h9_, h10_, h11_, h12_, h13_, h14_, h15_, h16_, h17_, h18_, h19_, h20_, h21_, h22_⟩
           have HO474 : Aside0 (Kd.S k37 37 w82 w.heap.size (fun k_ => k_ ≠ gb444 ∧ k_ ≠ gb462 ∧ k_ ≠ gb475 ∧ gbz473 ≤ k_) v473 t472) := ⟨h0_⟩
           replace HO_456001 : Aside0 (Kd.R k83 83 w82 w.heap.size (fun k_ => some k_ ≠ (.slice Ao23 t456.length co23 : Value).ownBlock ∧ k_ < gbz473) (.slice Ao17 t447.length co17) t447) := ⟨h1_⟩
           replace HO_456004 : Aside0 (Kd.S k37 37 w82 w.heap.size (fun k_ => some k_ ≠ (.slice Ao17 t447.length co17 : Value).ownBlock ∧ some k_ ≠ (.slice Ao23 t456.length co23 : Value).ownBlock ∧ k_ ≠ gb444 ∧ k_ ≠ gb462 ∧ k_ ≠ gb475 ∧ k_ < gbz473) u456004 x456004_1) := ⟨h2_⟩
           replace HO_463000 : Aside0 (Kd.R k83 83 w82 w.heap.size (fun k_ => some k_ ≠ (.slice Ao17 t447.length co17 : Value).ownBlock ∧ k_ < gbz473) (.slice Ao23 t456.length co23) t456) := ⟨h3_⟩
           replace BK443 : Aside0 (w82.heap[gb443]? = some (.cells #[.int .i64 a0_0, .slice A0_1 l0_1.length c0_1, .int .i64 a0_2, .int .i64 a0_3, .slice (some ad466) l0_4.length c0_4] 33 (0, 0))) := ⟨h4_⟩
           replace BK444 : Aside0 (w82.heap[gb444]? = some (.cells #[.slice A1_0 l1_0.length c1_0, .int .i64 a1_1, .int .i64 a1_2, .string a1_3] 37 (0, 0))) := ⟨h5_⟩
           replace BK445 : Aside0 (w82.heap[gb445]? = some (.cells #[.int .i64 x446000_1, .slice none 0 0, .int .i64 x446002_1, .int .i64 x446003_1, .slice none 0 0] 33 (0, 0))) := ⟨h6_⟩
           replace BK455 : Aside0 (w82.heap[gb455]? = some (.cells #[.int .i64 t446, .slice Ao17 t447.length co17, .int .i64 t450, .int .i64 t451, u456004] 33 (0, 0))) := ⟨h7_⟩
           replace BK462 : Aside0 (w82.heap[gb462]? = some (.cells #[.slice Ao23 t456.length co23, .int .i64 t459, .int .i64 t460, .string t461] 37 (0, 0))) := ⟨h8_⟩
           have BK475 : Aside0 (w82.heap[gb475]? = some (.cells #[.slice Ao23 t456.length co23, .int .i64 t459, .int .i64 t460, .string t461] 37 (0, 0))) := ⟨h9_⟩
           have GW475 := Ge_.mk h10_
           have GE475 := Ge_.mk h11_
           have NB443_475 := Ne_.mk h12_
           have NB475_443 := Ne_.mk h13_
           have NB444_475 := Ne_.mk h14_
           have NB475_444 := Ne_.mk h15_
           have NB445_475 := Ne_.mk h16_
           have NB475_445 := Ne_.mk h17_
           have NB455_475 := Ne_.mk h18_
           have NB475_455 := Ne_.mk h19_
           have NB462_475 := Ne_.mk h20_
           have NB475_462 := Ne_.mk h21_
           replace HB : Aside0 (Below w.heap.size w w82) := ⟨h22_⟩
           clear h0_ h1_ h2_ h3_ h4_ h5_ h6_ h7_ h8_ h9_ h10_ h11_ h12_ h13_ h14_ h15_ h16_ h17_ h18_ h19_ h20_ h21_ h22_
           have hHeld : w82.cell? ⟨gb443, 0, none⟩ = some (.int .i64 a0_0) ∧ w82.cell? ⟨gb443, 1, none⟩ = some (.slice A0_1 l0_1.length c0_1) ∧ w82.cell? ⟨gb443, 2, none⟩ = some (.int .i64 a0_2) ∧ w82.cell? ⟨gb443, 3, none⟩ = some (.int .i64 a0_3) ∧ w82.cell? ⟨gb443, 4, none⟩ = some (.slice (some ad466) l0_4.length c0_4) ∧ w82.cell? ⟨gb462, 0, none⟩ = some (.slice Ao23 t456.length co23) ∧ w82.cell? ⟨gb462, 1, none⟩ = some (.int .i64 t459) ∧ w82.cell? ⟨gb462, 2, none⟩ = some (.int .i64 t460) ∧ w82.cell? ⟨gb462, 3, none⟩ = some (.string t461) := hS_
           refine norm_ (a' := ?_) ?_ ?_
           rotate_left
           ·
            simp only [putAll, fr_]
            rfl
           refine one_ (i := 7) (N := some 61) (b_ 12 4) rfl rfl (one_of HT_.out (by kernel_rfl)) (by decide) (fun K hK => ?_)
           refine Kd.S_append_box_step k37 (w0 := w) w.heap.size (by rfl) (.tmp 58) (.tmp 60) 31 37 (.agg #[(.slice none 0 0), (.int .i64 0), (.int .i64 0), (.string ⟨#[]⟩)]) 56 rfl Tryd.underlying31 info37 rfl (by decide) (by omega) v473 t472 (⟨t456, t459, t460, t461⟩ : S37) [.slice Ao23 t456.length co23, .int .i64 t459, .int .i64 t460, .string t461] (fun k_ => some k_ ≠ (.slice Ao17 t447.length co17 : Value).ownBlock ∧ some k_ ≠ (u456004 : Value).ownBlock ∧ k_ ≠ gb444 ∧ k_ ≠ gb462 ∧ k_ ≠ gb475) (fun k_ => some k_ = (.slice Ao23 t456.length co23 : Value).ownBlock) gb475 (pb_ BK475.out) rfl rfl ?aP (fun k_ hk_ => ((Kd.R_mono (ok' := fun k_ => ((fun k_ => some k_ ≠ (.slice Ao17 t447.length co17 : Value).ownBlock ∧ some k_ ≠ (u456004 : Value).ownBlock ∧ k_ ≠ gb444 ∧ k_ ≠ gb462 ∧ k_ ≠ gb475)) k_ ∧ some k_ ≠ (v473 : Value).ownBlock) (Kd.R_types (Kd.R_types (Kd.R_types (Kd.R_apart' (Kd.R_apart' (HO_463000.out) (Kd.S_typed HO_456004.out) (by decide)) (Kd.S_typed HO474.out) (by decide)) BK444.out (by decide)) BK462.out (by decide)) BK475.out (by decide)) (fun k_ hk => ⟨⟨hk.1.1.1.1.1.1, ⟨hk.1.1.1.1.2, ⟨hk.1.1.2, ⟨hk.1.2, hk.2⟩⟩⟩⟩, hk.1.1.1.2⟩))).1 k_ hk_.symm) ?aF ?aO ?aB ?aS ?aL ?_
           (case aP => exact k37_mkM _ _ _ (⟨t456, t459, t460, t461⟩ : S37) (Kd.R_mono (Kd.R_tight rfl (Kd.R_mono (ok' := fun k_ => ((fun k_ => some k_ ≠ (.slice Ao17 t447.length co17 : Value).ownBlock ∧ some k_ ≠ (u456004 : Value).ownBlock ∧ k_ ≠ gb444 ∧ k_ ≠ gb462 ∧ k_ ≠ gb475)) k_ ∧ some k_ ≠ (v473 : Value).ownBlock) (Kd.R_types (Kd.R_types (Kd.R_types (Kd.R_apart' (Kd.R_apart' (HO_463000.out) (Kd.S_typed HO_456004.out) (by decide)) (Kd.S_typed HO474.out) (by decide)) BK444.out (by decide)) BK462.out (by decide)) BK475.out (by decide)) (fun k_ hk => ⟨⟨hk.1.1.1.1.1.1, ⟨hk.1.1.1.1.2, ⟨hk.1.1.2, ⟨hk.1.2, hk.2⟩⟩⟩⟩, hk.1.1.1.2⟩))) (fun _ h_ => h_)))
           (case aB => exact (hs_ HB.out))
           (case aF => exact (fun k_ hk => ⟨Kd.fresh' (Kd.R_lt (rp_ HO_456001.out)) k_ hk, Kd.fresh' (Kd.S_lt (sp_ HO_456004.out)) k_ hk, Kd.freshB (g := gb444) (o := .cells #[.slice A1_0 l1_0.length c1_0, .int .i64 a1_1, .int .i64 a1_2, .string a1_3] 37 (0, 0)) (pb_ BK444.out) k_ hk, Kd.freshB (g := gb462) (o := .cells #[.slice Ao23 t456.length co23, .int .i64 t459, .int .i64 t460, .string t461] 37 (0, 0)) (pb_ BK462.out) k_ hk, Kd.freshB (g := gb475) (o := .cells #[.slice Ao23 t456.length co23, .int .i64 t459, .int .i64 t460, .string t461] 37 (0, 0)) (pb_ BK475.out) k_ hk⟩))
           (case aO => exact (by (with_reducible repeat (first | apply Kd.S_alloc | apply Kd.S_drewN | apply Kd.S_drew)); exact Kd.S_mono (Kd.S_times (Kd.S_times HO474.out HO_456001.out.1 (fun k_ hk hz_ => Nat.lt_irrefl _ (Nat.lt_of_lt_of_le hz_.2 hk.2.2.2))) (Kd.S_R HO_456004.out).1 (fun k_ hk hz_ => Nat.lt_irrefl _ (Nat.lt_of_lt_of_le hz_.2.2.2.2.2 hk.1.2.2.2))) (fun k_ hk => ⟨⟨hk.1.2, ⟨hk.2, ⟨hk.1.1.1, ⟨hk.1.1.2.1, hk.1.1.2.2.1⟩⟩⟩⟩, fun e_ => (fun ez_ => Nat.lt_irrefl _ (Nat.lt_of_lt_of_le (HO_463000.out.1 _ ez_.symm).2 hk.1.1.2.2.2)) e_⟩)))
           (case aS => exact (below_size (hs_ HB.out)))
           (case aL => have := LMc71.out; omega)
           intro v477 w83 ho hb hg hat
           rw [← Ny476.out] at ho
           replace HO_456001 := Aside0.mk (Kd.R_over' (rp_ HO_456001.out) (Kd.S_typed (sp_ HO474.out)) (by decide) hg)
           replace HO_456004 := Aside0.mk (Kd.S_after (ok := (fun k_ => some k_ ≠ (.slice Ao17 t447.length co17 : Value).ownBlock ∧ some k_ ≠ (.slice Ao23 t456.length co23 : Value).ownBlock ∧ k_ ≠ gb444 ∧ k_ ≠ gb462 ∧ k_ ≠ gb475 ∧ k_ < gbz473)) (by (with_reducible repeat (first | apply Kd.S_alloc | apply Kd.S_drewN | apply Kd.S_drew)); exact (Kd.S_times HO_456004.out (Kd.S_R HO474.out).1 (fun k_ hk hz_ => Nat.lt_irrefl _ (Nat.lt_of_lt_of_le hk.2.2.2.2.2 hz_.2.2.2)))) hg hat)
           replace BK443 := Aside0.mk (blk_grown (bq_ BK443.out) hg (Kd.S_ne HO474.out BK443.out (by decide)))
           replace BK444 := Aside0.mk (blk_grown (bq_ BK444.out) hg (Kd.S_away HO474.out (fun _ hk => hk.1)))
           replace BK445 := Aside0.mk (blk_grown (bq_ BK445.out) hg (Kd.S_ne HO474.out BK445.out (by decide)))
           replace BK455 := Aside0.mk (blk_grown (bq_ BK455.out) hg (Kd.S_ne HO474.out BK455.out (by decide)))
           replace BK462 := Aside0.mk (blk_grown (bq_ BK462.out) hg (Kd.S_away HO474.out (fun _ hk => hk.2.1)))
           replace BK475 := Aside0.mk (blk_grown (bq_ BK475.out) hg (Kd.S_away HO474.out (fun _ hk => hk.2.2.1)))
           replace HB := Aside0.mk (hb)
           have HO478 := Aside0.mk (ho)
           clear HO474 HO_463000
           clear ho hb hg hat
           refine hK.out _ _ (f5_ BK443.out (e4_ BK462.out)) (fun hHeld => ?_)
           clear hK K
           refine norm_ (a' := ?_) ?_ ?_
           rotate_left
           ·
            show Act.put _ (some 61) _ = _
            simp only [fr_]
            rfl
           refine one_ (i := 12) (N := some 66) (b_ 13 3) rfl rfl (one_of HT_.out (by kernel_rfl)) (by decide) (fun K hK => ?_)
           refine gs_ Tryd.func73 #[.slice A79 y479.length c79] ?_
           with_reducible refine (spec_l4All.calls k2 _ _ y479 t483 _ ?side1 ?side2 A74.out).mono ?_
           (case side1 => exact cp_ ((Kd.C_below HR482.out HB.out)))
           (case side2 => exact HC482.out)
           rintro e w84 ⟨v484, rfl, ho0, hb⟩
           refine ⟨_, rfl, ?_⟩
           obtain ⟨gbz484, hz484⟩ := Kd.S_name ho0
           replace HO_456001 := Aside0.mk (Kd.R_below (Kd.R_ltz hz484 (rp_ HO_456001.out)) hb)
           replace HO_456004 := Aside0.mk (Kd.S_below (Kd.S_ltz hz484 (sp_ HO_456004.out)) hb)
           replace HO478 := Aside0.mk (Kd.S_below (Kd.S_ltz hz484 (sp_ HO478.out)) hb)
           have HO485 := Aside0.mk (Kd.S_lower (Kd.S_newB (Kd.S_newB (Kd.S_newB (Kd.S_gez hz484 ho0) (g := gb444) (o := .cells #[.slice A1_0 l1_0.length c1_0, .int .i64 a1_1, .int .i64 a1_2, .string a1_3] 37 (0, 0)) (pb_ BK444.out)) (g := gb462) (o := .cells #[.slice Ao23 t456.length co23, .int .i64 t459, .int .i64 t460, .string t461] 37 (0, 0)) (pb_ BK462.out)) (g := gb475) (o := .cells #[.slice Ao23 t456.length co23, .int .i64 t459, .int .i64 t460, .string t461] 37 (0, 0)) (pb_ BK475.out)) (below_size (hs_ HB.out)))
           replace BK443 := bk2_ BK443 hb
           replace BK444 := bk2_ BK444 hb
           replace BK445 := bk2_ BK445 hb
           replace BK455 := bk2_ BK455 hb
           replace BK462 := bk2_ BK462 hb
           replace BK475 := bk2_ BK475 hb
           replace HB := st_ HB hb
           (try clear hb)
           (try clear hk)
           (try clear ho0)
           obtain ⟨Ao86, co86, eo86⟩ := Kd.S_slice HO485.out
           (first | subst eo86 | (obtain ⟨rfl, rfl⟩ := si_ eo86))
           obtain ⟨PXP87, hPXP87, hPlP87⟩ := Kd.S_fp ((Kd.S_mono (Kd.S_mono (Kd.S_mono HO485.out (fun k_ hk => (⟨hk, fun ez_ => Nat.lt_irrefl _ (Nat.lt_of_lt_of_le (HO_456001.out.1 _ ez_.symm).2 hk.1.1.1.2)⟩ : _ ∧ some k_ ≠ (.slice Ao17 t447.length co17 : Value).ownBlock))) (fun k_ hk => (⟨hk, fun ez_ => Nat.lt_irrefl _ (Nat.lt_of_lt_of_le ((Kd.S_R HO_456004.out).1 _ ez_.symm).2 hk.1.1.1.1.2)⟩ : _ ∧ some k_ ≠ (u456004 : Value).ownBlock))) (fun k_ hk => (⟨hk, fun ez_ => Nat.lt_irrefl _ (Nat.lt_of_lt_of_le ((Kd.S_R HO478.out).1 _ ez_.symm).2 hk.1.1.1.1.1.2)⟩ : _ ∧ some k_ ≠ (v477 : Value).ownBlock))))
           refine hK.out _ _ (f5_ BK443.out (e4_ BK462.out)) (fun hHeld => ?_)
           clear hK K
           refine norm_ (a' := ?_) ?_ ?_
           rotate_left
           ·
            show Act.put _ (some 66) _ = _
            simp only [fr_]
            rfl
           refine one_ (i := 13) (N := some 67) (b_ 14 2) rfl rfl (one_of HT_.out (by kernel_rfl)) (by decide) (fun K hK => ?_)
           refine Kd.S_append_rows_step k37 (w0 := w) w.heap.size (by rfl) (.tmp 61) (.tmp 66) 31 37 (.agg #[(.slice none 0 0), (.int .i64 0), (.int .i64 0), (.string ⟨#[]⟩)]) 56 rfl Tryd.underlying31 info37 rfl (by decide) (by omega) v477 y476 t483 _ _ _ (fun k_ => some k_ ≠ (.slice Ao17 t447.length co17 : Value).ownBlock ∧ some k_ ≠ (u456004 : Value).ownBlock ∧ k_ ≠ gb444 ∧ k_ ≠ gb462 ∧ k_ ≠ gb475) PXP87 rfl rfl ?aR (fun k_ hk_ => ⟨⟨(hPlP87 k_ hk_).1.1.1.2, ⟨(hPlP87 k_ hk_).1.1.2, ⟨(hPlP87 k_ hk_).1.1.1.1.1.1.2, ⟨(hPlP87 k_ hk_).1.1.1.1.1.2, (hPlP87 k_ hk_).1.1.1.1.2⟩⟩⟩⟩, (hPlP87 k_ hk_).1.2⟩) ?aF ?aO ?aB ?aS ?aL ?_
           (case aR => exact hPXP87)
           (case aB => exact (hs_ HB.out))
           (case aF => exact (fun k_ hk => ⟨Kd.fresh' (Kd.R_lt (rp_ HO_456001.out)) k_ hk, Kd.fresh' (Kd.S_lt (sp_ HO_456004.out)) k_ hk, Kd.freshB (g := gb444) (o := .cells #[.slice A1_0 l1_0.length c1_0, .int .i64 a1_1, .int .i64 a1_2, .string a1_3] 37 (0, 0)) (pb_ BK444.out) k_ hk, Kd.freshB (g := gb462) (o := .cells #[.slice Ao23 t456.length co23, .int .i64 t459, .int .i64 t460, .string t461] 37 (0, 0)) (pb_ BK462.out) k_ hk, Kd.freshB (g := gb475) (o := .cells #[.slice Ao23 t456.length co23, .int .i64 t459, .int .i64 t460, .string t461] 37 (0, 0)) (pb_ BK475.out) k_ hk⟩))
           (case aO => exact (Kd.S_mono (sp_ HO478.out) (fun k_ hk => ⟨⟨hk.1.1, ⟨hk.1.2.1, ⟨hk.1.2.2.1, ⟨hk.1.2.2.2.1, hk.1.2.2.2.2⟩⟩⟩⟩, fun e_ => (fun ez_ => Nat.lt_irrefl _ (Nat.lt_of_lt_of_le hk.2 (hPlP87 _ ez_).1.1.1.1.1.1.1.2)) e_⟩)))
           (case aS => exact (below_size (hs_ HB.out)))
           (case aL => have := LMc75.out; omega)
           intro v487 w85 ho hb hg hat
           rw [← Ny486.out] at ho
           replace HO_456001 := Aside0.mk (Kd.R_over' (rp_ HO_456001.out) (Kd.S_typed (sp_ HO478.out)) (by decide) hg)
           replace HO_456004 := Aside0.mk (Kd.S_after (ok := (fun k_ => some k_ ≠ (.slice Ao17 t447.length co17 : Value).ownBlock ∧ k_ ≠ gb444 ∧ k_ ≠ gb462 ∧ k_ ≠ gb475 ∧ k_ < gbz473 ∧ k_ < gbz484)) (Kd.S_mono (sp_ HO_456004.out) (fun _ hk => ⟨⟨hk.1.1.1, ⟨hk.1.1.2.2.1, ⟨hk.1.1.2.2.2.1, ⟨hk.1.1.2.2.2.2.1, ⟨hk.1.1.2.2.2.2.2, hk.2⟩⟩⟩⟩⟩, hk.1.2⟩)) hg hat)
           replace BK443 := Aside0.mk (blk_grown (bq_ BK443.out) hg (Kd.S_ne HO478.out BK443.out (by decide)))
           replace BK444 := Aside0.mk (blk_grown (bq_ BK444.out) hg (Kd.S_away HO478.out (fun _ hk => hk.1.2.2.1)))
           replace BK445 := Aside0.mk (blk_grown (bq_ BK445.out) hg (Kd.S_ne HO478.out BK445.out (by decide)))
           replace BK455 := Aside0.mk (blk_grown (bq_ BK455.out) hg (Kd.S_ne HO478.out BK455.out (by decide)))
           replace BK462 := Aside0.mk (blk_grown (bq_ BK462.out) hg (Kd.S_away HO478.out (fun _ hk => hk.1.2.2.2.1)))
           replace BK475 := Aside0.mk (blk_grown (bq_ BK475.out) hg (Kd.S_away HO478.out (fun _ hk => hk.1.2.2.2.2)))
           replace HB := Aside0.mk (hb)
           have HO488 := Aside0.mk (ho)
           clear HO478 HO485
           clear ho hb hg hat
           obtain ⟨Ao88, co88, eo88⟩ := Kd.S_slice HO488.out
           (first | subst eo88 | (obtain ⟨rfl, rfl⟩ := si_ eo88))
           refine hK.out _ _ (f5_ BK443.out (e4_ BK462.out)) (fun hHeld => ?_)
           clear hK K
           refine norm_ (a' := ?_) ?_ ?_
           rotate_left
           ·
            show Act.put _ (some 67) _ = _
            simp only [fr_]
            rfl
           refine pw_ 14 68 (b_ 15 1) rfl rfl HT_.out ?_
           refine one_ (i := 15) (N := none) (b_ 16 0) rfl rfl (one_of HT_.out (by kernel_rfl)) (by decide) (fun K hK => ?_)
           have hs89 : w85.cell? ⟨gb455, 4, none⟩ = some (u456004) := bx_ BK455.out 4
           have hfs89 := blk_frozen BK455.out 4
           have hns89_0 := NB443_455.out
           have hns89_1 := NB444_455.out
           have hns89_2 := NB445_455.out
           have hns89_4 := NB462_455.out
           have hns89_5 := NB475_455.out
           have hms89_0 := NB455_443.out
           have hms89_1 := NB455_444.out
           have hms89_2 := NB455_445.out
           have hms89_4 := NB455_462.out
           have hms89_5 := NB455_475.out
           refine skip_ (w1 := ?_) (by rfl) rfl ?_ ?_
           rotate_left
           ·
            go_simp
            rfl
           refine hK.out _ _ ⟨(cf_ (hHeld.1)), (cf_ (hHeld.2.1)), (cf_ (hHeld.2.2.1)), (cf_ (hHeld.2.2.2.1)), (cf_ (hHeld.2.2.2.2.1)), (cf_ (hHeld.2.2.2.2.2.1)), (cf_ (hHeld.2.2.2.2.2.2.1)), (cf_ (hHeld.2.2.2.2.2.2.2.1)), (cf_ (hHeld.2.2.2.2.2.2.2.2))⟩ (fun hHeld => ?_)
           clear hK K
           refine done_ (done_of HT_.out (by kernel_rfl)) ?_
           have hnb90 := NB455_443.out
           have hnc90 := NB443_455.out
           have hnb91 := NB455_444.out
           have hnc91 := NB444_455.out
           have hnb92 := NB455_445.out
           have hnc92 := NB445_455.out
           have hnb93 := NB455_462.out
           have hnc93 := NB462_455.out
           have hnb94 := NB455_475.out
           have hnc94 := NB475_455.out
           obtain ⟨z95_0, z95_1, z95_2, z95_3, z95_4, y95_0, y95_1, y95_2, y95_3, y95_4⟩ := bc5_ BK455.out
           have hnb96 := NB445_443.out
           have hnc96 := NB443_445.out
           have hnb97 := NB445_444.out
           have hnc97 := NB444_445.out
           have hnb98 := NB445_462.out
           have hnc98 := NB462_445.out
           have hnb99 := NB445_475.out
           have hnc99 := NB475_445.out
           obtain ⟨z100_0, z100_1, z100_2, z100_3, z100_4, y100_0, y100_1, y100_2, y100_3, y100_4⟩ := bc5_ BK445.out
           try go_wp2
           refine bodyPost_ret (results_cell_row rfl _ _ gb445 33 #[.int .i64 t446, .slice Ao17 t447.length co17, .int .i64 t450, .int .i64 t451, .slice Ao88 y486.length co88] (0, 0) _ rfl (bp_ BK445.out) Tryd.underlying33 rfl (by kernel_rfl)) rfl ?_
           exact ⟨_, _, by first | rfl | (simp [errW_none, errW_some] <;> rfl) | (simp [*, errW_none, errW_some] <;> rfl), by (with_reducible repeat (first | apply Kd.R_alloc | apply Kd.R_drewN | apply Kd.R_drew)); exact Kd.R_mono (rf_ gb445 (Kd.R_far (p := ⟨gb455, 4, none⟩) (Kd.R_types (Kd.R_types HO_456001.out BK455.out (by decide)) BK445.out (by decide)) (fun _ hk => hk.1.2) (.slice Ao88 y486.length co88)) (fun _ hk => hk.2)) (fun _ hk => trivial), by (with_reducible repeat (first | apply Kd.S_alloc | apply Kd.S_drewN | apply Kd.S_drew)); exact Kd.S_mono (sf_ gb445 (Kd.S_far (p := ⟨gb455, 4, none⟩) (Kd.S_types (Kd.S_types HO488.out BK455.out (by decide)) BK445.out (by decide)) (fun _ hk => hk.1.2) (.slice Ao88 y486.length co88)) (fun _ hk => hk.2)) (fun _ hk => hk.1.1.1), by exact hs_ HB.out⟩
          rw [if_neg c75] at H
          exact absurd H (by simp)
         rw [if_neg c71] at H
         exact absurd H (by simp)
        rw [if_neg c69] at H
        exact absurd H (by simp)
       replace c67 := Bool.eq_false_iff.mpr c67
       subst c67
       rw [if_neg (show ¬ (false = true) by decide)] at H
       have H' := Aside0.mk H
       clear H
       try go_wp2
       replace HO_456001 := Aside0.mk (Kd.R_drew HO_456001.out)
       replace HO_456004 := Aside0.mk (Kd.S_drew HO_456004.out)
       replace HO_463000 := Aside0.mk (Kd.R_drew HO_463000.out)
       replace BK443 := Aside0.mk (blk_drew BK443.out)
       replace BK444 := Aside0.mk (blk_drew BK444.out)
       replace BK445 := Aside0.mk (blk_drew BK445.out)
       replace BK455 := Aside0.mk (blk_drew BK455.out)
       replace BK462 := Aside0.mk (blk_drew BK462.out)
       replace HB := Aside0.mk (bd_ HB.out)
       have p466 : 0 ≤ (x8_2 : Int) := of_decide_eq_true (by with_reducible assumption)
       have q466 : x8_2 < (l0_4.length : Int) := of_decide_eq_true (by with_reducible assumption)
       obtain ⟨ad466, A466_0, c466_0, e466, hx466_0, hx466_1, hx466_2, hx466_3, hl466_0, hi466_0⟩ := at_T37 HR0_4.out x8_2 p466 q466
       have hw466_3 := hx466_3
       have hw466_2 := hx466_2
       have hw466_1 := hx466_1
       have hw466_0 := hx466_0
       cases e466
       replace hx466_0 := cl_ HB.out hx466_0
       replace hx466_1 := cl_ HB.out hx466_1
       replace hx466_2 := cl_ HB.out hx466_2
       replace hx466_3 := cl_ HB.out hx466_3
       have HR466_0 := Aside0.mk hi466_0
       have HC466_0 := Aside0.mk hl466_0
       clear hi466_0 hl466_0
       replace p466 := eq_true p466
       replace q466 := eq_true q466
       refine start_ (n := 17) (S := fun w' => w'.cell? ⟨gb443, 0, none⟩ = some (.int .i64 a0_0) ∧ w'.cell? ⟨gb443, 1, none⟩ = some (.slice A0_1 l0_1.length c0_1) ∧ w'.cell? ⟨gb443, 2, none⟩ = some (.int .i64 a0_2) ∧ w'.cell? ⟨gb443, 3, none⟩ = some (.int .i64 a0_3) ∧ w'.cell? ⟨gb443, 4, none⟩ = some (.slice (some ad466) l0_4.length c0_4) ∧ w'.cell? ⟨gb444, 0, none⟩ = some (.slice A1_0 l1_0.length c1_0) ∧ w'.cell? ⟨gb444, 1, none⟩ = some (.int .i64 a1_1) ∧ w'.cell? ⟨gb444, 2, none⟩ = some (.int .i64 a1_2) ∧ w'.cell? ⟨gb444, 3, none⟩ = some (.string a1_3) ∧ w'.cell? (ad466.add ((x8_2).toNat * 4)) = some (.slice A466_0 ((rd_T37 l0_4 x8_2).f0).length c466_0) ∧ w'.cell? ⟨(ad466.add ((x8_2).toNat * 4)).block, (ad466.add ((x8_2).toNat * 4)).off + 1, none⟩ = some (.int .i64 ((rd_T37 l0_4 x8_2).f1)) ∧ w'.cell? ⟨(ad466.add ((x8_2).toNat * 4)).block, (ad466.add ((x8_2).toNat * 4)).off + 2, none⟩ = some (.int .i64 ((rd_T37 l0_4 x8_2).f2)) ∧ w'.cell? ⟨(ad466.add ((x8_2).toNat * 4)).block, (ad466.add ((x8_2).toNat * 4)).off + 3, none⟩ = some (.string ((rd_T37 l0_4 x8_2).f3))) (ds := []) (b_ 0 17) (by kernel_rfl) rfl rfl ⟨bx_ BK443.out 0, bx_ BK443.out 1, bx_ BK443.out 2, bx_ BK443.out 3, bx_ BK443.out 4, bx_ BK444.out 0, bx_ BK444.out 1, bx_ BK444.out 2, bx_ BK444.out 3, ((HB.out.cell (World.block_lt_of_cell? w _ hw466_0)).trans hw466_0), ((HB.out.cell (World.block_lt_of_cell? w _ hw466_1)).trans hw466_1), ((HB.out.cell (World.block_lt_of_cell? w _ hw466_2)).trans hw466_2), ((HB.out.cell (World.block_lt_of_cell? w _ hw466_3)).trans hw466_3)⟩ (fun hHeld => ?_); refine with_tabW spec_JoinIn.tab10 spec_JoinIn.bits10 (fun HT_ HW_ => ?_)
       generalize wr.drew = w101 at HO_456001 HO_456004 HO_463000 BK443 BK444 BK445 BK455 BK462 HB HR466_0 hx466_0 hx466_1 hx466_2 hx466_3 hHeld ⊢
       refine pw_ 0 35 (b_ 1 16) rfl rfl HT_.out ?_
       refine pw_ 1 36 (b_ 2 15) rfl rfl HT_.out ?_
       refine take_ (i := 2) (N := some 37) (v := ?_) (a' := ?_) (b_ 3 14) rfl rfl (take_ofW HT_.out HW_.out (by kernel_rfl)) (fun _ _ _ h => h) (Or.inl ⟨by rfl, ?_⟩) hHeld ?_ ?_
       rotate_left
       ·
        rintro w' ⟨s0, s1, s2, s3, s4, s5, s6, s7, s8, s9, s10, s11, s12⟩
        go_simp
        with_reducible rfl
       rotate_left
       ·
        simp only [fr_]
        rfl
       refine pw_ 3 38 (b_ 4 13) rfl rfl HT_.out ?_
       refine pw_ 4 39 (b_ 5 12) rfl rfl HT_.out ?_
       refine pw_ 5 40 (b_ 6 11) rfl rfl HT_.out ?_
       refine pw_ 6 41 (b_ 7 10) rfl rfl HT_.out ?_
       refine pw_ 8 43 #[t_,t_,t_,t_,t_,t_,t_,f_,t_,f_,f_,f_,f_,f_,f_,f_,f_] rfl rfl HT_.out ?_
       refine pw_ 10 45 #[t_,t_,t_,t_,t_,t_,t_,f_,t_,f_,t_,f_,f_,f_,f_,f_,f_] rfl rfl HT_.out ?_
       refine take_ (i := 7) (N := some 42) (v := ?_) (a' := ?_) #[t_,t_,t_,t_,t_,t_,t_,t_,t_,f_,t_,f_,f_,f_,f_,f_,f_] rfl rfl (take_ofW HT_.out HW_.out (by kernel_rfl)) (fun _ _ _ h => h) (Or.inl ⟨by rfl, ?_⟩) hHeld ?_ ?_
       rotate_left
       ·
        rintro w' ⟨s0, s1, s2, s3, s4, s5, s6, s7, s8, s9, s10, s11, s12⟩
        go_simp
        with_reducible rfl
       rotate_left
       ·
        simp only [fr_]
        rfl
       refine take_ (i := 9) (N := some 44) (v := ?_) (a' := ?_) (b_ 11 6) rfl rfl (take_ofW HT_.out HW_.out (by kernel_rfl)) (fun _ _ _ h => h) (Or.inl ⟨by rfl, ?_⟩) hHeld ?_ ?_
       rotate_left
       ·
        rintro w' ⟨s0, s1, s2, s3, s4, s5, s6, s7, s8, s9, s10, s11, s12⟩
        go_simp
        with_reducible rfl
       rotate_left
       ·
        simp only [fr_]
        rfl
       refine pw_ 11 46 (b_ 12 5) rfl rfl HT_.out ?_
       refine pw_ 12 47 (b_ 13 4) rfl rfl HT_.out ?_
       refine take_ (i := 13) (N := some 48) (v := ?_) (a' := ?_) (b_ 14 3) rfl rfl (take_ofW HT_.out HW_.out (by kernel_rfl)) (fun _ _ _ h => h) (Or.inl ⟨by rfl, ?_⟩) hHeld ?_ ?_
       rotate_left
       ·
        rintro w' ⟨s0, s1, s2, s3, s4, s5, s6, s7, s8, s9, s10, s11, s12⟩
        go_simp
        with_reducible rfl
       rotate_left
       ·
        simp only [fr_]
        rfl
       refine one_ (i := 14) (N := some 49) (b_ 15 2) rfl rfl (one_of HT_.out (by kernel_rfl)) (by decide) (fun K hK => ?_)
       refine gs_ Tryd.func72 #[.slice A1_0 l1_0.length c1_0, .slice A466_0 ((rd_T37 l0_4 x8_2).f0).length c466_0] ?_
       with_reducible refine (spec_SetLess.calls k2 _ _ l1_0 _ _ ((rd_T37 l0_4 x8_2).f0) false _ ?side1 ?side2 ?side3 ?side4 A66.out).mono ?_
       (case side1 => exact cp_ ((Kd.C_below HR1_0.out HB.out)))
       (case side2 => exact HC1_0.out)
       (case side3 => exact cp_ ((Kd.C_below HR466_0.out HB.out)))
       (case side4 => exact HC466_0.out)
       rintro e w' ⟨rfl, ⟨nd, rfl⟩⟩
       refine ⟨_, rfl, ?_⟩
       refine hK.out _ _ ⟨bx_ BK443.out 0, bx_ BK443.out 1, bx_ BK443.out 2, bx_ BK443.out 3, bx_ BK443.out 4, bx_ BK444.out 0, bx_ BK444.out 1, bx_ BK444.out 2, bx_ BK444.out 3, ((HB.out.cell (World.block_lt_of_cell? w _ hw466_0)).trans hw466_0), ((HB.out.cell (World.block_lt_of_cell? w _ hw466_1)).trans hw466_1), ((HB.out.cell (World.block_lt_of_cell? w _ hw466_2)).trans hw466_2), ((HB.out.cell (World.block_lt_of_cell? w _ hw466_3)).trans hw466_3)⟩ (fun hHeld => ?_)
       clear hK K
       refine norm_ (a' := ?_) ?_ ?_
       rotate_left
       ·
        show Act.put _ (some 49) _ = _
        simp only [fr_]
        rfl
       refine pw_ 15 50 (b_ 16 1) rfl rfl HT_.out ?_
       refine pw_ 16 51 (b_ 17 0) rfl rfl HT_.out ?_
       refine done_ (done_of HT_.out (by kernel_rfl)) ?_
       try go_wp2
       go_roundg k2
       case measure => have := HK1.out; have := HK2.out; omega
       case rel => exact ⟨(wrap64 (x8_2 + 1)), (by first | rfl | (simp; done) | (simp [*]; done)), H', ⟨by have := HK1.out; have := HK2.out; omega⟩, ⟨by (with_reducible repeat (first | apply Kd.R_alloc | apply Kd.R_drewN | apply Kd.R_drew)); exact HO_456001.out⟩, ⟨by (with_reducible repeat (first | apply Kd.S_alloc | apply Kd.S_drewN | apply Kd.S_drew)); exact HO_456004.out⟩, ⟨by (with_reducible repeat (first | apply Kd.R_alloc | apply Kd.R_drewN | apply Kd.R_drew)); exact HO_463000.out⟩, ⟨bq_ BK443.out⟩, ⟨bq_ BK444.out⟩, ⟨bq_ BK445.out⟩, ⟨bq_ BK455.out⟩, ⟨bq_ BK462.out⟩, ⟨by exact hs_ HB.out⟩⟩
      rw [if_neg c65] at H
      exact absurd H (by simp)
     rw [if_neg c64] at H
     have c64b0 : decide (x8_2 < (l0_4.length : Int)) = false := decide_eq_false c64
     clear c64
     by_cases c102 : 0 ≤ x8_2
     ·
      rw [if_pos c102] at H
      have c102b0 := eq_true c102
      have c102b1 := decide_eq_true c102
      clear c102
      by_cases c103 : x8_2 ≤ (l0_4.length : Int)
      ·
       rw [if_pos c103] at H
       have c103b0 := eq_true c103
       have c103b1 := decide_eq_true c103
       clear c103
       obtain ⟨y489, hy489⟩ : ∃ y_ : List (S37), y_ = (l0_4.take (x8_2 : Int).toNat) := ⟨_, rfl⟩
       replace H : ((spec_l4All.f k2 y489).bind fun t493 => (if t493.length < 2513169434916 then ((some (t493 ++ [(⟨t456, t459, t460, t461⟩ : S37)] : List (S37))).bind fun y497 => ((spec_l4All.f k2 (l0_4.drop (x8_2 : Int).toNat)).bind fun t504 => (if y497.length + t504.length < 2513169434916 then (some (t446, t447, t450, t451, (y497 ++ t504))) else (none)))) else (none))) = some (r1, r2, r3, r4, r5) := by first | (rw [hy489]; with_reducible exact H) | (have H2_ := (Option.bind_some _ _).symm.trans H; rw [hy489]; with_reducible exact H2_) | (have H2_ := (Option.bind_some _ _).symm.trans H; with_reducible exact H2_) | with_reducible exact H | (rw [hy489]; exact H) | exact H
       have Ny489 := Aside0.mk hy489
       clear hy489
       replace H := Option.bind_eq_some_iff.mp H
       obtain ⟨t493, A1040, H⟩ := H
       have A104 := Aside0.mk A1040
       clear A1040
       by_cases c105 : t493.length < 2513169434916
       ·
        rw [if_pos c105] at H
        have LMc105 := Aside0.mk c105
        clear c105
        obtain ⟨y497, hy497⟩ : ∃ y_ : List (S37), y_ = (t493 ++ [(⟨t456, t459, t460, t461⟩ : S37)]) := ⟨_, rfl⟩
        replace H : ((spec_l4All.f k2 (l0_4.drop (x8_2 : Int).toNat)).bind fun t504 => (if y497.length + t504.length < 2513169434916 then (some (t446, t447, t450, t451, (y497 ++ t504))) else (none))) = some (r1, r2, r3, r4, r5) := by first | (rw [hy497]; with_reducible exact H) | (have H2_ := (Option.bind_some _ _).symm.trans H; rw [hy497]; with_reducible exact H2_) | (have H2_ := (Option.bind_some _ _).symm.trans H; with_reducible exact H2_) | with_reducible exact H | (rw [hy497]; exact H) | exact H
        have Ny497 := Aside0.mk hy497
        clear hy497
        have c106b0 := eq_true (of_decide_eq_true (by with_reducible assumption) : 0 ≤ x8_2)
        have c107b0 := eq_true (of_decide_eq_true (by with_reducible assumption) : x8_2 ≤ (l0_4.length : Int))
        obtain ⟨y500, hy500⟩ : ∃ y_ : List (S37), y_ = (l0_4.drop (x8_2 : Int).toNat) := ⟨_, rfl⟩
        replace H : ((spec_l4All.f k2 y500).bind fun t504 => (if y497.length + t504.length < 2513169434916 then (some (t446, t447, t450, t451, (y497 ++ t504))) else (none))) = some (r1, r2, r3, r4, r5) := by first | (rw [hy500]; with_reducible exact H) | (have H2_ := (Option.bind_some _ _).symm.trans H; rw [hy500]; with_reducible exact H2_) | (have H2_ := (Option.bind_some _ _).symm.trans H; with_reducible exact H2_) | with_reducible exact H | (rw [hy500]; exact H) | exact H
        have Ny500 := Aside0.mk hy500
        clear hy500
        replace H := Option.bind_eq_some_iff.mp H
        obtain ⟨t504, A1080, H⟩ := H
        have A108 := Aside0.mk A1080
        clear A1080
        by_cases c109 : y497.length + t504.length < 2513169434916
        ·
         rw [if_pos c109] at H
         have LMc109 := Aside0.mk c109
         clear c109
         obtain ⟨y507, hy507⟩ : ∃ y_ : List (S37), y_ = (y497 ++ t504) := ⟨_, rfl⟩
         replace H : (some (t446, t447, t450, t451, y507)) = some (r1, r2, r3, r4, r5) := by first | (rw [hy507]; with_reducible exact H) | (have H2_ := (Option.bind_some _ _).symm.trans H; rw [hy507]; with_reducible exact H2_) | (have H2_ := (Option.bind_some _ _).symm.trans H; with_reducible exact H2_) | with_reducible exact H | (rw [hy507]; exact H) | exact H
         have Ny507 := Aside0.mk hy507
         clear hy507
         simp only [Option.some.injEq, Prod.mk.injEq] at H
         obtain ⟨rfl, rfl, rfl, rfl, rfl⟩ := H
         try go_wp2
         replace HO_456001 := Aside0.mk (Kd.R_drew HO_456001.out)
         replace HO_456004 := Aside0.mk (Kd.S_drew HO_456004.out)
         replace HO_463000 := Aside0.mk (Kd.R_drew HO_463000.out)
         replace BK443 := Aside0.mk (blk_drew BK443.out)
         replace BK444 := Aside0.mk (blk_drew BK444.out)
         replace BK445 := Aside0.mk (blk_drew BK445.out)
         replace BK455 := Aside0.mk (blk_drew BK455.out)
         replace BK462 := Aside0.mk (blk_drew BK462.out)
         replace HB := Aside0.mk (bd_ HB.out)
         refine start_ (n := 17) (S := fun w' => w'.cell? ⟨gb443, 0, none⟩ = some (.int .i64 a0_0) ∧ w'.cell? ⟨gb443, 1, none⟩ = some (.slice A0_1 l0_1.length c0_1) ∧ w'.cell? ⟨gb443, 2, none⟩ = some (.int .i64 a0_2) ∧ w'.cell? ⟨gb443, 3, none⟩ = some (.int .i64 a0_3) ∧ w'.cell? ⟨gb443, 4, none⟩ = some (.slice A0_4 l0_4.length c0_4)) (ds := []) (b_ 0 17) (by kernel_rfl) rfl rfl ⟨bx_ BK443.out 0, bx_ BK443.out 1, bx_ BK443.out 2, bx_ BK443.out 3, bx_ BK443.out 4⟩ (fun hHeld => ?_); refine with_tabW spec_JoinIn.tab10 spec_JoinIn.bits10 (fun HT_ HW_ => ?_)
         generalize wr.drew = w110 at HO_456001 HO_456004 HO_463000 BK443 BK444 BK445 BK455 BK462 HB hHeld ⊢
         refine pw_ 0 35 (b_ 1 16) rfl rfl HT_.out ?_
         refine pw_ 1 36 (b_ 2 15) rfl rfl HT_.out ?_
         refine take_ (i := 2) (N := some 37) (v := ?_) (a' := ?_) (b_ 3 14) rfl rfl (take_ofW HT_.out HW_.out (by kernel_rfl)) (fun _ _ _ h => h) (Or.inl ⟨by rfl, ?_⟩) hHeld ?_ ?_
         rotate_left
         ·
          rintro w' ⟨s0, s1, s2, s3, s4⟩
          go_simp
          with_reducible rfl
         rotate_left
         ·
          simp only [fr_]
          rfl
         refine pw_ 3 38 (b_ 4 13) rfl rfl HT_.out ?_
         refine pw_ 4 39 (b_ 5 12) rfl rfl HT_.out ?_
         refine pw_ 5 40 (b_ 6 11) rfl rfl HT_.out ?_
         refine pv_ 6 41 ?_ (b_ 7 10) rfl rfl HT_.out ?_ ?_; rotate_left; simp only [fr_]; rfl
         refine pv_ 7 42 ?_ (b_ 8 9) rfl rfl HT_.out ?_ ?_; rotate_left; simp only [fr_]; rfl
         refine pv_ 8 43 ?_ (b_ 9 8) rfl rfl HT_.out ?_ ?_; rotate_left; simp only [fr_]; rfl
         refine pv_ 9 44 ?_ (b_ 10 7) rfl rfl HT_.out ?_ ?_; rotate_left; simp only [fr_]; rfl
         refine pv_ 10 45 ?_ (b_ 11 6) rfl rfl HT_.out ?_ ?_; rotate_left; simp only [fr_]; rfl
         refine pv_ 11 46 ?_ (b_ 12 5) rfl rfl HT_.out ?_ ?_; rotate_left; simp only [fr_]; rfl
         refine pv_ 12 47 ?_ (b_ 13 4) rfl rfl HT_.out ?_ ?_; rotate_left; simp only [fr_]; rfl
         refine pv_ 13 48 ?_ (b_ 14 3) rfl rfl HT_.out ?_ ?_; rotate_left; simp only [fr_]; rfl
         refine pv_ 14 49 ?_ (b_ 15 2) rfl rfl HT_.out ?_ ?_; rotate_left; simp only [fr_]; rfl
         refine pv_ 15 50 ?_ (b_ 16 1) rfl rfl HT_.out ?_ ?_; rotate_left; simp only [fr_]; rfl
         refine pw_ 16 51 (b_ 17 0) rfl rfl HT_.out ?_
         refine done_ (done_of HT_.out (by kernel_rfl)) ?_
         try go_wp2
         replace HO_456001 := Aside0.mk (Kd.R_drew HO_456001.out)
         replace HO_456004 := Aside0.mk (Kd.S_drew HO_456004.out)
         replace HO_463000 := Aside0.mk (Kd.R_drew HO_463000.out)
         replace BK443 := Aside0.mk (blk_drew BK443.out)
         replace BK444 := Aside0.mk (blk_drew BK444.out)
         replace BK445 := Aside0.mk (blk_drew BK445.out)
         replace BK455 := Aside0.mk (blk_drew BK455.out)
         replace BK462 := Aside0.mk (blk_drew BK462.out)
         replace HB := Aside0.mk (bd_ HB.out)
         have q112 : (x8_2 : Int) ≤ ((l0_4.length : Int) : Int) := of_decide_eq_true (by with_reducible assumption)
         obtain ⟨i0112, hi0112, _, hsz112, _⟩ := info_parts info37
         have hroom112 : l0_4.length ≤ c0_4 := HC0_4.out
         have hC112 : Kd.C k37 _ A0_4 l0_4.length l0_4 := HR0_4.out
         have hcut112 := cut_to (P := Tryd.prog) 31 37 .i64 Tryd.underlying31 hi0112 A0_4 l0_4.length c0_4 x8_2 (of_decide_eq_true (by with_reducible assumption)) q112 hroom112
         have hr112 := Kd.C_take (m := (x8_2 : Int).toNat) hC112 (by omega)
         have hy112 : y489.length = (x8_2 : Int).toNat := (by rw [Ny489.out, List.length_take]; omega)
         rw [← Ny489.out] at hr112
         rw [← hy112] at hcut112
         have HR492 := Aside0.mk hr112
         have HC492 := Aside0.mk (show y489.length ≤ c0_4 from by omega)
         clear hr112 hC112 hroom112 hi0112 hsz112
         have KY112 := Aside0.mk hy112
         clear hy112
         replace q112 := eq_true q112
         have q113 : (x8_2 : Int) ≤ ((l0_4.length : Int) : Int) := of_decide_eq_true (by with_reducible assumption)
         obtain ⟨i0113, hi0113, _, hsz113, _⟩ := info_parts info37
         have hroom113 : l0_4.length ≤ c0_4 := HC0_4.out
         have hC113 : Kd.C k37 _ A0_4 l0_4.length l0_4 := HR0_4.out
         have q0113 : (0 : Int) ≤ (x8_2 : Int) := of_decide_eq_true (by with_reducible assumption)
         have hcut113 := cut_from (P := Tryd.prog) 31 37 .i64 Tryd.underlying31 hi0113 4 hsz113 A0_4 l0_4.length c0_4 x8_2 q0113 q113
         have hr113 := Kd.C_drop (m := (x8_2 : Int).toNat) (c := c0_4) hC113 (by omega) hroom113
         obtain ⟨A113, hA113⟩ : ∃ A1, A1 = (if c0_4 = (x8_2 : Int).toNat then A0_4 else (A0_4 : Option Addr).map (·.add ((x8_2 : Int).toNat * 4))) := ⟨_, rfl⟩
         obtain ⟨c113, hc113⟩ : ∃ c1, c1 = c0_4 - (x8_2 : Int).toNat := ⟨_, rfl⟩
         have hy113 : y500.length = l0_4.length - (x8_2 : Int).toNat := (by rw [Ny500.out, List.length_drop] <;> omega)
         rw [show (l0_4).drop (x8_2 : Int).toNat = y500 from Ny500.out.symm] at hr113
         replace hr113 : Kd.C k37 _ A113 y500.length y500 := (by rw [hA113]; exact hr113)
         rw [← hy113, ← hA113, ← hc113] at hcut113
         have HR503 := Aside0.mk hr113
         have HC503 := Aside0.mk (show y500.length ≤ c113 from by rw [hy113, hc113]; exact Nat.sub_le_sub_right hroom113 _)
         clear hr113 hC113 hroom113 hi0113 hsz113 hc113
         have KY113 := Aside0.mk hy113
         have KA113 := Aside0.mk hA113
         clear hy113 hA113
         replace q113 := eq_true q113
         refine start_ (n := 16) (S := fun w' => w'.cell? ⟨gb443, 0, none⟩ = some (.int .i64 a0_0) ∧ w'.cell? ⟨gb443, 1, none⟩ = some (.slice A0_1 l0_1.length c0_1) ∧ w'.cell? ⟨gb443, 2, none⟩ = some (.int .i64 a0_2) ∧ w'.cell? ⟨gb443, 3, none⟩ = some (.int .i64 a0_3) ∧ w'.cell? ⟨gb443, 4, none⟩ = some (.slice A0_4 l0_4.length c0_4) ∧ w'.cell? ⟨gb462, 0, none⟩ = some (.slice Ao23 t456.length co23) ∧ w'.cell? ⟨gb462, 1, none⟩ = some (.int .i64 t459) ∧ w'.cell? ⟨gb462, 2, none⟩ = some (.int .i64 t460) ∧ w'.cell? ⟨gb462, 3, none⟩ = some (.string t461)) (ds := []) (b_ 0 16) (by kernel_rfl) rfl rfl ⟨bx_ BK443.out 0, bx_ BK443.out 1, bx_ BK443.out 2, bx_ BK443.out 3, bx_ BK443.out 4, bx_ BK462.out 0, bx_ BK462.out 1, bx_ BK462.out 2, bx_ BK462.out 3⟩ (fun hHeld => ?_); refine with_tabW spec_JoinIn.tab12 spec_JoinIn.bits12 (fun HT_ HW_ => ?_)
         generalize w110.drew = w111 at HO_456001 HO_456004 HO_463000 BK443 BK444 BK445 BK455 BK462 HB HR492 HR503 hHeld ⊢
         refine pw_ 0 54 (b_ 1 15) rfl rfl HT_.out ?_
         refine pw_ 2 56 #[t_,f_,t_,f_,f_,f_,f_,f_,f_,f_,f_,f_,f_,f_,f_,f_] rfl rfl HT_.out ?_
         refine pw_ 8 62 #[t_,f_,t_,f_,f_,f_,f_,f_,t_,f_,f_,f_,f_,f_,f_,f_] rfl rfl HT_.out ?_
         refine pw_ 10 64 #[t_,f_,t_,f_,f_,f_,f_,f_,t_,f_,t_,f_,f_,f_,f_,f_] rfl rfl HT_.out ?_
         refine take_ (i := 1) (N := some 55) (v := ?_) (a' := ?_) #[t_,t_,t_,f_,f_,f_,f_,f_,t_,f_,t_,f_,f_,f_,f_,f_] rfl rfl (take_ofW HT_.out HW_.out (by kernel_rfl)) (fun _ _ _ h => h) (Or.inl ⟨by rfl, ?_⟩) hHeld ?_ ?_
         rotate_left
         ·
          rintro w' ⟨s0, s1, s2, s3, s4, s5, s6, s7, s8⟩
          go_simp
          with_reducible rfl
         rotate_left
         ·
          simp only [fr_]
          rfl
         refine pw_ 3 57 #[t_,t_,t_,t_,f_,f_,f_,f_,t_,f_,t_,f_,f_,f_,f_,f_] rfl rfl HT_.out ?_
         refine take_ (i := 5) (N := some 59) (v := ?_) (a' := ?_) #[t_,t_,t_,t_,f_,t_,f_,f_,t_,f_,t_,f_,f_,f_,f_,f_] rfl rfl (take_ofW HT_.out HW_.out (by kernel_rfl)) (fun _ _ _ h => h) (Or.inl ⟨by rfl, ?_⟩) hHeld ?_ ?_
         rotate_left
         ·
          rintro w' ⟨s0, s1, s2, s3, s4, s5, s6, s7, s8⟩
          go_simp
          with_reducible rfl
         rotate_left
         ·
          simp only [fr_]
          rfl
         refine take_ (i := 9) (N := some 63) (v := ?_) (a' := ?_) #[t_,t_,t_,t_,f_,t_,f_,f_,t_,t_,t_,f_,f_,f_,f_,f_] rfl rfl (take_ofW HT_.out HW_.out (by kernel_rfl)) (fun _ _ _ h => h) (Or.inl ⟨by rfl, ?_⟩) hHeld ?_ ?_
         rotate_left
         ·
          rintro w' ⟨s0, s1, s2, s3, s4, s5, s6, s7, s8⟩
          go_simp
          with_reducible rfl
         rotate_left
         ·
          simp only [fr_]
          rfl
         refine pw_ 11 65 #[t_,t_,t_,t_,f_,t_,f_,f_,t_,t_,t_,t_,f_,f_,f_,f_] rfl rfl HT_.out ?_
         refine join_ (σ := Value × Nat × Nat) 5 #[t_,t_,t_,t_,t_,t_,t_,f_,t_,t_,t_,t_,f_,f_,f_,f_] (fun s_ => [(58, s_.1), (60, .slice (some ⟨s_.2.2, 0, none⟩) 1 1)]) (fun s_ w' => (w'.cell? ⟨gb443, 0, none⟩ = some (.int .i64 a0_0) ∧ w'.cell? ⟨gb443, 1, none⟩ = some (.slice A0_1 l0_1.length c0_1) ∧ w'.cell? ⟨gb443, 2, none⟩ = some (.int .i64 a0_2) ∧ w'.cell? ⟨gb443, 3, none⟩ = some (.int .i64 a0_3) ∧ w'.cell? ⟨gb443, 4, none⟩ = some (.slice A0_4 l0_4.length c0_4) ∧ w'.cell? ⟨gb462, 0, none⟩ = some (.slice Ao23 t456.length co23) ∧ w'.cell? ⟨gb462, 1, none⟩ = some (.int .i64 t459) ∧ w'.cell? ⟨gb462, 2, none⟩ = some (.int .i64 t460) ∧ w'.cell? ⟨gb462, 3, none⟩ = some (.string t461)) ∧ (Kd.S k37 37 w' w.heap.size (fun k_ => k_ ≠ gb444 ∧ k_ ≠ gb462 ∧ k_ ≠ s_.2.2 ∧ s_.2.1 ≤ k_) s_.1 t493) ∧ (Kd.R k83 83 w' w.heap.size (fun k_ => some k_ ≠ (.slice Ao23 t456.length co23 : Value).ownBlock ∧ k_ < s_.2.1) (.slice Ao17 t447.length co17) t447) ∧ (Kd.S k37 37 w' w.heap.size (fun k_ => some k_ ≠ (.slice Ao17 t447.length co17 : Value).ownBlock ∧ some k_ ≠ (.slice Ao23 t456.length co23 : Value).ownBlock ∧ k_ ≠ gb444 ∧ k_ ≠ gb462 ∧ k_ ≠ s_.2.2 ∧ k_ < s_.2.1) u456004 x456004_1) ∧ (Kd.R k83 83 w' w.heap.size (fun k_ => some k_ ≠ (.slice Ao17 t447.length co17 : Value).ownBlock ∧ k_ < s_.2.1) (.slice Ao23 t456.length co23) t456) ∧ (w'.heap[gb443]? = some (.cells #[.int .i64 a0_0, .slice A0_1 l0_1.length c0_1, .int .i64 a0_2, .int .i64 a0_3, .slice A0_4 l0_4.length c0_4] 33 (0, 0))) ∧ (w'.heap[gb444]? = some (.cells #[.slice A1_0 l1_0.length c1_0, .int .i64 a1_1, .int .i64 a1_2, .string a1_3] 37 (0, 0))) ∧ (w'.heap[gb445]? = some (.cells #[.int .i64 x446000_1, .slice none 0 0, .int .i64 x446002_1, .int .i64 x446003_1, .slice none 0 0] 33 (0, 0))) ∧ (w'.heap[gb455]? = some (.cells #[.int .i64 t446, .slice Ao17 t447.length co17, .int .i64 t450, .int .i64 t451, u456004] 33 (0, 0))) ∧ (w'.heap[gb462]? = some (.cells #[.slice Ao23 t456.length co23, .int .i64 t459, .int .i64 t460, .string t461] 37 (0, 0))) ∧ (w'.heap[s_.2.2]? = some (.cells #[.slice Ao23 t456.length co23, .int .i64 t459, .int .i64 t460, .string t461] 37 (0, 0))) ∧ (w.heap.size ≤ s_.2.2) ∧ (w.heap.size ≤ s_.2.2) ∧ (gb443 ≠ s_.2.2) ∧ (s_.2.2 ≠ gb443) ∧ (gb444 ≠ s_.2.2) ∧ (s_.2.2 ≠ gb444) ∧ (gb445 ≠ s_.2.2) ∧ (s_.2.2 ≠ gb445) ∧ (gb455 ≠ s_.2.2) ∧ (s_.2.2 ≠ gb455) ∧ (gb462 ≠ s_.2.2) ∧ (s_.2.2 ≠ gb462) ∧ (Below w.heap.size w w')) ?_ ?_
         rotate_left
         ·
          intro hCont
          refine two_ (i := 4) (j := 6) (Ni := some 58) (Nj := some 60) #[t_,t_,t_,t_,t_,t_,f_,f_,t_,t_,t_,t_,f_,f_,f_,f_] #[t_,t_,t_,t_,f_,t_,t_,f_,t_,t_,t_,t_,f_,f_,f_,f_] rfl rfl rfl rfl (two_of HT_.out (by kernel_rfl)) (by decide) (by decide) (fun K hK => ?_) (fun K hK => ?_)
          ·
           skip
           refine gs_ Tryd.func73 #[.slice A0_4 y489.length c0_4] ?_
           with_reducible refine (spec_l4All.calls k2 _ _ y489 t493 _ ?side1 ?side2 A104.out).mono ?_
           (case side1 => exact cp_ ((Kd.C_below HR492.out HB.out)))
           (case side2 => exact HC492.out)
           rintro e w114 ⟨v494, rfl, ho0, hb⟩
           refine ⟨_, rfl, ?_⟩
           obtain ⟨gbz494, hz494⟩ := Kd.S_name ho0
           replace HO_456001 := Aside0.mk (Kd.R_below (Kd.R_ltz hz494 (rp_ HO_456001.out)) hb)
           replace HO_456004 := Aside0.mk (Kd.S_below (Kd.S_ltz hz494 (sp_ HO_456004.out)) hb)
           replace HO_463000 := Aside0.mk (Kd.R_below (Kd.R_ltz hz494 (rp_ HO_463000.out)) hb)
           have HO495 := Aside0.mk (Kd.S_lower (Kd.S_newB (Kd.S_newB (Kd.S_gez hz494 ho0) (g := gb444) (o := .cells #[.slice A1_0 l1_0.length c1_0, .int .i64 a1_1, .int .i64 a1_2, .string a1_3] 37 (0, 0)) (pb_ BK444.out)) (g := gb462) (o := .cells #[.slice Ao23 t456.length co23, .int .i64 t459, .int .i64 t460, .string t461] 37 (0, 0)) (pb_ BK462.out)) (below_size (hs_ HB.out)))
           replace BK443 := bk2_ BK443 hb
           replace BK444 := bk2_ BK444 hb
           replace BK445 := bk2_ BK445 hb
           replace BK455 := bk2_ BK455 hb
           replace BK462 := bk2_ BK462 hb
           replace HB := st_ HB hb
           (try clear hb)
           (try clear hk)
           (try clear ho0)
           refine hK.out _ _ (f5_ BK443.out (e4_ BK462.out)) (fun hHeld => ?_)
           clear hK K
           refine norm_ (a' := ?_) ?_ ?_
           rotate_left
           ·
            show Act.put _ (some 58) _ = _
            simp only [fr_]
            rfl
           refine one_ (i := 6) (N := some 60) #[t_,t_,t_,t_,t_,t_,t_,f_,t_,t_,t_,t_,f_,f_,f_,f_] rfl rfl (one_of HT_.out (by kernel_rfl)) (by decide) (fun K hK => ?_)
           refine box_stepL ?hg (N := 60) ?hd (cs := #[.slice Ao23 t456.length co23, .int .i64 t459, .int .i64 t460, .string t461]) (t := 37) ?hr ?_; (case hd => rfl); (case hg => rfl); (case hr => first | (go_simp; done) | (go_simp; rfl))
           intro gb496 hg w115 hbox hb
           replace HO_456001 := rb_ HO_456001 hb
           replace HO_456004 := Aside0.mk (Kd.S_below (Kd.S_elderB (sp_ HO_456004.out) gb496 (Nat.le_of_eq hg.symm)) hb)
           replace HO_463000 := rb_ HO_463000 hb
           replace HO495 := Aside0.mk (Kd.S_below (Kd.S_elderB (sp_ HO495.out) gb496 (Nat.le_of_eq hg.symm)) hb)
           have BK496 := Aside0.mk (hbox)
           have GW496 := Ge_.mk ((gw_ hg (hs_ HB.out)))
           have GE496 := Ge_.mk ((gw_ hg (hs_ HB.out)))
           replace HB := st_ HB hb
           have NB443_496 := nk_ BK443 hg
           have NB496_443 := Ne_.mk (ng_ BK443.out hg)
           replace BK443 := bk2_ BK443 hb
           have NB444_496 := nk_ BK444 hg
           have NB496_444 := Ne_.mk (ng_ BK444.out hg)
           replace BK444 := bk2_ BK444 hb
           have NB445_496 := nk_ BK445 hg
           have NB496_445 := Ne_.mk (ng_ BK445.out hg)
           replace BK445 := bk2_ BK445 hb
           have NB455_496 := nk_ BK455 hg
           have NB496_455 := Ne_.mk (ng_ BK455.out hg)
           replace BK455 := bk2_ BK455 hb
           have NB462_496 := nk_ BK462 hg
           have NB496_462 := Ne_.mk (ng_ BK462.out hg)
           replace BK462 := bk2_ BK462 hb
           clear hb hbox hg
           refine hK.out _ _ (f5_ BK443.out (e4_ BK462.out)) (fun hHeld => ?_)
           clear hK K
           refine norm_ (a' := ?_) ?_ ?_
           rotate_left
           ·
            show Act.put _ (some 60) _ = _
            simp only [fr_]
            rfl
           exact norm_ (by simp only [putAll, fr_]) (hCont (v494, gbz494, gb496) _ ⟨hHeld, (Kd.S_mono (sp_ HO495.out) (fun _ hk => ⟨hk.1.1.2, ⟨hk.1.2, ⟨hk.2, hk.1.1.1.2⟩⟩⟩)), (rp_ HO_456001.out), (Kd.S_mono (sp_ HO_456004.out) (fun _ hk => ⟨hk.1.1.1, ⟨hk.1.1.2.1, ⟨hk.1.1.2.2.1, ⟨hk.1.1.2.2.2, ⟨hk.2, hk.1.2⟩⟩⟩⟩⟩)), (rp_ HO_463000.out), (pb_ BK443.out), (pb_ BK444.out), (pb_ BK445.out), (pb_ BK455.out), (pb_ BK462.out), (pb_ BK496.out), GW496.out, GE496.out, NB443_496.out, NB496_443.out, NB444_496.out, NB496_444.out, NB445_496.out, NB496_445.out, NB455_496.out, NB496_455.out, NB462_496.out, NB496_462.out, (hs_ HB.out)⟩)
          skip
          refine box_stepL ?hg (N := 60) ?hd (cs := #[.slice Ao23 t456.length co23, .int .i64 t459, .int .i64 t460, .string t461]) (t := 37) ?hr ?_; (case hd => rfl); (case hg => rfl); (case hr => first | (go_simp; done) | (go_simp; rfl))
          intro gb496 hg w114 hbox hb
          replace HO_456001 := rb_ HO_456001 hb
          replace HO_456004 := Aside0.mk (Kd.S_below (Kd.S_elderB (sp_ HO_456004.out) gb496 (Nat.le_of_eq hg.symm)) hb)
          replace HO_463000 := rb_ HO_463000 hb
          have BK496 := Aside0.mk (hbox)
          have GW496 := Ge_.mk ((gw_ hg (hs_ HB.out)))
          have GE496 := Ge_.mk ((gw_ hg (hs_ HB.out)))
          replace HB := st_ HB hb
          have NB443_496 := nk_ BK443 hg
          have NB496_443 := Ne_.mk (ng_ BK443.out hg)
          replace BK443 := bk2_ BK443 hb
          have NB444_496 := nk_ BK444 hg
          have NB496_444 := Ne_.mk (ng_ BK444.out hg)
          replace BK444 := bk2_ BK444 hb
          have NB445_496 := nk_ BK445 hg
          have NB496_445 := Ne_.mk (ng_ BK445.out hg)
          replace BK445 := bk2_ BK445 hb
          have NB455_496 := nk_ BK455 hg
          have NB496_455 := Ne_.mk (ng_ BK455.out hg)
          replace BK455 := bk2_ BK455 hb
          have NB462_496 := nk_ BK462 hg
          have NB496_462 := Ne_.mk (ng_ BK462.out hg)
          replace BK462 := bk2_ BK462 hb
          clear hb hbox hg
          refine hK.out _ _ (f5_ BK443.out (e4_ BK462.out)) (fun hHeld => ?_)
          clear hK K
          refine norm_ (a' := ?_) ?_ ?_
          rotate_left
          ·
           show Act.put _ (some 60) _ = _
           simp only [fr_]
           rfl
          refine one_ (i := 4) (N := some 58) #[t_,t_,t_,t_,t_,t_,t_,f_,t_,t_,t_,t_,f_,f_,f_,f_] rfl rfl (one_of HT_.out (by kernel_rfl)) (by decide) (fun K hK => ?_)
          refine gs_ Tryd.func73 #[.slice A0_4 y489.length c0_4] ?_
          with_reducible refine (spec_l4All.calls k2 _ _ y489 t493 _ ?side1 ?side2 A104.out).mono ?_
          (case side1 => exact cp_ ((Kd.C_below HR492.out HB.out)))
          (case side2 => exact HC492.out)
          rintro e w115 ⟨v494, rfl, ho0, hb⟩
          refine ⟨_, rfl, ?_⟩
          obtain ⟨gbz494, hz494⟩ := Kd.S_name ho0
          replace HO_456001 := Aside0.mk (Kd.R_below (Kd.R_ltz hz494 (rp_ HO_456001.out)) hb)
          replace HO_456004 := Aside0.mk (Kd.S_below (Kd.S_ltz hz494 (sp_ HO_456004.out)) hb)
          replace HO_463000 := Aside0.mk (Kd.R_below (Kd.R_ltz hz494 (rp_ HO_463000.out)) hb)
          have HO495 := Aside0.mk (Kd.S_lower (Kd.S_newB (Kd.S_newB (Kd.S_newB (Kd.S_gez hz494 ho0) (g := gb444) (o := .cells #[.slice A1_0 l1_0.length c1_0, .int .i64 a1_1, .int .i64 a1_2, .string a1_3] 37 (0, 0)) (pb_ BK444.out)) (g := gb462) (o := .cells #[.slice Ao23 t456.length co23, .int .i64 t459, .int .i64 t460, .string t461] 37 (0, 0)) (pb_ BK462.out)) (g := gb496) (o := .cells #[.slice Ao23 t456.length co23, .int .i64 t459, .int .i64 t460, .string t461] 37 (0, 0)) (pb_ BK496.out)) (below_size (hs_ HB.out)))
          replace BK443 := bk2_ BK443 hb
          replace BK444 := bk2_ BK444 hb
          replace BK445 := bk2_ BK445 hb
          replace BK455 := bk2_ BK455 hb
          replace BK462 := bk2_ BK462 hb
          replace BK496 := bk2_ BK496 hb
          replace HB := st_ HB hb
          (try clear hb)
          (try clear hk)
          (try clear ho0)
          refine hK.out _ _ (f5_ BK443.out (e4_ BK462.out)) (fun hHeld => ?_)
          clear hK K
          refine norm_ (a' := ?_) ?_ ?_
          rotate_left
          ·
           show Act.put _ (some 58) _ = _
           simp only [fr_]
           rfl
          exact norm_ (by simp only [putAll, fr_]) (hCont (v494, gbz494, gb496) _ ⟨hHeld, (Kd.S_mono (sp_ HO495.out) (fun _ hk => ⟨hk.1.1.2, ⟨hk.1.2, ⟨hk.2, hk.1.1.1.2⟩⟩⟩)), (rp_ HO_456001.out), (Kd.S_mono (sp_ HO_456004.out) (fun _ hk => ⟨hk.1.1.1, ⟨hk.1.1.2.1, ⟨hk.1.1.2.2.1, ⟨hk.1.1.2.2.2, ⟨hk.1.2, hk.2⟩⟩⟩⟩⟩)), (rp_ HO_463000.out), (pb_ BK443.out), (pb_ BK444.out), (pb_ BK445.out), (pb_ BK455.out), (pb_ BK462.out), (pb_ BK496.out), GW496.out, GE496.out, NB443_496.out, NB496_443.out, NB444_496.out, NB496_444.out, NB445_496.out, NB496_445.out, NB455_496.out, NB496_455.out, NB462_496.out, NB496_462.out, (hs_ HB.out)⟩)
         rintro ⟨v494, gbz494, gb496⟩ w116 ⟨hS_, h0_, h1_, h2_, h3_, h4_, h5_, h6_, h7_, h8_, h9_, h10_, h11_, h12_, h13_, h14_, h15_, h16_, h17_, h18_, h19_, h20_, h21_, h22_⟩
         have HO495 : Aside0 (Kd.S k37 37 w116 w.heap.size (fun k_ => k_ ≠ gb444 ∧ k_ ≠ gb462 ∧ k_ ≠ gb496 ∧ gbz494 ≤ k_) v494 t493) := ⟨h0_⟩
         replace HO_456001 : Aside0 (Kd.R k83 83 w116 w.heap.size (fun k_ => some k_ ≠ (.slice Ao23 t456.length co23 : Value).ownBlock ∧ k_ < gbz494) (.slice Ao17 t447.length co17) t447) := ⟨h1_⟩
         replace HO_456004 : Aside0 (Kd.S k37 37 w116 w.heap.size (fun k_ => some k_ ≠ (.slice Ao17 t447.length co17 : Value).ownBlock ∧ some k_ ≠ (.slice Ao23 t456.length co23 : Value).ownBlock ∧ k_ ≠ gb444 ∧ k_ ≠ gb462 ∧ k_ ≠ gb496 ∧ k_ < gbz494) u456004 x456004_1) := ⟨h2_⟩
         replace HO_463000 : Aside0 (Kd.R k83 83 w116 w.heap.size (fun k_ => some k_ ≠ (.slice Ao17 t447.length co17 : Value).ownBlock ∧ k_ < gbz494) (.slice Ao23 t456.length co23) t456) := ⟨h3_⟩
         replace BK443 : Aside0 (w116.heap[gb443]? = some (.cells #[.int .i64 a0_0, .slice A0_1 l0_1.length c0_1, .int .i64 a0_2, .int .i64 a0_3, .slice A0_4 l0_4.length c0_4] 33 (0, 0))) := ⟨h4_⟩
         replace BK444 : Aside0 (w116.heap[gb444]? = some (.cells #[.slice A1_0 l1_0.length c1_0, .int .i64 a1_1, .int .i64 a1_2, .string a1_3] 37 (0, 0))) := ⟨h5_⟩
         replace BK445 : Aside0 (w116.heap[gb445]? = some (.cells #[.int .i64 x446000_1, .slice none 0 0, .int .i64 x446002_1, .int .i64 x446003_1, .slice none 0 0] 33 (0, 0))) := ⟨h6_⟩
         replace BK455 : Aside0 (w116.heap[gb455]? = some (.cells #[.int .i64 t446, .slice Ao17 t447.length co17, .int .i64 t450, .int .i64 t451, u456004] 33 (0, 0))) := ⟨h7_⟩
         replace BK462 : Aside0 (w116.heap[gb462]? = some (.cells #[.slice Ao23 t456.length co23, .int .i64 t459, .int .i64 t460, .string t461] 37 (0, 0))) := ⟨h8_⟩
         have BK496 : Aside0 (w116.heap[gb496]? = some (.cells #[.slice Ao23 t456.length co23, .int .i64 t459, .int .i64 t460, .string t461] 37 (0, 0))) := ⟨h9_⟩
         have GW496 := Ge_.mk h10_
         have GE496 := Ge_.mk h11_
         have NB443_496 := Ne_.mk h12_
         have NB496_443 := Ne_.mk h13_
         have NB444_496 := Ne_.mk h14_
         have NB496_444 := Ne_.mk h15_
         have NB445_496 := Ne_.mk h16_
         have NB496_445 := Ne_.mk h17_
         have NB455_496 := Ne_.mk h18_
         have NB496_455 := Ne_.mk h19_
         have NB462_496 := Ne_.mk h20_
         have NB496_462 := Ne_.mk h21_
         replace HB : Aside0 (Below w.heap.size w w116) := ⟨h22_⟩
         clear h0_ h1_ h2_ h3_ h4_ h5_ h6_ h7_ h8_ h9_ h10_ h11_ h12_ h13_ h14_ h15_ h16_ h17_ h18_ h19_ h20_ h21_ h22_
         have hHeld : w116.cell? ⟨gb443, 0, none⟩ = some (.int .i64 a0_0) ∧ w116.cell? ⟨gb443, 1, none⟩ = some (.slice A0_1 l0_1.length c0_1) ∧ w116.cell? ⟨gb443, 2, none⟩ = some (.int .i64 a0_2) ∧ w116.cell? ⟨gb443, 3, none⟩ = some (.int .i64 a0_3) ∧ w116.cell? ⟨gb443, 4, none⟩ = some (.slice A0_4 l0_4.length c0_4) ∧ w116.cell? ⟨gb462, 0, none⟩ = some (.slice Ao23 t456.length co23) ∧ w116.cell? ⟨gb462, 1, none⟩ = some (.int .i64 t459) ∧ w116.cell? ⟨gb462, 2, none⟩ = some (.int .i64 t460) ∧ w116.cell? ⟨gb462, 3, none⟩ = some (.string t461) := hS_
         refine norm_ (a' := ?_) ?_ ?_
         rotate_left
         ·
          simp only [putAll, fr_]
          rfl
         refine one_ (i := 7) (N := some 61) (b_ 12 4) rfl rfl (one_of HT_.out (by kernel_rfl)) (by decide) (fun K hK => ?_)
         refine Kd.S_append_box_step k37 (w0 := w) w.heap.size (by rfl) (.tmp 58) (.tmp 60) 31 37 (.agg #[(.slice none 0 0), (.int .i64 0), (.int .i64 0), (.string ⟨#[]⟩)]) 56 rfl Tryd.underlying31 info37 rfl (by decide) (by omega) v494 t493 (⟨t456, t459, t460, t461⟩ : S37) [.slice Ao23 t456.length co23, .int .i64 t459, .int .i64 t460, .string t461] (fun k_ => some k_ ≠ (.slice Ao17 t447.length co17 : Value).ownBlock ∧ some k_ ≠ (u456004 : Value).ownBlock ∧ k_ ≠ gb444 ∧ k_ ≠ gb462 ∧ k_ ≠ gb496) (fun k_ => some k_ = (.slice Ao23 t456.length co23 : Value).ownBlock) gb496 (pb_ BK496.out) rfl rfl ?aP (fun k_ hk_ => ((Kd.R_mono (ok' := fun k_ => ((fun k_ => some k_ ≠ (.slice Ao17 t447.length co17 : Value).ownBlock ∧ some k_ ≠ (u456004 : Value).ownBlock ∧ k_ ≠ gb444 ∧ k_ ≠ gb462 ∧ k_ ≠ gb496)) k_ ∧ some k_ ≠ (v494 : Value).ownBlock) (Kd.R_types (Kd.R_types (Kd.R_types (Kd.R_apart' (Kd.R_apart' (HO_463000.out) (Kd.S_typed HO_456004.out) (by decide)) (Kd.S_typed HO495.out) (by decide)) BK444.out (by decide)) BK462.out (by decide)) BK496.out (by decide)) (fun k_ hk => ⟨⟨hk.1.1.1.1.1.1, ⟨hk.1.1.1.1.2, ⟨hk.1.1.2, ⟨hk.1.2, hk.2⟩⟩⟩⟩, hk.1.1.1.2⟩))).1 k_ hk_.symm) ?aF ?aO ?aB ?aS ?aL ?_
         (case aP => exact k37_mkM _ _ _ (⟨t456, t459, t460, t461⟩ : S37) (Kd.R_mono (Kd.R_tight rfl (Kd.R_mono (ok' := fun k_ => ((fun k_ => some k_ ≠ (.slice Ao17 t447.length co17 : Value).ownBlock ∧ some k_ ≠ (u456004 : Value).ownBlock ∧ k_ ≠ gb444 ∧ k_ ≠ gb462 ∧ k_ ≠ gb496)) k_ ∧ some k_ ≠ (v494 : Value).ownBlock) (Kd.R_types (Kd.R_types (Kd.R_types (Kd.R_apart' (Kd.R_apart' (HO_463000.out) (Kd.S_typed HO_456004.out) (by decide)) (Kd.S_typed HO495.out) (by decide)) BK444.out (by decide)) BK462.out (by decide)) BK496.out (by decide)) (fun k_ hk => ⟨⟨hk.1.1.1.1.1.1, ⟨hk.1.1.1.1.2, ⟨hk.1.1.2, ⟨hk.1.2, hk.2⟩⟩⟩⟩, hk.1.1.1.2⟩))) (fun _ h_ => h_)))
         (case aB => exact (hs_ HB.out))
         (case aF => exact (fun k_ hk => ⟨Kd.fresh' (Kd.R_lt (rp_ HO_456001.out)) k_ hk, Kd.fresh' (Kd.S_lt (sp_ HO_456004.out)) k_ hk, Kd.freshB (g := gb444) (o := .cells #[.slice A1_0 l1_0.length c1_0, .int .i64 a1_1, .int .i64 a1_2, .string a1_3] 37 (0, 0)) (pb_ BK444.out) k_ hk, Kd.freshB (g := gb462) (o := .cells #[.slice Ao23 t456.length co23, .int .i64 t459, .int .i64 t460, .string t461] 37 (0, 0)) (pb_ BK462.out) k_ hk, Kd.freshB (g := gb496) (o := .cells #[.slice Ao23 t456.length co23, .int .i64 t459, .int .i64 t460, .string t461] 37 (0, 0)) (pb_ BK496.out) k_ hk⟩))
         (case aO => exact (by (with_reducible repeat (first | apply Kd.S_alloc | apply Kd.S_drewN | apply Kd.S_drew)); exact Kd.S_mono (Kd.S_times (Kd.S_times HO495.out HO_456001.out.1 (fun k_ hk hz_ => Nat.lt_irrefl _ (Nat.lt_of_lt_of_le hz_.2 hk.2.2.2))) (Kd.S_R HO_456004.out).1 (fun k_ hk hz_ => Nat.lt_irrefl _ (Nat.lt_of_lt_of_le hz_.2.2.2.2.2 hk.1.2.2.2))) (fun k_ hk => ⟨⟨hk.1.2, ⟨hk.2, ⟨hk.1.1.1, ⟨hk.1.1.2.1, hk.1.1.2.2.1⟩⟩⟩⟩, fun e_ => (fun ez_ => Nat.lt_irrefl _ (Nat.lt_of_lt_of_le (HO_463000.out.1 _ ez_.symm).2 hk.1.1.2.2.2)) e_⟩)))
         (case aS => exact (below_size (hs_ HB.out)))
         (case aL => have := LMc105.out; omega)
         intro v498 w117 ho hb hg hat
         rw [← Ny497.out] at ho
         replace HO_456001 := Aside0.mk (Kd.R_over' (rp_ HO_456001.out) (Kd.S_typed (sp_ HO495.out)) (by decide) hg)
         replace HO_456004 := Aside0.mk (Kd.S_after (ok := (fun k_ => some k_ ≠ (.slice Ao17 t447.length co17 : Value).ownBlock ∧ some k_ ≠ (.slice Ao23 t456.length co23 : Value).ownBlock ∧ k_ ≠ gb444 ∧ k_ ≠ gb462 ∧ k_ ≠ gb496 ∧ k_ < gbz494)) (by (with_reducible repeat (first | apply Kd.S_alloc | apply Kd.S_drewN | apply Kd.S_drew)); exact (Kd.S_times HO_456004.out (Kd.S_R HO495.out).1 (fun k_ hk hz_ => Nat.lt_irrefl _ (Nat.lt_of_lt_of_le hk.2.2.2.2.2 hz_.2.2.2)))) hg hat)
         replace BK443 := Aside0.mk (blk_grown (bq_ BK443.out) hg (Kd.S_ne HO495.out BK443.out (by decide)))
         replace BK444 := Aside0.mk (blk_grown (bq_ BK444.out) hg (Kd.S_away HO495.out (fun _ hk => hk.1)))
         replace BK445 := Aside0.mk (blk_grown (bq_ BK445.out) hg (Kd.S_ne HO495.out BK445.out (by decide)))
         replace BK455 := Aside0.mk (blk_grown (bq_ BK455.out) hg (Kd.S_ne HO495.out BK455.out (by decide)))
         replace BK462 := Aside0.mk (blk_grown (bq_ BK462.out) hg (Kd.S_away HO495.out (fun _ hk => hk.2.1)))
         replace BK496 := Aside0.mk (blk_grown (bq_ BK496.out) hg (Kd.S_away HO495.out (fun _ hk => hk.2.2.1)))
         replace HB := Aside0.mk (hb)
         have HO499 := Aside0.mk (ho)
         clear HO495 HO_463000
         clear ho hb hg hat
         refine hK.out _ _ (f5_ BK443.out (e4_ BK462.out)) (fun hHeld => ?_)
         clear hK K
         refine norm_ (a' := ?_) ?_ ?_
         rotate_left
         ·
          show Act.put _ (some 61) _ = _
          simp only [fr_]
          rfl
         refine one_ (i := 12) (N := some 66) (b_ 13 3) rfl rfl (one_of HT_.out (by kernel_rfl)) (by decide) (fun K hK => ?_)
         refine gs_ Tryd.func73 #[.slice A113 y500.length c113] ?_
         with_reducible refine (spec_l4All.calls k2 _ _ y500 t504 _ ?side1 ?side2 A108.out).mono ?_
         (case side1 => exact cp_ ((Kd.C_below HR503.out HB.out)))
         (case side2 => exact HC503.out)
         rintro e w118 ⟨v505, rfl, ho0, hb⟩
         refine ⟨_, rfl, ?_⟩
         obtain ⟨gbz505, hz505⟩ := Kd.S_name ho0
         replace HO_456001 := Aside0.mk (Kd.R_below (Kd.R_ltz hz505 (rp_ HO_456001.out)) hb)
         replace HO_456004 := Aside0.mk (Kd.S_below (Kd.S_ltz hz505 (sp_ HO_456004.out)) hb)
         replace HO499 := Aside0.mk (Kd.S_below (Kd.S_ltz hz505 (sp_ HO499.out)) hb)
         have HO506 := Aside0.mk (Kd.S_lower (Kd.S_newB (Kd.S_newB (Kd.S_newB (Kd.S_gez hz505 ho0) (g := gb444) (o := .cells #[.slice A1_0 l1_0.length c1_0, .int .i64 a1_1, .int .i64 a1_2, .string a1_3] 37 (0, 0)) (pb_ BK444.out)) (g := gb462) (o := .cells #[.slice Ao23 t456.length co23, .int .i64 t459, .int .i64 t460, .string t461] 37 (0, 0)) (pb_ BK462.out)) (g := gb496) (o := .cells #[.slice Ao23 t456.length co23, .int .i64 t459, .int .i64 t460, .string t461] 37 (0, 0)) (pb_ BK496.out)) (below_size (hs_ HB.out)))
         replace BK443 := bk2_ BK443 hb
         replace BK444 := bk2_ BK444 hb
         replace BK445 := bk2_ BK445 hb
         replace BK455 := bk2_ BK455 hb
         replace BK462 := bk2_ BK462 hb
         replace BK496 := bk2_ BK496 hb
         replace HB := st_ HB hb
         (try clear hb)
         (try clear hk)
         (try clear ho0)
         obtain ⟨Ao120, co120, eo120⟩ := Kd.S_slice HO506.out
         (first | subst eo120 | (obtain ⟨rfl, rfl⟩ := si_ eo120))
         obtain ⟨PXP121, hPXP121, hPlP121⟩ := Kd.S_fp ((Kd.S_mono (Kd.S_mono (Kd.S_mono HO506.out (fun k_ hk => (⟨hk, fun ez_ => Nat.lt_irrefl _ (Nat.lt_of_lt_of_le (HO_456001.out.1 _ ez_.symm).2 hk.1.1.1.2)⟩ : _ ∧ some k_ ≠ (.slice Ao17 t447.length co17 : Value).ownBlock))) (fun k_ hk => (⟨hk, fun ez_ => Nat.lt_irrefl _ (Nat.lt_of_lt_of_le ((Kd.S_R HO_456004.out).1 _ ez_.symm).2 hk.1.1.1.1.2)⟩ : _ ∧ some k_ ≠ (u456004 : Value).ownBlock))) (fun k_ hk => (⟨hk, fun ez_ => Nat.lt_irrefl _ (Nat.lt_of_lt_of_le ((Kd.S_R HO499.out).1 _ ez_.symm).2 hk.1.1.1.1.1.2)⟩ : _ ∧ some k_ ≠ (v498 : Value).ownBlock))))
         refine hK.out _ _ (f5_ BK443.out (e4_ BK462.out)) (fun hHeld => ?_)
         clear hK K
         refine norm_ (a' := ?_) ?_ ?_
         rotate_left
         ·
          show Act.put _ (some 66) _ = _
          simp only [fr_]
          rfl
         refine one_ (i := 13) (N := some 67) (b_ 14 2) rfl rfl (one_of HT_.out (by kernel_rfl)) (by decide) (fun K hK => ?_)
         refine Kd.S_append_rows_step k37 (w0 := w) w.heap.size (by rfl) (.tmp 61) (.tmp 66) 31 37 (.agg #[(.slice none 0 0), (.int .i64 0), (.int .i64 0), (.string ⟨#[]⟩)]) 56 rfl Tryd.underlying31 info37 rfl (by decide) (by omega) v498 y497 t504 _ _ _ (fun k_ => some k_ ≠ (.slice Ao17 t447.length co17 : Value).ownBlock ∧ some k_ ≠ (u456004 : Value).ownBlock ∧ k_ ≠ gb444 ∧ k_ ≠ gb462 ∧ k_ ≠ gb496) PXP121 rfl rfl ?aR (fun k_ hk_ => ⟨⟨(hPlP121 k_ hk_).1.1.1.2, ⟨(hPlP121 k_ hk_).1.1.2, ⟨(hPlP121 k_ hk_).1.1.1.1.1.1.2, ⟨(hPlP121 k_ hk_).1.1.1.1.1.2, (hPlP121 k_ hk_).1.1.1.1.2⟩⟩⟩⟩, (hPlP121 k_ hk_).1.2⟩) ?aF ?aO ?aB ?aS ?aL ?_
         (case aR => exact hPXP121)
         (case aB => exact (hs_ HB.out))
         (case aF => exact (fun k_ hk => ⟨Kd.fresh' (Kd.R_lt (rp_ HO_456001.out)) k_ hk, Kd.fresh' (Kd.S_lt (sp_ HO_456004.out)) k_ hk, Kd.freshB (g := gb444) (o := .cells #[.slice A1_0 l1_0.length c1_0, .int .i64 a1_1, .int .i64 a1_2, .string a1_3] 37 (0, 0)) (pb_ BK444.out) k_ hk, Kd.freshB (g := gb462) (o := .cells #[.slice Ao23 t456.length co23, .int .i64 t459, .int .i64 t460, .string t461] 37 (0, 0)) (pb_ BK462.out) k_ hk, Kd.freshB (g := gb496) (o := .cells #[.slice Ao23 t456.length co23, .int .i64 t459, .int .i64 t460, .string t461] 37 (0, 0)) (pb_ BK496.out) k_ hk⟩))
         (case aO => exact (Kd.S_mono (sp_ HO499.out) (fun k_ hk => ⟨⟨hk.1.1, ⟨hk.1.2.1, ⟨hk.1.2.2.1, ⟨hk.1.2.2.2.1, hk.1.2.2.2.2⟩⟩⟩⟩, fun e_ => (fun ez_ => Nat.lt_irrefl _ (Nat.lt_of_lt_of_le hk.2 (hPlP121 _ ez_).1.1.1.1.1.1.1.2)) e_⟩)))
         (case aS => exact (below_size (hs_ HB.out)))
         (case aL => have := LMc109.out; omega)
         intro v508 w119 ho hb hg hat
         rw [← Ny507.out] at ho
         replace HO_456001 := Aside0.mk (Kd.R_over' (rp_ HO_456001.out) (Kd.S_typed (sp_ HO499.out)) (by decide) hg)
         replace HO_456004 := Aside0.mk (Kd.S_after (ok := (fun k_ => some k_ ≠ (.slice Ao17 t447.length co17 : Value).ownBlock ∧ k_ ≠ gb444 ∧ k_ ≠ gb462 ∧ k_ ≠ gb496 ∧ k_ < gbz494 ∧ k_ < gbz505)) (Kd.S_mono (sp_ HO_456004.out) (fun _ hk => ⟨⟨hk.1.1.1, ⟨hk.1.1.2.2.1, ⟨hk.1.1.2.2.2.1, ⟨hk.1.1.2.2.2.2.1, ⟨hk.1.1.2.2.2.2.2, hk.2⟩⟩⟩⟩⟩, hk.1.2⟩)) hg hat)
         replace BK443 := Aside0.mk (blk_grown (bq_ BK443.out) hg (Kd.S_ne HO499.out BK443.out (by decide)))
         replace BK444 := Aside0.mk (blk_grown (bq_ BK444.out) hg (Kd.S_away HO499.out (fun _ hk => hk.1.2.2.1)))
         replace BK445 := Aside0.mk (blk_grown (bq_ BK445.out) hg (Kd.S_ne HO499.out BK445.out (by decide)))
         replace BK455 := Aside0.mk (blk_grown (bq_ BK455.out) hg (Kd.S_ne HO499.out BK455.out (by decide)))
         replace BK462 := Aside0.mk (blk_grown (bq_ BK462.out) hg (Kd.S_away HO499.out (fun _ hk => hk.1.2.2.2.1)))
         replace BK496 := Aside0.mk (blk_grown (bq_ BK496.out) hg (Kd.S_away HO499.out (fun _ hk => hk.1.2.2.2.2)))
         replace HB := Aside0.mk (hb)
         have HO509 := Aside0.mk (ho)
         clear HO499 HO506
         clear ho hb hg hat
         obtain ⟨Ao122, co122, eo122⟩ := Kd.S_slice HO509.out
         (first | subst eo122 | (obtain ⟨rfl, rfl⟩ := si_ eo122))
         refine hK.out _ _ (f5_ BK443.out (e4_ BK462.out)) (fun hHeld => ?_)
         clear hK K
         refine norm_ (a' := ?_) ?_ ?_
         rotate_left
         ·
          show Act.put _ (some 67) _ = _
          simp only [fr_]
          rfl
         refine pw_ 14 68 (b_ 15 1) rfl rfl HT_.out ?_
         refine one_ (i := 15) (N := none) (b_ 16 0) rfl rfl (one_of HT_.out (by kernel_rfl)) (by decide) (fun K hK => ?_)
         have hs123 : w119.cell? ⟨gb455, 4, none⟩ = some (u456004) := bx_ BK455.out 4
         have hfs123 := blk_frozen BK455.out 4
         have hns123_0 := NB443_455.out
         have hns123_1 := NB444_455.out
         have hns123_2 := NB445_455.out
         have hns123_4 := NB462_455.out
         have hns123_5 := NB496_455.out
         have hms123_0 := NB455_443.out
         have hms123_1 := NB455_444.out
         have hms123_2 := NB455_445.out
         have hms123_4 := NB455_462.out
         have hms123_5 := NB455_496.out
         refine skip_ (w1 := ?_) (by rfl) rfl ?_ ?_
         rotate_left
         ·
          go_simp
          rfl
         refine hK.out _ _ ⟨(cf_ (hHeld.1)), (cf_ (hHeld.2.1)), (cf_ (hHeld.2.2.1)), (cf_ (hHeld.2.2.2.1)), (cf_ (hHeld.2.2.2.2.1)), (cf_ (hHeld.2.2.2.2.2.1)), (cf_ (hHeld.2.2.2.2.2.2.1)), (cf_ (hHeld.2.2.2.2.2.2.2.1)), (cf_ (hHeld.2.2.2.2.2.2.2.2))⟩ (fun hHeld => ?_)
         clear hK K
         refine done_ (done_of HT_.out (by kernel_rfl)) ?_
         have hnb124 := NB455_443.out
         have hnc124 := NB443_455.out
         have hnb125 := NB455_444.out
         have hnc125 := NB444_455.out
         have hnb126 := NB455_445.out
         have hnc126 := NB445_455.out
         have hnb127 := NB455_462.out
         have hnc127 := NB462_455.out
         have hnb128 := NB455_496.out
         have hnc128 := NB496_455.out
         obtain ⟨z129_0, z129_1, z129_2, z129_3, z129_4, y129_0, y129_1, y129_2, y129_3, y129_4⟩ := bc5_ BK455.out
         have hnb130 := NB445_443.out
         have hnc130 := NB443_445.out
         have hnb131 := NB445_444.out
         have hnc131 := NB444_445.out
         have hnb132 := NB445_462.out
         have hnc132 := NB462_445.out
         have hnb133 := NB445_496.out
         have hnc133 := NB496_445.out
         obtain ⟨z134_0, z134_1, z134_2, z134_3, z134_4, y134_0, y134_1, y134_2, y134_3, y134_4⟩ := bc5_ BK445.out
         try go_wp2
         refine bodyPost_ret (results_cell_row rfl _ _ gb445 33 #[.int .i64 t446, .slice Ao17 t447.length co17, .int .i64 t450, .int .i64 t451, .slice Ao122 y507.length co122] (0, 0) _ rfl (bp_ BK445.out) Tryd.underlying33 rfl (by kernel_rfl)) rfl ?_
         exact ⟨_, _, by first | rfl | (simp [errW_none, errW_some] <;> rfl) | (simp [*, errW_none, errW_some] <;> rfl), by (with_reducible repeat (first | apply Kd.R_alloc | apply Kd.R_drewN | apply Kd.R_drew)); exact Kd.R_mono (rf_ gb445 (Kd.R_far (p := ⟨gb455, 4, none⟩) (Kd.R_types (Kd.R_types HO_456001.out BK455.out (by decide)) BK445.out (by decide)) (fun _ hk => hk.1.2) (.slice Ao122 y507.length co122)) (fun _ hk => hk.2)) (fun _ hk => trivial), by (with_reducible repeat (first | apply Kd.S_alloc | apply Kd.S_drewN | apply Kd.S_drew)); exact Kd.S_mono (sf_ gb445 (Kd.S_far (p := ⟨gb455, 4, none⟩) (Kd.S_types (Kd.S_types HO509.out BK455.out (by decide)) BK445.out (by decide)) (fun _ hk => hk.1.2) (.slice Ao122 y507.length co122)) (fun _ hk => hk.2)) (fun _ hk => hk.1.1.1), by exact hs_ HB.out⟩
        rw [if_neg c109] at H
        exact absurd H (by simp)
       rw [if_neg c105] at H
       exact absurd H (by simp)
      rw [if_neg c103] at H
      exact absurd H (by simp)
     rw [if_neg c102] at H
     exact absurd H (by simp)
end Go.Proofs.YtanfohlpkppeiaaDoor.Print
end
