import Derived.Test.YtanfohlpkppeiaaDoorMFnConfsCard1
import Derived.Test.YtanfohlpkppeiaaDoorMFnConfsCard2
section
namespace Go.Proofs.YtanfohlpkppeiaaDoor.Print
open Go.RowKit Go.Proofs.YtanfohlpkppeiaaDoorV.PrintWords Go.Proofs.YtanfohlpkppeiaaDoorV.PrintLast Go.Proofs.YtanfohlpkppeiaaDoorV.PrintMore
attribute [local go_sem] max2_int min2_int max_two min_two max_three min_three max_four min_four
set_option linter.unusedVariables false
set_option linter.unusedSimpArgs false
set_option maxHeartbeats 8000000
set_option maxRecDepth 100000
def spec_l11Draw.l0 : Nat → List ByteArray → Int → List Int → Int → Int → List (S83) → Int → Int → ByteArray → Int → List (S83) → Int → Int → List (S37) → Option (Int × (List (S83)) × Int × Int × (List (S37)) × Int × Int)
 | 0, _, _, _, _, _, _, _, _, _, _, _, _, _, _ => none
 | k + 1, x1, x7, x1000, x1001, x1002, x520000, x520001, x520002, x520003, x533000, x533001, x533002, x533003, x533004 => if x7 > 0 then ((spec_l4Draw.f k x1000 x1001 x1002).bind fun bt536 => ((spec_Together.f k x520000 x520001 x520002 x520003 bt536.1 bt536.2.1 bt536.2.2.1 bt536.2.2.2.1 x1).bind fun t545 => (if t545 = true then ((spec_JoinIn.f k x533000 x533001 x533002 x533003 x533004 bt536.1 bt536.2.1 bt536.2.2.1 bt536.2.2.2.1).bind fun bt546 => (spec_l11Draw.l0 k x1 (wrap64 (x7 - 1)) x1000 bt536.2.2.2.2.1 bt536.2.2.2.2.2 x520000 x520001 x520002 x520003 bt546.1 bt546.2.1 bt546.2.2.1 bt546.2.2.2.1 bt546.2.2.2.2)) else (spec_l11Draw.l0 k x1 (wrap64 (x7 - 1)) x1000 bt536.2.2.2.2.1 bt536.2.2.2.2.2 x520000 x520001 x520002 x520003 x533000 x533001 x533002 x533003 x533004)))) else ((spec_l1Once.f x1000 x1001 x1002 2).bind fun bt556 => (if bt556.1 = true then ((spec_l1Below.f x1000 bt556.2.1 bt556.2.2 9).bind fun bt559 => (some (x533000, x533001, x533002, wrap64 (x533002 + bt559.1), x533004, bt559.2.1, bt559.2.2))) else (some (x533000, x533001, x533002, x533003, x533004, bt556.2.1, bt556.2.2))))
def spec_l11Draw.f (k : Nat) (s0_0 : List Int) (s0_1 : Int) (s0_2 : Int) (l1 : List ByteArray) : Option (Int × (List (S83)) × Int × Int × (List (S37)) × Int × Int) := (spec_l4Draw.f k s0_0 s0_1 s0_2).bind fun bt511 => ((spec_l1Below.f s0_0 bt511.2.2.2.2.1 bt511.2.2.2.2.2 5).bind fun bt520 => ((spec_KeyOf.f k bt511.1 bt511.2.1 bt511.2.2.1 bt511.2.2.2.1 l1).bind fun t523 => ((spec_l1Below.f s0_0 bt520.2.1 bt520.2.2 5).bind fun bt526 => ((spec_l1Below.f s0_0 bt526.2.1 bt526.2.2 8).bind fun bt533 => (spec_l11Draw.l0 k l1 bt533.1 s0_0 bt533.2.1 bt533.2.2 bt511.1 bt511.2.1 bt511.2.2.1 bt511.2.2.2.1 bt520.1 t523 bt526.1 (-1) (([(⟨bt511.1, bt511.2.1, bt511.2.2.1, bt511.2.2.2.1⟩ : S37)] : List (S37))))))))
theorem spec_l11Draw.mono_l : ∀ k, (∀ y0 y1 y2 y3 y4 y5 y6 y7 y8 y9 y10 y11 y12 y13, LeO (spec_l11Draw.l0 k y0 y1 y2 y3 y4 y5 y6 y7 y8 y9 y10 y11 y12 y13) (spec_l11Draw.l0 (k + 1) y0 y1 y2 y3 y4 y5 y6 y7 y8 y9 y10 y11 y12 y13))
 | 0 => fun _ _ _ _ _ _ _ _ _ _ _ _ _ _ r h => by simp [spec_l11Draw.l0] at h
 | k + 1 => by
  have ih0 := spec_l11Draw.mono_l k
  intro y0 y1 y2 y3 y4 y5 y6 y7 y8 y9 y10 y11 y12 y13
  unfold spec_l11Draw.l0
  repeat' first
  | (with_reducible exact ih0 _ _ _ _ _ _ _ _ _ _ _ _ _ _)
  | (with_reducible exact spec_JoinIn.mono _ _ _ _ _ _ _ _ _ _)
  | (with_reducible exact spec_KeyOf.mono _ _ _ _ _ _)
  | (with_reducible exact spec_Together.mono _ _ _ _ _ _ _ _ _ _)
  | (with_reducible exact spec_l4Draw.mono _ _ _ _)
  | (with_reducible exact LeO.refl _)
  | (with_reducible exact LeO.none _)
  | (with_reducible refine LeO.ite ?_ ?_)
  | (with_reducible refine LeO.bind ?_ (fun _ => ?_))
  | exact ih0 _ _ _ _ _ _ _ _ _ _ _ _ _ _
  | exact spec_JoinIn.mono _ _ _ _ _ _ _ _ _ _
  | exact spec_KeyOf.mono _ _ _ _ _ _
  | exact spec_Together.mono _ _ _ _ _ _ _ _ _ _
  | exact spec_l4Draw.mono _ _ _ _
theorem spec_l11Draw.mono : ∀ a0 a1 a2 a3 k, LeO (spec_l11Draw.f k a0 a1 a2 a3) (spec_l11Draw.f (k + 1) a0 a1 a2 a3) := by
 intro a0 a1 a2 a3 k
 have ih0 := spec_l11Draw.mono_l k
 unfold spec_l11Draw.f
 repeat' first | (with_reducible first | exact ih0 _ _ _ _ _ _ _ _ _ _ _ _ _ _ | exact spec_JoinIn.mono _ _ _ _ _ _ _ _ _ _ | exact spec_KeyOf.mono _ _ _ _ _ _ | exact spec_Together.mono _ _ _ _ _ _ _ _ _ _ | exact spec_l4Draw.mono _ _ _ _ | exact LeO.refl _ | exact LeO.none _ | refine LeO.ite ?_ ?_ | refine LeO.bind ?_ (fun _ => ?_)) | exact ih0 _ _ _ _ _ _ _ _ _ _ _ _ _ _ | exact spec_JoinIn.mono _ _ _ _ _ _ _ _ _ _ | exact spec_KeyOf.mono _ _ _ _ _ _ | exact spec_Together.mono _ _ _ _ _ _ _ _ _ _ | exact spec_l4Draw.mono _ _ _ _
def spec_l11Draw.T2 : Bool × List (List Nat × List Nat) := (true, [([], []), ([0], [0]), ([], []), ([], []), ([2, 3, 1], [2, 3]), ([], []), ([5, 4], [5]), ([], []), ([7], [7]), ([1, 4, 6, 8], [1, 4, 6, 8]), ([], []), ([10, 9, 6, 0, 1, 2, 3, 4, 5, 6, 7, 8, 9, 10], [9, 10])])
def spec_l11Draw.B2 : List Nat := [0, 1, 0, 0, 15, 0, 63, 0, 128, 511, 0, 2047]
theorem spec_l11Draw.tab2 : rtab .any (opsOf Tryd.f26 2) = spec_l11Draw.T2 := by kernel_rfl
theorem spec_l11Draw.bits2 : waitsOk spec_l11Draw.T2.2 spec_l11Draw.B2 = true := by kernel_rfl
theorem spec_l11Draw.calls (k : Nat) (g : Nat) (s0_0 : List Int) (s0_1 : Int) (s0_2 : Int) (A1 : Option Addr) (c1 : Nat) (l1 : List ByteArray) (r1 : Int) (r2 : List (S83)) (r3 : Int) (r4 : Int) (r5 : List (S37)) (r6 : Int) (r7 : Int) (w0 w : World) (hI : IsS64 w0 w g s0_0 s0_1 s0_2) (hB : Below w0.heap.size w0 w) (hr1 : Kd.C Kd.string w A1 l1.length l1) (hc1 : l1.length ≤ c1) (hf1 : ∀ ad, A1 = some ad → 0 < l1.length → ad.block ≠ g) (h : spec_l11Draw.f k s0_0 s0_1 s0_2 l1 = some (r1, r2, r3, r4, r5, r6, r7)) :
  Calls Tryd.prog 26 #[.pointer (some ⟨g, 0, none⟩), .slice A1 l1.length c1] w fun e w' => ∃ v1_ v4_ : Value, e = .returned (.agg #[.int .i64 r1, v1_, .int .i64 r3, .int .i64 r4, v4_]) ∧ Kd.R k83 83 w' w.heap.size (fun _ => True) v1_ r2 ∧ Kd.S k37 37 w' w.heap.size (fun k_ => some k_ ≠ (v1_ : Value).ownBlock) v4_ r5 ∧ IsS64 w0 w' g s0_0 r6 r7 ∧ Below w0.heap.size w0 w' ∧ KeepBut w w' g none := by
 have hu33 := Tryd.underlying33
 have hu37 := Tryd.underlying37
 have HR1 := Aside0.mk hr1
 have HC1 := Aside0.mk hc1
 clear hr1 hc1
 have HI0 := Aside0.mk hI
 have HK := Aside0.mk (KeepBut.refl w g none)
 have HL := Aside0.mk hB.size
 clear hI
 have HW0 := Aside0.mk hB.size
 have HB := Aside0.mk hB
 clear hB
 have H : ((spec_l4Draw.f k s0_0 s0_1 s0_2).bind fun bt511 => ((spec_l1Below.f s0_0 bt511.2.2.2.2.1 bt511.2.2.2.2.2 5).bind fun bt520 => ((spec_KeyOf.f k bt511.1 bt511.2.1 bt511.2.2.1 bt511.2.2.2.1 l1).bind fun t523 => ((spec_l1Below.f s0_0 bt520.2.1 bt520.2.2 5).bind fun bt526 => ((spec_l1Below.f s0_0 bt526.2.1 bt526.2.2 8).bind fun bt533 => (spec_l11Draw.l0 k l1 bt533.1 s0_0 bt533.2.1 bt533.2.2 bt511.1 bt511.2.1 bt511.2.2.1 bt511.2.2.2.1 bt520.1 t523 bt526.1 (-1) (([(⟨bt511.1, bt511.2.1, bt511.2.2.1, bt511.2.2.2.1⟩ : S37)] : List (S37))))))))) = some (r1, r2, r3, r4, r5, r6, r7) := h
 clear h
 replace H := Option.bind_eq_some_iff.mp H
 obtain ⟨⟨t511, t514, t515, t516, t517, t518⟩, A30, H⟩ := H
 have A3 := Aside0.mk A30
 clear A30
 replace H := Option.bind_eq_some_iff.mp H
 obtain ⟨⟨t520, t521, t522⟩, A40, H⟩ := H
 have A4 := Aside0.mk A40
 clear A40
 replace H := Option.bind_eq_some_iff.mp H
 obtain ⟨t523, A50, H⟩ := H
 have A5 := Aside0.mk A50
 clear A50
 replace H := Option.bind_eq_some_iff.mp H
 obtain ⟨⟨t526, t527, t528⟩, A60, H⟩ := H
 have A6 := Aside0.mk A60
 clear A60
 obtain ⟨y529, hy529⟩ : ∃ y_ : List (S37), y_ = (([(⟨t511, t514, t515, t516⟩ : S37)] : List (S37))) := ⟨_, rfl⟩
 replace H : ((spec_l1Below.f s0_0 t527 t528 8).bind fun bt533 => (spec_l11Draw.l0 k l1 bt533.1 s0_0 bt533.2.1 bt533.2.2 t511 t514 t515 t516 t520 t523 t526 (-1) y529)) = some (r1, r2, r3, r4, r5, r6, r7) := by first | (rw [hy529]; with_reducible exact H) | (have H2_ := (Option.bind_some _ _).symm.trans H; rw [hy529]; with_reducible exact H2_) | (have H2_ := (Option.bind_some _ _).symm.trans H; with_reducible exact H2_) | with_reducible exact H | (rw [hy529]; exact H) | exact H
 have Ny529 := Aside0.mk hy529
 clear hy529
 replace H := Option.bind_eq_some_iff.mp H
 obtain ⟨⟨t533, t534, t535⟩, A70, H⟩ := H
 have A7 := Aside0.mk A70
 clear A70
 have H' := Aside0.mk H
 clear H
 go_enter Tryd.func26, Tryd.ntmps26
 try go_wp2_with (first | ((with_reducible refine gd_ 4 rfl ?_); refine bv_ 4 #[.int .i64 0, .slice none 0 0, .int .i64 0, .int .i64 0, .slice none 0 0] 33 ?_; intro gb510 hg w8 hbox hb; replace HB := st_ HB hb; have BK510 := Aside0.mk (hbox); have GW510 := Ge_.mk ((by rw [hg]; exact (ks_ HK) : w.heap.size ≤ gb510)); replace HK := kt_ HK hb; have GE510 := gt_ HW0 GW510; have NB0_510 := IsS64.nl_ HI0 hg; replace HI0 := IsS64.bk_ HI0 hb; have NB510_0 := ns_ NB0_510; clear hb hbox hg) | ((with_reducible refine gate_callee (f := 45) rfl ?_); refine gl_ (some 11) Tryd.func45 #[.pointer (some ⟨g, 0, none⟩)] ?_; (with_reducible refine (spec_l4Draw.calls k g s0_0 s0_1 s0_2 t511 t514 t515 t516 t517 t518 w0 _ ?side1 ?side2 A3.out).mono ?_); (case side1 => exact IsS64.pk_ HI0.out); (case side2 => exact hs_ HB.out); rintro e w9 ⟨v512, rfl, ho0, hi, hb, hk⟩; refine ⟨_, rfl, ?_⟩; replace BK510 := kb_ hk BK510; have HO513 := rl_ ho0 HK; replace HK := kh_ HK hk; replace HB := Aside0.mk (hb); replace HI0 := Aside0.mk (hi); (try clear hb); (try clear hk); (try clear hi); (try clear ho0)) | ((with_reducible refine gd_ 5 rfl ?_); refine bv_ 5 #[.slice none 0 0, .int .i64 0, .int .i64 0, .string (⟨#[]⟩ : ByteArray)] 37 ?_; intro gb519 hg w10 hbox hb; replace HO513 := rb_ HO513 hb; replace HB := st_ HB hb; have BK519 := Aside0.mk (hbox); have GW519 := Ge_.mk ((by rw [hg]; exact (ks_ HK) : w.heap.size ≤ gb519)); replace HK := kt_ HK hb; have GE519 := gt_ HW0 GW519; have NB510_519 := nk_ BK510 hg; replace BK510 := bk2_ BK510 hb; have NB519_510 := ns_ NB510_519; have NB0_519 := IsS64.nl_ HI0 hg; replace HI0 := IsS64.bk_ HI0 hb; have NB519_0 := ns_ NB0_519; clear hb hbox hg; obtain ⟨Ao11, co11, eo11⟩ := Kd.R_slice HO513.out; subst eo11; have hnb12 := NB519_510.out; have hnc12 := NB510_519.out; have hnb13 := NB519_0.out; have hnc13 := NB0_519.out; obtain ⟨z14_0, z14_1, z14_2, z14_3, y14_0, y14_1, y14_2, y14_3⟩ := bc4_ BK519.out))
 generalize hw_ : ((((w10.setCell ⟨gb519, 0, none⟩ (.slice Ao11 t511.length co11)).setCell ⟨gb519, 1, none⟩ (.int .i64 t514)).setCell ⟨gb519, 2, none⟩ (.int .i64 t515)).setCell ⟨gb519, 3, none⟩ (.string t516)) = w15
 have n0_ : Aside0 (Kd.R k83 83 w15 w.heap.size (fun _ => True) (.slice Ao11 t511.length co11) t511) := ⟨by rw [← hw_]; exact (Kd.R_mono (rf_ gb519 (Kd.R_types HO513.out BK519.out (by decide)) (fun _ hk => hk.2)) (fun _ hk => trivial))⟩
 have n1_ : Aside0 (w15.heap[gb510]? = some (.cells #[.int .i64 0, .slice none 0 0, .int .i64 0, .int .i64 0, .slice none 0 0] 33 (0, 0))) := ⟨by rw [← hw_]; exact (bq_ BK510.out)⟩
 have n2_ : Aside0 (w15.heap[gb519]? = some (.cells #[.slice Ao11 t511.length co11, .int .i64 t514, .int .i64 t515, .string t516] 37 (0, 0))) := ⟨by rw [← hw_]; exact (bp_ BK519.out)⟩
 have n3_ : Aside0 (IsS64 w0 w15 g s0_0 t517 t518) := ⟨by rw [← hw_]; exact (IsS64.pk_ HI0.out)⟩
 have n4_ : Aside0 (KeepBut w w15 g none) := ⟨by rw [← hw_]; exact (ku_ HK.out)⟩
 have n5_ : Aside0 (Below w0.heap.size w0 w15) := ⟨by rw [← hw_]; exact (hs_ HB.out)⟩
 clear hw_
 (try clear HO513)
 (try clear BK510)
 (try clear BK519)
 (try clear HI0)
 (try clear HK)
 (try clear HB)
 have HO513 := n0_
 have BK510 := n1_
 have BK519 := n2_
 have HI0 := n3_
 have HK := n4_
 have HB := n5_
 clear n0_ n1_ n2_ n3_ n4_ n5_
 replace HO513 := Aside0.mk (Kd.R_drew HO513.out)
 replace BK510 := Aside0.mk (blk_drew BK510.out)
 replace BK519 := Aside0.mk (blk_drew BK519.out)
 replace HI0 := Aside0.mk (IsS64.drew HI0.out)
 replace HK := Aside0.mk (keep_drew HK.out)
 replace HB := Aside0.mk (bd_ HB.out)
 refine start_ (n := 12) (S := fun w' => w'.cell? ⟨gb519, 0, none⟩ = some (.slice Ao11 t511.length co11) ∧ w'.cell? ⟨gb519, 1, none⟩ = some (.int .i64 t514) ∧ w'.cell? ⟨gb519, 2, none⟩ = some (.int .i64 t515) ∧ w'.cell? ⟨gb519, 3, none⟩ = some (.string t516)) (ds := []) (b_ 0 12) (by kernel_rfl) rfl rfl ⟨bx_ BK519.out 0, bx_ BK519.out 1, bx_ BK519.out 2, bx_ BK519.out 3⟩ (fun hHeld => ?_); refine with_tabW spec_l11Draw.tab2 spec_l11Draw.bits2 (fun HT_ HW_ => ?_)
 generalize w15.drew = w16 at HO513 BK510 BK519 HI0 HK HB hHeld ⊢
 refine pw_ 0 12 (b_ 1 11) rfl rfl HT_.out ?_
 refine pw_ 3 15 #[t_,f_,f_,t_,f_,f_,f_,f_,f_,f_,f_,f_] rfl rfl HT_.out ?_
 refine pw_ 5 17 #[t_,f_,f_,t_,f_,t_,f_,f_,f_,f_,f_,f_] rfl rfl HT_.out ?_
 refine take_ (i := 2) (N := some 14) (v := ?_) (a' := ?_) #[t_,f_,t_,t_,f_,t_,f_,f_,f_,f_,f_,f_] rfl rfl (take_ofW HT_.out HW_.out (by kernel_rfl)) (fun _ _ _ h => h) (Or.inl ⟨by rfl, ?_⟩) hHeld ?_ ?_
 rotate_left
 ·
  rintro w' ⟨s0, s1, s2, s3⟩
  go_simp
  with_reducible rfl
 rotate_left
 ·
  simp only [fr_]
  rfl
 refine take_ (i := 7) (N := some 19) (v := ?_) (a' := ?_) #[t_,f_,t_,t_,f_,t_,f_,t_,f_,f_,f_,f_] rfl rfl (take_ofW HT_.out HW_.out (by kernel_rfl)) (fun _ _ _ h => h) (Or.inl ⟨by rfl, ?_⟩) hHeld ?_ ?_
 rotate_left
 ·
  rintro w' ⟨s0, s1, s2, s3⟩
  go_simp
  with_reducible rfl
 rotate_left
 ·
  simp only [fr_]
  rfl
 refine join_ (σ := Value × Value × Nat) 1 (b_ 11 1) (fun s_ => [(13, .int .i64 t520), (16, s_.1), (18, .int .i64 t526), (20, s_.2.1), (6, .pointer (some ⟨s_.2.2, 0, none⟩)), (21, .agg #[.int .i64 t520, s_.1, .int .i64 t526, .int .i64 (-1), s_.2.1])]) (fun s_ w' => (w'.cell? ⟨gb519, 0, none⟩ = some (.slice Ao11 t511.length co11) ∧ w'.cell? ⟨gb519, 1, none⟩ = some (.int .i64 t514) ∧ w'.cell? ⟨gb519, 2, none⟩ = some (.int .i64 t515) ∧ w'.cell? ⟨gb519, 3, none⟩ = some (.string t516)) ∧ (Kd.R k83 83 w' w.heap.size (fun k_ => some k_ ≠ (s_.1 : Value).ownBlock) (.slice Ao11 t511.length co11) t511) ∧ (Kd.R k83 83 w' w.heap.size (fun k_ => some k_ ≠ (.slice Ao11 t511.length co11 : Value).ownBlock) s_.1 t523) ∧ (Kd.S k37 37 w' w.heap.size (fun k_ => some k_ ≠ (s_.1 : Value).ownBlock ∧ k_ ≠ gb519) s_.2.1 y529) ∧ (w'.heap[gb510]? = some (.cells #[.int .i64 0, .slice none 0 0, .int .i64 0, .int .i64 0, .slice none 0 0] 33 (0, 0))) ∧ (w'.heap[gb519]? = some (.cells #[.slice Ao11 t511.length co11, .int .i64 t514, .int .i64 t515, .string t516] 37 (0, 0))) ∧ (w'.heap[s_.2.2]? = some (.cells #[.int .i64 0, .slice none 0 0, .int .i64 0, .int .i64 0, .slice none 0 0] 33 (0, 0))) ∧ (w.heap.size ≤ s_.2.2) ∧ (w0.heap.size ≤ s_.2.2) ∧ (g ≠ s_.2.2) ∧ (s_.2.2 ≠ g) ∧ (gb510 ≠ s_.2.2) ∧ (s_.2.2 ≠ gb510) ∧ (gb519 ≠ s_.2.2) ∧ (s_.2.2 ≠ gb519) ∧ (IsS64 w0 w' g s0_0 t527 t528) ∧ (KeepBut w w' g none) ∧ (Below w0.heap.size w0 w')) ?_ ?_
 rotate_left
 ·
  intro hJ1_4_6_8_10
  refine join_ (σ := Value × Value) 2 (b_ 10 2) (fun s_ => [(13, .int .i64 t520), (16, s_.1), (18, .int .i64 t526), (20, s_.2), (21, .agg #[.int .i64 t520, s_.1, .int .i64 t526, .int .i64 (-1), s_.2])]) (fun s_ w' => (w'.cell? ⟨gb519, 0, none⟩ = some (.slice Ao11 t511.length co11) ∧ w'.cell? ⟨gb519, 1, none⟩ = some (.int .i64 t514) ∧ w'.cell? ⟨gb519, 2, none⟩ = some (.int .i64 t515) ∧ w'.cell? ⟨gb519, 3, none⟩ = some (.string t516)) ∧ (Kd.R k83 83 w' w.heap.size (fun k_ => some k_ ≠ (s_.1 : Value).ownBlock) (.slice Ao11 t511.length co11) t511) ∧ (Kd.R k83 83 w' w.heap.size (fun k_ => some k_ ≠ (.slice Ao11 t511.length co11 : Value).ownBlock) s_.1 t523) ∧ (Kd.S k37 37 w' w.heap.size (fun k_ => some k_ ≠ (s_.1 : Value).ownBlock ∧ k_ ≠ gb519) s_.2 y529) ∧ (w'.heap[gb510]? = some (.cells #[.int .i64 0, .slice none 0 0, .int .i64 0, .int .i64 0, .slice none 0 0] 33 (0, 0))) ∧ (w'.heap[gb519]? = some (.cells #[.slice Ao11 t511.length co11, .int .i64 t514, .int .i64 t515, .string t516] 37 (0, 0))) ∧ (IsS64 w0 w' g s0_0 t527 t528) ∧ (KeepBut w w' g none) ∧ (Below w0.heap.size w0 w')) ?_ ?_
  rotate_left
  ·
   intro hJ1_4_6_8
   refine join_ (σ := Value × Nat) 3 #[t_,t_,t_,t_,t_,t_,t_,t_,f_,f_,t_,f_] (fun s_ => [(13, .int .i64 t520), (16, s_.1), (18, .int .i64 t526), (6, .pointer (some ⟨s_.2, 0, none⟩))]) (fun s_ w' => (w'.cell? ⟨gb519, 0, none⟩ = some (.slice Ao11 t511.length co11) ∧ w'.cell? ⟨gb519, 1, none⟩ = some (.int .i64 t514) ∧ w'.cell? ⟨gb519, 2, none⟩ = some (.int .i64 t515) ∧ w'.cell? ⟨gb519, 3, none⟩ = some (.string t516)) ∧ (Kd.R k83 83 w' w.heap.size (fun k_ => some k_ ≠ (s_.1 : Value).ownBlock) (.slice Ao11 t511.length co11) t511) ∧ (Kd.R k83 83 w' w.heap.size (fun k_ => some k_ ≠ (.slice Ao11 t511.length co11 : Value).ownBlock) s_.1 t523) ∧ (w'.heap[gb510]? = some (.cells #[.int .i64 0, .slice none 0 0, .int .i64 0, .int .i64 0, .slice none 0 0] 33 (0, 0))) ∧ (w'.heap[gb519]? = some (.cells #[.slice Ao11 t511.length co11, .int .i64 t514, .int .i64 t515, .string t516] 37 (0, 0))) ∧ (w'.heap[s_.2]? = some (.cells #[.int .i64 0, .slice none 0 0, .int .i64 0, .int .i64 0, .slice none 0 0] 33 (0, 0))) ∧ (w.heap.size ≤ s_.2) ∧ (w0.heap.size ≤ s_.2) ∧ (g ≠ s_.2) ∧ (s_.2 ≠ g) ∧ (gb510 ≠ s_.2) ∧ (s_.2 ≠ gb510) ∧ (gb519 ≠ s_.2) ∧ (s_.2 ≠ gb519) ∧ (IsS64 w0 w' g s0_0 t527 t528) ∧ (KeepBut w w' g none) ∧ (Below w0.heap.size w0 w')) ?_ ?_
   rotate_left
   ·
    intro hJ1_4_6_10
    refine join_ (σ := Value × Value × Nat) 3 #[t_,t_,t_,t_,t_,t_,f_,t_,t_,f_,t_,f_] (fun s_ => [(13, .int .i64 t520), (16, s_.1), (20, s_.2.1), (6, .pointer (some ⟨s_.2.2, 0, none⟩))]) (fun s_ w' => (w'.cell? ⟨gb519, 0, none⟩ = some (.slice Ao11 t511.length co11) ∧ w'.cell? ⟨gb519, 1, none⟩ = some (.int .i64 t514) ∧ w'.cell? ⟨gb519, 2, none⟩ = some (.int .i64 t515) ∧ w'.cell? ⟨gb519, 3, none⟩ = some (.string t516)) ∧ (Kd.R k83 83 w' w.heap.size (fun k_ => some k_ ≠ (s_.1 : Value).ownBlock) (.slice Ao11 t511.length co11) t511) ∧ (Kd.R k83 83 w' w.heap.size (fun k_ => some k_ ≠ (.slice Ao11 t511.length co11 : Value).ownBlock) s_.1 t523) ∧ (Kd.S k37 37 w' w.heap.size (fun k_ => some k_ ≠ (s_.1 : Value).ownBlock ∧ k_ ≠ gb519) s_.2.1 y529) ∧ (w'.heap[gb510]? = some (.cells #[.int .i64 0, .slice none 0 0, .int .i64 0, .int .i64 0, .slice none 0 0] 33 (0, 0))) ∧ (w'.heap[gb519]? = some (.cells #[.slice Ao11 t511.length co11, .int .i64 t514, .int .i64 t515, .string t516] 37 (0, 0))) ∧ (w'.heap[s_.2.2]? = some (.cells #[.int .i64 0, .slice none 0 0, .int .i64 0, .int .i64 0, .slice none 0 0] 33 (0, 0))) ∧ (w.heap.size ≤ s_.2.2) ∧ (w0.heap.size ≤ s_.2.2) ∧ (g ≠ s_.2.2) ∧ (s_.2.2 ≠ g) ∧ (gb510 ≠ s_.2.2) ∧ (s_.2.2 ≠ gb510) ∧ (gb519 ≠ s_.2.2) ∧ (s_.2.2 ≠ gb519) ∧ (IsS64 w0 w' g s0_0 t521 t522) ∧ (KeepBut w w' g none) ∧ (Below w0.heap.size w0 w')) ?_ ?_
    rotate_left
    ·
     intro hJ1_4_8_10
     refine join_ (σ := Value) 4 (b_ 8 4) (fun s_ => [(13, .int .i64 t520), (16, s_), (18, .int .i64 t526)]) (fun s_ w' => (w'.cell? ⟨gb519, 0, none⟩ = some (.slice Ao11 t511.length co11) ∧ w'.cell? ⟨gb519, 1, none⟩ = some (.int .i64 t514) ∧ w'.cell? ⟨gb519, 2, none⟩ = some (.int .i64 t515) ∧ w'.cell? ⟨gb519, 3, none⟩ = some (.string t516)) ∧ (Kd.R k83 83 w' w.heap.size (fun k_ => some k_ ≠ (s_ : Value).ownBlock) (.slice Ao11 t511.length co11) t511) ∧ (Kd.R k83 83 w' w.heap.size (fun k_ => some k_ ≠ (.slice Ao11 t511.length co11 : Value).ownBlock) s_ t523) ∧ (w'.heap[gb510]? = some (.cells #[.int .i64 0, .slice none 0 0, .int .i64 0, .int .i64 0, .slice none 0 0] 33 (0, 0))) ∧ (w'.heap[gb519]? = some (.cells #[.slice Ao11 t511.length co11, .int .i64 t514, .int .i64 t515, .string t516] 37 (0, 0))) ∧ (IsS64 w0 w' g s0_0 t527 t528) ∧ (KeepBut w w' g none) ∧ (Below w0.heap.size w0 w')) ?_ ?_
     rotate_left
     ·
      intro hJ1_4_6
      refine join_ (σ := Value × Value) 4 #[t_,t_,t_,t_,t_,t_,f_,t_,t_,f_,f_,f_] (fun s_ => [(13, .int .i64 t520), (16, s_.1), (20, s_.2)]) (fun s_ w' => (w'.cell? ⟨gb519, 0, none⟩ = some (.slice Ao11 t511.length co11) ∧ w'.cell? ⟨gb519, 1, none⟩ = some (.int .i64 t514) ∧ w'.cell? ⟨gb519, 2, none⟩ = some (.int .i64 t515) ∧ w'.cell? ⟨gb519, 3, none⟩ = some (.string t516)) ∧ (Kd.R k83 83 w' w.heap.size (fun k_ => some k_ ≠ (s_.1 : Value).ownBlock) (.slice Ao11 t511.length co11) t511) ∧ (Kd.R k83 83 w' w.heap.size (fun k_ => some k_ ≠ (.slice Ao11 t511.length co11 : Value).ownBlock) s_.1 t523) ∧ (Kd.S k37 37 w' w.heap.size (fun k_ => some k_ ≠ (s_.1 : Value).ownBlock ∧ k_ ≠ gb519) s_.2 y529) ∧ (w'.heap[gb510]? = some (.cells #[.int .i64 0, .slice none 0 0, .int .i64 0, .int .i64 0, .slice none 0 0] 33 (0, 0))) ∧ (w'.heap[gb519]? = some (.cells #[.slice Ao11 t511.length co11, .int .i64 t514, .int .i64 t515, .string t516] 37 (0, 0))) ∧ (IsS64 w0 w' g s0_0 t521 t522) ∧ (KeepBut w w' g none) ∧ (Below w0.heap.size w0 w')) ?_ ?_
      rotate_left
      ·
       intro hJ1_4_8
       refine join_ (σ := Value × Nat) 4 #[t_,t_,t_,t_,t_,t_,f_,t_,f_,f_,t_,f_] (fun s_ => [(13, .int .i64 t520), (16, s_.1), (6, .pointer (some ⟨s_.2, 0, none⟩))]) (fun s_ w' => (w'.cell? ⟨gb519, 0, none⟩ = some (.slice Ao11 t511.length co11) ∧ w'.cell? ⟨gb519, 1, none⟩ = some (.int .i64 t514) ∧ w'.cell? ⟨gb519, 2, none⟩ = some (.int .i64 t515) ∧ w'.cell? ⟨gb519, 3, none⟩ = some (.string t516)) ∧ (Kd.R k83 83 w' w.heap.size (fun k_ => some k_ ≠ (s_.1 : Value).ownBlock) (.slice Ao11 t511.length co11) t511) ∧ (Kd.R k83 83 w' w.heap.size (fun k_ => some k_ ≠ (.slice Ao11 t511.length co11 : Value).ownBlock) s_.1 t523) ∧ (w'.heap[gb510]? = some (.cells #[.int .i64 0, .slice none 0 0, .int .i64 0, .int .i64 0, .slice none 0 0] 33 (0, 0))) ∧ (w'.heap[gb519]? = some (.cells #[.slice Ao11 t511.length co11, .int .i64 t514, .int .i64 t515, .string t516] 37 (0, 0))) ∧ (w'.heap[s_.2]? = some (.cells #[.int .i64 0, .slice none 0 0, .int .i64 0, .int .i64 0, .slice none 0 0] 33 (0, 0))) ∧ (w.heap.size ≤ s_.2) ∧ (w0.heap.size ≤ s_.2) ∧ (g ≠ s_.2) ∧ (s_.2 ≠ g) ∧ (gb510 ≠ s_.2) ∧ (s_.2 ≠ gb510) ∧ (gb519 ≠ s_.2) ∧ (s_.2 ≠ gb519) ∧ (IsS64 w0 w' g s0_0 t521 t522) ∧ (KeepBut w w' g none) ∧ (Below w0.heap.size w0 w')) ?_ ?_
       rotate_left
       ·
        intro hJ1_4_10
        refine join_ (σ := Value × Nat) 4 #[t_,t_,t_,t_,f_,t_,f_,t_,t_,f_,t_,f_] (fun s_ => [(13, .int .i64 t520), (20, s_.1), (6, .pointer (some ⟨s_.2, 0, none⟩))]) (fun s_ w' => (w'.cell? ⟨gb519, 0, none⟩ = some (.slice Ao11 t511.length co11) ∧ w'.cell? ⟨gb519, 1, none⟩ = some (.int .i64 t514) ∧ w'.cell? ⟨gb519, 2, none⟩ = some (.int .i64 t515) ∧ w'.cell? ⟨gb519, 3, none⟩ = some (.string t516)) ∧ (Kd.R k83 83 w' w.heap.size (fun _ => True) (.slice Ao11 t511.length co11) t511) ∧ (Kd.S k37 37 w' w.heap.size (fun k_ => k_ ≠ gb519) s_.1 y529) ∧ (w'.heap[gb510]? = some (.cells #[.int .i64 0, .slice none 0 0, .int .i64 0, .int .i64 0, .slice none 0 0] 33 (0, 0))) ∧ (w'.heap[gb519]? = some (.cells #[.slice Ao11 t511.length co11, .int .i64 t514, .int .i64 t515, .string t516] 37 (0, 0))) ∧ (w'.heap[s_.2]? = some (.cells #[.int .i64 0, .slice none 0 0, .int .i64 0, .int .i64 0, .slice none 0 0] 33 (0, 0))) ∧ (w.heap.size ≤ s_.2) ∧ (w0.heap.size ≤ s_.2) ∧ (g ≠ s_.2) ∧ (s_.2 ≠ g) ∧ (gb510 ≠ s_.2) ∧ (s_.2 ≠ gb510) ∧ (gb519 ≠ s_.2) ∧ (s_.2 ≠ gb519) ∧ (IsS64 w0 w' g s0_0 t521 t522) ∧ (KeepBut w w' g none) ∧ (Below w0.heap.size w0 w')) ?_ ?_
        rotate_left
        ·
         intro hJ1_8_10
         refine join_ (σ := Value) 5 #[t_,t_,t_,t_,t_,t_,f_,t_,f_,f_,f_,f_] (fun s_ => [(13, .int .i64 t520), (16, s_)]) (fun s_ w' => (w'.cell? ⟨gb519, 0, none⟩ = some (.slice Ao11 t511.length co11) ∧ w'.cell? ⟨gb519, 1, none⟩ = some (.int .i64 t514) ∧ w'.cell? ⟨gb519, 2, none⟩ = some (.int .i64 t515) ∧ w'.cell? ⟨gb519, 3, none⟩ = some (.string t516)) ∧ (Kd.R k83 83 w' w.heap.size (fun k_ => some k_ ≠ (s_ : Value).ownBlock) (.slice Ao11 t511.length co11) t511) ∧ (Kd.R k83 83 w' w.heap.size (fun k_ => some k_ ≠ (.slice Ao11 t511.length co11 : Value).ownBlock) s_ t523) ∧ (w'.heap[gb510]? = some (.cells #[.int .i64 0, .slice none 0 0, .int .i64 0, .int .i64 0, .slice none 0 0] 33 (0, 0))) ∧ (w'.heap[gb519]? = some (.cells #[.slice Ao11 t511.length co11, .int .i64 t514, .int .i64 t515, .string t516] 37 (0, 0))) ∧ (IsS64 w0 w' g s0_0 t521 t522) ∧ (KeepBut w w' g none) ∧ (Below w0.heap.size w0 w')) ?_ ?_
         rotate_left
         ·
          intro hJ1_4
          refine join_ (σ := Value) 5 #[t_,t_,t_,t_,f_,t_,f_,t_,t_,f_,f_,f_] (fun s_ => [(13, .int .i64 t520), (20, s_)]) (fun s_ w' => (w'.cell? ⟨gb519, 0, none⟩ = some (.slice Ao11 t511.length co11) ∧ w'.cell? ⟨gb519, 1, none⟩ = some (.int .i64 t514) ∧ w'.cell? ⟨gb519, 2, none⟩ = some (.int .i64 t515) ∧ w'.cell? ⟨gb519, 3, none⟩ = some (.string t516)) ∧ (Kd.R k83 83 w' w.heap.size (fun _ => True) (.slice Ao11 t511.length co11) t511) ∧ (Kd.S k37 37 w' w.heap.size (fun k_ => k_ ≠ gb519) s_ y529) ∧ (w'.heap[gb510]? = some (.cells #[.int .i64 0, .slice none 0 0, .int .i64 0, .int .i64 0, .slice none 0 0] 33 (0, 0))) ∧ (w'.heap[gb519]? = some (.cells #[.slice Ao11 t511.length co11, .int .i64 t514, .int .i64 t515, .string t516] 37 (0, 0))) ∧ (IsS64 w0 w' g s0_0 t521 t522) ∧ (KeepBut w w' g none) ∧ (Below w0.heap.size w0 w')) ?_ ?_
          rotate_left
          ·
           intro hJ1_8
           refine join_ (σ := Nat) 5 #[t_,t_,t_,t_,f_,t_,f_,t_,f_,f_,t_,f_] (fun s_ => [(13, .int .i64 t520), (6, .pointer (some ⟨s_, 0, none⟩))]) (fun s_ w' => (w'.cell? ⟨gb519, 0, none⟩ = some (.slice Ao11 t511.length co11) ∧ w'.cell? ⟨gb519, 1, none⟩ = some (.int .i64 t514) ∧ w'.cell? ⟨gb519, 2, none⟩ = some (.int .i64 t515) ∧ w'.cell? ⟨gb519, 3, none⟩ = some (.string t516)) ∧ (Kd.R k83 83 w' w.heap.size (fun _ => True) (.slice Ao11 t511.length co11) t511) ∧ (w'.heap[gb510]? = some (.cells #[.int .i64 0, .slice none 0 0, .int .i64 0, .int .i64 0, .slice none 0 0] 33 (0, 0))) ∧ (w'.heap[gb519]? = some (.cells #[.slice Ao11 t511.length co11, .int .i64 t514, .int .i64 t515, .string t516] 37 (0, 0))) ∧ (w'.heap[s_]? = some (.cells #[.int .i64 0, .slice none 0 0, .int .i64 0, .int .i64 0, .slice none 0 0] 33 (0, 0))) ∧ (w.heap.size ≤ s_) ∧ (w0.heap.size ≤ s_) ∧ (g ≠ s_) ∧ (s_ ≠ g) ∧ (gb510 ≠ s_) ∧ (s_ ≠ gb510) ∧ (gb519 ≠ s_) ∧ (s_ ≠ gb519) ∧ (IsS64 w0 w' g s0_0 t521 t522) ∧ (KeepBut w w' g none) ∧ (Below w0.heap.size w0 w')) ?_ ?_
           rotate_left
           ·
            intro hJ1_10
            refine join_ (σ := Value × Nat) 5 #[t_,f_,t_,t_,f_,t_,f_,t_,t_,f_,t_,f_] (fun s_ => [(20, s_.1), (6, .pointer (some ⟨s_.2, 0, none⟩))]) (fun s_ w' => (w'.cell? ⟨gb519, 0, none⟩ = some (.slice Ao11 t511.length co11) ∧ w'.cell? ⟨gb519, 1, none⟩ = some (.int .i64 t514) ∧ w'.cell? ⟨gb519, 2, none⟩ = some (.int .i64 t515) ∧ w'.cell? ⟨gb519, 3, none⟩ = some (.string t516)) ∧ (Kd.R k83 83 w' w.heap.size (fun _ => True) (.slice Ao11 t511.length co11) t511) ∧ (Kd.S k37 37 w' w.heap.size (fun k_ => k_ ≠ gb519) s_.1 y529) ∧ (w'.heap[gb510]? = some (.cells #[.int .i64 0, .slice none 0 0, .int .i64 0, .int .i64 0, .slice none 0 0] 33 (0, 0))) ∧ (w'.heap[gb519]? = some (.cells #[.slice Ao11 t511.length co11, .int .i64 t514, .int .i64 t515, .string t516] 37 (0, 0))) ∧ (w'.heap[s_.2]? = some (.cells #[.int .i64 0, .slice none 0 0, .int .i64 0, .int .i64 0, .slice none 0 0] 33 (0, 0))) ∧ (w.heap.size ≤ s_.2) ∧ (w0.heap.size ≤ s_.2) ∧ (g ≠ s_.2) ∧ (s_.2 ≠ g) ∧ (gb510 ≠ s_.2) ∧ (s_.2 ≠ gb510) ∧ (gb519 ≠ s_.2) ∧ (s_.2 ≠ gb519) ∧ (IsS64 w0 w' g s0_0 t517 t518) ∧ (KeepBut w w' g none) ∧ (Below w0.heap.size w0 w')) ?_ ?_
            rotate_left
            ·
             intro hJ8_10
             refine join_ (σ := Unit) 6 #[t_,t_,t_,t_,f_,t_,f_,t_,f_,f_,f_,f_] (fun s_ => [(13, .int .i64 t520)]) (fun s_ w' => (w'.cell? ⟨gb519, 0, none⟩ = some (.slice Ao11 t511.length co11) ∧ w'.cell? ⟨gb519, 1, none⟩ = some (.int .i64 t514) ∧ w'.cell? ⟨gb519, 2, none⟩ = some (.int .i64 t515) ∧ w'.cell? ⟨gb519, 3, none⟩ = some (.string t516)) ∧ (Kd.R k83 83 w' w.heap.size (fun _ => True) (.slice Ao11 t511.length co11) t511) ∧ (w'.heap[gb510]? = some (.cells #[.int .i64 0, .slice none 0 0, .int .i64 0, .int .i64 0, .slice none 0 0] 33 (0, 0))) ∧ (w'.heap[gb519]? = some (.cells #[.slice Ao11 t511.length co11, .int .i64 t514, .int .i64 t515, .string t516] 37 (0, 0))) ∧ (IsS64 w0 w' g s0_0 t521 t522) ∧ (KeepBut w w' g none) ∧ (Below w0.heap.size w0 w')) ?_ ?_
             rotate_left
             ·
              intro hJ1
              refine join_ (σ := Value) 6 #[t_,f_,t_,t_,f_,t_,f_,t_,t_,f_,f_,f_] (fun s_ => [(20, s_)]) (fun s_ w' => (w'.cell? ⟨gb519, 0, none⟩ = some (.slice Ao11 t511.length co11) ∧ w'.cell? ⟨gb519, 1, none⟩ = some (.int .i64 t514) ∧ w'.cell? ⟨gb519, 2, none⟩ = some (.int .i64 t515) ∧ w'.cell? ⟨gb519, 3, none⟩ = some (.string t516)) ∧ (Kd.R k83 83 w' w.heap.size (fun _ => True) (.slice Ao11 t511.length co11) t511) ∧ (Kd.S k37 37 w' w.heap.size (fun k_ => k_ ≠ gb519) s_ y529) ∧ (w'.heap[gb510]? = some (.cells #[.int .i64 0, .slice none 0 0, .int .i64 0, .int .i64 0, .slice none 0 0] 33 (0, 0))) ∧ (w'.heap[gb519]? = some (.cells #[.slice Ao11 t511.length co11, .int .i64 t514, .int .i64 t515, .string t516] 37 (0, 0))) ∧ (IsS64 w0 w' g s0_0 t517 t518) ∧ (KeepBut w w' g none) ∧ (Below w0.heap.size w0 w')) ?_ ?_
              rotate_left
              ·
               intro hJ8
               refine join_ (σ := Nat) 6 #[t_,f_,t_,t_,f_,t_,f_,t_,f_,f_,t_,f_] (fun s_ => [(6, .pointer (some ⟨s_, 0, none⟩))]) (fun s_ w' => (w'.cell? ⟨gb519, 0, none⟩ = some (.slice Ao11 t511.length co11) ∧ w'.cell? ⟨gb519, 1, none⟩ = some (.int .i64 t514) ∧ w'.cell? ⟨gb519, 2, none⟩ = some (.int .i64 t515) ∧ w'.cell? ⟨gb519, 3, none⟩ = some (.string t516)) ∧ (Kd.R k83 83 w' w.heap.size (fun _ => True) (.slice Ao11 t511.length co11) t511) ∧ (w'.heap[gb510]? = some (.cells #[.int .i64 0, .slice none 0 0, .int .i64 0, .int .i64 0, .slice none 0 0] 33 (0, 0))) ∧ (w'.heap[gb519]? = some (.cells #[.slice Ao11 t511.length co11, .int .i64 t514, .int .i64 t515, .string t516] 37 (0, 0))) ∧ (w'.heap[s_]? = some (.cells #[.int .i64 0, .slice none 0 0, .int .i64 0, .int .i64 0, .slice none 0 0] 33 (0, 0))) ∧ (w.heap.size ≤ s_) ∧ (w0.heap.size ≤ s_) ∧ (g ≠ s_) ∧ (s_ ≠ g) ∧ (gb510 ≠ s_) ∧ (s_ ≠ gb510) ∧ (gb519 ≠ s_) ∧ (s_ ≠ gb519) ∧ (IsS64 w0 w' g s0_0 t517 t518) ∧ (KeepBut w w' g none) ∧ (Below w0.heap.size w0 w')) ?_ ?_
               rotate_left
               ·
                intro hJ10
                refine three_ (i := 1) (j := 8) (k := 10) (Ni := some 13) (Nj := some 20) (Nk := some 6) #[t_,t_,t_,t_,f_,t_,f_,t_,f_,f_,f_,f_] #[t_,f_,t_,t_,f_,t_,f_,t_,t_,f_,f_,f_] #[t_,f_,t_,t_,f_,t_,f_,t_,f_,f_,t_,f_] rfl rfl rfl rfl rfl rfl (three_of HT_.out (by kernel_rfl)) (by decide) (by decide) (by decide) (fun K hK => ?_) (fun K hK => ?_) (fun K hK => ?_)
                ·
                 skip
                 refine gs_ Tryd.func43 #[.pointer (some ⟨g, 0, none⟩), .int .i64 5] ?_
                 with_reducible refine (spec_l1Below.calls g s0_0 t517 t518 5 t520 t521 t522 w0 _ ?side1 ?side2 A4.out).mono ?_
                 (case side1 => exact IsS64.pk_ HI0.out)
                 (case side2 => exact hs_ HB.out)
                 rintro e w17 ⟨rfl, hi, hb, hk⟩
                 refine ⟨_, rfl, ?_⟩
                 replace BK510 := kb_ hk BK510
                 replace HO513 := IsS64.rk_ HI0 HO513 hk
                 replace BK519 := kb_ hk BK519
                 replace HK := kh_ HK hk
                 replace HB := Aside0.mk (hb)
                 replace HI0 := Aside0.mk (hi)
                 (try clear hb)
                 (try clear hk)
                 (try clear hi)
                 refine hK.out _ _ (e4_ BK519.out) (fun hHeld => ?_)
                 clear hK K
                 refine norm_ (a' := ?_) ?_ ?_
                 rotate_left
                 ·
                  show Act.put _ (some 13) _ = _
                  simp only [fr_]
                  rfl
                 exact norm_ (by first | (simp only [putAll, fr_]; done) | (simp only [putAll, fr_]; rfl)) (hJ1 () _ ⟨hHeld, (rp_ HO513.out), (pb_ BK510.out), (pb_ BK519.out), (IsS64.pk_ HI0.out), (ku_ HK.out), (hs_ HB.out)⟩)
                ·
                 skip
                 refine Kd.S_lit1_step k37 w.heap.size 37 ?hg (N := 20) ?hd (x := (⟨t511, t514, t515, t516⟩ : S37)) (cs := [.slice Ao11 t511.length co11, .int .i64 t514, .int .i64 t515, .string t516]) (ok := (fun k_ => k_ ≠ gb519)) (okp := (fun k_ => some k_ = (.slice Ao11 t511.length co11 : Value).ownBlock)) ?hr ?hp (fun k_ hk_ => ((Kd.R_mono (ok' := (fun k_ => k_ ≠ gb519)) (Kd.R_types (HO513.out) BK519.out (by decide)) (fun k_ hk => hk.2))).1 k_ hk_.symm) ?hf ?aS ?_; (case hd => rfl); (case hg => rfl); (case hr => first | (go_simp; done) | (go_simp; rfl)); (case hp => exact (k37_mkM _ _ _ (⟨t511, t514, t515, t516⟩ : S37) (Kd.R_mono (Kd.R_tight rfl (Kd.R_mono (ok' := (fun k_ => k_ ≠ gb519)) (Kd.R_types (HO513.out) BK519.out (by decide)) (fun k_ hk => hk.2))) (fun _ h_ => h_))))
                 (case hf => exact (show ∀ k_, w16.heap.size ≤ k_ → ((fun k_ => k_ ≠ gb519)) k_ from fun k_ hk => Kd.freshB (g := gb519) (o := .cells #[.slice Ao11 t511.length co11, .int .i64 t514, .int .i64 t515, .string t516] 37 (0, 0)) (pb_ BK519.out) k_ hk) _ (Nat.le_refl _))
                 (case aS => exact (ks_ HK))
                 intro v530 w17 ho18 hb hnew_
                 rw [← Ny529.out] at ho18
                 replace HO513 := rb_ HO513 hb
                 have HO531 := Aside0.mk (ho18)
                 replace HI0 := IsS64.bk_ HI0 hb
                 replace BK510 := bk2_ BK510 hb
                 replace BK519 := bk2_ BK519 hb
                 replace HK := kt_ HK hb
                 replace HB := st_ HB hb
                 clear hb hnew_ ho18
                 refine hK.out _ _ (e4_ BK519.out) (fun hHeld => ?_)
                 clear hK K
                 refine norm_ (a' := ?_) ?_ ?_
                 rotate_left
                 ·
                  show Act.put _ (some 20) _ = _
                  simp only [fr_]
                  rfl
                 exact norm_ (by first | (simp only [putAll, fr_]; done) | (simp only [putAll, fr_]; rfl)) (hJ8 (v530) _ ⟨hHeld, (rp_ HO513.out), (sp_ HO531.out), (pb_ BK510.out), (pb_ BK519.out), (IsS64.pk_ HI0.out), (ku_ HK.out), (hs_ HB.out)⟩)
                skip
                refine bs1_ 6 #[.int .i64 0, .slice none 0 0, .int .i64 0, .int .i64 0, .slice none 0 0] 33 ?_
                intro gb532 hg w17 hbox hb
                replace HO513 := rb_ HO513 hb
                replace HB := st_ HB hb
                have BK532 := Aside0.mk (hbox)
                have GW532 := Ge_.mk ((by rw [hg]; exact (ks_ HK) : w.heap.size ≤ gb532))
                have GE532 := Ge_.mk ((Nat.le_trans HW0.out (by rw [hg]; exact (ks_ HK) : w.heap.size ≤ gb532) : w0.heap.size ≤ gb532))
                replace HK := kt_ HK hb
                have NB510_532 := nk_ BK510 hg
                have NB532_510 := Ne_.mk (ng_ BK510.out hg)
                replace BK510 := bk2_ BK510 hb
                have NB519_532 := nk_ BK519 hg
                have NB532_519 := Ne_.mk (ng_ BK519.out hg)
                replace BK519 := bk2_ BK519 hb
                have NB0_532 := IsS64.nl_ HI0 hg
                have NB532_0 := IsS64.ng_ HI0 hg
                replace HI0 := IsS64.bk_ HI0 hb
                clear hb hbox hg
                refine hK.out _ _ (e4_ BK519.out) (fun hHeld => ?_)
                clear hK K
                refine norm_ (a' := ?_) ?_ ?_
                rotate_left
                ·
                 show Act.put _ (some 6) _ = _
                 simp only [fr_]
                 rfl
                exact norm_ (by first | (simp only [putAll, fr_]; done) | (simp only [putAll, fr_]; rfl)) (hJ10 (gb532) _ ⟨hHeld, (rp_ HO513.out), (pb_ BK510.out), (pb_ BK519.out), (pb_ BK532.out), GW532.out, GE532.out, NB0_532.out, NB532_0.out, NB510_532.out, NB532_510.out, NB519_532.out, NB532_519.out, (IsS64.pk_ HI0.out), (ku_ HK.out), (hs_ HB.out)⟩)
               skip
               rintro gb532 w18 ⟨hS_, h0_, h1_, h2_, h3_, h4_, h5_, h6_, h7_, h8_, h9_, h10_, h11_, h12_, h13_, h14_⟩
               replace HO513 : Aside0 (Kd.R k83 83 w18 w.heap.size (fun _ => True) (.slice Ao11 t511.length co11) t511) := ⟨h0_⟩
               replace BK510 : Aside0 (w18.heap[gb510]? = some (.cells #[.int .i64 0, .slice none 0 0, .int .i64 0, .int .i64 0, .slice none 0 0] 33 (0, 0))) := ⟨h1_⟩
               replace BK519 : Aside0 (w18.heap[gb519]? = some (.cells #[.slice Ao11 t511.length co11, .int .i64 t514, .int .i64 t515, .string t516] 37 (0, 0))) := ⟨h2_⟩
               have BK532 : Aside0 (w18.heap[gb532]? = some (.cells #[.int .i64 0, .slice none 0 0, .int .i64 0, .int .i64 0, .slice none 0 0] 33 (0, 0))) := ⟨h3_⟩
               have GW532 := Ge_.mk h4_
               have GE532 := Ge_.mk h5_
               have NB0_532 := Ne_.mk h6_
               have NB532_0 := Ne_.mk h7_
               have NB510_532 := Ne_.mk h8_
               have NB532_510 := Ne_.mk h9_
               have NB519_532 := Ne_.mk h10_
               have NB532_519 := Ne_.mk h11_
               replace HI0 : Aside0 (IsS64 w0 w18 g s0_0 t517 t518) := ⟨h12_⟩
               replace HK : Aside0 (KeepBut w w18 g none) := ⟨h13_⟩
               replace HB : Aside0 (Below w0.heap.size w0 w18) := ⟨h14_⟩
               clear h0_ h1_ h2_ h3_ h4_ h5_ h6_ h7_ h8_ h9_ h10_ h11_ h12_ h13_ h14_
               have hHeld : w18.cell? ⟨gb519, 0, none⟩ = some (.slice Ao11 t511.length co11) ∧ w18.cell? ⟨gb519, 1, none⟩ = some (.int .i64 t514) ∧ w18.cell? ⟨gb519, 2, none⟩ = some (.int .i64 t515) ∧ w18.cell? ⟨gb519, 3, none⟩ = some (.string t516) := hS_
               refine norm_ (a' := ?_) ?_ ?_
               rotate_left
               ·
                simp only [putAll, fr_]
                rfl
               refine two_ (i := 1) (j := 8) (Ni := some 13) (Nj := some 20) #[t_,t_,t_,t_,f_,t_,f_,t_,f_,f_,t_,f_] #[t_,f_,t_,t_,f_,t_,f_,t_,t_,f_,t_,f_] rfl rfl rfl rfl (two_of HT_.out (by kernel_rfl)) (by decide) (by decide) (fun K hK => ?_) (fun K hK => ?_)
               ·
                skip
                refine gs_ Tryd.func43 #[.pointer (some ⟨g, 0, none⟩), .int .i64 5] ?_
                with_reducible refine (spec_l1Below.calls g s0_0 t517 t518 5 t520 t521 t522 w0 _ ?side1 ?side2 A4.out).mono ?_
                (case side1 => exact IsS64.pk_ HI0.out)
                (case side2 => exact hs_ HB.out)
                rintro e w19 ⟨rfl, hi, hb, hk⟩
                refine ⟨_, rfl, ?_⟩
                replace BK510 := kb_ hk BK510
                replace HO513 := IsS64.rk_ HI0 HO513 hk
                replace BK519 := kb_ hk BK519
                replace BK532 := kb_ hk BK532
                replace HK := kh_ HK hk
                replace HB := Aside0.mk (hb)
                replace HI0 := Aside0.mk (hi)
                (try clear hb)
                (try clear hk)
                (try clear hi)
                refine hK.out _ _ (e4_ BK519.out) (fun hHeld => ?_)
                clear hK K
                refine norm_ (a' := ?_) ?_ ?_
                rotate_left
                ·
                 show Act.put _ (some 13) _ = _
                 simp only [fr_]
                 rfl
                exact norm_ (by first | (simp only [putAll, fr_]; done) | (simp only [putAll, fr_]; rfl)) (hJ1_10 (gb532) _ ⟨hHeld, (rp_ HO513.out), (pb_ BK510.out), (pb_ BK519.out), (pb_ BK532.out), GW532.out, GE532.out, NB0_532.out, NB532_0.out, NB510_532.out, NB532_510.out, NB519_532.out, NB532_519.out, (IsS64.pk_ HI0.out), (ku_ HK.out), (hs_ HB.out)⟩)
               skip
               refine Kd.S_lit1_step k37 w.heap.size 37 ?hg (N := 20) ?hd (x := (⟨t511, t514, t515, t516⟩ : S37)) (cs := [.slice Ao11 t511.length co11, .int .i64 t514, .int .i64 t515, .string t516]) (ok := (fun k_ => k_ ≠ gb519)) (okp := (fun k_ => some k_ = (.slice Ao11 t511.length co11 : Value).ownBlock)) ?hr ?hp (fun k_ hk_ => ((Kd.R_mono (ok' := (fun k_ => k_ ≠ gb519)) (Kd.R_types (HO513.out) BK519.out (by decide)) (fun k_ hk => hk.2))).1 k_ hk_.symm) ?hf ?aS ?_; (case hd => rfl); (case hg => rfl); (case hr => first | (go_simp; done) | (go_simp; rfl)); (case hp => exact (k37_mkM _ _ _ (⟨t511, t514, t515, t516⟩ : S37) (Kd.R_mono (Kd.R_tight rfl (Kd.R_mono (ok' := (fun k_ => k_ ≠ gb519)) (Kd.R_types (HO513.out) BK519.out (by decide)) (fun k_ hk => hk.2))) (fun _ h_ => h_))))
               (case hf => exact (show ∀ k_, w18.heap.size ≤ k_ → ((fun k_ => k_ ≠ gb519)) k_ from fun k_ hk => Kd.freshB (g := gb519) (o := .cells #[.slice Ao11 t511.length co11, .int .i64 t514, .int .i64 t515, .string t516] 37 (0, 0)) (pb_ BK519.out) k_ hk) _ (Nat.le_refl _))
               (case aS => exact (ks_ HK))
               intro v530 w19 ho20 hb hnew_
               rw [← Ny529.out] at ho20
               replace HO513 := rb_ HO513 hb
               have HO531 := Aside0.mk (ho20)
               replace HI0 := IsS64.bk_ HI0 hb
               replace BK510 := bk2_ BK510 hb
               replace BK519 := bk2_ BK519 hb
               replace BK532 := bk2_ BK532 hb
               replace HK := kt_ HK hb
               replace HB := st_ HB hb
               clear hb hnew_ ho20
               refine hK.out _ _ (e4_ BK519.out) (fun hHeld => ?_)
               clear hK K
               refine norm_ (a' := ?_) ?_ ?_
               rotate_left
               ·
                show Act.put _ (some 20) _ = _
                simp only [fr_]
                rfl
               exact norm_ (by first | (simp only [putAll, fr_]; done) | (simp only [putAll, fr_]; rfl)) (hJ8_10 (v530, gb532) _ ⟨hHeld, (rp_ HO513.out), (sp_ HO531.out), (pb_ BK510.out), (pb_ BK519.out), (pb_ BK532.out), GW532.out, GE532.out, NB0_532.out, NB532_0.out, NB510_532.out, NB532_510.out, NB519_532.out, NB532_519.out, (IsS64.pk_ HI0.out), (ku_ HK.out), (hs_ HB.out)⟩)
              skip
              rintro v530 w19 ⟨hS_, h0_, h1_, h2_, h3_, h4_, h5_, h6_⟩
              replace HO513 : Aside0 (Kd.R k83 83 w19 w.heap.size (fun _ => True) (.slice Ao11 t511.length co11) t511) := ⟨h0_⟩
              have HO531 : Aside0 (Kd.S k37 37 w19 w.heap.size (fun k_ => k_ ≠ gb519) v530 y529) := ⟨h1_⟩
              replace BK510 : Aside0 (w19.heap[gb510]? = some (.cells #[.int .i64 0, .slice none 0 0, .int .i64 0, .int .i64 0, .slice none 0 0] 33 (0, 0))) := ⟨h2_⟩
              replace BK519 : Aside0 (w19.heap[gb519]? = some (.cells #[.slice Ao11 t511.length co11, .int .i64 t514, .int .i64 t515, .string t516] 37 (0, 0))) := ⟨h3_⟩
              replace HI0 : Aside0 (IsS64 w0 w19 g s0_0 t517 t518) := ⟨h4_⟩
              replace HK : Aside0 (KeepBut w w19 g none) := ⟨h5_⟩
              replace HB : Aside0 (Below w0.heap.size w0 w19) := ⟨h6_⟩
              clear h0_ h1_ h2_ h3_ h4_ h5_ h6_
              have hHeld : w19.cell? ⟨gb519, 0, none⟩ = some (.slice Ao11 t511.length co11) ∧ w19.cell? ⟨gb519, 1, none⟩ = some (.int .i64 t514) ∧ w19.cell? ⟨gb519, 2, none⟩ = some (.int .i64 t515) ∧ w19.cell? ⟨gb519, 3, none⟩ = some (.string t516) := hS_
              refine norm_ (a' := ?_) ?_ ?_
              rotate_left
              ·
               simp only [putAll, fr_]
               rfl
              refine two_ (i := 1) (j := 10) (Ni := some 13) (Nj := some 6) #[t_,t_,t_,t_,f_,t_,f_,t_,t_,f_,f_,f_] #[t_,f_,t_,t_,f_,t_,f_,t_,t_,f_,t_,f_] rfl rfl rfl rfl (two_of HT_.out (by kernel_rfl)) (by decide) (by decide) (fun K hK => ?_) (fun K hK => ?_)
              ·
               skip
               refine gs_ Tryd.func43 #[.pointer (some ⟨g, 0, none⟩), .int .i64 5] ?_
               with_reducible refine (spec_l1Below.calls g s0_0 t517 t518 5 t520 t521 t522 w0 _ ?side1 ?side2 A4.out).mono ?_
               (case side1 => exact IsS64.pk_ HI0.out)
               (case side2 => exact hs_ HB.out)
               rintro e w20 ⟨rfl, hi, hb, hk⟩
               refine ⟨_, rfl, ?_⟩
               replace BK510 := kb_ hk BK510
               replace HO513 := IsS64.rk_ HI0 HO513 hk
               replace BK519 := kb_ hk BK519
               replace HO531 := IsS64.sk_ HI0 HO531 hk
               replace HK := kh_ HK hk
               replace HB := Aside0.mk (hb)
               replace HI0 := Aside0.mk (hi)
               (try clear hb)
               (try clear hk)
               (try clear hi)
               refine hK.out _ _ (e4_ BK519.out) (fun hHeld => ?_)
               clear hK K
               refine norm_ (a' := ?_) ?_ ?_
               rotate_left
               ·
                show Act.put _ (some 13) _ = _
                simp only [fr_]
                rfl
               exact norm_ (by first | (simp only [putAll, fr_]; done) | (simp only [putAll, fr_]; rfl)) (hJ1_8 (v530) _ ⟨hHeld, (rp_ HO513.out), (sp_ HO531.out), (pb_ BK510.out), (pb_ BK519.out), (IsS64.pk_ HI0.out), (ku_ HK.out), (hs_ HB.out)⟩)
              skip
              refine bs1_ 6 #[.int .i64 0, .slice none 0 0, .int .i64 0, .int .i64 0, .slice none 0 0] 33 ?_
              intro gb532 hg w20 hbox hb
              replace HO513 := rb_ HO513 hb
              replace HO531 := sb_ HO531 hb
              replace HB := st_ HB hb
              have BK532 := Aside0.mk (hbox)
              have GW532 := Ge_.mk ((by rw [hg]; exact (ks_ HK) : w.heap.size ≤ gb532))
              have GE532 := Ge_.mk ((Nat.le_trans HW0.out (by rw [hg]; exact (ks_ HK) : w.heap.size ≤ gb532) : w0.heap.size ≤ gb532))
              replace HK := kt_ HK hb
              have NB510_532 := nk_ BK510 hg
              have NB532_510 := Ne_.mk (ng_ BK510.out hg)
              replace BK510 := bk2_ BK510 hb
              have NB519_532 := nk_ BK519 hg
              have NB532_519 := Ne_.mk (ng_ BK519.out hg)
              replace BK519 := bk2_ BK519 hb
              have NB0_532 := IsS64.nl_ HI0 hg
              have NB532_0 := IsS64.ng_ HI0 hg
              replace HI0 := IsS64.bk_ HI0 hb
              clear hb hbox hg
              refine hK.out _ _ (e4_ BK519.out) (fun hHeld => ?_)
              clear hK K
              refine norm_ (a' := ?_) ?_ ?_
              rotate_left
              ·
               show Act.put _ (some 6) _ = _
               simp only [fr_]
               rfl
              exact norm_ (by first | (simp only [putAll, fr_]; done) | (simp only [putAll, fr_]; rfl)) (hJ8_10 (v530, gb532) _ ⟨hHeld, (rp_ HO513.out), (sp_ HO531.out), (pb_ BK510.out), (pb_ BK519.out), (pb_ BK532.out), GW532.out, GE532.out, NB0_532.out, NB532_0.out, NB510_532.out, NB532_510.out, NB519_532.out, NB532_519.out, (IsS64.pk_ HI0.out), (ku_ HK.out), (hs_ HB.out)⟩)
             skip
             rintro _ w18 ⟨hS_, h0_, h1_, h2_, h3_, h4_, h5_⟩
             replace HO513 : Aside0 (Kd.R k83 83 w18 w.heap.size (fun _ => True) (.slice Ao11 t511.length co11) t511) := ⟨h0_⟩
             replace BK510 : Aside0 (w18.heap[gb510]? = some (.cells #[.int .i64 0, .slice none 0 0, .int .i64 0, .int .i64 0, .slice none 0 0] 33 (0, 0))) := ⟨h1_⟩
             replace BK519 : Aside0 (w18.heap[gb519]? = some (.cells #[.slice Ao11 t511.length co11, .int .i64 t514, .int .i64 t515, .string t516] 37 (0, 0))) := ⟨h2_⟩
             replace HI0 : Aside0 (IsS64 w0 w18 g s0_0 t521 t522) := ⟨h3_⟩
             replace HK : Aside0 (KeepBut w w18 g none) := ⟨h4_⟩
             replace HB : Aside0 (Below w0.heap.size w0 w18) := ⟨h5_⟩
             clear h0_ h1_ h2_ h3_ h4_ h5_
             have hHeld : w18.cell? ⟨gb519, 0, none⟩ = some (.slice Ao11 t511.length co11) ∧ w18.cell? ⟨gb519, 1, none⟩ = some (.int .i64 t514) ∧ w18.cell? ⟨gb519, 2, none⟩ = some (.int .i64 t515) ∧ w18.cell? ⟨gb519, 3, none⟩ = some (.string t516) := hS_
             refine norm_ (a' := ?_) ?_ ?_
             rotate_left
             ·
              simp only [putAll, fr_]
              rfl
             refine three_ (i := 4) (j := 8) (k := 10) (Ni := some 16) (Nj := some 20) (Nk := some 6) #[t_,t_,t_,t_,t_,t_,f_,t_,f_,f_,f_,f_] #[t_,t_,t_,t_,f_,t_,f_,t_,t_,f_,f_,f_] #[t_,t_,t_,t_,f_,t_,f_,t_,f_,f_,t_,f_] rfl rfl rfl rfl rfl rfl (three_of HT_.out (by kernel_rfl)) (by decide) (by decide) (by decide) (fun K hK => ?_) (fun K hK => ?_) (fun K hK => ?_)
             ·
              skip
              refine gs_ Tryd.func46 #[.agg #[.slice Ao11 t511.length co11, .int .i64 t514, .int .i64 t515, .string t516], .slice A1 l1.length c1] ?_
              with_reducible refine (spec_KeyOf.calls k _ _ t511 t514 t515 t516 _ _ l1 t523 _ ?side1 ?side2 ?side3 ?side4 A5.out).mono ?_
              (case side1 => exact cp_ ((Kd.R_reads' HO513.out).2.2))
              (case side2 => exact (Kd.R_reads' HO513.out).2.1)
              (case side3 => exact Kd.C_keep (⟨#[]⟩ : ByteArray) HR1.out (ku_ HK.out) hf1)
              (case side4 => exact HC1.out)
              rintro e w19 ⟨v524, rfl, ho0, hb⟩
              refine ⟨_, rfl, ?_⟩
              have HO525 := Aside0.mk (Kd.R_lower (Kd.R_new' ho0 (Kd.R_lt (rp_ HO513.out))) (ks_ HK))
              replace HO513 := Aside0.mk (Kd.R_elder' (rp_ HO513.out) (Kd.R_base ho0) hb)
              replace HI0 := IsS64.bk_ HI0 hb
              replace BK510 := bk2_ BK510 hb
              replace BK519 := bk2_ BK519 hb
              replace HK := kt_ HK hb
              replace HB := st_ HB hb
              (try clear hb)
              (try clear hk)
              (try clear hi)
              (try clear ho0)
              refine hK.out _ _ (e4_ BK519.out) (fun hHeld => ?_)
              clear hK K
              refine norm_ (a' := ?_) ?_ ?_
              rotate_left
              ·
               show Act.put _ (some 16) _ = _
               simp only [fr_]
               rfl
              exact norm_ (by first | (simp only [putAll, fr_]; done) | (simp only [putAll, fr_]; rfl)) (hJ1_4 (v524) _ ⟨hHeld, (Kd.R_mono (rp_ HO513.out) (fun _ hk => hk.2)), (Kd.R_mono (rp_ HO525.out) (fun _ hk => hk.2)), (pb_ BK510.out), (pb_ BK519.out), (IsS64.pk_ HI0.out), (ku_ HK.out), (hs_ HB.out)⟩)
             ·
              skip
              refine Kd.S_lit1_step k37 w.heap.size 37 ?hg (N := 20) ?hd (x := (⟨t511, t514, t515, t516⟩ : S37)) (cs := [.slice Ao11 t511.length co11, .int .i64 t514, .int .i64 t515, .string t516]) (ok := (fun k_ => k_ ≠ gb519)) (okp := (fun k_ => some k_ = (.slice Ao11 t511.length co11 : Value).ownBlock)) ?hr ?hp (fun k_ hk_ => ((Kd.R_mono (ok' := (fun k_ => k_ ≠ gb519)) (Kd.R_types (HO513.out) BK519.out (by decide)) (fun k_ hk => hk.2))).1 k_ hk_.symm) ?hf ?aS ?_; (case hd => rfl); (case hg => rfl); (case hr => first | (go_simp; done) | (go_simp; rfl)); (case hp => exact (k37_mkM _ _ _ (⟨t511, t514, t515, t516⟩ : S37) (Kd.R_mono (Kd.R_tight rfl (Kd.R_mono (ok' := (fun k_ => k_ ≠ gb519)) (Kd.R_types (HO513.out) BK519.out (by decide)) (fun k_ hk => hk.2))) (fun _ h_ => h_))))
              (case hf => exact (show ∀ k_, w18.heap.size ≤ k_ → ((fun k_ => k_ ≠ gb519)) k_ from fun k_ hk => Kd.freshB (g := gb519) (o := .cells #[.slice Ao11 t511.length co11, .int .i64 t514, .int .i64 t515, .string t516] 37 (0, 0)) (pb_ BK519.out) k_ hk) _ (Nat.le_refl _))
              (case aS => exact (ks_ HK))
              intro v530 w19 ho20 hb hnew_
              rw [← Ny529.out] at ho20
              replace HO513 := rb_ HO513 hb
              have HO531 := Aside0.mk (ho20)
              replace HI0 := IsS64.bk_ HI0 hb
              replace BK510 := bk2_ BK510 hb
              replace BK519 := bk2_ BK519 hb
              replace HK := kt_ HK hb
              replace HB := st_ HB hb
              clear hb hnew_ ho20
              refine hK.out _ _ (e4_ BK519.out) (fun hHeld => ?_)
              clear hK K
              refine norm_ (a' := ?_) ?_ ?_
              rotate_left
              ·
               show Act.put _ (some 20) _ = _
               simp only [fr_]
               rfl
              exact norm_ (by first | (simp only [putAll, fr_]; done) | (simp only [putAll, fr_]; rfl)) (hJ1_8 (v530) _ ⟨hHeld, (rp_ HO513.out), (sp_ HO531.out), (pb_ BK510.out), (pb_ BK519.out), (IsS64.pk_ HI0.out), (ku_ HK.out), (hs_ HB.out)⟩)
             skip
             refine bs1_ 6 #[.int .i64 0, .slice none 0 0, .int .i64 0, .int .i64 0, .slice none 0 0] 33 ?_
             intro gb532 hg w19 hbox hb
             replace HO513 := rb_ HO513 hb
             replace HB := st_ HB hb
             have BK532 := Aside0.mk (hbox)
             have GW532 := Ge_.mk ((by rw [hg]; exact (ks_ HK) : w.heap.size ≤ gb532))
             have GE532 := Ge_.mk ((Nat.le_trans HW0.out (by rw [hg]; exact (ks_ HK) : w.heap.size ≤ gb532) : w0.heap.size ≤ gb532))
             replace HK := kt_ HK hb
             have NB510_532 := nk_ BK510 hg
             have NB532_510 := Ne_.mk (ng_ BK510.out hg)
             replace BK510 := bk2_ BK510 hb
             have NB519_532 := nk_ BK519 hg
             have NB532_519 := Ne_.mk (ng_ BK519.out hg)
             replace BK519 := bk2_ BK519 hb
             have NB0_532 := IsS64.nl_ HI0 hg
             have NB532_0 := IsS64.ng_ HI0 hg
             replace HI0 := IsS64.bk_ HI0 hb
             clear hb hbox hg
             refine hK.out _ _ (e4_ BK519.out) (fun hHeld => ?_)
             clear hK K
             refine norm_ (a' := ?_) ?_ ?_
             rotate_left
             ·
              show Act.put _ (some 6) _ = _
              simp only [fr_]
              rfl
             exact norm_ (by first | (simp only [putAll, fr_]; done) | (simp only [putAll, fr_]; rfl)) (hJ1_10 (gb532) _ ⟨hHeld, (rp_ HO513.out), (pb_ BK510.out), (pb_ BK519.out), (pb_ BK532.out), GW532.out, GE532.out, NB0_532.out, NB532_0.out, NB510_532.out, NB532_510.out, NB519_532.out, NB532_519.out, (IsS64.pk_ HI0.out), (ku_ HK.out), (hs_ HB.out)⟩)
            skip
            rintro ⟨v530, gb532⟩ w20 ⟨hS_, h0_, h1_, h2_, h3_, h4_, h5_, h6_, h7_, h8_, h9_, h10_, h11_, h12_, h13_, h14_, h15_⟩
            replace HO513 : Aside0 (Kd.R k83 83 w20 w.heap.size (fun _ => True) (.slice Ao11 t511.length co11) t511) := ⟨h0_⟩
            have HO531 : Aside0 (Kd.S k37 37 w20 w.heap.size (fun k_ => k_ ≠ gb519) v530 y529) := ⟨h1_⟩
            replace BK510 : Aside0 (w20.heap[gb510]? = some (.cells #[.int .i64 0, .slice none 0 0, .int .i64 0, .int .i64 0, .slice none 0 0] 33 (0, 0))) := ⟨h2_⟩
            replace BK519 : Aside0 (w20.heap[gb519]? = some (.cells #[.slice Ao11 t511.length co11, .int .i64 t514, .int .i64 t515, .string t516] 37 (0, 0))) := ⟨h3_⟩
            have BK532 : Aside0 (w20.heap[gb532]? = some (.cells #[.int .i64 0, .slice none 0 0, .int .i64 0, .int .i64 0, .slice none 0 0] 33 (0, 0))) := ⟨h4_⟩
            have GW532 := Ge_.mk h5_
            have GE532 := Ge_.mk h6_
            have NB0_532 := Ne_.mk h7_
            have NB532_0 := Ne_.mk h8_
            have NB510_532 := Ne_.mk h9_
            have NB532_510 := Ne_.mk h10_
            have NB519_532 := Ne_.mk h11_
            have NB532_519 := Ne_.mk h12_
            replace HI0 : Aside0 (IsS64 w0 w20 g s0_0 t517 t518) := ⟨h13_⟩
            replace HK : Aside0 (KeepBut w w20 g none) := ⟨h14_⟩
            replace HB : Aside0 (Below w0.heap.size w0 w20) := ⟨h15_⟩
            clear h0_ h1_ h2_ h3_ h4_ h5_ h6_ h7_ h8_ h9_ h10_ h11_ h12_ h13_ h14_ h15_
            have hHeld : w20.cell? ⟨gb519, 0, none⟩ = some (.slice Ao11 t511.length co11) ∧ w20.cell? ⟨gb519, 1, none⟩ = some (.int .i64 t514) ∧ w20.cell? ⟨gb519, 2, none⟩ = some (.int .i64 t515) ∧ w20.cell? ⟨gb519, 3, none⟩ = some (.string t516) := hS_
            refine norm_ (a' := ?_) ?_ ?_
            rotate_left
            ·
             simp only [putAll, fr_]
             rfl
            refine one_ (i := 1) (N := some 13) #[t_,t_,t_,t_,f_,t_,f_,t_,t_,f_,t_,f_] rfl rfl (one_of HT_.out (by kernel_rfl)) (by decide) (fun K hK => ?_)
            refine gs_ Tryd.func43 #[.pointer (some ⟨g, 0, none⟩), .int .i64 5] ?_
            with_reducible refine (spec_l1Below.calls g s0_0 t517 t518 5 t520 t521 t522 w0 _ ?side1 ?side2 A4.out).mono ?_
            (case side1 => exact IsS64.pk_ HI0.out)
            (case side2 => exact hs_ HB.out)
            rintro e w21 ⟨rfl, hi, hb, hk⟩
            refine ⟨_, rfl, ?_⟩
            replace BK510 := kb_ hk BK510
            replace HO513 := IsS64.rk_ HI0 HO513 hk
            replace BK519 := kb_ hk BK519
            replace HO531 := IsS64.sk_ HI0 HO531 hk
            replace BK532 := kb_ hk BK532
            replace HK := kh_ HK hk
            replace HB := Aside0.mk (hb)
            replace HI0 := Aside0.mk (hi)
            (try clear hb)
            (try clear hk)
            (try clear hi)
            refine hK.out _ _ (e4_ BK519.out) (fun hHeld => ?_)
            clear hK K
            refine norm_ (a' := ?_) ?_ ?_
            rotate_left
            ·
             show Act.put _ (some 13) _ = _
             simp only [fr_]
             rfl
            exact norm_ (by first | (simp only [putAll, fr_]; done) | (simp only [putAll, fr_]; rfl)) (hJ1_8_10 (v530, gb532) _ ⟨hHeld, (rp_ HO513.out), (sp_ HO531.out), (pb_ BK510.out), (pb_ BK519.out), (pb_ BK532.out), GW532.out, GE532.out, NB0_532.out, NB532_0.out, NB510_532.out, NB532_510.out, NB519_532.out, NB532_519.out, (IsS64.pk_ HI0.out), (ku_ HK.out), (hs_ HB.out)⟩)
           skip
           rintro gb532 w19 ⟨hS_, h0_, h1_, h2_, h3_, h4_, h5_, h6_, h7_, h8_, h9_, h10_, h11_, h12_, h13_, h14_⟩
           replace HO513 : Aside0 (Kd.R k83 83 w19 w.heap.size (fun _ => True) (.slice Ao11 t511.length co11) t511) := ⟨h0_⟩
           replace BK510 : Aside0 (w19.heap[gb510]? = some (.cells #[.int .i64 0, .slice none 0 0, .int .i64 0, .int .i64 0, .slice none 0 0] 33 (0, 0))) := ⟨h1_⟩
           replace BK519 : Aside0 (w19.heap[gb519]? = some (.cells #[.slice Ao11 t511.length co11, .int .i64 t514, .int .i64 t515, .string t516] 37 (0, 0))) := ⟨h2_⟩
           have BK532 : Aside0 (w19.heap[gb532]? = some (.cells #[.int .i64 0, .slice none 0 0, .int .i64 0, .int .i64 0, .slice none 0 0] 33 (0, 0))) := ⟨h3_⟩
           have GW532 := Ge_.mk h4_
           have GE532 := Ge_.mk h5_
           have NB0_532 := Ne_.mk h6_
           have NB532_0 := Ne_.mk h7_
           have NB510_532 := Ne_.mk h8_
           have NB532_510 := Ne_.mk h9_
           have NB519_532 := Ne_.mk h10_
           have NB532_519 := Ne_.mk h11_
           replace HI0 : Aside0 (IsS64 w0 w19 g s0_0 t521 t522) := ⟨h12_⟩
           replace HK : Aside0 (KeepBut w w19 g none) := ⟨h13_⟩
           replace HB : Aside0 (Below w0.heap.size w0 w19) := ⟨h14_⟩
           clear h0_ h1_ h2_ h3_ h4_ h5_ h6_ h7_ h8_ h9_ h10_ h11_ h12_ h13_ h14_
           have hHeld : w19.cell? ⟨gb519, 0, none⟩ = some (.slice Ao11 t511.length co11) ∧ w19.cell? ⟨gb519, 1, none⟩ = some (.int .i64 t514) ∧ w19.cell? ⟨gb519, 2, none⟩ = some (.int .i64 t515) ∧ w19.cell? ⟨gb519, 3, none⟩ = some (.string t516) := hS_
           refine norm_ (a' := ?_) ?_ ?_
           rotate_left
           ·
            simp only [putAll, fr_]
            rfl
           refine two_ (i := 4) (j := 8) (Ni := some 16) (Nj := some 20) #[t_,t_,t_,t_,t_,t_,f_,t_,f_,f_,t_,f_] #[t_,t_,t_,t_,f_,t_,f_,t_,t_,f_,t_,f_] rfl rfl rfl rfl (two_of HT_.out (by kernel_rfl)) (by decide) (by decide) (fun K hK => ?_) (fun K hK => ?_)
           ·
            skip
            refine gs_ Tryd.func46 #[.agg #[.slice Ao11 t511.length co11, .int .i64 t514, .int .i64 t515, .string t516], .slice A1 l1.length c1] ?_
            with_reducible refine (spec_KeyOf.calls k _ _ t511 t514 t515 t516 _ _ l1 t523 _ ?side1 ?side2 ?side3 ?side4 A5.out).mono ?_
            (case side1 => exact cp_ ((Kd.R_reads' HO513.out).2.2))
            (case side2 => exact (Kd.R_reads' HO513.out).2.1)
            (case side3 => exact Kd.C_keep (⟨#[]⟩ : ByteArray) HR1.out (ku_ HK.out) hf1)
            (case side4 => exact HC1.out)
            rintro e w20 ⟨v524, rfl, ho0, hb⟩
            refine ⟨_, rfl, ?_⟩
            have HO525 := Aside0.mk (Kd.R_lower (Kd.R_new' ho0 (Kd.R_lt (rp_ HO513.out))) (ks_ HK))
            replace HO513 := Aside0.mk (Kd.R_elder' (rp_ HO513.out) (Kd.R_base ho0) hb)
            replace HI0 := IsS64.bk_ HI0 hb
            replace BK510 := bk2_ BK510 hb
            replace BK519 := bk2_ BK519 hb
            replace BK532 := bk2_ BK532 hb
            replace HK := kt_ HK hb
            replace HB := st_ HB hb
            (try clear hb)
            (try clear hk)
            (try clear hi)
            (try clear ho0)
            refine hK.out _ _ (e4_ BK519.out) (fun hHeld => ?_)
            clear hK K
            refine norm_ (a' := ?_) ?_ ?_
            rotate_left
            ·
             show Act.put _ (some 16) _ = _
             simp only [fr_]
             rfl
            exact norm_ (by first | (simp only [putAll, fr_]; done) | (simp only [putAll, fr_]; rfl)) (hJ1_4_10 (v524, gb532) _ ⟨hHeld, (Kd.R_mono (rp_ HO513.out) (fun _ hk => hk.2)), (Kd.R_mono (rp_ HO525.out) (fun _ hk => hk.2)), (pb_ BK510.out), (pb_ BK519.out), (pb_ BK532.out), GW532.out, GE532.out, NB0_532.out, NB532_0.out, NB510_532.out, NB532_510.out, NB519_532.out, NB532_519.out, (IsS64.pk_ HI0.out), (ku_ HK.out), (hs_ HB.out)⟩)
           skip
           refine Kd.S_lit1_step k37 w.heap.size 37 ?hg (N := 20) ?hd (x := (⟨t511, t514, t515, t516⟩ : S37)) (cs := [.slice Ao11 t511.length co11, .int .i64 t514, .int .i64 t515, .string t516]) (ok := (fun k_ => k_ ≠ gb519)) (okp := (fun k_ => some k_ = (.slice Ao11 t511.length co11 : Value).ownBlock)) ?hr ?hp (fun k_ hk_ => ((Kd.R_mono (ok' := (fun k_ => k_ ≠ gb519)) (Kd.R_types (HO513.out) BK519.out (by decide)) (fun k_ hk => hk.2))).1 k_ hk_.symm) ?hf ?aS ?_; (case hd => rfl); (case hg => rfl); (case hr => first | (go_simp; done) | (go_simp; rfl)); (case hp => exact (k37_mkM _ _ _ (⟨t511, t514, t515, t516⟩ : S37) (Kd.R_mono (Kd.R_tight rfl (Kd.R_mono (ok' := (fun k_ => k_ ≠ gb519)) (Kd.R_types (HO513.out) BK519.out (by decide)) (fun k_ hk => hk.2))) (fun _ h_ => h_))))
           (case hf => exact (show ∀ k_, w19.heap.size ≤ k_ → ((fun k_ => k_ ≠ gb519)) k_ from fun k_ hk => Kd.freshB (g := gb519) (o := .cells #[.slice Ao11 t511.length co11, .int .i64 t514, .int .i64 t515, .string t516] 37 (0, 0)) (pb_ BK519.out) k_ hk) _ (Nat.le_refl _))
           (case aS => exact (ks_ HK))
           intro v530 w20 ho21 hb hnew_
           rw [← Ny529.out] at ho21
           replace HO513 := rb_ HO513 hb
           have HO531 := Aside0.mk (ho21)
           replace HI0 := IsS64.bk_ HI0 hb
           replace BK510 := bk2_ BK510 hb
           replace BK519 := bk2_ BK519 hb
           replace BK532 := bk2_ BK532 hb
           replace HK := kt_ HK hb
           replace HB := st_ HB hb
           clear hb hnew_ ho21
           refine hK.out _ _ (e4_ BK519.out) (fun hHeld => ?_)
           clear hK K
           refine norm_ (a' := ?_) ?_ ?_
           rotate_left
           ·
            show Act.put _ (some 20) _ = _
            simp only [fr_]
            rfl
           exact norm_ (by first | (simp only [putAll, fr_]; done) | (simp only [putAll, fr_]; rfl)) (hJ1_8_10 (v530, gb532) _ ⟨hHeld, (rp_ HO513.out), (sp_ HO531.out), (pb_ BK510.out), (pb_ BK519.out), (pb_ BK532.out), GW532.out, GE532.out, NB0_532.out, NB532_0.out, NB510_532.out, NB532_510.out, NB519_532.out, NB532_519.out, (IsS64.pk_ HI0.out), (ku_ HK.out), (hs_ HB.out)⟩)
          skip
          rintro v530 w20 ⟨hS_, h0_, h1_, h2_, h3_, h4_, h5_, h6_⟩
          replace HO513 : Aside0 (Kd.R k83 83 w20 w.heap.size (fun _ => True) (.slice Ao11 t511.length co11) t511) := ⟨h0_⟩
          have HO531 : Aside0 (Kd.S k37 37 w20 w.heap.size (fun k_ => k_ ≠ gb519) v530 y529) := ⟨h1_⟩
          replace BK510 : Aside0 (w20.heap[gb510]? = some (.cells #[.int .i64 0, .slice none 0 0, .int .i64 0, .int .i64 0, .slice none 0 0] 33 (0, 0))) := ⟨h2_⟩
          replace BK519 : Aside0 (w20.heap[gb519]? = some (.cells #[.slice Ao11 t511.length co11, .int .i64 t514, .int .i64 t515, .string t516] 37 (0, 0))) := ⟨h3_⟩
          replace HI0 : Aside0 (IsS64 w0 w20 g s0_0 t521 t522) := ⟨h4_⟩
          replace HK : Aside0 (KeepBut w w20 g none) := ⟨h5_⟩
          replace HB : Aside0 (Below w0.heap.size w0 w20) := ⟨h6_⟩
          clear h0_ h1_ h2_ h3_ h4_ h5_ h6_
          have hHeld : w20.cell? ⟨gb519, 0, none⟩ = some (.slice Ao11 t511.length co11) ∧ w20.cell? ⟨gb519, 1, none⟩ = some (.int .i64 t514) ∧ w20.cell? ⟨gb519, 2, none⟩ = some (.int .i64 t515) ∧ w20.cell? ⟨gb519, 3, none⟩ = some (.string t516) := hS_
          refine norm_ (a' := ?_) ?_ ?_
          rotate_left
          ·
           simp only [putAll, fr_]
           rfl
          refine two_ (i := 4) (j := 10) (Ni := some 16) (Nj := some 6) #[t_,t_,t_,t_,t_,t_,f_,t_,t_,f_,f_,f_] #[t_,t_,t_,t_,f_,t_,f_,t_,t_,f_,t_,f_] rfl rfl rfl rfl (two_of HT_.out (by kernel_rfl)) (by decide) (by decide) (fun K hK => ?_) (fun K hK => ?_)
          ·
           skip
           refine gs_ Tryd.func46 #[.agg #[.slice Ao11 t511.length co11, .int .i64 t514, .int .i64 t515, .string t516], .slice A1 l1.length c1] ?_
           with_reducible refine (spec_KeyOf.calls k _ _ t511 t514 t515 t516 _ _ l1 t523 _ ?side1 ?side2 ?side3 ?side4 A5.out).mono ?_
           (case side1 => exact cp_ ((Kd.R_reads' HO513.out).2.2))
           (case side2 => exact (Kd.R_reads' HO513.out).2.1)
           (case side3 => exact Kd.C_keep (⟨#[]⟩ : ByteArray) HR1.out (ku_ HK.out) hf1)
           (case side4 => exact HC1.out)
           rintro e w21 ⟨v524, rfl, ho0, hb⟩
           refine ⟨_, rfl, ?_⟩
           replace HO531 := Aside0.mk (Kd.S_elder' (sp_ HO531.out) (Kd.R_base ho0) hb)
           have HO525 := Aside0.mk (Kd.R_lower (Kd.R_new' ho0 (Kd.R_lt (rp_ HO513.out))) (ks_ HK))
           replace HO513 := Aside0.mk (Kd.R_elder' (rp_ HO513.out) (Kd.R_base ho0) hb)
           replace HI0 := IsS64.bk_ HI0 hb
           replace BK510 := bk2_ BK510 hb
           replace BK519 := bk2_ BK519 hb
           replace HK := kt_ HK hb
           replace HB := st_ HB hb
           (try clear hb)
           (try clear hk)
           (try clear hi)
           (try clear ho0)
           refine hK.out _ _ (e4_ BK519.out) (fun hHeld => ?_)
           clear hK K
           refine norm_ (a' := ?_) ?_ ?_
           rotate_left
           ·
            show Act.put _ (some 16) _ = _
            simp only [fr_]
            rfl
           exact norm_ (by first | (simp only [putAll, fr_]; done) | (simp only [putAll, fr_]; rfl)) (hJ1_4_8 (v524, v530) _ ⟨hHeld, (Kd.R_mono (rp_ HO513.out) (fun _ hk => hk.2)), (Kd.R_mono (rp_ HO525.out) (fun _ hk => hk.2)), (Kd.S_mono (sp_ HO531.out) (fun _ hk => ⟨hk.2, hk.1⟩)), (pb_ BK510.out), (pb_ BK519.out), (IsS64.pk_ HI0.out), (ku_ HK.out), (hs_ HB.out)⟩)
          skip
          refine bs1_ 6 #[.int .i64 0, .slice none 0 0, .int .i64 0, .int .i64 0, .slice none 0 0] 33 ?_
          intro gb532 hg w21 hbox hb
          replace HO513 := rb_ HO513 hb
          replace HO531 := sb_ HO531 hb
          replace HB := st_ HB hb
          have BK532 := Aside0.mk (hbox)
          have GW532 := Ge_.mk ((by rw [hg]; exact (ks_ HK) : w.heap.size ≤ gb532))
          have GE532 := Ge_.mk ((Nat.le_trans HW0.out (by rw [hg]; exact (ks_ HK) : w.heap.size ≤ gb532) : w0.heap.size ≤ gb532))
          replace HK := kt_ HK hb
          have NB510_532 := nk_ BK510 hg
          have NB532_510 := Ne_.mk (ng_ BK510.out hg)
          replace BK510 := bk2_ BK510 hb
          have NB519_532 := nk_ BK519 hg
          have NB532_519 := Ne_.mk (ng_ BK519.out hg)
          replace BK519 := bk2_ BK519 hb
          have NB0_532 := IsS64.nl_ HI0 hg
          have NB532_0 := IsS64.ng_ HI0 hg
          replace HI0 := IsS64.bk_ HI0 hb
          clear hb hbox hg
          refine hK.out _ _ (e4_ BK519.out) (fun hHeld => ?_)
          clear hK K
          refine norm_ (a' := ?_) ?_ ?_
          rotate_left
          ·
           show Act.put _ (some 6) _ = _
           simp only [fr_]
           rfl
          exact norm_ (by first | (simp only [putAll, fr_]; done) | (simp only [putAll, fr_]; rfl)) (hJ1_8_10 (v530, gb532) _ ⟨hHeld, (rp_ HO513.out), (sp_ HO531.out), (pb_ BK510.out), (pb_ BK519.out), (pb_ BK532.out), GW532.out, GE532.out, NB0_532.out, NB532_0.out, NB510_532.out, NB532_510.out, NB519_532.out, NB532_519.out, (IsS64.pk_ HI0.out), (ku_ HK.out), (hs_ HB.out)⟩)
         skip
         rintro v524 w19 ⟨hS_, h0_, h1_, h2_, h3_, h4_, h5_, h6_⟩
         replace HO513 : Aside0 (Kd.R k83 83 w19 w.heap.size (fun k_ => some k_ ≠ (v524 : Value).ownBlock) (.slice Ao11 t511.length co11) t511) := ⟨h0_⟩
         have HO525 : Aside0 (Kd.R k83 83 w19 w.heap.size (fun k_ => some k_ ≠ (.slice Ao11 t511.length co11 : Value).ownBlock) v524 t523) := ⟨h1_⟩
         replace BK510 : Aside0 (w19.heap[gb510]? = some (.cells #[.int .i64 0, .slice none 0 0, .int .i64 0, .int .i64 0, .slice none 0 0] 33 (0, 0))) := ⟨h2_⟩
         replace BK519 : Aside0 (w19.heap[gb519]? = some (.cells #[.slice Ao11 t511.length co11, .int .i64 t514, .int .i64 t515, .string t516] 37 (0, 0))) := ⟨h3_⟩
         replace HI0 : Aside0 (IsS64 w0 w19 g s0_0 t521 t522) := ⟨h4_⟩
         replace HK : Aside0 (KeepBut w w19 g none) := ⟨h5_⟩
         replace HB : Aside0 (Below w0.heap.size w0 w19) := ⟨h6_⟩
         clear h0_ h1_ h2_ h3_ h4_ h5_ h6_
         have hHeld : w19.cell? ⟨gb519, 0, none⟩ = some (.slice Ao11 t511.length co11) ∧ w19.cell? ⟨gb519, 1, none⟩ = some (.int .i64 t514) ∧ w19.cell? ⟨gb519, 2, none⟩ = some (.int .i64 t515) ∧ w19.cell? ⟨gb519, 3, none⟩ = some (.string t516) := hS_
         refine norm_ (a' := ?_) ?_ ?_
         rotate_left
         ·
          simp only [putAll, fr_]
          rfl
         refine three_ (i := 6) (j := 8) (k := 10) (Ni := some 18) (Nj := some 20) (Nk := some 6) (b_ 8 4) #[t_,t_,t_,t_,t_,t_,f_,t_,t_,f_,f_,f_] #[t_,t_,t_,t_,t_,t_,f_,t_,f_,f_,t_,f_] rfl rfl rfl rfl rfl rfl (three_of HT_.out (by kernel_rfl)) (by decide) (by decide) (by decide) (fun K hK => ?_) (fun K hK => ?_) (fun K hK => ?_)
         ·
          skip
          refine gs_ Tryd.func43 #[.pointer (some ⟨g, 0, none⟩), .int .i64 5] ?_
          with_reducible refine (spec_l1Below.calls g s0_0 t521 t522 5 t526 t527 t528 w0 _ ?side1 ?side2 A6.out).mono ?_
          (case side1 => exact IsS64.pk_ HI0.out)
          (case side2 => exact hs_ HB.out)
          rintro e w20 ⟨rfl, hi, hb, hk⟩
          refine ⟨_, rfl, ?_⟩
          replace BK510 := kb_ hk BK510
          replace HO513 := IsS64.rk_ HI0 HO513 hk
          replace BK519 := kb_ hk BK519
          replace HO525 := IsS64.rk_ HI0 HO525 hk
          replace HK := kh_ HK hk
          replace HB := Aside0.mk (hb)
          replace HI0 := Aside0.mk (hi)
          (try clear hb)
          (try clear hk)
          (try clear hi)
          refine hK.out _ _ (e4_ BK519.out) (fun hHeld => ?_)
          clear hK K
          refine norm_ (a' := ?_) ?_ ?_
          rotate_left
          ·
           show Act.put _ (some 18) _ = _
           simp only [fr_]
           rfl
          exact norm_ (by first | (simp only [putAll, fr_]; done) | (simp only [putAll, fr_]; rfl)) (hJ1_4_6 (v524) _ ⟨hHeld, (rp_ HO513.out), (rp_ HO525.out), (pb_ BK510.out), (pb_ BK519.out), (IsS64.pk_ HI0.out), (ku_ HK.out), (hs_ HB.out)⟩)
         ·
          skip
          refine Kd.S_lit1_step k37 w.heap.size 37 ?hg (N := 20) ?hd (x := (⟨t511, t514, t515, t516⟩ : S37)) (cs := [.slice Ao11 t511.length co11, .int .i64 t514, .int .i64 t515, .string t516]) (ok := (fun k_ => some k_ ≠ (v524 : Value).ownBlock ∧ k_ ≠ gb519)) (okp := (fun k_ => some k_ = (.slice Ao11 t511.length co11 : Value).ownBlock)) ?hr ?hp (fun k_ hk_ => ((Kd.R_mono (ok' := (fun k_ => some k_ ≠ (v524 : Value).ownBlock ∧ k_ ≠ gb519)) (Kd.R_types (HO513.out) BK519.out (by decide)) (fun k_ hk => ⟨hk.1, hk.2⟩))).1 k_ hk_.symm) ?hf ?aS ?_; (case hd => rfl); (case hg => rfl); (case hr => first | (go_simp; done) | (go_simp; rfl)); (case hp => exact (k37_mkM _ _ _ (⟨t511, t514, t515, t516⟩ : S37) (Kd.R_mono (Kd.R_tight rfl (Kd.R_mono (ok' := (fun k_ => some k_ ≠ (v524 : Value).ownBlock ∧ k_ ≠ gb519)) (Kd.R_types (HO513.out) BK519.out (by decide)) (fun k_ hk => ⟨hk.1, hk.2⟩))) (fun _ h_ => h_))))
          (case hf => exact (show ∀ k_, w19.heap.size ≤ k_ → ((fun k_ => some k_ ≠ (v524 : Value).ownBlock ∧ k_ ≠ gb519)) k_ from fun k_ hk => ⟨Kd.fresh' (Kd.R_lt (rp_ HO525.out)) k_ hk, Kd.freshB (g := gb519) (o := .cells #[.slice Ao11 t511.length co11, .int .i64 t514, .int .i64 t515, .string t516] 37 (0, 0)) (pb_ BK519.out) k_ hk⟩) _ (Nat.le_refl _))
          (case aS => exact (ks_ HK))
          intro v530 w20 ho21 hb hnew_
          rw [← Ny529.out] at ho21
          replace HO513 := rb_ HO513 hb
          replace HO525 := rb_ HO525 hb
          have HO531 := Aside0.mk (ho21)
          replace HI0 := IsS64.bk_ HI0 hb
          replace BK510 := bk2_ BK510 hb
          replace BK519 := bk2_ BK519 hb
          replace HK := kt_ HK hb
          replace HB := st_ HB hb
          clear hb hnew_ ho21
          refine hK.out _ _ (e4_ BK519.out) (fun hHeld => ?_)
          clear hK K
          refine norm_ (a' := ?_) ?_ ?_
          rotate_left
          ·
           show Act.put _ (some 20) _ = _
           simp only [fr_]
           rfl
          exact norm_ (by first | (simp only [putAll, fr_]; done) | (simp only [putAll, fr_]; rfl)) (hJ1_4_8 (v524, v530) _ ⟨hHeld, (rp_ HO513.out), (rp_ HO525.out), (sp_ HO531.out), (pb_ BK510.out), (pb_ BK519.out), (IsS64.pk_ HI0.out), (ku_ HK.out), (hs_ HB.out)⟩)
         skip
         refine bs1_ 6 #[.int .i64 0, .slice none 0 0, .int .i64 0, .int .i64 0, .slice none 0 0] 33 ?_
         intro gb532 hg w20 hbox hb
         replace HO513 := rb_ HO513 hb
         replace HO525 := rb_ HO525 hb
         replace HB := st_ HB hb
         have BK532 := Aside0.mk (hbox)
         have GW532 := Ge_.mk ((by rw [hg]; exact (ks_ HK) : w.heap.size ≤ gb532))
         have GE532 := Ge_.mk ((Nat.le_trans HW0.out (by rw [hg]; exact (ks_ HK) : w.heap.size ≤ gb532) : w0.heap.size ≤ gb532))
         replace HK := kt_ HK hb
         have NB510_532 := nk_ BK510 hg
         have NB532_510 := Ne_.mk (ng_ BK510.out hg)
         replace BK510 := bk2_ BK510 hb
         have NB519_532 := nk_ BK519 hg
         have NB532_519 := Ne_.mk (ng_ BK519.out hg)
         replace BK519 := bk2_ BK519 hb
         have NB0_532 := IsS64.nl_ HI0 hg
         have NB532_0 := IsS64.ng_ HI0 hg
         replace HI0 := IsS64.bk_ HI0 hb
         clear hb hbox hg
         refine hK.out _ _ (e4_ BK519.out) (fun hHeld => ?_)
         clear hK K
         refine norm_ (a' := ?_) ?_ ?_
         rotate_left
         ·
          show Act.put _ (some 6) _ = _
          simp only [fr_]
          rfl
         exact norm_ (by first | (simp only [putAll, fr_]; done) | (simp only [putAll, fr_]; rfl)) (hJ1_4_10 (v524, gb532) _ ⟨hHeld, (rp_ HO513.out), (rp_ HO525.out), (pb_ BK510.out), (pb_ BK519.out), (pb_ BK532.out), GW532.out, GE532.out, NB0_532.out, NB532_0.out, NB510_532.out, NB532_510.out, NB519_532.out, NB532_519.out, (IsS64.pk_ HI0.out), (ku_ HK.out), (hs_ HB.out)⟩)
        skip
        rintro ⟨v530, gb532⟩ w21 ⟨hS_, h0_, h1_, h2_, h3_, h4_, h5_, h6_, h7_, h8_, h9_, h10_, h11_, h12_, h13_, h14_, h15_⟩
        replace HO513 : Aside0 (Kd.R k83 83 w21 w.heap.size (fun _ => True) (.slice Ao11 t511.length co11) t511) := ⟨h0_⟩
        have HO531 : Aside0 (Kd.S k37 37 w21 w.heap.size (fun k_ => k_ ≠ gb519) v530 y529) := ⟨h1_⟩
        replace BK510 : Aside0 (w21.heap[gb510]? = some (.cells #[.int .i64 0, .slice none 0 0, .int .i64 0, .int .i64 0, .slice none 0 0] 33 (0, 0))) := ⟨h2_⟩
        replace BK519 : Aside0 (w21.heap[gb519]? = some (.cells #[.slice Ao11 t511.length co11, .int .i64 t514, .int .i64 t515, .string t516] 37 (0, 0))) := ⟨h3_⟩
        have BK532 : Aside0 (w21.heap[gb532]? = some (.cells #[.int .i64 0, .slice none 0 0, .int .i64 0, .int .i64 0, .slice none 0 0] 33 (0, 0))) := ⟨h4_⟩
        have GW532 := Ge_.mk h5_
        have GE532 := Ge_.mk h6_
        have NB0_532 := Ne_.mk h7_
        have NB532_0 := Ne_.mk h8_
        have NB510_532 := Ne_.mk h9_
        have NB532_510 := Ne_.mk h10_
        have NB519_532 := Ne_.mk h11_
        have NB532_519 := Ne_.mk h12_
        replace HI0 : Aside0 (IsS64 w0 w21 g s0_0 t521 t522) := ⟨h13_⟩
        replace HK : Aside0 (KeepBut w w21 g none) := ⟨h14_⟩
        replace HB : Aside0 (Below w0.heap.size w0 w21) := ⟨h15_⟩
        clear h0_ h1_ h2_ h3_ h4_ h5_ h6_ h7_ h8_ h9_ h10_ h11_ h12_ h13_ h14_ h15_
        have hHeld : w21.cell? ⟨gb519, 0, none⟩ = some (.slice Ao11 t511.length co11) ∧ w21.cell? ⟨gb519, 1, none⟩ = some (.int .i64 t514) ∧ w21.cell? ⟨gb519, 2, none⟩ = some (.int .i64 t515) ∧ w21.cell? ⟨gb519, 3, none⟩ = some (.string t516) := hS_
        refine norm_ (a' := ?_) ?_ ?_
        rotate_left
        ·
         simp only [putAll, fr_]
         rfl
        refine one_ (i := 4) (N := some 16) #[t_,t_,t_,t_,t_,t_,f_,t_,t_,f_,t_,f_] rfl rfl (one_of HT_.out (by kernel_rfl)) (by decide) (fun K hK => ?_)
        refine gs_ Tryd.func46 #[.agg #[.slice Ao11 t511.length co11, .int .i64 t514, .int .i64 t515, .string t516], .slice A1 l1.length c1] ?_
        with_reducible refine (spec_KeyOf.calls k _ _ t511 t514 t515 t516 _ _ l1 t523 _ ?side1 ?side2 ?side3 ?side4 A5.out).mono ?_
        (case side1 => exact cp_ ((Kd.R_reads' HO513.out).2.2))
        (case side2 => exact (Kd.R_reads' HO513.out).2.1)
        (case side3 => exact Kd.C_keep (⟨#[]⟩ : ByteArray) HR1.out (ku_ HK.out) hf1)
        (case side4 => exact HC1.out)
        rintro e w22 ⟨v524, rfl, ho0, hb⟩
        refine ⟨_, rfl, ?_⟩
        replace HO531 := Aside0.mk (Kd.S_elder' (sp_ HO531.out) (Kd.R_base ho0) hb)
        have HO525 := Aside0.mk (Kd.R_lower (Kd.R_new' ho0 (Kd.R_lt (rp_ HO513.out))) (ks_ HK))
        replace HO513 := Aside0.mk (Kd.R_elder' (rp_ HO513.out) (Kd.R_base ho0) hb)
        replace HI0 := IsS64.bk_ HI0 hb
        replace BK510 := bk2_ BK510 hb
        replace BK519 := bk2_ BK519 hb
        replace BK532 := bk2_ BK532 hb
        replace HK := kt_ HK hb
        replace HB := st_ HB hb
        (try clear hb)
        (try clear hk)
        (try clear hi)
        (try clear ho0)
        refine hK.out _ _ (e4_ BK519.out) (fun hHeld => ?_)
        clear hK K
        refine norm_ (a' := ?_) ?_ ?_
        rotate_left
        ·
         show Act.put _ (some 16) _ = _
         simp only [fr_]
         rfl
        exact norm_ (by first | (simp only [putAll, fr_]; done) | (simp only [putAll, fr_]; rfl)) (hJ1_4_8_10 (v524, v530, gb532) _ ⟨hHeld, (Kd.R_mono (rp_ HO513.out) (fun _ hk => hk.2)), (Kd.R_mono (rp_ HO525.out) (fun _ hk => hk.2)), (Kd.S_mono (sp_ HO531.out) (fun _ hk => ⟨hk.2, hk.1⟩)), (pb_ BK510.out), (pb_ BK519.out), (pb_ BK532.out), GW532.out, GE532.out, NB0_532.out, NB532_0.out, NB510_532.out, NB532_510.out, NB519_532.out, NB532_519.out, (IsS64.pk_ HI0.out), (ku_ HK.out), (hs_ HB.out)⟩)
       skip
       rintro ⟨v524, gb532⟩ w20 ⟨hS_, h0_, h1_, h2_, h3_, h4_, h5_, h6_, h7_, h8_, h9_, h10_, h11_, h12_, h13_, h14_, h15_⟩
       replace HO513 : Aside0 (Kd.R k83 83 w20 w.heap.size (fun k_ => some k_ ≠ (v524 : Value).ownBlock) (.slice Ao11 t511.length co11) t511) := ⟨h0_⟩
       have HO525 : Aside0 (Kd.R k83 83 w20 w.heap.size (fun k_ => some k_ ≠ (.slice Ao11 t511.length co11 : Value).ownBlock) v524 t523) := ⟨h1_⟩
       replace BK510 : Aside0 (w20.heap[gb510]? = some (.cells #[.int .i64 0, .slice none 0 0, .int .i64 0, .int .i64 0, .slice none 0 0] 33 (0, 0))) := ⟨h2_⟩
       replace BK519 : Aside0 (w20.heap[gb519]? = some (.cells #[.slice Ao11 t511.length co11, .int .i64 t514, .int .i64 t515, .string t516] 37 (0, 0))) := ⟨h3_⟩
       have BK532 : Aside0 (w20.heap[gb532]? = some (.cells #[.int .i64 0, .slice none 0 0, .int .i64 0, .int .i64 0, .slice none 0 0] 33 (0, 0))) := ⟨h4_⟩
       have GW532 := Ge_.mk h5_
       have GE532 := Ge_.mk h6_
       have NB0_532 := Ne_.mk h7_
       have NB532_0 := Ne_.mk h8_
       have NB510_532 := Ne_.mk h9_
       have NB532_510 := Ne_.mk h10_
       have NB519_532 := Ne_.mk h11_
       have NB532_519 := Ne_.mk h12_
       replace HI0 : Aside0 (IsS64 w0 w20 g s0_0 t521 t522) := ⟨h13_⟩
       replace HK : Aside0 (KeepBut w w20 g none) := ⟨h14_⟩
       replace HB : Aside0 (Below w0.heap.size w0 w20) := ⟨h15_⟩
       clear h0_ h1_ h2_ h3_ h4_ h5_ h6_ h7_ h8_ h9_ h10_ h11_ h12_ h13_ h14_ h15_
       have hHeld : w20.cell? ⟨gb519, 0, none⟩ = some (.slice Ao11 t511.length co11) ∧ w20.cell? ⟨gb519, 1, none⟩ = some (.int .i64 t514) ∧ w20.cell? ⟨gb519, 2, none⟩ = some (.int .i64 t515) ∧ w20.cell? ⟨gb519, 3, none⟩ = some (.string t516) := hS_
       refine norm_ (a' := ?_) ?_ ?_
       rotate_left
       ·
        simp only [putAll, fr_]
        rfl
       refine two_ (i := 6) (j := 8) (Ni := some 18) (Nj := some 20) #[t_,t_,t_,t_,t_,t_,t_,t_,f_,f_,t_,f_] #[t_,t_,t_,t_,t_,t_,f_,t_,t_,f_,t_,f_] rfl rfl rfl rfl (two_of HT_.out (by kernel_rfl)) (by decide) (by decide) (fun K hK => ?_) (fun K hK => ?_)
       ·
        skip
        refine gs_ Tryd.func43 #[.pointer (some ⟨g, 0, none⟩), .int .i64 5] ?_
        with_reducible refine (spec_l1Below.calls g s0_0 t521 t522 5 t526 t527 t528 w0 _ ?side1 ?side2 A6.out).mono ?_
        (case side1 => exact IsS64.pk_ HI0.out)
        (case side2 => exact hs_ HB.out)
        rintro e w21 ⟨rfl, hi, hb, hk⟩
        refine ⟨_, rfl, ?_⟩
        replace BK510 := kb_ hk BK510
        replace HO513 := IsS64.rk_ HI0 HO513 hk
        replace BK519 := kb_ hk BK519
        replace HO525 := IsS64.rk_ HI0 HO525 hk
        replace BK532 := kb_ hk BK532
        replace HK := kh_ HK hk
        replace HB := Aside0.mk (hb)
        replace HI0 := Aside0.mk (hi)
        (try clear hb)
        (try clear hk)
        (try clear hi)
        refine hK.out _ _ (e4_ BK519.out) (fun hHeld => ?_)
        clear hK K
        refine norm_ (a' := ?_) ?_ ?_
        rotate_left
        ·
         show Act.put _ (some 18) _ = _
         simp only [fr_]
         rfl
        exact norm_ (by first | (simp only [putAll, fr_]; done) | (simp only [putAll, fr_]; rfl)) (hJ1_4_6_10 (v524, gb532) _ ⟨hHeld, (rp_ HO513.out), (rp_ HO525.out), (pb_ BK510.out), (pb_ BK519.out), (pb_ BK532.out), GW532.out, GE532.out, NB0_532.out, NB532_0.out, NB510_532.out, NB532_510.out, NB519_532.out, NB532_519.out, (IsS64.pk_ HI0.out), (ku_ HK.out), (hs_ HB.out)⟩)
       skip
       refine Kd.S_lit1_step k37 w.heap.size 37 ?hg (N := 20) ?hd (x := (⟨t511, t514, t515, t516⟩ : S37)) (cs := [.slice Ao11 t511.length co11, .int .i64 t514, .int .i64 t515, .string t516]) (ok := (fun k_ => some k_ ≠ (v524 : Value).ownBlock ∧ k_ ≠ gb519)) (okp := (fun k_ => some k_ = (.slice Ao11 t511.length co11 : Value).ownBlock)) ?hr ?hp (fun k_ hk_ => ((Kd.R_mono (ok' := (fun k_ => some k_ ≠ (v524 : Value).ownBlock ∧ k_ ≠ gb519)) (Kd.R_types (HO513.out) BK519.out (by decide)) (fun k_ hk => ⟨hk.1, hk.2⟩))).1 k_ hk_.symm) ?hf ?aS ?_; (case hd => rfl); (case hg => rfl); (case hr => first | (go_simp; done) | (go_simp; rfl)); (case hp => exact (k37_mkM _ _ _ (⟨t511, t514, t515, t516⟩ : S37) (Kd.R_mono (Kd.R_tight rfl (Kd.R_mono (ok' := (fun k_ => some k_ ≠ (v524 : Value).ownBlock ∧ k_ ≠ gb519)) (Kd.R_types (HO513.out) BK519.out (by decide)) (fun k_ hk => ⟨hk.1, hk.2⟩))) (fun _ h_ => h_))))
       (case hf => exact (show ∀ k_, w20.heap.size ≤ k_ → ((fun k_ => some k_ ≠ (v524 : Value).ownBlock ∧ k_ ≠ gb519)) k_ from fun k_ hk => ⟨Kd.fresh' (Kd.R_lt (rp_ HO525.out)) k_ hk, Kd.freshB (g := gb519) (o := .cells #[.slice Ao11 t511.length co11, .int .i64 t514, .int .i64 t515, .string t516] 37 (0, 0)) (pb_ BK519.out) k_ hk⟩) _ (Nat.le_refl _))
       (case aS => exact (ks_ HK))
       intro v530 w21 ho22 hb hnew_
       rw [← Ny529.out] at ho22
       replace HO513 := rb_ HO513 hb
       replace HO525 := rb_ HO525 hb
       have HO531 := Aside0.mk (ho22)
       replace HI0 := IsS64.bk_ HI0 hb
       replace BK510 := bk2_ BK510 hb
       replace BK519 := bk2_ BK519 hb
       replace BK532 := bk2_ BK532 hb
       replace HK := kt_ HK hb
       replace HB := st_ HB hb
       clear hb hnew_ ho22
       refine hK.out _ _ (e4_ BK519.out) (fun hHeld => ?_)
       clear hK K
       refine norm_ (a' := ?_) ?_ ?_
       rotate_left
       ·
        show Act.put _ (some 20) _ = _
        simp only [fr_]
        rfl
       exact norm_ (by first | (simp only [putAll, fr_]; done) | (simp only [putAll, fr_]; rfl)) (hJ1_4_8_10 (v524, v530, gb532) _ ⟨hHeld, (rp_ HO513.out), (rp_ HO525.out), (sp_ HO531.out), (pb_ BK510.out), (pb_ BK519.out), (pb_ BK532.out), GW532.out, GE532.out, NB0_532.out, NB532_0.out, NB510_532.out, NB532_510.out, NB519_532.out, NB532_519.out, (IsS64.pk_ HI0.out), (ku_ HK.out), (hs_ HB.out)⟩)
      skip
      rintro ⟨v524, v530⟩ w21 ⟨hS_, h0_, h1_, h2_, h3_, h4_, h5_, h6_, h7_⟩
      replace HO513 : Aside0 (Kd.R k83 83 w21 w.heap.size (fun k_ => some k_ ≠ (v524 : Value).ownBlock) (.slice Ao11 t511.length co11) t511) := ⟨h0_⟩
      have HO525 : Aside0 (Kd.R k83 83 w21 w.heap.size (fun k_ => some k_ ≠ (.slice Ao11 t511.length co11 : Value).ownBlock) v524 t523) := ⟨h1_⟩
      have HO531 : Aside0 (Kd.S k37 37 w21 w.heap.size (fun k_ => some k_ ≠ (v524 : Value).ownBlock ∧ k_ ≠ gb519) v530 y529) := ⟨h2_⟩
      replace BK510 : Aside0 (w21.heap[gb510]? = some (.cells #[.int .i64 0, .slice none 0 0, .int .i64 0, .int .i64 0, .slice none 0 0] 33 (0, 0))) := ⟨h3_⟩
      replace BK519 : Aside0 (w21.heap[gb519]? = some (.cells #[.slice Ao11 t511.length co11, .int .i64 t514, .int .i64 t515, .string t516] 37 (0, 0))) := ⟨h4_⟩
      replace HI0 : Aside0 (IsS64 w0 w21 g s0_0 t521 t522) := ⟨h5_⟩
      replace HK : Aside0 (KeepBut w w21 g none) := ⟨h6_⟩
      replace HB : Aside0 (Below w0.heap.size w0 w21) := ⟨h7_⟩
      clear h0_ h1_ h2_ h3_ h4_ h5_ h6_ h7_
      have hHeld : w21.cell? ⟨gb519, 0, none⟩ = some (.slice Ao11 t511.length co11) ∧ w21.cell? ⟨gb519, 1, none⟩ = some (.int .i64 t514) ∧ w21.cell? ⟨gb519, 2, none⟩ = some (.int .i64 t515) ∧ w21.cell? ⟨gb519, 3, none⟩ = some (.string t516) := hS_
      refine norm_ (a' := ?_) ?_ ?_
      rotate_left
      ·
       simp only [putAll, fr_]
       rfl
      refine two_ (i := 6) (j := 10) (Ni := some 18) (Nj := some 6) (b_ 9 3) #[t_,t_,t_,t_,t_,t_,f_,t_,t_,f_,t_,f_] rfl rfl rfl rfl (two_of HT_.out (by kernel_rfl)) (by decide) (by decide) (fun K hK => ?_) (fun K hK => ?_)
      ·
       skip
       refine gs_ Tryd.func43 #[.pointer (some ⟨g, 0, none⟩), .int .i64 5] ?_
       with_reducible refine (spec_l1Below.calls g s0_0 t521 t522 5 t526 t527 t528 w0 _ ?side1 ?side2 A6.out).mono ?_
       (case side1 => exact IsS64.pk_ HI0.out)
       (case side2 => exact hs_ HB.out)
       rintro e w22 ⟨rfl, hi, hb, hk⟩
       refine ⟨_, rfl, ?_⟩
       replace BK510 := kb_ hk BK510
       replace HO513 := IsS64.rk_ HI0 HO513 hk
       replace BK519 := kb_ hk BK519
       replace HO525 := IsS64.rk_ HI0 HO525 hk
       replace HO531 := IsS64.sk_ HI0 HO531 hk
       replace HK := kh_ HK hk
       replace HB := Aside0.mk (hb)
       replace HI0 := Aside0.mk (hi)
       (try clear hb)
       (try clear hk)
       (try clear hi)
       obtain ⟨Ao23, co23, eo23⟩ := Kd.S_slice HO531.out
       (first | subst eo23 | (obtain ⟨rfl, rfl⟩ := si_ eo23))
       obtain ⟨Ao24, co24, eo24⟩ := Kd.R_slice HO525.out
       (first | subst eo24 | (obtain ⟨rfl, rfl⟩ := si_ eo24))
       refine hK.out _ _ (e4_ BK519.out) (fun hHeld => ?_)
       clear hK K
       refine norm_ (a' := ?_) ?_ ?_
       rotate_left
       ·
        show Act.put _ (some 18) _ = _
        simp only [fr_]
        rfl
       refine pw_ 9 21 (b_ 10 2) rfl rfl HT_.out ?_
       exact norm_ (by first | (simp only [putAll, fr_]; done) | (simp only [putAll, fr_]; rfl)) (hJ1_4_6_8 (.slice Ao24 t523.length co24, .slice Ao23 y529.length co23) _ ⟨hHeld, (rp_ HO513.out), (rp_ HO525.out), (sp_ HO531.out), (pb_ BK510.out), (pb_ BK519.out), (IsS64.pk_ HI0.out), (ku_ HK.out), (hs_ HB.out)⟩)
      skip
      refine bs1_ 6 #[.int .i64 0, .slice none 0 0, .int .i64 0, .int .i64 0, .slice none 0 0] 33 ?_
      intro gb532 hg w22 hbox hb
      replace HO513 := rb_ HO513 hb
      replace HO525 := rb_ HO525 hb
      replace HO531 := sb_ HO531 hb
      replace HB := st_ HB hb
      have BK532 := Aside0.mk (hbox)
      have GW532 := Ge_.mk ((by rw [hg]; exact (ks_ HK) : w.heap.size ≤ gb532))
      have GE532 := Ge_.mk ((Nat.le_trans HW0.out (by rw [hg]; exact (ks_ HK) : w.heap.size ≤ gb532) : w0.heap.size ≤ gb532))
      replace HK := kt_ HK hb
      have NB510_532 := nk_ BK510 hg
      have NB532_510 := Ne_.mk (ng_ BK510.out hg)
      replace BK510 := bk2_ BK510 hb
      have NB519_532 := nk_ BK519 hg
      have NB532_519 := Ne_.mk (ng_ BK519.out hg)
      replace BK519 := bk2_ BK519 hb
      have NB0_532 := IsS64.nl_ HI0 hg
      have NB532_0 := IsS64.ng_ HI0 hg
      replace HI0 := IsS64.bk_ HI0 hb
      clear hb hbox hg
      refine hK.out _ _ (e4_ BK519.out) (fun hHeld => ?_)
      clear hK K
      refine norm_ (a' := ?_) ?_ ?_
      rotate_left
      ·
       show Act.put _ (some 6) _ = _
       simp only [fr_]
       rfl
      exact norm_ (by first | (simp only [putAll, fr_]; done) | (simp only [putAll, fr_]; rfl)) (hJ1_4_8_10 (v524, v530, gb532) _ ⟨hHeld, (rp_ HO513.out), (rp_ HO525.out), (sp_ HO531.out), (pb_ BK510.out), (pb_ BK519.out), (pb_ BK532.out), GW532.out, GE532.out, NB0_532.out, NB532_0.out, NB510_532.out, NB532_510.out, NB519_532.out, NB532_519.out, (IsS64.pk_ HI0.out), (ku_ HK.out), (hs_ HB.out)⟩)
     skip
     rintro v524 w20 ⟨hS_, h0_, h1_, h2_, h3_, h4_, h5_, h6_⟩
     replace HO513 : Aside0 (Kd.R k83 83 w20 w.heap.size (fun k_ => some k_ ≠ (v524 : Value).ownBlock) (.slice Ao11 t511.length co11) t511) := ⟨h0_⟩
     have HO525 : Aside0 (Kd.R k83 83 w20 w.heap.size (fun k_ => some k_ ≠ (.slice Ao11 t511.length co11 : Value).ownBlock) v524 t523) := ⟨h1_⟩
     replace BK510 : Aside0 (w20.heap[gb510]? = some (.cells #[.int .i64 0, .slice none 0 0, .int .i64 0, .int .i64 0, .slice none 0 0] 33 (0, 0))) := ⟨h2_⟩
     replace BK519 : Aside0 (w20.heap[gb519]? = some (.cells #[.slice Ao11 t511.length co11, .int .i64 t514, .int .i64 t515, .string t516] 37 (0, 0))) := ⟨h3_⟩
     replace HI0 : Aside0 (IsS64 w0 w20 g s0_0 t527 t528) := ⟨h4_⟩
     replace HK : Aside0 (KeepBut w w20 g none) := ⟨h5_⟩
     replace HB : Aside0 (Below w0.heap.size w0 w20) := ⟨h6_⟩
     clear h0_ h1_ h2_ h3_ h4_ h5_ h6_
     have hHeld : w20.cell? ⟨gb519, 0, none⟩ = some (.slice Ao11 t511.length co11) ∧ w20.cell? ⟨gb519, 1, none⟩ = some (.int .i64 t514) ∧ w20.cell? ⟨gb519, 2, none⟩ = some (.int .i64 t515) ∧ w20.cell? ⟨gb519, 3, none⟩ = some (.string t516) := hS_
     refine norm_ (a' := ?_) ?_ ?_
     rotate_left
     ·
      simp only [putAll, fr_]
      rfl
     refine two_ (i := 8) (j := 10) (Ni := some 20) (Nj := some 6) (b_ 9 3) #[t_,t_,t_,t_,t_,t_,t_,t_,f_,f_,t_,f_] rfl rfl rfl rfl (two_of HT_.out (by kernel_rfl)) (by decide) (by decide) (fun K hK => ?_) (fun K hK => ?_)
     ·
      skip
      refine Kd.S_lit1_step k37 w.heap.size 37 ?hg (N := 20) ?hd (x := (⟨t511, t514, t515, t516⟩ : S37)) (cs := [.slice Ao11 t511.length co11, .int .i64 t514, .int .i64 t515, .string t516]) (ok := (fun k_ => some k_ ≠ (v524 : Value).ownBlock ∧ k_ ≠ gb519)) (okp := (fun k_ => some k_ = (.slice Ao11 t511.length co11 : Value).ownBlock)) ?hr ?hp (fun k_ hk_ => ((Kd.R_mono (ok' := (fun k_ => some k_ ≠ (v524 : Value).ownBlock ∧ k_ ≠ gb519)) (Kd.R_types (HO513.out) BK519.out (by decide)) (fun k_ hk => ⟨hk.1, hk.2⟩))).1 k_ hk_.symm) ?hf ?aS ?_; (case hd => rfl); (case hg => rfl); (case hr => first | (go_simp; done) | (go_simp; rfl)); (case hp => exact (k37_mkM _ _ _ (⟨t511, t514, t515, t516⟩ : S37) (Kd.R_mono (Kd.R_tight rfl (Kd.R_mono (ok' := (fun k_ => some k_ ≠ (v524 : Value).ownBlock ∧ k_ ≠ gb519)) (Kd.R_types (HO513.out) BK519.out (by decide)) (fun k_ hk => ⟨hk.1, hk.2⟩))) (fun _ h_ => h_))))
      (case hf => exact (show ∀ k_, w20.heap.size ≤ k_ → ((fun k_ => some k_ ≠ (v524 : Value).ownBlock ∧ k_ ≠ gb519)) k_ from fun k_ hk => ⟨Kd.fresh' (Kd.R_lt (rp_ HO525.out)) k_ hk, Kd.freshB (g := gb519) (o := .cells #[.slice Ao11 t511.length co11, .int .i64 t514, .int .i64 t515, .string t516] 37 (0, 0)) (pb_ BK519.out) k_ hk⟩) _ (Nat.le_refl _))
      (case aS => exact (ks_ HK))
      intro v530 w21 ho22 hb hnew_
      rw [← Ny529.out] at ho22
      replace HO513 := rb_ HO513 hb
      replace HO525 := rb_ HO525 hb
      have HO531 := Aside0.mk (ho22)
      replace HI0 := IsS64.bk_ HI0 hb
      replace BK510 := bk2_ BK510 hb
      replace BK519 := bk2_ BK519 hb
      replace HK := kt_ HK hb
      replace HB := st_ HB hb
      clear hb hnew_ ho22
      obtain ⟨Ao23, co23, eo23⟩ := Kd.S_slice HO531.out
      (first | subst eo23 | (obtain ⟨rfl, rfl⟩ := si_ eo23))
      obtain ⟨Ao24, co24, eo24⟩ := Kd.R_slice HO525.out
      (first | subst eo24 | (obtain ⟨rfl, rfl⟩ := si_ eo24))
      refine hK.out _ _ (e4_ BK519.out) (fun hHeld => ?_)
      clear hK K
      refine norm_ (a' := ?_) ?_ ?_
      rotate_left
      ·
       show Act.put _ (some 20) _ = _
       simp only [fr_]
       rfl
      refine pw_ 9 21 (b_ 10 2) rfl rfl HT_.out ?_
      exact norm_ (by first | (simp only [putAll, fr_]; done) | (simp only [putAll, fr_]; rfl)) (hJ1_4_6_8 (.slice Ao24 t523.length co24, .slice Ao23 y529.length co23) _ ⟨hHeld, (rp_ HO513.out), (rp_ HO525.out), (sp_ HO531.out), (pb_ BK510.out), (pb_ BK519.out), (IsS64.pk_ HI0.out), (ku_ HK.out), (hs_ HB.out)⟩)
     skip
     refine bs1_ 6 #[.int .i64 0, .slice none 0 0, .int .i64 0, .int .i64 0, .slice none 0 0] 33 ?_
     intro gb532 hg w21 hbox hb
     replace HO513 := rb_ HO513 hb
     replace HO525 := rb_ HO525 hb
     replace HB := st_ HB hb
     have BK532 := Aside0.mk (hbox)
     have GW532 := Ge_.mk ((by rw [hg]; exact (ks_ HK) : w.heap.size ≤ gb532))
     have GE532 := Ge_.mk ((Nat.le_trans HW0.out (by rw [hg]; exact (ks_ HK) : w.heap.size ≤ gb532) : w0.heap.size ≤ gb532))
     replace HK := kt_ HK hb
     have NB510_532 := nk_ BK510 hg
     have NB532_510 := Ne_.mk (ng_ BK510.out hg)
     replace BK510 := bk2_ BK510 hb
     have NB519_532 := nk_ BK519 hg
     have NB532_519 := Ne_.mk (ng_ BK519.out hg)
     replace BK519 := bk2_ BK519 hb
     have NB0_532 := IsS64.nl_ HI0 hg
     have NB532_0 := IsS64.ng_ HI0 hg
     replace HI0 := IsS64.bk_ HI0 hb
     clear hb hbox hg
     refine hK.out _ _ (e4_ BK519.out) (fun hHeld => ?_)
     clear hK K
     refine norm_ (a' := ?_) ?_ ?_
     rotate_left
     ·
      show Act.put _ (some 6) _ = _
      simp only [fr_]
      rfl
     exact norm_ (by first | (simp only [putAll, fr_]; done) | (simp only [putAll, fr_]; rfl)) (hJ1_4_6_10 (v524, gb532) _ ⟨hHeld, (rp_ HO513.out), (rp_ HO525.out), (pb_ BK510.out), (pb_ BK519.out), (pb_ BK532.out), GW532.out, GE532.out, NB0_532.out, NB532_0.out, NB510_532.out, NB532_510.out, NB519_532.out, NB532_519.out, (IsS64.pk_ HI0.out), (ku_ HK.out), (hs_ HB.out)⟩)
    skip
    rintro ⟨v524, v530, gb532⟩ w22 ⟨hS_, h0_, h1_, h2_, h3_, h4_, h5_, h6_, h7_, h8_, h9_, h10_, h11_, h12_, h13_, h14_, h15_, h16_⟩
    replace HO513 : Aside0 (Kd.R k83 83 w22 w.heap.size (fun k_ => some k_ ≠ (v524 : Value).ownBlock) (.slice Ao11 t511.length co11) t511) := ⟨h0_⟩
    have HO525 : Aside0 (Kd.R k83 83 w22 w.heap.size (fun k_ => some k_ ≠ (.slice Ao11 t511.length co11 : Value).ownBlock) v524 t523) := ⟨h1_⟩
    have HO531 : Aside0 (Kd.S k37 37 w22 w.heap.size (fun k_ => some k_ ≠ (v524 : Value).ownBlock ∧ k_ ≠ gb519) v530 y529) := ⟨h2_⟩
    replace BK510 : Aside0 (w22.heap[gb510]? = some (.cells #[.int .i64 0, .slice none 0 0, .int .i64 0, .int .i64 0, .slice none 0 0] 33 (0, 0))) := ⟨h3_⟩
    replace BK519 : Aside0 (w22.heap[gb519]? = some (.cells #[.slice Ao11 t511.length co11, .int .i64 t514, .int .i64 t515, .string t516] 37 (0, 0))) := ⟨h4_⟩
    have BK532 : Aside0 (w22.heap[gb532]? = some (.cells #[.int .i64 0, .slice none 0 0, .int .i64 0, .int .i64 0, .slice none 0 0] 33 (0, 0))) := ⟨h5_⟩
    have GW532 := Ge_.mk h6_
    have GE532 := Ge_.mk h7_
    have NB0_532 := Ne_.mk h8_
    have NB532_0 := Ne_.mk h9_
    have NB510_532 := Ne_.mk h10_
    have NB532_510 := Ne_.mk h11_
    have NB519_532 := Ne_.mk h12_
    have NB532_519 := Ne_.mk h13_
    replace HI0 : Aside0 (IsS64 w0 w22 g s0_0 t521 t522) := ⟨h14_⟩
    replace HK : Aside0 (KeepBut w w22 g none) := ⟨h15_⟩
    replace HB : Aside0 (Below w0.heap.size w0 w22) := ⟨h16_⟩
    clear h0_ h1_ h2_ h3_ h4_ h5_ h6_ h7_ h8_ h9_ h10_ h11_ h12_ h13_ h14_ h15_ h16_
    have hHeld : w22.cell? ⟨gb519, 0, none⟩ = some (.slice Ao11 t511.length co11) ∧ w22.cell? ⟨gb519, 1, none⟩ = some (.int .i64 t514) ∧ w22.cell? ⟨gb519, 2, none⟩ = some (.int .i64 t515) ∧ w22.cell? ⟨gb519, 3, none⟩ = some (.string t516) := hS_
    refine norm_ (a' := ?_) ?_ ?_
    rotate_left
    ·
     simp only [putAll, fr_]
     rfl
    refine one_ (i := 6) (N := some 18) #[t_,t_,t_,t_,t_,t_,t_,t_,t_,f_,t_,f_] rfl rfl (one_of HT_.out (by kernel_rfl)) (by decide) (fun K hK => ?_)
    refine gs_ Tryd.func43 #[.pointer (some ⟨g, 0, none⟩), .int .i64 5] ?_
    with_reducible refine (spec_l1Below.calls g s0_0 t521 t522 5 t526 t527 t528 w0 _ ?side1 ?side2 A6.out).mono ?_
    (case side1 => exact IsS64.pk_ HI0.out)
    (case side2 => exact hs_ HB.out)
    rintro e w23 ⟨rfl, hi, hb, hk⟩
    refine ⟨_, rfl, ?_⟩
    replace BK510 := kb_ hk BK510
    replace HO513 := IsS64.rk_ HI0 HO513 hk
    replace BK519 := kb_ hk BK519
    replace HO525 := IsS64.rk_ HI0 HO525 hk
    replace HO531 := IsS64.sk_ HI0 HO531 hk
    replace BK532 := kb_ hk BK532
    replace HK := kh_ HK hk
    replace HB := Aside0.mk (hb)
    replace HI0 := Aside0.mk (hi)
    (try clear hb)
    (try clear hk)
    (try clear hi)
    obtain ⟨Ao24, co24, eo24⟩ := Kd.S_slice HO531.out
    (first | subst eo24 | (obtain ⟨rfl, rfl⟩ := si_ eo24))
    obtain ⟨Ao25, co25, eo25⟩ := Kd.R_slice HO525.out
    (first | subst eo25 | (obtain ⟨rfl, rfl⟩ := si_ eo25))
    refine hK.out _ _ (e4_ BK519.out) (fun hHeld => ?_)
    clear hK K
    refine norm_ (a' := ?_) ?_ ?_
    rotate_left
    ·
     show Act.put _ (some 18) _ = _
     simp only [fr_]
     rfl
    refine pw_ 9 21 (b_ 11 1) rfl rfl HT_.out ?_
    exact norm_ (by first | (simp only [putAll, fr_]; done) | (simp only [putAll, fr_]; rfl)) (hJ1_4_6_8_10 (.slice Ao25 t523.length co25, .slice Ao24 y529.length co24, gb532) _ ⟨hHeld, (rp_ HO513.out), (rp_ HO525.out), (sp_ HO531.out), (pb_ BK510.out), (pb_ BK519.out), (pb_ BK532.out), GW532.out, GE532.out, NB0_532.out, NB532_0.out, NB510_532.out, NB532_510.out, NB519_532.out, NB532_519.out, (IsS64.pk_ HI0.out), (ku_ HK.out), (hs_ HB.out)⟩)
   skip
   rintro ⟨v524, gb532⟩ w21 ⟨hS_, h0_, h1_, h2_, h3_, h4_, h5_, h6_, h7_, h8_, h9_, h10_, h11_, h12_, h13_, h14_, h15_⟩
   replace HO513 : Aside0 (Kd.R k83 83 w21 w.heap.size (fun k_ => some k_ ≠ (v524 : Value).ownBlock) (.slice Ao11 t511.length co11) t511) := ⟨h0_⟩
   have HO525 : Aside0 (Kd.R k83 83 w21 w.heap.size (fun k_ => some k_ ≠ (.slice Ao11 t511.length co11 : Value).ownBlock) v524 t523) := ⟨h1_⟩
   replace BK510 : Aside0 (w21.heap[gb510]? = some (.cells #[.int .i64 0, .slice none 0 0, .int .i64 0, .int .i64 0, .slice none 0 0] 33 (0, 0))) := ⟨h2_⟩
   replace BK519 : Aside0 (w21.heap[gb519]? = some (.cells #[.slice Ao11 t511.length co11, .int .i64 t514, .int .i64 t515, .string t516] 37 (0, 0))) := ⟨h3_⟩
   have BK532 : Aside0 (w21.heap[gb532]? = some (.cells #[.int .i64 0, .slice none 0 0, .int .i64 0, .int .i64 0, .slice none 0 0] 33 (0, 0))) := ⟨h4_⟩
   have GW532 := Ge_.mk h5_
   have GE532 := Ge_.mk h6_
   have NB0_532 := Ne_.mk h7_
   have NB532_0 := Ne_.mk h8_
   have NB510_532 := Ne_.mk h9_
   have NB532_510 := Ne_.mk h10_
   have NB519_532 := Ne_.mk h11_
   have NB532_519 := Ne_.mk h12_
   replace HI0 : Aside0 (IsS64 w0 w21 g s0_0 t527 t528) := ⟨h13_⟩
   replace HK : Aside0 (KeepBut w w21 g none) := ⟨h14_⟩
   replace HB : Aside0 (Below w0.heap.size w0 w21) := ⟨h15_⟩
   clear h0_ h1_ h2_ h3_ h4_ h5_ h6_ h7_ h8_ h9_ h10_ h11_ h12_ h13_ h14_ h15_
   have hHeld : w21.cell? ⟨gb519, 0, none⟩ = some (.slice Ao11 t511.length co11) ∧ w21.cell? ⟨gb519, 1, none⟩ = some (.int .i64 t514) ∧ w21.cell? ⟨gb519, 2, none⟩ = some (.int .i64 t515) ∧ w21.cell? ⟨gb519, 3, none⟩ = some (.string t516) := hS_
   refine norm_ (a' := ?_) ?_ ?_
   rotate_left
   ·
    simp only [putAll, fr_]
    rfl
   refine one_ (i := 8) (N := some 20) #[t_,t_,t_,t_,t_,t_,t_,t_,t_,f_,t_,f_] rfl rfl (one_of HT_.out (by kernel_rfl)) (by decide) (fun K hK => ?_)
   refine Kd.S_lit1_step k37 w.heap.size 37 ?hg (N := 20) ?hd (x := (⟨t511, t514, t515, t516⟩ : S37)) (cs := [.slice Ao11 t511.length co11, .int .i64 t514, .int .i64 t515, .string t516]) (ok := (fun k_ => some k_ ≠ (v524 : Value).ownBlock ∧ k_ ≠ gb519)) (okp := (fun k_ => some k_ = (.slice Ao11 t511.length co11 : Value).ownBlock)) ?hr ?hp (fun k_ hk_ => ((Kd.R_mono (ok' := (fun k_ => some k_ ≠ (v524 : Value).ownBlock ∧ k_ ≠ gb519)) (Kd.R_types (HO513.out) BK519.out (by decide)) (fun k_ hk => ⟨hk.1, hk.2⟩))).1 k_ hk_.symm) ?hf ?aS ?_; (case hd => rfl); (case hg => rfl); (case hr => first | (go_simp; done) | (go_simp; rfl)); (case hp => exact (k37_mkM _ _ _ (⟨t511, t514, t515, t516⟩ : S37) (Kd.R_mono (Kd.R_tight rfl (Kd.R_mono (ok' := (fun k_ => some k_ ≠ (v524 : Value).ownBlock ∧ k_ ≠ gb519)) (Kd.R_types (HO513.out) BK519.out (by decide)) (fun k_ hk => ⟨hk.1, hk.2⟩))) (fun _ h_ => h_))))
   (case hf => exact (show ∀ k_, w21.heap.size ≤ k_ → ((fun k_ => some k_ ≠ (v524 : Value).ownBlock ∧ k_ ≠ gb519)) k_ from fun k_ hk => ⟨Kd.fresh' (Kd.R_lt (rp_ HO525.out)) k_ hk, Kd.freshB (g := gb519) (o := .cells #[.slice Ao11 t511.length co11, .int .i64 t514, .int .i64 t515, .string t516] 37 (0, 0)) (pb_ BK519.out) k_ hk⟩) _ (Nat.le_refl _))
   (case aS => exact (ks_ HK))
   intro v530 w22 ho23 hb hnew_
   rw [← Ny529.out] at ho23
   replace HO513 := rb_ HO513 hb
   replace HO525 := rb_ HO525 hb
   have HO531 := Aside0.mk (ho23)
   replace HI0 := IsS64.bk_ HI0 hb
   replace BK510 := bk2_ BK510 hb
   replace BK519 := bk2_ BK519 hb
   replace BK532 := bk2_ BK532 hb
   replace HK := kt_ HK hb
   replace HB := st_ HB hb
   clear hb hnew_ ho23
   obtain ⟨Ao24, co24, eo24⟩ := Kd.S_slice HO531.out
   (first | subst eo24 | (obtain ⟨rfl, rfl⟩ := si_ eo24))
   obtain ⟨Ao25, co25, eo25⟩ := Kd.R_slice HO525.out
   (first | subst eo25 | (obtain ⟨rfl, rfl⟩ := si_ eo25))
   refine hK.out _ _ (e4_ BK519.out) (fun hHeld => ?_)
   clear hK K
   refine norm_ (a' := ?_) ?_ ?_
   rotate_left
   ·
    show Act.put _ (some 20) _ = _
    simp only [fr_]
    rfl
   refine pw_ 9 21 (b_ 11 1) rfl rfl HT_.out ?_
   exact norm_ (by first | (simp only [putAll, fr_]; done) | (simp only [putAll, fr_]; rfl)) (hJ1_4_6_8_10 (.slice Ao25 t523.length co25, .slice Ao24 y529.length co24, gb532) _ ⟨hHeld, (rp_ HO513.out), (rp_ HO525.out), (sp_ HO531.out), (pb_ BK510.out), (pb_ BK519.out), (pb_ BK532.out), GW532.out, GE532.out, NB0_532.out, NB532_0.out, NB510_532.out, NB532_510.out, NB519_532.out, NB532_519.out, (IsS64.pk_ HI0.out), (ku_ HK.out), (hs_ HB.out)⟩)
  skip
  rintro ⟨v524, v530⟩ w24 ⟨hS_, h0_, h1_, h2_, h3_, h4_, h5_, h6_, h7_⟩
  replace HO513 : Aside0 (Kd.R k83 83 w24 w.heap.size (fun k_ => some k_ ≠ (v524 : Value).ownBlock) (.slice Ao11 t511.length co11) t511) := ⟨h0_⟩
  have HO525 : Aside0 (Kd.R k83 83 w24 w.heap.size (fun k_ => some k_ ≠ (.slice Ao11 t511.length co11 : Value).ownBlock) v524 t523) := ⟨h1_⟩
  have HO531 : Aside0 (Kd.S k37 37 w24 w.heap.size (fun k_ => some k_ ≠ (v524 : Value).ownBlock ∧ k_ ≠ gb519) v530 y529) := ⟨h2_⟩
  replace BK510 : Aside0 (w24.heap[gb510]? = some (.cells #[.int .i64 0, .slice none 0 0, .int .i64 0, .int .i64 0, .slice none 0 0] 33 (0, 0))) := ⟨h3_⟩
  replace BK519 : Aside0 (w24.heap[gb519]? = some (.cells #[.slice Ao11 t511.length co11, .int .i64 t514, .int .i64 t515, .string t516] 37 (0, 0))) := ⟨h4_⟩
  replace HI0 : Aside0 (IsS64 w0 w24 g s0_0 t527 t528) := ⟨h5_⟩
  replace HK : Aside0 (KeepBut w w24 g none) := ⟨h6_⟩
  replace HB : Aside0 (Below w0.heap.size w0 w24) := ⟨h7_⟩
  clear h0_ h1_ h2_ h3_ h4_ h5_ h6_ h7_
  have hHeld : w24.cell? ⟨gb519, 0, none⟩ = some (.slice Ao11 t511.length co11) ∧ w24.cell? ⟨gb519, 1, none⟩ = some (.int .i64 t514) ∧ w24.cell? ⟨gb519, 2, none⟩ = some (.int .i64 t515) ∧ w24.cell? ⟨gb519, 3, none⟩ = some (.string t516) := hS_
  obtain ⟨Ao25, co25, eo25⟩ := Kd.S_slice HO531.out
  (first | subst eo25 | (obtain ⟨rfl, rfl⟩ := si_ eo25))
  obtain ⟨Ao26, co26, eo26⟩ := Kd.R_slice HO525.out
  (first | subst eo26 | (obtain ⟨rfl, rfl⟩ := si_ eo26))
  refine norm_ (a' := ?_) ?_ ?_
  rotate_left
  ·
   simp only [putAll, fr_]
   rfl
  refine one_ (i := 10) (N := some 6) (b_ 11 1) rfl rfl (one_of HT_.out (by kernel_rfl)) (by decide) (fun K hK => ?_)
  refine bs1_ 6 #[.int .i64 0, .slice none 0 0, .int .i64 0, .int .i64 0, .slice none 0 0] 33 ?_
  intro gb532 hg w27 hbox hb
  replace HO513 := rb_ HO513 hb
  replace HO525 := rb_ HO525 hb
  replace HO531 := sb_ HO531 hb
  replace HB := st_ HB hb
  have BK532 := Aside0.mk (hbox)
  have GW532 := Ge_.mk ((by rw [hg]; exact (ks_ HK) : w.heap.size ≤ gb532))
  have GE532 := Ge_.mk ((Nat.le_trans HW0.out (by rw [hg]; exact (ks_ HK) : w.heap.size ≤ gb532) : w0.heap.size ≤ gb532))
  replace HK := kt_ HK hb
  have NB510_532 := nk_ BK510 hg
  have NB532_510 := Ne_.mk (ng_ BK510.out hg)
  replace BK510 := bk2_ BK510 hb
  have NB519_532 := nk_ BK519 hg
  have NB532_519 := Ne_.mk (ng_ BK519.out hg)
  replace BK519 := bk2_ BK519 hb
  have NB0_532 := IsS64.nl_ HI0 hg
  have NB532_0 := IsS64.ng_ HI0 hg
  replace HI0 := IsS64.bk_ HI0 hb
  clear hb hbox hg
  refine hK.out _ _ (e4_ BK519.out) (fun hHeld => ?_)
  clear hK K
  refine norm_ (a' := ?_) ?_ ?_
  rotate_left
  ·
   show Act.put _ (some 6) _ = _
   simp only [fr_]
   rfl
  exact norm_ (by first | (simp only [putAll, fr_]; done) | (simp only [putAll, fr_]; rfl)) (hJ1_4_6_8_10 (.slice Ao26 t523.length co26, .slice Ao25 y529.length co25, gb532) _ ⟨hHeld, (rp_ HO513.out), (rp_ HO525.out), (sp_ HO531.out), (pb_ BK510.out), (pb_ BK519.out), (pb_ BK532.out), GW532.out, GE532.out, NB0_532.out, NB532_0.out, NB510_532.out, NB532_510.out, NB519_532.out, NB532_519.out, (IsS64.pk_ HI0.out), (ku_ HK.out), (hs_ HB.out)⟩)
 rintro ⟨v524, v530, gb532⟩ w25 ⟨hS_, h0_, h1_, h2_, h3_, h4_, h5_, h6_, h7_, h8_, h9_, h10_, h11_, h12_, h13_, h14_, h15_, h16_⟩
 replace HO513 : Aside0 (Kd.R k83 83 w25 w.heap.size (fun k_ => some k_ ≠ (v524 : Value).ownBlock) (.slice Ao11 t511.length co11) t511) := ⟨h0_⟩
 have HO525 : Aside0 (Kd.R k83 83 w25 w.heap.size (fun k_ => some k_ ≠ (.slice Ao11 t511.length co11 : Value).ownBlock) v524 t523) := ⟨h1_⟩
 have HO531 : Aside0 (Kd.S k37 37 w25 w.heap.size (fun k_ => some k_ ≠ (v524 : Value).ownBlock ∧ k_ ≠ gb519) v530 y529) := ⟨h2_⟩
 replace BK510 : Aside0 (w25.heap[gb510]? = some (.cells #[.int .i64 0, .slice none 0 0, .int .i64 0, .int .i64 0, .slice none 0 0] 33 (0, 0))) := ⟨h3_⟩
 replace BK519 : Aside0 (w25.heap[gb519]? = some (.cells #[.slice Ao11 t511.length co11, .int .i64 t514, .int .i64 t515, .string t516] 37 (0, 0))) := ⟨h4_⟩
 have BK532 : Aside0 (w25.heap[gb532]? = some (.cells #[.int .i64 0, .slice none 0 0, .int .i64 0, .int .i64 0, .slice none 0 0] 33 (0, 0))) := ⟨h5_⟩
 have GW532 := Ge_.mk h6_
 have GE532 := Ge_.mk h7_
 have NB0_532 := Ne_.mk h8_
 have NB532_0 := Ne_.mk h9_
 have NB510_532 := Ne_.mk h10_
 have NB532_510 := Ne_.mk h11_
 have NB519_532 := Ne_.mk h12_
 have NB532_519 := Ne_.mk h13_
 replace HI0 : Aside0 (IsS64 w0 w25 g s0_0 t527 t528) := ⟨h14_⟩
 replace HK : Aside0 (KeepBut w w25 g none) := ⟨h15_⟩
 replace HB : Aside0 (Below w0.heap.size w0 w25) := ⟨h16_⟩
 clear h0_ h1_ h2_ h3_ h4_ h5_ h6_ h7_ h8_ h9_ h10_ h11_ h12_ h13_ h14_ h15_ h16_
 have hHeld : w25.cell? ⟨gb519, 0, none⟩ = some (.slice Ao11 t511.length co11) ∧ w25.cell? ⟨gb519, 1, none⟩ = some (.int .i64 t514) ∧ w25.cell? ⟨gb519, 2, none⟩ = some (.int .i64 t515) ∧ w25.cell? ⟨gb519, 3, none⟩ = some (.string t516) := hS_
 obtain ⟨Ao26, co26, eo26⟩ := Kd.S_slice HO531.out
 (first | subst eo26 | (obtain ⟨rfl, rfl⟩ := si_ eo26))
 obtain ⟨Ao27, co27, eo27⟩ := Kd.R_slice HO525.out
 (first | subst eo27 | (obtain ⟨rfl, rfl⟩ := si_ eo27))
 refine norm_ (a' := ?_) ?_ ?_
 rotate_left
 ·
  simp only [putAll, fr_]
  rfl
 refine one_ (i := 11) (N := none) (b_ 12 0) rfl rfl (one_of HT_.out (by kernel_rfl)) (by decide) (fun K hK => ?_)
 have hs28 : w25.cell? ⟨gb532, 0, none⟩ = some (.int .i64 0) := bx_ BK532.out 0
 have hfs28 := blk_frozen BK532.out 0
 have hns28_0 := NB510_532.out
 have hns28_1 := NB519_532.out
 have hms28_0 := NB532_510.out
 have hms28_1 := NB532_519.out
 have hs29 : w25.cell? ⟨gb532, 1, none⟩ = some (.slice none 0 0) := bx_ BK532.out 1
 have hfs29 := blk_frozen BK532.out 1
 have hns29_0 := NB510_532.out
 have hns29_1 := NB519_532.out
 have hms29_0 := NB532_510.out
 have hms29_1 := NB532_519.out
 have hs30 : w25.cell? ⟨gb532, 2, none⟩ = some (.int .i64 0) := bx_ BK532.out 2
 have hfs30 := blk_frozen BK532.out 2
 have hns30_0 := NB510_532.out
 have hns30_1 := NB519_532.out
 have hms30_0 := NB532_510.out
 have hms30_1 := NB532_519.out
 have hs31 : w25.cell? ⟨gb532, 3, none⟩ = some (.int .i64 0) := bx_ BK532.out 3
 have hfs31 := blk_frozen BK532.out 3
 have hns31_0 := NB510_532.out
 have hns31_1 := NB519_532.out
 have hms31_0 := NB532_510.out
 have hms31_1 := NB532_519.out
 have hs32 : w25.cell? ⟨gb532, 4, none⟩ = some (.slice none 0 0) := bx_ BK532.out 4
 have hfs32 := blk_frozen BK532.out 4
 have hns32_0 := NB510_532.out
 have hns32_1 := NB519_532.out
 have hms32_0 := NB532_510.out
 have hms32_1 := NB532_519.out
 refine skip_ (w1 := ?_) (by rfl) rfl ?_ ?_
 rotate_left
 ·
  go_simp
  rfl
 refine hK.out _ _ ⟨(cg_ (hHeld.1)), (cg_ (hHeld.2.1)), (cg_ (hHeld.2.2.1)), (cg_ (hHeld.2.2.2))⟩ (fun hHeld => ?_)
 clear hK K
 refine done_ (done_of HT_.out (by kernel_rfl)) ?_
 try go_wp2_with (first | ((with_reducible refine gate_callee (f := 43) rfl ?_); refine gl_ (some 23) Tryd.func43 #[.pointer (some ⟨g, 0, none⟩), .int .i64 8] ?_; (with_reducible refine (spec_l1Below.calls g s0_0 t527 t528 8 t533 t534 t535 w0 _ ?side1 ?side2 A7.out).mono ?_); (case side1 => exact IsS64.pk_ HI0.out); (case side2 => exact hs_ HB.out); rintro e w33 ⟨rfl, hi, hb, hk⟩; refine ⟨_, rfl, ?_⟩; replace BK510 := kc_ hk BK510 #[.int .i64 0, .slice none 0 0, .int .i64 0, .int .i64 0, .slice none 0 0]; replace HO513 := Aside0.mk (Kd.R_mono (Kd.R_keep (IsS64.apart (IsS64.pk_ HI0.out) (by (with_reducible repeat (first | apply Kd.R_alloc | apply Kd.R_drewN | apply Kd.R_drew)); exact (Kd.R_mono (rf_ gb532 (Kd.R_types HO513.out BK532.out (by decide)) (fun _ hk => hk.2)) (fun _ h_ => h_.1))) (by decide)) hk (fun _ h => h.2)) (fun _ h => h.1)); replace BK519 := kc_ hk BK519 #[.slice Ao11 t511.length co11, .int .i64 t514, .int .i64 t515, .string t516]; replace HO525 := Aside0.mk (Kd.R_mono (Kd.R_keep (IsS64.apart (IsS64.pk_ HI0.out) (by (with_reducible repeat (first | apply Kd.R_alloc | apply Kd.R_drewN | apply Kd.R_drew)); exact (Kd.R_mono (rf_ gb532 (Kd.R_types HO525.out BK532.out (by decide)) (fun _ hk => hk.2)) (fun _ h_ => h_.1))) (by decide)) hk (fun _ h => h.2)) (fun _ h => h.1)); replace HO531 := Aside0.mk (Kd.S_mono (Kd.S_keep (IsS64.apartS (IsS64.pk_ HI0.out) (by (with_reducible repeat (first | apply Kd.S_alloc | apply Kd.S_drewN | apply Kd.S_drew)); exact (Kd.S_mono (sf_ gb532 (Kd.S_types HO531.out BK532.out (by decide)) (fun _ hk => hk.2)) (fun _ h_ => h_.1))) (by decide)) hk (fun _ h => h.2)) (fun _ h => h.1)); replace BK532 := kc_ hk BK532 #[.int .i64 t520, .slice Ao27 t523.length co27, .int .i64 t526, .int .i64 (-1), .slice Ao26 y529.length co26]; replace HK := kh_ HK hk; replace HB := Aside0.mk (hb); replace HI0 := Aside0.mk (hi); (try clear hb); (try clear hk); (try clear hi)))
 go_loopg [7] k (fun kq v7 w' => ∃ (x7_1 : Int) (x1001_1 : Int) (x1002_1 : Int) (x533000_1 : Int) (x533001_1 : List (S83)) (x533002_1 : Int) (x533003_1 : Int) (x533004_1 : List (S37)) (u533001 : Value) (u533004 : Value), v7 = .int .i64 x7_1 ∧ Aside0 (spec_l11Draw.l0 kq l1 x7_1 s0_0 x1001_1 x1002_1 t511 t514 t515 t516 x533000_1 x533001_1 x533002_1 x533003_1 x533004_1 = some (r1, r2, r3, r4, r5, r6, r7)) ∧ Aside0 (kq ≤ k) ∧ Aside0 (Kd.R k83 83 w' w.heap.size (fun k_ => some k_ ≠ (u533001 : Value).ownBlock) (.slice Ao11 t511.length co11) t511) ∧ Aside0 (Kd.R k83 83 w' w.heap.size (fun k_ => some k_ ≠ ((.slice Ao11 t511.length co11) : Value).ownBlock) u533001 x533001_1) ∧ Aside0 (Kd.S k37 37 w' w.heap.size (fun k_ => some k_ ≠ (u533001 : Value).ownBlock ∧ k_ ≠ gb519) u533004 x533004_1) ∧ Aside0 (w'.heap[gb510]? = some (.cells #[.int .i64 0, (.slice none 0 0), .int .i64 0, .int .i64 0, (.slice none 0 0)] 33 (0, 0))) ∧ Aside0 (w'.heap[gb519]? = some (.cells #[(.slice Ao11 t511.length co11), .int .i64 t514, .int .i64 t515, .string t516] 37 (0, 0))) ∧ Aside0 (w'.heap[gb532]? = some (.cells #[.int .i64 x533000_1, u533001, .int .i64 x533002_1, .int .i64 x533003_1, u533004] 33 (0, 0))) ∧ Aside0 (IsS64 w0 w' g s0_0 x1001_1 x1002_1) ∧ Aside0 (KeepBut w w' g none) ∧ Aside0 (Below w0.heap.size w0 w'))
 case atStart => exact ⟨(t533), (t534), (t535), (t520), (t523), (t526), ((-1)), (y529), (.slice Ao27 t523.length co27), (.slice Ao26 y529.length co26), (by first | rfl | (simp; done) | (simp [*]; done)), H', ⟨Nat.le_refl _⟩, ⟨by (with_reducible repeat (first | apply Kd.R_alloc | apply Kd.R_drewN | apply Kd.R_drew)); exact HO513.out⟩, ⟨by (with_reducible repeat (first | apply Kd.R_alloc | apply Kd.R_drewN | apply Kd.R_drew)); exact HO525.out⟩, ⟨by (with_reducible repeat (first | apply Kd.S_alloc | apply Kd.S_drewN | apply Kd.S_drew)); exact HO531.out⟩, ⟨bq_ BK510.out⟩, ⟨bq_ BK519.out⟩, ⟨bq_ BK532.out⟩, ⟨IsS64.pk_ HI0.out⟩, ⟨ku_ HK.out⟩, ⟨by exact hs_ HB.out⟩⟩
 case round =>
  clear H'
  try clear p2
  try clear c4
  obtain ⟨x7_1, x1001_1, x1002_1, x533000_1, x533001_1, x533002_1, x533003_1, x533004_1, u533001, u533004, rfl, HA, HK1, HO_520000, HO_533001, HO_533004, BK510, BK519, BK532, HI0, HK, HB⟩ := hrel
  cases gk with
  | zero => exact absurd HA.out (by simp [spec_l11Draw.l0])
  | succ k1 =>
   have H := HA.out
   clear HA
   simp only [spec_l11Draw.l0] at H
   by_cases c34 : x7_1 > 0
   ·
    rw [if_pos c34] at H
    have c34b0 : decide (0 < x7_1) = true := decide_eq_true c34
    clear c34
    replace H := Option.bind_eq_some_iff.mp H
    obtain ⟨⟨t536, t539, t540, t541, t542, t543⟩, A350, H⟩ := H
    have A35 := Aside0.mk A350
    clear A350
    replace H := Option.bind_eq_some_iff.mp H
    obtain ⟨t545, A360, H⟩ := H
    have A36 := Aside0.mk A360
    clear A360
    have AHz_ := Aside0.mk H
    clear H
    go_wp2_with (first | ((with_reducible refine gate_callee (f := 45) rfl ?_); refine gl_ (some 29) Tryd.func45 #[.pointer (some ⟨g, 0, none⟩)] ?_; (with_reducible refine (spec_l4Draw.calls k1 g s0_0 x1001_1 x1002_1 t536 t539 t540 t541 t542 t543 w0 _ ?side1 ?side2 A35.out).mono ?_); (case side1 => exact IsS64.pk_ HI0.out); (case side2 => exact hs_ HB.out); rintro e w39 ⟨v537, rfl, ho0, hi, hb, hk⟩; refine ⟨_, rfl, ?_⟩; replace HO_533004 := Aside0.mk (Kd.S_mono (Kd.S_told (Kd.S_oldK (IsS64.apartS (IsS64.pk_ HI0.out) (sp_ HO_533004.out) (by decide)) hk) (Kd.R_base ho0)) (fun _ h_ => h_.1)); replace BK510 := kb_ hk BK510; replace BK519 := kb_ hk BK519; replace BK532 := kb_ hk BK532; have HO538 := Aside0.mk (Kd.R_lower (Kd.R_new' (Kd.R_new' ho0 (Kd.R_lt (rp_ HO_520000.out))) (Kd.R_lt (rp_ HO_533001.out))) (ks_ HK)); replace HO_520000 := Aside0.mk (Kd.R_mono (Kd.R_told (Kd.R_oldK (IsS64.apart (IsS64.pk_ HI0.out) (rp_ HO_520000.out) (by decide)) hk) (Kd.R_base ho0)) (fun _ h_ => h_.1)); replace HO_533001 := Aside0.mk (Kd.R_mono (Kd.R_told (Kd.R_oldK (IsS64.apart (IsS64.pk_ HI0.out) (rp_ HO_533001.out) (by decide)) hk) (Kd.R_base ho0)) (fun _ h_ => h_.1)); replace HK := kh_ HK hk; replace HB := Aside0.mk (hb); replace HI0 := Aside0.mk (hi); (try clear hb); (try clear hk); (try clear hi); (try clear ho0)) | (((with_reducible refine gd_ 8 rfl ?_); refine bv_ 8 #[.slice none 0 0, .int .i64 0, .int .i64 0, .string (⟨#[]⟩ : ByteArray)] 37 ?_; intro gb544 hg w40 hbox hb; replace HO_520000 := rb_ HO_520000 hb; replace HO_533001 := rb_ HO_533001 hb; replace HO_533004 := Aside0.mk (Kd.S_below (Kd.S_elderB (sp_ HO_533004.out) gb544 (Nat.le_of_eq hg.symm)) hb); replace HO538 := rb_ HO538 hb; replace HB := st_ HB hb; have BK544 := Aside0.mk (hbox); have GW544 := Ge_.mk ((by rw [hg]; exact (ks_ HK) : w.heap.size ≤ gb544)); replace HK := kt_ HK hb; have GE544 := gt_ HW0 GW544; have NB510_544 := nk_ BK510 hg; replace BK510 := bk2_ BK510 hb; have NB544_510 := ns_ NB510_544; have NB519_544 := nk_ BK519 hg; replace BK519 := bk2_ BK519 hb; have NB544_519 := ns_ NB519_544; have NB532_544 := nk_ BK532 hg; replace BK532 := bk2_ BK532 hb; have NB544_532 := ns_ NB532_544; have NB0_544 := IsS64.nl_ HI0 hg; replace HI0 := IsS64.bk_ HI0 hb; have NB544_0 := ns_ NB0_544; clear hb hbox hg; obtain ⟨Ao41, co41, eo41⟩ := Kd.R_slice HO538.out; subst eo41; have hnb42 := NB544_510.out; have hnc42 := NB510_544.out; have hnb43 := NB544_519.out; have hnc43 := NB519_544.out; have hnb44 := NB544_532.out; have hnc44 := NB532_544.out; have hnb45 := NB544_0.out; have hnc45 := NB0_544.out; obtain ⟨z46_0, z46_1, z46_2, z46_3, y46_0, y46_1, y46_2, y46_3⟩ := bc4_ BK544.out; have hnb47 := NB519_510.out; have hnc47 := NB510_519.out; have hnb48 := NB519_532.out; have hnc48 := NB532_519.out; have hnb49 := NB519_0.out; have hnc49 := NB0_519.out; obtain ⟨z50_0, z50_1, z50_2, z50_3, y50_0, y50_1, y50_2, y50_3⟩ := bc4_ BK519.out); refine Aside0.out ?_))
    have H := AHz_.out
    clear AHz_
    by_cases c37 : t545 = true
    ·
     subst c37
     rw [if_pos rfl] at H
     replace H := Option.bind_eq_some_iff.mp H
     obtain ⟨⟨t546, t547, t550, t551, t552⟩, A380, H⟩ := H
     have A38 := Aside0.mk A380
     clear A380
     have H' := Aside0.mk H
     clear H
     refine ⟨?_⟩
     go_wp2_with (first | ((with_reducible refine gate_callee (f := 47) rfl ?_); refine gl_ (some 33) Tryd.func47 #[.agg #[.slice Ao11 t511.length co11, .int .i64 t514, .int .i64 t515, .string t516], .agg #[.slice Ao41 t536.length co41, .int .i64 t539, .int .i64 t540, .string t541], .slice A1 l1.length c1] ?_; (with_reducible refine (spec_Together.calls k1 _ _ t511 t514 t515 t516 _ _ t536 t539 t540 t541 _ _ l1 true _ ?side1 ?side2 ?side3 ?side4 ?side5 ?side6 A36.out).mono ?_); (case side1 => refine (Kd.R_reads' (e := 83) (base := w.heap.size) (ok := fun k_ => (some k_ ≠ (u533001 : Value).ownBlock ∧ some k_ ≠ (.slice Ao41 t536.length co41 : Value).ownBlock)) (n := t511.length) (c := co11) ?_).2.2; exact (by (with_reducible repeat (first | apply Kd.R_alloc | apply Kd.R_drewN | apply Kd.R_drew)); exact (Kd.R_mono (rf_ gb544 (Kd.R_types HO_520000.out BK544.out (by decide)) (fun _ hk => hk.2)) (fun _ h_ => h_.1)))); (case side2 => exact (Kd.R_reads' HO_520000.out).2.1); (case side3 => refine (Kd.R_reads' (e := 83) (base := w.heap.size) (ok := fun k_ => ((True ∧ some k_ ≠ (.slice Ao11 t511.length co11 : Value).ownBlock) ∧ some k_ ≠ (u533001 : Value).ownBlock)) (n := t536.length) (c := co41) ?_).2.2; exact (by (with_reducible repeat (first | apply Kd.R_alloc | apply Kd.R_drewN | apply Kd.R_drew)); exact (Kd.R_mono (rf_ gb544 (Kd.R_types HO538.out BK544.out (by decide)) (fun _ hk => hk.2)) (fun _ h_ => h_.1)))); (case side4 => exact (Kd.R_reads' HO538.out).2.1); (case side5 => exact Kd.C_keep (⟨#[]⟩ : ByteArray) HR1.out (ku_ HK.out) hf1); (case side6 => exact HC1.out); rintro e w51 ⟨rfl, hb⟩; refine ⟨_, rfl, ?_⟩; replace HO_520000 := Aside0.mk (Kd.R_below (by (with_reducible repeat (first | apply Kd.R_alloc | apply Kd.R_drewN | apply Kd.R_drew)); exact (Kd.R_mono (rf_ gb544 (Kd.R_types HO_520000.out BK544.out (by decide)) (fun _ hk => hk.2)) (fun _ h_ => h_.1))) hb); replace HO_533001 := Aside0.mk (Kd.R_below (by (with_reducible repeat (first | apply Kd.R_alloc | apply Kd.R_drewN | apply Kd.R_drew)); exact (Kd.R_mono (rf_ gb544 (Kd.R_types HO_533001.out BK544.out (by decide)) (fun _ hk => hk.2)) (fun _ h_ => h_.1))) hb); replace HO_533004 := Aside0.mk (Kd.S_below (by (with_reducible repeat (first | apply Kd.S_alloc | apply Kd.S_drewN | apply Kd.S_drew)); exact (Kd.S_mono (sf_ gb544 (Kd.S_mono HO_533004.out (fun k_ hk => (⟨hk, hk.2⟩ : _ ∧ k_ ≠ gb544))) (fun _ hk => hk.2)) (fun _ h_ => h_.1))) hb); replace HO538 := Aside0.mk (Kd.R_below (by (with_reducible repeat (first | apply Kd.R_alloc | apply Kd.R_drewN | apply Kd.R_drew)); exact (Kd.R_mono (rf_ gb544 (Kd.R_types HO538.out BK544.out (by decide)) (fun _ hk => hk.2)) (fun _ h_ => h_.1))) hb); replace BK510 := bk2_ BK510 hb; replace BK519 := bk2_ BK519 hb; replace BK532 := bk2_ BK532 hb; replace HI0 := Aside0.mk (IsS64.below (show IsS64 w0 ((((w40.setCell ⟨gb544, 0, none⟩ (.slice Ao41 t536.length co41)).setCell ⟨gb544, 1, none⟩ (.int .i64 t539)).setCell ⟨gb544, 2, none⟩ (.int .i64 t540)).setCell ⟨gb544, 3, none⟩ (.string t541)) g s0_0 t542 t543 from IsS64.pk_ HI0.out) hb); replace BK544 := Aside0.mk (blk_below (g := gb544) (o := .cells #[.slice Ao41 t536.length co41, .int .i64 t539, .int .i64 t540, .string t541] 37 (0, 0)) (bp_ BK544.out) hb); replace HK := kt_ HK hb; replace HB := st_ HB hb; (try clear hb); (try clear hk); (try clear hi); have hnb52 := NB532_510.out; have hnc52 := NB510_532.out; have hnb53 := NB532_0.out; have hnc53 := NB0_532.out; obtain ⟨z54_0, z54_1, z54_2, z54_3, z54_4, y54_0, y54_1, y54_2, y54_3, y54_4⟩ := bc5_ BK532.out; obtain ⟨z55_0, z55_1, z55_2, z55_3, y55_0, y55_1, y55_2, y55_3⟩ := bc4_ BK544.out; obtain ⟨Ao56, co56, eo56⟩ := Kd.R_slice HO_533001.out; subst eo56; obtain ⟨Ao57, co57, eo57⟩ := Kd.S_slice HO_533004.out; subst eo57) | ((with_reducible refine gate_callee (f := 48) rfl ?_); refine gl_ (some 36) Tryd.func48 #[.agg #[.int .i64 x533000_1, .slice Ao56 x533001_1.length co56, .int .i64 x533002_1, .int .i64 x533003_1, .slice Ao57 x533004_1.length co57], .agg #[.slice Ao41 t536.length co41, .int .i64 t539, .int .i64 t540, .string t541]] ?_; (with_reducible refine (spec_JoinIn.calls k1 x533000_1 _ _ x533001_1 x533002_1 x533003_1 _ _ x533004_1 _ _ t536 t539 t540 t541 t546 t547 t550 t551 t552 _ ?side1 ?side2 ?side3 ?side4 ?side5 ?side6 A38.out).mono ?_); (case side1 => exact cp_ ((Kd.R_reads' HO_533001.out).2.2)); (case side2 => exact (Kd.R_reads' HO_533001.out).2.1); (case side3 => exact cp_ ((Kd.S_reads' HO_533004.out).2.2)); (case side4 => exact (Kd.S_reads' HO_533004.out).2.1); (case side5 => exact cp_ ((Kd.R_reads' HO538.out).2.2)); (case side6 => exact (Kd.R_reads' HO538.out).2.1); rintro e w58 ⟨v548, v553, rfl, ho0, ho1, hb⟩; refine ⟨_, rfl, ?_⟩; have HO549 := Aside0.mk (Kd.R_lower (Kd.R_new' (Kd.R_new' (Kd.R_new' ho0 (Kd.R_lt (rp_ HO_520000.out))) (Kd.R_lt (rp_ HO_533001.out))) (Kd.R_lt (rp_ HO538.out))) (ks_ HK)); have HO554 := Aside0.mk (Kd.S_lower (Kd.S_newB (Kd.S_newB (Kd.S_new' (Kd.S_new' (Kd.S_new' (Kd.S_new' ho1 (Kd.R_lt (rp_ HO_520000.out))) (Kd.R_lt (rp_ HO_533001.out))) (Kd.S_lt (sp_ HO_533004.out))) (Kd.R_lt (rp_ HO538.out))) (g := gb519) (o := .cells #[.slice Ao11 t511.length co11, .int .i64 t514, .int .i64 t515, .string t516] 37 (0, 0)) (pb_ BK519.out)) (g := gb544) (o := .cells #[.slice Ao41 t536.length co41, .int .i64 t539, .int .i64 t540, .string t541] 37 (0, 0)) (pb_ BK544.out)) (ks_ HK)); replace HO_520000 := Aside0.mk (Kd.R_elder' (rp_ HO_520000.out) (Kd.R_base ho0) hb); replace HO_533001 := Aside0.mk (Kd.R_elder' (rp_ HO_533001.out) (Kd.R_base ho0) hb); replace HO_533004 := Aside0.mk (Kd.S_mono (Kd.S_told (Kd.S_told (Kd.S_old (sp_ HO_533004.out) hb) (Kd.R_base ho0)) (Kd.S_base ho1)) (fun _ h_ => h_.1)); replace HO538 := Aside0.mk (Kd.R_elder' (rp_ HO538.out) (Kd.R_base ho0) hb); replace BK510 := bk2_ BK510 hb; replace BK519 := bk2_ BK519 hb; replace BK532 := bk2_ BK532 hb; replace HI0 := IsS64.bk_ HI0 hb; replace BK544 := bk2_ BK544 hb; replace HK := kt_ HK hb; replace HB := st_ HB hb; (try clear hb); (try clear hk); (try clear hi); (try clear ho0); (try clear ho1)) | ((with_reducible refine gd_ 9 rfl ?_); refine bv_ 9 #[.int .i64 0, .slice none 0 0, .int .i64 0, .int .i64 0, .slice none 0 0] 33 ?_; intro gb555 hg w59 hbox hb; replace HO_520000 := rb_ HO_520000 hb; replace HO_533001 := rb_ HO_533001 hb; replace HO_533004 := sb_ HO_533004 hb; replace HO538 := rb_ HO538 hb; replace HO549 := rb_ HO549 hb; replace HO554 := sb_ HO554 hb; replace HB := st_ HB hb; have BK555 := Aside0.mk (hbox); have GW555 := Ge_.mk ((by rw [hg]; exact (ks_ HK) : w.heap.size ≤ gb555)); replace HK := kt_ HK hb; have GE555 := gt_ HW0 GW555; have NB510_555 := nk_ BK510 hg; replace BK510 := bk2_ BK510 hb; have NB555_510 := ns_ NB510_555; have NB519_555 := nk_ BK519 hg; replace BK519 := bk2_ BK519 hb; have NB555_519 := ns_ NB519_555; have NB532_555 := nk_ BK532 hg; replace BK532 := bk2_ BK532 hb; have NB555_532 := ns_ NB532_555; have NB544_555 := nk_ BK544 hg; replace BK544 := bk2_ BK544 hb; have NB555_544 := ns_ NB544_555; have NB0_555 := IsS64.nl_ HI0 hg; replace HI0 := IsS64.bk_ HI0 hb; have NB555_0 := ns_ NB0_555; clear hb hbox hg; have hnb60 := NB555_510.out; have hnc60 := NB510_555.out; have hnb61 := NB555_519.out; have hnc61 := NB519_555.out; have hnb62 := NB555_532.out; have hnc62 := NB532_555.out; have hnb63 := NB555_544.out; have hnc63 := NB544_555.out; have hnb64 := NB555_0.out; have hnc64 := NB0_555.out; obtain ⟨z65_0, z65_1, z65_2, z65_3, z65_4, y65_0, y65_1, y65_2, y65_3, y65_4⟩ := bc5_ BK555.out; obtain ⟨Ao66, co66, eo66⟩ := Kd.R_slice HO549.out; subst eo66; obtain ⟨Ao67, co67, eo67⟩ := Kd.S_slice HO554.out; subst eo67; obtain ⟨z68_0, z68_1, z68_2, z68_3, z68_4, y68_0, y68_1, y68_2, y68_3, y68_4⟩ := bc5_ BK532.out))
     go_roundg k1
     case measure => have := HK1.out; omega
     case rel => exact ⟨(wrap64 (x7_1 - 1)), (t542), (t543), (t546), (t547), (t550), (t551), (t552), (.slice Ao66 t547.length co66), (.slice Ao67 t552.length co67), (by first | rfl | (simp; done) | (simp [*]; done)), H', ⟨by have := HK1.out; omega⟩, ⟨by (with_reducible repeat (first | apply Kd.R_alloc | apply Kd.R_drewN | apply Kd.R_drew)); exact Kd.R_mono (rf_ gb532 (Kd.R_far (p := ⟨gb555, 4, none⟩) (Kd.R_far (p := ⟨gb555, 3, none⟩) (Kd.R_far (p := ⟨gb555, 2, none⟩) (Kd.R_far (p := ⟨gb555, 1, none⟩) (Kd.R_far (p := ⟨gb555, 0, none⟩) (Kd.R_types (Kd.R_types HO_520000.out BK555.out (by decide)) BK532.out (by decide)) (fun _ hk => hk.1.2) (.int .i64 t546)) (fun _ hk => hk.1.2) (.slice Ao66 t547.length co66)) (fun _ hk => hk.1.2) (.int .i64 t550)) (fun _ hk => hk.1.2) (.int .i64 t551)) (fun _ hk => hk.1.2) (.slice Ao67 t552.length co67)) (fun _ hk => hk.2)) (fun _ hk => hk.1.1.2)⟩, ⟨by (with_reducible repeat (first | apply Kd.R_alloc | apply Kd.R_drewN | apply Kd.R_drew)); exact Kd.R_mono (rf_ gb532 (Kd.R_far (p := ⟨gb555, 4, none⟩) (Kd.R_far (p := ⟨gb555, 3, none⟩) (Kd.R_far (p := ⟨gb555, 2, none⟩) (Kd.R_far (p := ⟨gb555, 1, none⟩) (Kd.R_far (p := ⟨gb555, 0, none⟩) (Kd.R_types (Kd.R_types HO549.out BK555.out (by decide)) BK532.out (by decide)) (fun _ hk => hk.1.2) (.int .i64 t546)) (fun _ hk => hk.1.2) (.slice Ao66 t547.length co66)) (fun _ hk => hk.1.2) (.int .i64 t550)) (fun _ hk => hk.1.2) (.int .i64 t551)) (fun _ hk => hk.1.2) (.slice Ao67 t552.length co67)) (fun _ hk => hk.2)) (fun _ hk => hk.1.1.1.1.2)⟩, ⟨by (with_reducible repeat (first | apply Kd.S_alloc | apply Kd.S_drewN | apply Kd.S_drew)); exact Kd.S_mono (sf_ gb532 (Kd.S_far (p := ⟨gb555, 4, none⟩) (Kd.S_far (p := ⟨gb555, 3, none⟩) (Kd.S_far (p := ⟨gb555, 2, none⟩) (Kd.S_far (p := ⟨gb555, 1, none⟩) (Kd.S_far (p := ⟨gb555, 0, none⟩) (Kd.S_types (Kd.S_types HO554.out BK555.out (by decide)) BK532.out (by decide)) (fun _ hk => hk.1.2) (.int .i64 t546)) (fun _ hk => hk.1.2) (.slice Ao66 t547.length co66)) (fun _ hk => hk.1.2) (.int .i64 t550)) (fun _ hk => hk.1.2) (.int .i64 t551)) (fun _ hk => hk.1.2) (.slice Ao67 t552.length co67)) (fun _ hk => hk.2)) (fun _ hk => ⟨hk.1.1.1.1.1.1.1.1, hk.1.1.1.2⟩)⟩, ⟨bq_ BK510.out⟩, ⟨bq_ BK519.out⟩, ⟨bp_ BK532.out⟩, ⟨IsS64.pk_ HI0.out⟩, ⟨ku_ HK.out⟩, ⟨by exact hs_ HB.out⟩⟩
    replace c37 := Bool.eq_false_iff.mpr c37
    subst c37
    rw [if_neg (show ¬ (false = true) by decide)] at H
    have H' := Aside0.mk H
    clear H
    refine ⟨?_⟩
    go_wp2_with (first | ((with_reducible refine gate_callee (f := 47) rfl ?_); refine gl_ (some 33) Tryd.func47 #[.agg #[.slice Ao11 t511.length co11, .int .i64 t514, .int .i64 t515, .string t516], .agg #[.slice Ao41 t536.length co41, .int .i64 t539, .int .i64 t540, .string t541], .slice A1 l1.length c1] ?_; (with_reducible refine (spec_Together.calls k1 _ _ t511 t514 t515 t516 _ _ t536 t539 t540 t541 _ _ l1 false _ ?side1 ?side2 ?side3 ?side4 ?side5 ?side6 A36.out).mono ?_); (case side1 => refine (Kd.R_reads' (e := 83) (base := w.heap.size) (ok := fun k_ => (some k_ ≠ (u533001 : Value).ownBlock ∧ some k_ ≠ (.slice Ao41 t536.length co41 : Value).ownBlock)) (n := t511.length) (c := co11) ?_).2.2; exact (by (with_reducible repeat (first | apply Kd.R_alloc | apply Kd.R_drewN | apply Kd.R_drew)); exact (Kd.R_mono (rf_ gb544 (Kd.R_types HO_520000.out BK544.out (by decide)) (fun _ hk => hk.2)) (fun _ h_ => h_.1)))); (case side2 => exact (Kd.R_reads' HO_520000.out).2.1); (case side3 => refine (Kd.R_reads' (e := 83) (base := w.heap.size) (ok := fun k_ => ((True ∧ some k_ ≠ (.slice Ao11 t511.length co11 : Value).ownBlock) ∧ some k_ ≠ (u533001 : Value).ownBlock)) (n := t536.length) (c := co41) ?_).2.2; exact (by (with_reducible repeat (first | apply Kd.R_alloc | apply Kd.R_drewN | apply Kd.R_drew)); exact (Kd.R_mono (rf_ gb544 (Kd.R_types HO538.out BK544.out (by decide)) (fun _ hk => hk.2)) (fun _ h_ => h_.1)))); (case side4 => exact (Kd.R_reads' HO538.out).2.1); (case side5 => exact Kd.C_keep (⟨#[]⟩ : ByteArray) HR1.out (ku_ HK.out) hf1); (case side6 => exact HC1.out); rintro e w81 ⟨rfl, hb⟩; refine ⟨_, rfl, ?_⟩; replace HO_520000 := Aside0.mk (Kd.R_below (by (with_reducible repeat (first | apply Kd.R_alloc | apply Kd.R_drewN | apply Kd.R_drew)); exact (Kd.R_mono (rf_ gb544 (Kd.R_types HO_520000.out BK544.out (by decide)) (fun _ hk => hk.2)) (fun _ h_ => h_.1))) hb); replace HO_533001 := Aside0.mk (Kd.R_below (by (with_reducible repeat (first | apply Kd.R_alloc | apply Kd.R_drewN | apply Kd.R_drew)); exact (Kd.R_mono (rf_ gb544 (Kd.R_types HO_533001.out BK544.out (by decide)) (fun _ hk => hk.2)) (fun _ h_ => h_.1))) hb); replace HO_533004 := Aside0.mk (Kd.S_below (by (with_reducible repeat (first | apply Kd.S_alloc | apply Kd.S_drewN | apply Kd.S_drew)); exact (Kd.S_mono (sf_ gb544 (Kd.S_mono HO_533004.out (fun k_ hk => (⟨hk, hk.2⟩ : _ ∧ k_ ≠ gb544))) (fun _ hk => hk.2)) (fun _ h_ => h_.1))) hb); replace HO538 := Aside0.mk (Kd.R_below (by (with_reducible repeat (first | apply Kd.R_alloc | apply Kd.R_drewN | apply Kd.R_drew)); exact (Kd.R_mono (rf_ gb544 (Kd.R_types HO538.out BK544.out (by decide)) (fun _ hk => hk.2)) (fun _ h_ => h_.1))) hb); replace BK510 := bk2_ BK510 hb; replace BK519 := bk2_ BK519 hb; replace BK532 := bk2_ BK532 hb; replace HI0 := Aside0.mk (IsS64.below (show IsS64 w0 ((((w40.setCell ⟨gb544, 0, none⟩ (.slice Ao41 t536.length co41)).setCell ⟨gb544, 1, none⟩ (.int .i64 t539)).setCell ⟨gb544, 2, none⟩ (.int .i64 t540)).setCell ⟨gb544, 3, none⟩ (.string t541)) g s0_0 t542 t543 from IsS64.pk_ HI0.out) hb); replace BK544 := Aside0.mk (blk_below (g := gb544) (o := .cells #[.slice Ao41 t536.length co41, .int .i64 t539, .int .i64 t540, .string t541] 37 (0, 0)) (bp_ BK544.out) hb); replace HK := kt_ HK hb; replace HB := st_ HB hb; (try clear hb); (try clear hk); (try clear hi)))
    go_roundg k1
    case measure => have := HK1.out; omega
    case rel => exact ⟨(wrap64 (x7_1 - 1)), (t542), (t543), (x533000_1), (x533001_1), (x533002_1), (x533003_1), (x533004_1), (u533001), (u533004), (by first | rfl | (simp; done) | (simp [*]; done)), H', ⟨by have := HK1.out; omega⟩, ⟨by (with_reducible repeat (first | apply Kd.R_alloc | apply Kd.R_drewN | apply Kd.R_drew)); exact Kd.R_mono HO_520000.out (fun _ hk => hk.1)⟩, ⟨by (with_reducible repeat (first | apply Kd.R_alloc | apply Kd.R_drewN | apply Kd.R_drew)); exact Kd.R_mono HO_533001.out (fun _ hk => hk.1)⟩, ⟨by (with_reducible repeat (first | apply Kd.S_alloc | apply Kd.S_drewN | apply Kd.S_drew)); exact Kd.S_mono HO_533004.out (fun _ hk => ⟨hk.1.1.1, hk.1.1.2⟩)⟩, ⟨bq_ BK510.out⟩, ⟨bq_ BK519.out⟩, ⟨bq_ BK532.out⟩, ⟨IsS64.pk_ HI0.out⟩, ⟨ku_ HK.out⟩, ⟨by exact hs_ HB.out⟩⟩
   rw [if_neg c34] at H
   have c34b0 : decide (0 < x7_1) = false := decide_eq_false c34
   clear c34
   replace H := Option.bind_eq_some_iff.mp H
   obtain ⟨⟨t556, t557, t558⟩, A820, H⟩ := H
   have A82 := Aside0.mk A820
   clear A820
   by_cases c83 : t556 = true
   ·
    subst c83
    rw [if_pos rfl] at H
    replace H := Option.bind_eq_some_iff.mp H
    obtain ⟨⟨t559, t560, t561⟩, A840, H⟩ := H
    have A84 := Aside0.mk A840
    clear A840
    simp only [Option.some.injEq, Prod.mk.injEq] at H
    obtain ⟨rfl, rfl, rfl, rfl, rfl, rfl, rfl⟩ := H
    try go_wp2_with (first | ((with_reducible refine gate_callee (f := 24) rfl ?_); refine gl_ (some 39) Tryd.func24 #[.pointer (some ⟨g, 0, none⟩), .int .i64 2] ?_; (with_reducible refine (spec_l1Once.calls g s0_0 x1001_1 x1002_1 2 true t557 t558 w0 _ ?side1 ?side2 A82.out).mono ?_); (case side1 => exact IsS64.pk_ HI0.out); (case side2 => exact hs_ HB.out); rintro e w85 ⟨rfl, hi, hb, hk⟩; refine ⟨_, rfl, ?_⟩; replace HO_520000 := IsS64.rk_ HI0 HO_520000 hk; replace HO_533001 := IsS64.rk_ HI0 HO_533001 hk; replace HO_533004 := IsS64.sk_ HI0 HO_533004 hk; replace BK510 := kb_ hk BK510; replace BK519 := kb_ hk BK519; replace BK532 := kb_ hk BK532; replace HK := kh_ HK hk; replace HB := Aside0.mk (hb); replace HI0 := Aside0.mk (hi); (try clear hb); (try clear hk); (try clear hi)))
    replace HO_520000 := Aside0.mk (Kd.R_drew HO_520000.out)
    replace HO_533001 := Aside0.mk (Kd.R_drew HO_533001.out)
    replace HO_533004 := Aside0.mk (Kd.S_drew HO_533004.out)
    replace BK510 := Aside0.mk (blk_drew BK510.out)
    replace BK519 := Aside0.mk (blk_drew BK519.out)
    replace BK532 := Aside0.mk (blk_drew BK532.out)
    replace HI0 := Aside0.mk (IsS64.drew HI0.out)
    replace HK := Aside0.mk (keep_drew HK.out)
    replace HB := Aside0.mk (bd_ HB.out)
    refine start_ (n := 7) (S := fun w' => w'.cell? ⟨gb532, 0, none⟩ = some (.int .i64 x533000_1) ∧ w'.cell? ⟨gb532, 1, none⟩ = some (u533001) ∧ w'.cell? ⟨gb532, 2, none⟩ = some (.int .i64 x533002_1) ∧ w'.cell? ⟨gb532, 3, none⟩ = some (.int .i64 x533003_1) ∧ w'.cell? ⟨gb532, 4, none⟩ = some (u533004)) (ds := [6]) (b_ 0 7) (by kernel_rfl) rfl rfl ⟨bx_ BK532.out 0, bx_ BK532.out 1, bx_ BK532.out 2, bx_ BK532.out 3, bx_ BK532.out 4⟩ (fun hHeld => ?_)
    generalize w85.drew = w86 at HO_520000 HO_533001 HO_533004 BK510 BK519 BK532 HI0 HK HB hHeld ⊢
    refine pure_ (i := 0) (N := some 40) (v := ?_) (a' := ?_) (b_ 1 6) rfl rfl (by kernel_rfl) (fun _ _ _ h => h) (Or.inl ⟨by rfl, ?_⟩) ?_ ?_
    rotate_left
    ·
     intro w'
     go_simp
     with_reducible rfl
    rotate_left
    ·
     simp only [fr_]
     rfl
    refine pure_ (i := 2) (N := some 42) (v := ?_) (a' := ?_) #[t_,f_,t_,f_,f_,f_,f_] rfl rfl (by kernel_rfl) (fun _ _ _ h => h) (Or.inl ⟨by rfl, ?_⟩) ?_ ?_
    rotate_left
    ·
     intro w'
     go_simp
     with_reducible rfl
    rotate_left
    ·
     simp only [fr_]
     rfl
    refine take_ (i := 1) (N := some 41) (v := ?_) (a' := ?_) (b_ 3 4) rfl rfl (by kernel_rfl) (fun _ _ _ h => h) (Or.inl ⟨by rfl, ?_⟩) hHeld ?_ ?_
    rotate_left
    ·
     rintro w' ⟨s0, s1, s2, s3, s4⟩
     go_simp
     with_reducible rfl
    rotate_left
    ·
     simp only [fr_]
     rfl
    refine one_ (i := 3) (N := some 43) (b_ 4 3) rfl rfl (by kernel_rfl) (by decide) (fun K hK => ?_)
    refine gs_ Tryd.func43 #[.pointer (some ⟨g, 0, none⟩), .int .i64 9] ?_
    with_reducible refine (spec_l1Below.calls g s0_0 t557 t558 9 t559 t560 t561 w0 _ ?side1 ?side2 A84.out).mono ?_
    (case side1 => exact IsS64.pk_ HI0.out)
    (case side2 => exact hs_ HB.out)
    rintro e w87 ⟨rfl, hi, hb, hk⟩
    refine ⟨_, rfl, ?_⟩
    replace HO_520000 := IsS64.rk_ HI0 HO_520000 hk
    replace HO_533001 := IsS64.rk_ HI0 HO_533001 hk
    replace HO_533004 := IsS64.sk_ HI0 HO_533004 hk
    replace BK510 := kb_ hk BK510
    replace BK519 := kb_ hk BK519
    replace BK532 := kb_ hk BK532
    replace HK := kh_ HK hk
    replace HB := Aside0.mk (hb)
    replace HI0 := Aside0.mk (hi)
    (try clear hb)
    (try clear hk)
    (try clear hi)
    refine hK.out _ _ (e5_ BK532.out) (fun hHeld => ?_)
    clear hK K
    refine norm_ (a' := ?_) ?_ ?_
    rotate_left
    ·
     show Act.put _ (some 43) _ = _
     simp only [fr_]
     rfl
    refine pure_ (i := 4) (N := some 44) (v := ?_) (a' := ?_) (b_ 5 2) rfl rfl (by kernel_rfl) (fun _ _ _ h => h) (Or.inl ⟨by rfl, ?_⟩) ?_ ?_
    rotate_left
    ·
     intro w'
     go_simp
     with_reducible rfl
    rotate_left
    ·
     simp only [fr_]
     rfl
    refine pure_ (i := 5) (N := some 45) (v := ?_) (a' := ?_) (b_ 6 1) rfl rfl (by kernel_rfl) (fun _ _ _ h => h) (Or.inl ⟨by rfl, ?_⟩) ?_ ?_
    rotate_left
    ·
     intro w'
     go_simp
     with_reducible rfl
    rotate_left
    ·
     simp only [fr_]
     rfl
    refine last_ (i := 6) (N := none) (b_ 7 0) rfl rfl (by kernel_rfl) (by decide) (fun K hK => ?_)
    have hs88 : w87.cell? ⟨gb532, 3, none⟩ = some (.int .i64 x533003_1) := bx_ BK532.out 3
    have hfs88 := blk_frozen BK532.out 3
    have hns88_0 := NB510_532.out
    have hns88_1 := NB519_532.out
    have hms88_0 := NB532_510.out
    have hms88_1 := NB532_519.out
    refine skip_ (w1 := ?_) (by rfl) rfl ?_ ?_
    rotate_left
    ·
     go_simp
     rfl
    refine hK.out _ _ ?_
    clear hK K
    refine done_ (by kernel_rfl) ?_
    have hnb89 := NB532_510.out
    have hnc89 := NB510_532.out
    have hnb90 := NB532_519.out
    have hnc90 := NB519_532.out
    have hnb91 := NB532_0.out
    have hnc91 := NB0_532.out
    obtain ⟨z92_0, z92_1, z92_2, z92_3, z92_4, y92_0, y92_1, y92_2, y92_3, y92_4⟩ := bc5_ BK532.out
    have hnb93 := NB510_519.out
    have hnc93 := NB519_510.out
    have hnb94 := NB510_0.out
    have hnc94 := NB0_510.out
    obtain ⟨z95_0, z95_1, z95_2, z95_3, z95_4, y95_0, y95_1, y95_2, y95_3, y95_4⟩ := bc5_ BK510.out
    obtain ⟨Ao96, co96, eo96⟩ := Kd.R_slice HO_533001.out
    subst eo96
    obtain ⟨Ao97, co97, eo97⟩ := Kd.S_slice HO_533004.out
    subst eo97
    try go_wp2
    refine bodyPost_ret (results_cell_row rfl _ _ gb510 33 #[.int .i64 x533000_1, .slice Ao96 x533001_1.length co96, .int .i64 x533002_1, .int .i64 (wrap64 (x533002_1 + t559)), .slice Ao97 x533004_1.length co97] (0, 0) _ rfl (bp_ BK510.out) Tryd.underlying33 rfl (by kernel_rfl)) rfl ?_
    exact ⟨_, _, by first | rfl | (simp [errW_none, errW_some] <;> rfl) | (simp [*, errW_none, errW_some] <;> rfl), by (with_reducible repeat (first | apply Kd.R_alloc | apply Kd.R_drewN | apply Kd.R_drew)); exact Kd.R_mono (rf_ gb510 (Kd.R_far (p := ⟨gb532, 3, none⟩) (Kd.R_types (Kd.R_types HO_533001.out BK532.out (by decide)) BK510.out (by decide)) (fun _ hk => hk.1.2) (.int .i64 (wrap64 (x533002_1 + t559)))) (fun _ hk => hk.2)) (fun _ hk => trivial), by (with_reducible repeat (first | apply Kd.S_alloc | apply Kd.S_drewN | apply Kd.S_drew)); exact Kd.S_mono (sf_ gb510 (Kd.S_far (p := ⟨gb532, 3, none⟩) (Kd.S_types (Kd.S_types HO_533004.out BK532.out (by decide)) BK510.out (by decide)) (fun _ hk => hk.1.2) (.int .i64 (wrap64 (x533002_1 + t559)))) (fun _ hk => hk.2)) (fun _ hk => hk.1.1.1), IsS64.pk_ HI0.out, by exact hs_ HB.out, ku_ HK.out⟩
   replace c83 := Bool.eq_false_iff.mpr c83
   subst c83
   rw [if_neg (show ¬ (false = true) by decide)] at H
   simp only [Option.some.injEq, Prod.mk.injEq] at H
   obtain ⟨rfl, rfl, rfl, rfl, rfl, rfl, rfl⟩ := H
   go_wp2_with (first | ((with_reducible refine gate_callee (f := 24) rfl ?_); refine gl_ (some 39) Tryd.func24 #[.pointer (some ⟨g, 0, none⟩), .int .i64 2] ?_; (with_reducible refine (spec_l1Once.calls g s0_0 x1001_1 x1002_1 2 false t557 t558 w0 _ ?side1 ?side2 A82.out).mono ?_); (case side1 => exact IsS64.pk_ HI0.out); (case side2 => exact hs_ HB.out); rintro e w98 ⟨rfl, hi, hb, hk⟩; refine ⟨_, rfl, ?_⟩; replace HO_520000 := IsS64.rk_ HI0 HO_520000 hk; replace HO_533001 := IsS64.rk_ HI0 HO_533001 hk; replace HO_533004 := IsS64.sk_ HI0 HO_533004 hk; replace BK510 := kb_ hk BK510; replace BK519 := kb_ hk BK519; replace BK532 := kb_ hk BK532; replace HK := kh_ HK hk; replace HB := Aside0.mk (hb); replace HI0 := Aside0.mk (hi); (try clear hb); (try clear hk); (try clear hi); have hnb99 := NB532_510.out; have hnc99 := NB510_532.out; have hnb100 := NB532_519.out; have hnc100 := NB519_532.out; have hnb101 := NB532_0.out; have hnc101 := NB0_532.out; obtain ⟨z102_0, z102_1, z102_2, z102_3, z102_4, y102_0, y102_1, y102_2, y102_3, y102_4⟩ := bc5_ BK532.out; have hnb103 := NB510_519.out; have hnc103 := NB519_510.out; have hnb104 := NB510_0.out; have hnc104 := NB0_510.out; obtain ⟨z105_0, z105_1, z105_2, z105_3, z105_4, y105_0, y105_1, y105_2, y105_3, y105_4⟩ := bc5_ BK510.out; obtain ⟨Ao106, co106, eo106⟩ := Kd.R_slice HO_533001.out; subst eo106; obtain ⟨Ao107, co107, eo107⟩ := Kd.S_slice HO_533004.out; subst eo107))
   refine bodyPost_ret (results_cell_row rfl _ _ gb510 33 #[.int .i64 x533000_1, .slice Ao106 x533001_1.length co106, .int .i64 x533002_1, .int .i64 x533003_1, .slice Ao107 x533004_1.length co107] (0, 0) _ rfl (bp_ BK510.out) Tryd.underlying33 rfl (by kernel_rfl)) rfl ?_
   exact ⟨_, _, by first | rfl | (simp [errW_none, errW_some] <;> rfl) | (simp [*, errW_none, errW_some] <;> rfl), by (with_reducible repeat (first | apply Kd.R_alloc | apply Kd.R_drewN | apply Kd.R_drew)); exact Kd.R_mono (rf_ gb510 (Kd.R_types HO_533001.out BK510.out (by decide)) (fun _ hk => hk.2)) (fun _ hk => trivial), by (with_reducible repeat (first | apply Kd.S_alloc | apply Kd.S_drewN | apply Kd.S_drew)); exact Kd.S_mono (sf_ gb510 (Kd.S_types HO_533004.out BK510.out (by decide)) (fun _ hk => hk.2)) (fun _ hk => hk.1.1), IsS64.pk_ HI0.out, by exact hs_ HB.out, ku_ HK.out⟩
def spec_DrawDue.f (k : Nat) (l0 : List Int) : Option (Int × Int × Int × Int × Int × List ByteArray × Int × (List (S83)) × Int × Int × (List (S37))) := (spec_l1New.f k l0).bind fun bt564 => ((spec_l13Any.f bt564.1 bt564.2.1 bt564.2.2).bind fun bt568 => ((spec_l11Draw.f k bt564.1 bt568.2.2.2.2.2.2.1 bt568.2.2.2.2.2.2.2 bt568.2.2.2.2.2.1).bind fun bt579 => (some (bt568.1, bt568.2.1, bt568.2.2.1, bt568.2.2.2.1, bt568.2.2.2.2.1, bt568.2.2.2.2.2.1, bt579.1, bt579.2.1, bt579.2.2.1, bt579.2.2.2.1, bt579.2.2.2.2.1))))
theorem spec_DrawDue.mono : ∀ a0 k, LeO (spec_DrawDue.f k a0) (spec_DrawDue.f (k + 1) a0) := by
 intro a0 k
 unfold spec_DrawDue.f
 repeat' first | (with_reducible first | exact spec_l11Draw.mono _ _ _ _ _ | exact spec_l1New.mono _ _ | exact LeO.refl _ | exact LeO.none _ | refine LeO.ite ?_ ?_ | refine LeO.bind ?_ (fun _ => ?_)) | exact spec_l11Draw.mono _ _ _ _ _ | exact spec_l1New.mono _ _
theorem spec_DrawDue.calls (k : Nat) (A0 : Option Addr) (c0 : Nat) (l0 : List Int) (r1 : Int) (r2 : Int) (r3 : Int) (r4 : Int) (r5 : Int) (r6 : List ByteArray) (r7 : Int) (r8 : List (S83)) (r9 : Int) (r10 : Int) (r11 : List (S37)) (w : World) (hr0 : Kd.C (Kd.int .u8) w A0 l0.length l0) (hc0 : l0.length ≤ c0) (h : spec_DrawDue.f k l0 = some (r1, r2, r3, r4, r5, r6, r7, r8, r9, r10, r11)) :
  Calls Tryd.prog 8 #[.slice A0 l0.length c0] w fun e w' => ∃ v5_ v7_ v10_ : Value, e = .returned (.tuple #[.agg #[.int .i64 r1, .int .i64 r2, .int .i64 r3, .int .i64 r4, .int .i64 r5, v5_], .agg #[.int .i64 r7, v7_, .int .i64 r9, .int .i64 r10, v10_]]) ∧ Kd.R Kd.string 9 w' w.heap.size (fun _ => True) v5_ r6 ∧ Kd.R k83 83 w' w.heap.size (fun _ => True) v7_ r8 ∧ Kd.S k37 37 w' w.heap.size (fun k_ => some k_ ≠ (v7_ : Value).ownBlock) v10_ r11 ∧ Below w.heap.size w w' := by
 have hu26 := Tryd.underlying26
 have hu33 := Tryd.underlying33
 have HR0 := Aside0.mk hr0
 have HC0 := Aside0.mk hc0
 clear hr0 hc0
 have HB := Aside0.mk (Below.refl w.heap.size w)
 have H : ((spec_l1New.f k l0).bind fun bt564 => ((spec_l13Any.f bt564.1 bt564.2.1 bt564.2.2).bind fun bt568 => ((spec_l11Draw.f k bt564.1 bt568.2.2.2.2.2.2.1 bt568.2.2.2.2.2.2.2 bt568.2.2.2.2.2.1).bind fun bt579 => (some (bt568.1, bt568.2.1, bt568.2.2.1, bt568.2.2.2.1, bt568.2.2.2.2.1, bt568.2.2.2.2.2.1, bt579.1, bt579.2.1, bt579.2.2.1, bt579.2.2.2.1, bt579.2.2.2.2.1))))) = some (r1, r2, r3, r4, r5, r6, r7, r8, r9, r10, r11) := h
 clear h
 replace H := Option.bind_eq_some_iff.mp H
 obtain ⟨⟨t564, t565, t566⟩, A20, H⟩ := H
 have A2 := Aside0.mk A20
 clear A20
 replace H := Option.bind_eq_some_iff.mp H
 obtain ⟨⟨t568, t569, t570, t571, t572, t573, t576, t577⟩, A30, H⟩ := H
 have A3 := Aside0.mk A30
 clear A30
 replace H := Option.bind_eq_some_iff.mp H
 obtain ⟨⟨t579, t580, t583, t584, t585, t588, t589⟩, A40, H⟩ := H
 have A4 := Aside0.mk A40
 clear A40
 simp only [Option.some.injEq, Prod.mk.injEq] at H
 obtain ⟨rfl, rfl, rfl, rfl, rfl, rfl, rfl, rfl, rfl, rfl, rfl⟩ := H
 go_enter Tryd.func8, Tryd.ntmps8
 try go_wp2_with (first | ((with_reducible refine gd_ 2 rfl ?_); refine bv_ 2 #[.int .i64 0, .int .i64 0, .int .i64 0, .int .i64 0, .int .i64 0, .slice none 0 0] 26 ?_; intro gb562 hg w5 hbox hb; have BK562 := Aside0.mk (hbox); have GW562 := Ge_.mk ((gw_ hg (hs_ HB.out))); replace HB := st_ HB hb; have GE562 := Ge_.mk GW562.out; clear hb hbox hg) | ((with_reducible refine gd_ 3 rfl ?_); refine bv_ 3 #[.int .i64 0, .slice none 0 0, .int .i64 0, .int .i64 0, .slice none 0 0] 33 ?_; intro gb563 hg w6 hbox hb; have BK563 := Aside0.mk (hbox); have GW563 := Ge_.mk ((gw_ hg (hs_ HB.out))); replace HB := st_ HB hb; have GE563 := Ge_.mk GW563.out; have NB562_563 := nk_ BK562 hg; replace BK562 := bk2_ BK562 hb; have NB563_562 := ns_ NB562_563; clear hb hbox hg) | ((with_reducible refine gate_callee (f := 22) rfl ?_); refine gl_ (some 7) Tryd.func22 #[.slice A0 l0.length c0] ?_; (with_reducible refine (spec_l1New.calls k _ _ l0 t564 t565 t566 w _ ?side1 ?side2 ?side3 A2.out).mono ?_); (case side1 => exact hs_ HB.out); (case side2 => exact HR0.out); (case side3 => exact HC0.out); rintro e w7 ⟨g567, rfl, hi, hb, hb2⟩; refine ⟨_, rfl, ?_⟩; replace HB := Aside0.mk (hb); have HI567 := Aside0.mk (hi); have NB567_562 := Ne_.mk (IsS64.ne_blk hi (bb_ BK562.out hb2) (by decide)); have NB562_567 := Ne_.mk (Ne.symm (IsS64.ne_blk hi (bb_ BK562.out hb2) (by decide))); replace BK562 := Aside0.mk (bb_ BK562.out hb2); have NB567_563 := Ne_.mk (IsS64.ne_blk hi (bb_ BK563.out hb2) (by decide)); have NB563_567 := Ne_.mk (Ne.symm (IsS64.ne_blk hi (bb_ BK563.out hb2) (by decide))); replace BK563 := Aside0.mk (bb_ BK563.out hb2); (try clear hb); (try clear hb2); (try clear hk); (try clear hi)) | ((with_reducible refine gate_callee (f := 23) rfl ?_); refine gl_ (some 9) Tryd.func23 #[.pointer (some ⟨g567, 0, none⟩)] ?_; (with_reducible refine (spec_l13Any.calls g567 t564 t565 t566 t568 t569 t570 t571 t572 t573 t576 t577 w _ ?side1 ?side2 A3.out).mono ?_); (case side1 => exact IsS64.pk_ HI567.out); (case side2 => exact hs_ HB.out); rintro e w8 ⟨v574, rfl, ho0, hi, hb, hk⟩; refine ⟨_, rfl, ?_⟩; replace BK562 := kb_ hk BK562; replace BK563 := kb_ hk BK563; have HO575 := Aside0.mk (Kd.R_lower ho0 (below_size (hs_ HB.out))); replace HB := Aside0.mk (hb); replace HI567 := Aside0.mk (hi); (try clear hb); (try clear hb2); (try clear hk); (try clear hi); (try clear ho0)) | ((with_reducible refine gd_ 5 rfl ?_); refine bv_ 5 #[.int .i64 0, .int .i64 0, .int .i64 0, .int .i64 0, .int .i64 0, .slice none 0 0] 26 ?_; intro gb578 hg w9 hbox hb; replace HO575 := rb_ HO575 hb; have BK578 := Aside0.mk (hbox); have GW578 := Ge_.mk ((gw_ hg (hs_ HB.out))); replace HB := st_ HB hb; have GE578 := Ge_.mk GW578.out; have NB562_578 := nk_ BK562 hg; replace BK562 := bk2_ BK562 hb; have NB578_562 := ns_ NB562_578; have NB563_578 := nk_ BK563 hg; replace BK563 := bk2_ BK563 hb; have NB578_563 := ns_ NB563_578; have NB567_578 := Ne_.mk ((by rw [hg]; exact Nat.ne_of_lt (IsS64.lt (show IsS64 w _ g567 t564 t576 t577 from IsS64.pk_ HI567.out)) : g567 ≠ gb578)); replace HI567 := IsS64.bk_ HI567 hb; have NB578_567 := ns_ NB567_578; clear hb hbox hg; have hnb10 := NB578_562.out; have hnc10 := NB562_578.out; have hnb11 := NB578_563.out; have hnc11 := NB563_578.out; have hnb12 := NB578_567.out; have hnc12 := NB567_578.out; obtain ⟨z13_0, z13_1, z13_2, z13_3, z13_4, z13_5, y13_0, y13_1, y13_2, y13_3, y13_4, y13_5⟩ := bc6_ BK578.out; obtain ⟨Ao14, co14, eo14⟩ := Kd.R_slice HO575.out; subst eo14))
 generalize hw_ : ((((((w9.setCell ⟨gb578, 0, none⟩ (.int .i64 t568)).setCell ⟨gb578, 1, none⟩ (.int .i64 t569)).setCell ⟨gb578, 2, none⟩ (.int .i64 t570)).setCell ⟨gb578, 3, none⟩ (.int .i64 t571)).setCell ⟨gb578, 4, none⟩ (.int .i64 t572)).setCell ⟨gb578, 5, none⟩ (.slice Ao14 t573.length co14)) = w15
 have n0_ : Aside0 (Kd.R Kd.string 9 w15 w.heap.size (fun _ => True) (.slice Ao14 t573.length co14) t573) := ⟨by rw [← hw_]; exact (Kd.R_mono (rf_ gb578 (Kd.R_types HO575.out BK578.out (by decide)) (fun _ hk => hk.2)) (fun _ hk => trivial))⟩
 have n1_ : Aside0 (w15.heap[gb562]? = some (.cells #[.int .i64 0, .int .i64 0, .int .i64 0, .int .i64 0, .int .i64 0, .slice none 0 0] 26 (0, 0))) := ⟨by rw [← hw_]; exact (bq_ BK562.out)⟩
 have n2_ : Aside0 (w15.heap[gb563]? = some (.cells #[.int .i64 0, .slice none 0 0, .int .i64 0, .int .i64 0, .slice none 0 0] 33 (0, 0))) := ⟨by rw [← hw_]; exact (bq_ BK563.out)⟩
 have n3_ : Aside0 (w15.heap[gb578]? = some (.cells #[.int .i64 t568, .int .i64 t569, .int .i64 t570, .int .i64 t571, .int .i64 t572, .slice Ao14 t573.length co14] 26 (0, 0))) := ⟨by rw [← hw_]; exact (bp_ BK578.out)⟩
 have n4_ : Aside0 (IsS64 w w15 g567 t564 t576 t577) := ⟨by rw [← hw_]; exact (IsS64.pk_ HI567.out)⟩
 have n5_ : Aside0 (Below w.heap.size w w15) := ⟨by rw [← hw_]; exact (hs_ HB.out)⟩
 clear hw_
 (try clear HO575)
 (try clear BK562)
 (try clear BK563)
 (try clear BK578)
 (try clear HI567)
 (try clear HB)
 have HO575 := n0_
 have BK562 := n1_
 have BK563 := n2_
 have BK578 := n3_
 have HI567 := n4_
 have HB := n5_
 clear n0_ n1_ n2_ n3_ n4_ n5_
 replace HO575 := Aside0.mk (Kd.R_drew HO575.out)
 replace BK562 := Aside0.mk (blk_drew BK562.out)
 replace BK563 := Aside0.mk (blk_drew BK563.out)
 replace BK578 := Aside0.mk (blk_drew BK578.out)
 replace HI567 := Aside0.mk (IsS64.drew HI567.out)
 replace HB := Aside0.mk (bd_ HB.out)
 refine start_ (n := 7) (S := fun w' => w'.cell? ⟨gb578, 0, none⟩ = some (.int .i64 t568) ∧ w'.cell? ⟨gb578, 1, none⟩ = some (.int .i64 t569) ∧ w'.cell? ⟨gb578, 2, none⟩ = some (.int .i64 t570) ∧ w'.cell? ⟨gb578, 3, none⟩ = some (.int .i64 t571) ∧ w'.cell? ⟨gb578, 4, none⟩ = some (.int .i64 t572) ∧ w'.cell? ⟨gb578, 5, none⟩ = some (.slice Ao14 t573.length co14)) (ds := []) (b_ 0 7) (by kernel_rfl) rfl rfl ⟨bx_ BK578.out 0, bx_ BK578.out 1, bx_ BK578.out 2, bx_ BK578.out 3, bx_ BK578.out 4, bx_ BK578.out 5⟩ (fun hHeld => ?_)
 generalize w15.drew = w16 at HO575 BK562 BK563 BK578 HI567 HB hHeld ⊢
 refine pure_ (i := 1) (N := some 11) (v := ?_) (a' := ?_) #[f_,t_,f_,f_,f_,f_,f_] rfl rfl (by kernel_rfl) (fun _ _ _ h => h) (Or.inl ⟨by rfl, ?_⟩) ?_ ?_
 rotate_left
 ·
  intro w'
  go_simp
  with_reducible rfl
 rotate_left
 ·
  simp only [fr_]
  rfl
 refine pure_ (i := 2) (N := some 12) (v := ?_) (a' := ?_) #[f_,t_,t_,f_,f_,f_,f_] rfl rfl (by kernel_rfl) (fun _ _ _ h => h) (Or.inl ⟨by rfl, ?_⟩) ?_ ?_
 rotate_left
 ·
  intro w'
  go_simp
  with_reducible rfl
 rotate_left
 ·
  simp only [fr_]
  rfl
 refine take_ (i := 0) (N := some 10) (v := ?_) (a' := ?_) (b_ 3 4) rfl rfl (by kernel_rfl) (fun _ _ _ h => h) (Or.inl ⟨by rfl, ?_⟩) hHeld ?_ ?_
 rotate_left
 ·
  rintro w' ⟨s0, s1, s2, s3, s4, s5⟩
  go_simp
  with_reducible rfl
 rotate_left
 ·
  simp only [fr_]
  rfl
 refine take_ (i := 3) (N := some 13) (v := ?_) (a' := ?_) (b_ 4 3) rfl rfl (by kernel_rfl) (fun _ _ _ h => h) (Or.inl ⟨by rfl, ?_⟩) hHeld ?_ ?_
 rotate_left
 ·
  rintro w' ⟨s0, s1, s2, s3, s4, s5⟩
  go_simp
  with_reducible rfl
 rotate_left
 ·
  simp only [fr_]
  rfl
 refine one_ (i := 4) (N := some 14) (b_ 5 2) rfl rfl (by kernel_rfl) (by decide) (fun K hK => ?_)
 refine gs_ Tryd.func26 #[.pointer (some ⟨g567, 0, none⟩), .slice Ao14 t573.length co14] ?_
 with_reducible refine (spec_l11Draw.calls k g567 t564 t576 t577 _ _ t573 t579 t580 t583 t584 t585 t588 t589 w _ ?side1 ?side2 ?side3 ?side4 ?side5 A4.out).mono ?_
 (case side1 => exact IsS64.pk_ HI567.out)
 (case side2 => exact hs_ HB.out)
 (case side3 => exact cp_ ((Kd.R_reads' HO575.out).2.2))
 (case side4 => exact (Kd.R_reads' HO575.out).2.1)
 (case side5 => exact far_slice (IsS64.own_ne HI567.out HO575.out (by decide)))
 rintro e w17 ⟨v581, v586, rfl, ho0, ho1, hi, hb, hk⟩
 refine ⟨_, rfl, ?_⟩
 replace BK562 := kb_ hk BK562
 replace BK563 := kb_ hk BK563
 replace HO575 := Aside0.mk (Kd.R_mono (Kd.R_keep (IsS64.apart (show IsS64 w _ g567 t564 t576 t577 from IsS64.pk_ HI567.out) (rp_ HO575.out) (by decide)) hk (fun _ h => h.2)) (fun _ h => h.1))
 replace BK578 := kb_ hk BK578
 have HO582 := Aside0.mk (Kd.R_lower ho0 (below_size (hs_ HB.out)))
 have HO587 := Aside0.mk (Kd.S_lower ho1 (below_size (hs_ HB.out)))
 replace HB := Aside0.mk (hb)
 replace HI567 := Aside0.mk (hi)
 (try clear hb)
 (try clear hb2)
 (try clear hk)
 (try clear hi)
 (try clear ho0)
 (try clear ho1)
 obtain ⟨Ao25, co25, eo25⟩ := Kd.R_slice HO582.out
 (first | subst eo25 | (obtain ⟨rfl, rfl⟩ := si_ eo25))
 obtain ⟨Ao29, co29, eo29⟩ := Kd.S_slice HO587.out
 (first | subst eo29 | (obtain ⟨rfl, rfl⟩ := si_ eo29))
 refine hK.out _ _ (e6_ BK578.out) (fun hHeld => ?_)
 clear hK K
 refine norm_ (a' := ?_) ?_ ?_
 rotate_left
 ·
  show Act.put _ (some 14) _ = _
  simp only [fr_]
  rfl
 refine one_ (i := 5) (N := none) (b_ 6 1) rfl rfl (by kernel_rfl) (by decide) (fun K hK => ?_)
 have hs18 : w17.cell? ⟨gb562, 0, none⟩ = some (.int .i64 0) := bx_ BK562.out 0
 have hfs18 := blk_frozen BK562.out 0
 have hns18_1 := NB563_562.out
 have hns18_2 := NB578_562.out
 have hms18_1 := NB562_563.out
 have hms18_2 := NB562_578.out
 have hs19 : w17.cell? ⟨gb562, 1, none⟩ = some (.int .i64 0) := bx_ BK562.out 1
 have hfs19 := blk_frozen BK562.out 1
 have hns19_1 := NB563_562.out
 have hns19_2 := NB578_562.out
 have hms19_1 := NB562_563.out
 have hms19_2 := NB562_578.out
 have hs20 : w17.cell? ⟨gb562, 2, none⟩ = some (.int .i64 0) := bx_ BK562.out 2
 have hfs20 := blk_frozen BK562.out 2
 have hns20_1 := NB563_562.out
 have hns20_2 := NB578_562.out
 have hms20_1 := NB562_563.out
 have hms20_2 := NB562_578.out
 have hs21 : w17.cell? ⟨gb562, 3, none⟩ = some (.int .i64 0) := bx_ BK562.out 3
 have hfs21 := blk_frozen BK562.out 3
 have hns21_1 := NB563_562.out
 have hns21_2 := NB578_562.out
 have hms21_1 := NB562_563.out
 have hms21_2 := NB562_578.out
 have hs22 : w17.cell? ⟨gb562, 4, none⟩ = some (.int .i64 0) := bx_ BK562.out 4
 have hfs22 := blk_frozen BK562.out 4
 have hns22_1 := NB563_562.out
 have hns22_2 := NB578_562.out
 have hms22_1 := NB562_563.out
 have hms22_2 := NB562_578.out
 have hs23 : w17.cell? ⟨gb562, 5, none⟩ = some (.slice none 0 0) := bx_ BK562.out 5
 have hfs23 := blk_frozen BK562.out 5
 have hns23_1 := NB563_562.out
 have hns23_2 := NB578_562.out
 have hms23_1 := NB562_563.out
 have hms23_2 := NB562_578.out
 refine skip_ (w1 := ?_) (by rfl) rfl ?_ ?_
 rotate_left
 ·
  go_simp
  rfl
 refine hK.out _ _ ⟨(cg_ (hHeld.1)), (cg_ (hHeld.2.1)), (cg_ (hHeld.2.2.1)), (cg_ (hHeld.2.2.2.1)), (cg_ (hHeld.2.2.2.2.1)), (cg_ (hHeld.2.2.2.2.2))⟩ (fun hHeld => ?_)
 clear hK K
 refine one_ (i := 6) (N := none) (b_ 7 0) rfl rfl (by kernel_rfl) (by decide) (fun K hK => ?_)
 have hs24 : w17.cell? ⟨gb563, 0, none⟩ = some (.int .i64 0) := bx_ BK563.out 0
 have hfs24 := blk_frozen BK563.out 0
 have hns24_0 := NB562_563.out
 have hns24_2 := NB578_563.out
 have hms24_0 := NB563_562.out
 have hms24_2 := NB563_578.out
 have hs26 : w17.cell? ⟨gb563, 1, none⟩ = some (.slice none 0 0) := bx_ BK563.out 1
 have hfs26 := blk_frozen BK563.out 1
 have hns26_0 := NB562_563.out
 have hns26_2 := NB578_563.out
 have hms26_0 := NB563_562.out
 have hms26_2 := NB563_578.out
 have hs27 : w17.cell? ⟨gb563, 2, none⟩ = some (.int .i64 0) := bx_ BK563.out 2
 have hfs27 := blk_frozen BK563.out 2
 have hns27_0 := NB562_563.out
 have hns27_2 := NB578_563.out
 have hms27_0 := NB563_562.out
 have hms27_2 := NB563_578.out
 have hs28 : w17.cell? ⟨gb563, 3, none⟩ = some (.int .i64 0) := bx_ BK563.out 3
 have hfs28 := blk_frozen BK563.out 3
 have hns28_0 := NB562_563.out
 have hns28_2 := NB578_563.out
 have hms28_0 := NB563_562.out
 have hms28_2 := NB563_578.out
 have hs30 : w17.cell? ⟨gb563, 4, none⟩ = some (.slice none 0 0) := bx_ BK563.out 4
 have hfs30 := blk_frozen BK563.out 4
 have hns30_0 := NB562_563.out
 have hns30_2 := NB578_563.out
 have hms30_0 := NB563_562.out
 have hms30_2 := NB563_578.out
 refine skip_ (w1 := ?_) (by rfl) rfl ?_ ?_
 rotate_left
 ·
  go_simp
  rfl
 refine hK.out _ _ ⟨(cg_ (hHeld.1)), (cg_ (hHeld.2.1)), (cg_ (hHeld.2.2.1)), (cg_ (hHeld.2.2.2.1)), (cg_ (hHeld.2.2.2.2.1)), (cg_ (hHeld.2.2.2.2.2))⟩ (fun hHeld => ?_)
 clear hK K
 refine done_ (by kernel_rfl) ?_
 try go_wp2
 refine bodyPost_ret (results_cc rfl _ _ gb562 gb563 26 33 #[.int .i64 t568, .int .i64 t569, .int .i64 t570, .int .i64 t571, .int .i64 t572, .slice Ao14 t573.length co14] #[.int .i64 t579, .slice Ao25 t580.length co25, .int .i64 t583, .int .i64 t584, .slice Ao29 t585.length co29] (0, 0) (0, 0) _ _ rfl (bp_ BK562.out) Tryd.underlying26 rfl (by kernel_rfl) rfl (bp_ BK563.out) Tryd.underlying33 rfl (by kernel_rfl)) rfl ?_
 exact ⟨_, _, _, by first | rfl | (simp [errW_none, errW_some] <;> rfl) | (simp [*, errW_none, errW_some] <;> rfl), by (with_reducible repeat (first | apply Kd.R_alloc | apply Kd.R_drewN | apply Kd.R_drew)); exact Kd.R_mono (rf_ gb563 (Kd.R_far (p := ⟨gb562, 5, none⟩) (Kd.R_far (p := ⟨gb562, 4, none⟩) (Kd.R_far (p := ⟨gb562, 3, none⟩) (Kd.R_far (p := ⟨gb562, 2, none⟩) (Kd.R_far (p := ⟨gb562, 1, none⟩) (Kd.R_far (p := ⟨gb562, 0, none⟩) (Kd.R_types (Kd.R_types HO575.out BK562.out (by decide)) BK563.out (by decide)) (fun _ hk => hk.1.2) (.int .i64 t568)) (fun _ hk => hk.1.2) (.int .i64 t569)) (fun _ hk => hk.1.2) (.int .i64 t570)) (fun _ hk => hk.1.2) (.int .i64 t571)) (fun _ hk => hk.1.2) (.int .i64 t572)) (fun _ hk => hk.1.2) (.slice Ao14 t573.length co14)) (fun _ hk => hk.2)) (fun _ hk => trivial), by (with_reducible repeat (first | apply Kd.R_alloc | apply Kd.R_drewN | apply Kd.R_drew)); exact Kd.R_mono (rf_ gb563 (Kd.R_far (p := ⟨gb562, 5, none⟩) (Kd.R_far (p := ⟨gb562, 4, none⟩) (Kd.R_far (p := ⟨gb562, 3, none⟩) (Kd.R_far (p := ⟨gb562, 2, none⟩) (Kd.R_far (p := ⟨gb562, 1, none⟩) (Kd.R_far (p := ⟨gb562, 0, none⟩) (Kd.R_types (Kd.R_types HO582.out BK562.out (by decide)) BK563.out (by decide)) (fun _ hk => hk.1.2) (.int .i64 t568)) (fun _ hk => hk.1.2) (.int .i64 t569)) (fun _ hk => hk.1.2) (.int .i64 t570)) (fun _ hk => hk.1.2) (.int .i64 t571)) (fun _ hk => hk.1.2) (.int .i64 t572)) (fun _ hk => hk.1.2) (.slice Ao14 t573.length co14)) (fun _ hk => hk.2)) (fun _ hk => trivial), by (with_reducible repeat (first | apply Kd.S_alloc | apply Kd.S_drewN | apply Kd.S_drew)); exact Kd.S_mono (sf_ gb563 (Kd.S_far (p := ⟨gb562, 5, none⟩) (Kd.S_far (p := ⟨gb562, 4, none⟩) (Kd.S_far (p := ⟨gb562, 3, none⟩) (Kd.S_far (p := ⟨gb562, 2, none⟩) (Kd.S_far (p := ⟨gb562, 1, none⟩) (Kd.S_far (p := ⟨gb562, 0, none⟩) (Kd.S_types (Kd.S_types HO587.out BK562.out (by decide)) BK563.out (by decide)) (fun _ hk => hk.1.2) (.int .i64 t568)) (fun _ hk => hk.1.2) (.int .i64 t569)) (fun _ hk => hk.1.2) (.int .i64 t570)) (fun _ hk => hk.1.2) (.int .i64 t571)) (fun _ hk => hk.1.2) (.int .i64 t572)) (fun _ hk => hk.1.2) (.slice Ao14 t573.length co14)) (fun _ hk => hk.2)) (fun _ hk => hk.1.1), by exact hs_ HB.out⟩
def spec_l1AnyPlain.f (s0_0 : List Int) (s0_1 : Int) (s0_2 : Int) : Option (ByteArray × Int × Int) := (spec_l1Once.f s0_0 s0_1 s0_2 2).bind fun bt590 => (if bt590.1 = true then ((spec_l1Plain.f s0_0 bt590.2.1 bt590.2.2).bind fun bt593 => (some (bt593.1, bt593.2.1, bt593.2.2))) else ((spec_l1Str.f s0_0 bt590.2.1 bt590.2.2 (([(⟨#[34]⟩ : ByteArray), (⟨#[92]⟩ : ByteArray), (⟨#[127]⟩ : ByteArray), (⟨#[31]⟩ : ByteArray), (⟨#[116, 119, 101, 108, 118, 101, 32, 98, 121, 116, 101, 115]⟩ : ByteArray), (⟨#[116, 104, 105, 114, 116, 101, 101, 110, 98, 121, 116, 101, 115]⟩ : ByteArray), (⟨#[126]⟩ : ByteArray), (⟨#[125]⟩ : ByteArray), (⟨#[44, 32, 98, 61]⟩ : ByteArray), (⟨#[125, 32, 49, 45, 50]⟩ : ByteArray)] : List ByteArray))).bind fun bt599 => (some (bt599.1, bt599.2.1, bt599.2.2))))
theorem spec_l1AnyPlain.calls (g : Nat) (s0_0 : List Int) (s0_1 : Int) (s0_2 : Int) (r1 : ByteArray) (r2 : Int) (r3 : Int) (w0 w : World) (hI : IsS64 w0 w g s0_0 s0_1 s0_2) (hB : Below w0.heap.size w0 w) (h : spec_l1AnyPlain.f s0_0 s0_1 s0_2 = some (r1, r2, r3)) :
  Calls Tryd.prog 51 #[.pointer (some ⟨g, 0, none⟩)] w fun e w' => e = .returned (.string r1) ∧ IsS64 w0 w' g s0_0 r2 r3 ∧ Below w0.heap.size w0 w' ∧ KeepBut w w' g none := by
 have HI0 := Aside0.mk hI
 have HK := Aside0.mk (KeepBut.refl w g none)
 have HL := Aside0.mk hB.size
 clear hI
 have HW0 := Aside0.mk hB.size
 have HB := Aside0.mk hB
 clear hB
 have H : ((spec_l1Once.f s0_0 s0_1 s0_2 2).bind fun bt590 => (if bt590.1 = true then ((spec_l1Plain.f s0_0 bt590.2.1 bt590.2.2).bind fun bt593 => (some (bt593.1, bt593.2.1, bt593.2.2))) else ((spec_l1Str.f s0_0 bt590.2.1 bt590.2.2 (([(⟨#[34]⟩ : ByteArray), (⟨#[92]⟩ : ByteArray), (⟨#[127]⟩ : ByteArray), (⟨#[31]⟩ : ByteArray), (⟨#[116, 119, 101, 108, 118, 101, 32, 98, 121, 116, 101, 115]⟩ : ByteArray), (⟨#[116, 104, 105, 114, 116, 101, 101, 110, 98, 121, 116, 101, 115]⟩ : ByteArray), (⟨#[126]⟩ : ByteArray), (⟨#[125]⟩ : ByteArray), (⟨#[44, 32, 98, 61]⟩ : ByteArray), (⟨#[125, 32, 49, 45, 50]⟩ : ByteArray)] : List ByteArray))).bind fun bt599 => (some (bt599.1, bt599.2.1, bt599.2.2))))) = some (r1, r2, r3) := h
 clear h
 replace H := Option.bind_eq_some_iff.mp H
 obtain ⟨⟨t590, t591, t592⟩, A20, H⟩ := H
 have A2 := Aside0.mk A20
 clear A20
 by_cases c3 : t590 = true
 ·
  subst c3
  rw [if_pos rfl] at H
  replace H := Option.bind_eq_some_iff.mp H
  obtain ⟨⟨t593, t594, t595⟩, A40, H⟩ := H
  have A4 := Aside0.mk A40
  clear A40
  simp only [Option.some.injEq, Prod.mk.injEq] at H
  obtain ⟨rfl, rfl, rfl⟩ := H
  go_enter Tryd.func51, Tryd.ntmps51
  go_wp2_with (first | ((with_reducible refine gate_callee (f := 24) rfl ?_); refine gl_ (some 4) Tryd.func24 #[.pointer (some ⟨g, 0, none⟩), .int .i64 2] ?_; (with_reducible refine (spec_l1Once.calls g s0_0 s0_1 s0_2 2 true t591 t592 w0 _ ?side1 ?side2 A2.out).mono ?_); (case side1 => exact IsS64.pk_ HI0.out); (case side2 => exact hs_ HB.out); rintro e w5 ⟨rfl, hi, hb, hk⟩; refine ⟨_, rfl, ?_⟩; replace HK := kh_ HK hk; replace HB := Aside0.mk (hb); replace HI0 := Aside0.mk (hi); (try clear hb); (try clear hk); (try clear hi)) | ((with_reducible refine gate_callee (f := 67) rfl ?_); refine gl_ (some 6) Tryd.func67 #[.pointer (some ⟨g, 0, none⟩)] ?_; (with_reducible refine (spec_l1Plain.calls g s0_0 t591 t592 t593 t594 t595 w0 _ ?side1 ?side2 A4.out).mono ?_); (case side1 => exact IsS64.pk_ HI0.out); (case side2 => exact hs_ HB.out); rintro e w6 ⟨rfl, hi, hb, hk⟩; refine ⟨_, rfl, ?_⟩; replace HK := kh_ HK hk; replace HB := Aside0.mk (hb); replace HI0 := Aside0.mk (hi); (try clear hb); (try clear hk); (try clear hi)))
  go_ret
  exact an_ ⟨IsS64.pk_ HI0.out, by exact hs_ HB.out, ku_ HK.out⟩
 replace c3 := Bool.eq_false_iff.mpr c3
 subst c3
 rw [if_neg (show ¬ (false = true) by decide)] at H
 obtain ⟨y596, hy596⟩ : ∃ y_ : List ByteArray, y_ = (([(⟨#[34]⟩ : ByteArray), (⟨#[92]⟩ : ByteArray), (⟨#[127]⟩ : ByteArray), (⟨#[31]⟩ : ByteArray), (⟨#[116, 119, 101, 108, 118, 101, 32, 98, 121, 116, 101, 115]⟩ : ByteArray), (⟨#[116, 104, 105, 114, 116, 101, 101, 110, 98, 121, 116, 101, 115]⟩ : ByteArray), (⟨#[126]⟩ : ByteArray), (⟨#[125]⟩ : ByteArray), (⟨#[44, 32, 98, 61]⟩ : ByteArray), (⟨#[125, 32, 49, 45, 50]⟩ : ByteArray)] : List ByteArray)) := ⟨_, rfl⟩
 replace H : ((spec_l1Str.f s0_0 t591 t592 y596).bind fun bt599 => (some (bt599.1, bt599.2.1, bt599.2.2))) = some (r1, r2, r3) := by first | (rw [hy596]; with_reducible exact H) | (have H2_ := (Option.bind_some _ _).symm.trans H; rw [hy596]; with_reducible exact H2_) | (have H2_ := (Option.bind_some _ _).symm.trans H; with_reducible exact H2_) | with_reducible exact H | (rw [hy596]; exact H) | exact H
 have Ny596 := Aside0.mk hy596
 clear hy596
 replace H := Option.bind_eq_some_iff.mp H
 obtain ⟨⟨t599, t600, t601⟩, A70, H⟩ := H
 have A7 := Aside0.mk A70
 clear A70
 simp only [Option.some.injEq, Prod.mk.injEq] at H
 obtain ⟨rfl, rfl, rfl⟩ := H
 go_enter Tryd.func51, Tryd.ntmps51
 go_wp2_with (first | ((with_reducible refine gate_callee (f := 24) rfl ?_); refine gl_ (some 4) Tryd.func24 #[.pointer (some ⟨g, 0, none⟩), .int .i64 2] ?_; (with_reducible refine (spec_l1Once.calls g s0_0 s0_1 s0_2 2 false t591 t592 w0 _ ?side1 ?side2 A2.out).mono ?_); (case side1 => exact IsS64.pk_ HI0.out); (case side2 => exact hs_ HB.out); rintro e w8 ⟨rfl, hi, hb, hk⟩; refine ⟨_, rfl, ?_⟩; replace HK := kh_ HK hk; replace HB := Aside0.mk (hb); replace HI0 := Aside0.mk (hi); (try clear hb); (try clear hk); (try clear hi)) | ((with_reducible refine gd_ 8 rfl ?_); refine Kd.R_lit Kd.string _ 9 ?hg (N := 8) ?hd (xs := ([(⟨#[34]⟩ : ByteArray), (⟨#[92]⟩ : ByteArray), (⟨#[127]⟩ : ByteArray), (⟨#[31]⟩ : ByteArray), (⟨#[116, 119, 101, 108, 118, 101, 32, 98, 121, 116, 101, 115]⟩ : ByteArray), (⟨#[116, 104, 105, 114, 116, 101, 101, 110, 98, 121, 116, 101, 115]⟩ : ByteArray), (⟨#[126]⟩ : ByteArray), (⟨#[125]⟩ : ByteArray), (⟨#[44, 32, 98, 61]⟩ : ByteArray), (⟨#[125, 32, 49, 45, 50]⟩ : ByteArray)] : List ByteArray)) (inner := [.string (⟨#[34]⟩ : ByteArray), .string (⟨#[92]⟩ : ByteArray), .string (⟨#[127]⟩ : ByteArray), .string (⟨#[31]⟩ : ByteArray), .string (⟨#[116, 119, 101, 108, 118, 101, 32, 98, 121, 116, 101, 115]⟩ : ByteArray), .string (⟨#[116, 104, 105, 114, 116, 101, 101, 110, 98, 121, 116, 101, 115]⟩ : ByteArray), .string (⟨#[126]⟩ : ByteArray), .string (⟨#[125]⟩ : ByteArray), .string (⟨#[44, 32, 98, 61]⟩ : ByteArray), .string (⟨#[125, 32, 49, 45, 50]⟩ : ByteArray)]) (ok := fun _ => True) (okp := fun _ => True) ?hr ?hp (fun _ hk => hk) trivial (Below.refl _ _) (Nat.le_refl _) (by simp) ?_; (case hd => rfl); (case hg => rfl); (case hr => first | (go_simp; done) | (go_simp; rfl)); (case hp => exact (Reps.one (show Kd.M Kd.string _ _ _ (⟨#[34]⟩ : ByteArray) [.string (⟨#[34]⟩ : ByteArray)] from rfl) (Reps.one (show Kd.M Kd.string _ _ _ (⟨#[92]⟩ : ByteArray) [.string (⟨#[92]⟩ : ByteArray)] from rfl) (Reps.one (show Kd.M Kd.string _ _ _ (⟨#[127]⟩ : ByteArray) [.string (⟨#[127]⟩ : ByteArray)] from rfl) (Reps.one (show Kd.M Kd.string _ _ _ (⟨#[31]⟩ : ByteArray) [.string (⟨#[31]⟩ : ByteArray)] from rfl) (Reps.one (show Kd.M Kd.string _ _ _ (⟨#[116, 119, 101, 108, 118, 101, 32, 98, 121, 116, 101, 115]⟩ : ByteArray) [.string (⟨#[116, 119, 101, 108, 118, 101, 32, 98, 121, 116, 101, 115]⟩ : ByteArray)] from rfl) (Reps.one (show Kd.M Kd.string _ _ _ (⟨#[116, 104, 105, 114, 116, 101, 101, 110, 98, 121, 116, 101, 115]⟩ : ByteArray) [.string (⟨#[116, 104, 105, 114, 116, 101, 101, 110, 98, 121, 116, 101, 115]⟩ : ByteArray)] from rfl) (Reps.one (show Kd.M Kd.string _ _ _ (⟨#[126]⟩ : ByteArray) [.string (⟨#[126]⟩ : ByteArray)] from rfl) (Reps.one (show Kd.M Kd.string _ _ _ (⟨#[125]⟩ : ByteArray) [.string (⟨#[125]⟩ : ByteArray)] from rfl) (Reps.one (show Kd.M Kd.string _ _ _ (⟨#[44, 32, 98, 61]⟩ : ByteArray) [.string (⟨#[44, 32, 98, 61]⟩ : ByteArray)] from rfl) (Reps.one (show Kd.M Kd.string _ _ _ (⟨#[125, 32, 49, 45, 50]⟩ : ByteArray) [.string (⟨#[125, 32, 49, 45, 50]⟩ : ByteArray)] from rfl) (Reps.none _ _)))))))))))); intro v597 w9 ho10 hb hg_ hnew_; clear hg_ hnew_; (first | rw [← Ny596.out] at ho10 | (simp only [Int.reduceToNat] at ho10; rw [← Ny596.out] at ho10)); have HO598 := rl_ ho10 HK; have n1_ := IsS64.bk_ HI0 hb; have n2_ := kt_ HK hb; have n3_ := st_ HB hb; clear HI0 HK HB; have HI0 := n1_; have HK := n2_; have HB := n3_; clear n1_ n2_ n3_; clear hb ho10; obtain ⟨Ao11, co11, eo11⟩ := Kd.R_slice HO598.out; subst eo11) | ((with_reducible refine gate_callee (f := 75) rfl ?_); refine gl_ (some 9) Tryd.func75 #[.pointer (some ⟨g, 0, none⟩), .slice Ao11 y596.length co11] ?_; (with_reducible refine (spec_l1Str.calls g s0_0 t591 t592 _ _ y596 t599 t600 t601 w0 _ ?side1 ?side2 ?side3 ?side4 ?side5 A7.out).mono ?_); (case side1 => exact IsS64.pk_ HI0.out); (case side2 => exact hs_ HB.out); (case side3 => exact cp_ ((Kd.R_reads' HO598.out).2.2)); (case side4 => exact (Kd.R_reads' HO598.out).2.1); (case side5 => exact far_slice (IsS64.own_ne HI0.out HO598.out (by decide))); rintro e w12 ⟨rfl, hi, hb, hk⟩; refine ⟨_, rfl, ?_⟩; replace HO598 := IsS64.rk_ HI0 HO598 hk; replace HK := kh_ HK hk; replace HB := Aside0.mk (hb); replace HI0 := Aside0.mk (hi); (try clear hb); (try clear hk); (try clear hi)))
 go_ret
 exact an_ ⟨IsS64.pk_ HI0.out, by exact hs_ HB.out, ku_ HK.out⟩
def spec_l2Any.f (k : Nat) (s0_0 : List Int) (s0_1 : Int) (s0_2 : Int) : Option ((List (S83)) × Int × Int) := (spec_l2Draw.f k s0_0 s0_1 s0_2).bind fun bt602 => ((spec_l1Below.f s0_0 bt602.2.1 bt602.2.2 10).bind fun bt607 => (if bt607.1 = 0 then ((spec_l1AnyName.f s0_0 bt607.2.1 bt607.2.2).bind fun bt610 => ((spec_l1AnyPlain.f s0_0 bt610.2.1 bt610.2.2).bind fun bt613 => (if bt602.1.length < 4398046511104 then (some ((bt602.1 ++ [(⟨bt610.1, bt613.1⟩ : S83)]), bt613.2.1, bt613.2.2)) else (none)))) else (if bt607.1 = 1 then ((some (([(⟨(⟨#[122, 122]⟩ : ByteArray), (⟨#[49]⟩ : ByteArray)⟩ : S83)] : List (S83)) : List (S83))).bind fun y619 => (if y619.length + bt602.1.length < 4398046511104 then (some ((y619 ++ bt602.1), bt607.2.1, bt607.2.2)) else (none))) else (if bt607.1 = 2 then (if 0 < (bt602.1.length : Int) then (if bt602.1.length < 4398046511104 then (some ((bt602.1 ++ [(⟨(rd_T83 bt602.1 0).f0, (rd_T83 bt602.1 0).f1⟩ : S83)]), bt607.2.1, bt607.2.2)) else (none)) else (none)) else (if bt607.1 = 3 then ((some (([(⟨(⟨#[122, 117]⟩ : ByteArray), (⟨#[]⟩ : ByteArray)⟩ : S83), (⟨(⟨#[122, 118]⟩ : ByteArray), (⟨#[]⟩ : ByteArray)⟩ : S83), (⟨(⟨#[122, 119]⟩ : ByteArray), (⟨#[]⟩ : ByteArray)⟩ : S83), (⟨(⟨#[122, 120]⟩ : ByteArray), (⟨#[]⟩ : ByteArray)⟩ : S83)] : List (S83)) : List (S83))).bind fun y629 => (if bt602.1.length + y629.length < 4398046511104 then (some ((bt602.1 ++ y629), bt607.2.1, bt607.2.2)) else (none))) else (if bt607.1 = 4 then ((spec_l1AnyPlain.f s0_0 bt607.2.1 bt607.2.2).bind fun bt635 => (if 0 < (bt602.1.length : Int) then (some ((bt602.1.set (0 : Int).toNat (⟨(rd_T83 bt602.1 0).f0, bt635.1⟩ : S83)), bt635.2.1, bt635.2.2)) else (none))) else (if bt607.1 = 5 then (some ((([] : List (S83))), bt607.2.1, bt607.2.2)) else (some (bt602.1, bt607.2.1, bt607.2.2)))))))))
theorem spec_l2Any.mono : ∀ a0 a1 a2 k, LeO (spec_l2Any.f k a0 a1 a2) (spec_l2Any.f (k + 1) a0 a1 a2) := by
 intro a0 a1 a2 k
 unfold spec_l2Any.f
 repeat' first | (with_reducible first | exact spec_l2Draw.mono _ _ _ _ | exact LeO.refl _ | exact LeO.none _ | refine LeO.ite ?_ ?_ | refine LeO.bind ?_ (fun _ => ?_)) | exact spec_l2Draw.mono _ _ _ _
theorem spec_l2Any.calls (k : Nat) (g : Nat) (s0_0 : List Int) (s0_1 : Int) (s0_2 : Int) (r1 : List (S83)) (r2 : Int) (r3 : Int) (w0 w : World) (hI : IsS64 w0 w g s0_0 s0_1 s0_2) (hB : Below w0.heap.size w0 w) (h : spec_l2Any.f k s0_0 s0_1 s0_2 = some (r1, r2, r3)) :
  Calls Tryd.prog 49 #[.pointer (some ⟨g, 0, none⟩)] w fun e w' => ∃ v0_ : Value, e = .returned (v0_) ∧ Kd.R k83 83 w' w.heap.size (fun _ => True) v0_ r1 ∧ IsS64 w0 w' g s0_0 r2 r3 ∧ Below w0.heap.size w0 w' ∧ KeepBut w w' g none := by
 have hu83 := Tryd.underlying83
 have HI0 := Aside0.mk hI
 have HK := Aside0.mk (KeepBut.refl w g none)
 have HL := Aside0.mk hB.size
 clear hI
 have HW0 := Aside0.mk hB.size
 have HB := Aside0.mk hB
 clear hB
 have H : ((spec_l2Draw.f k s0_0 s0_1 s0_2).bind fun bt602 => ((spec_l1Below.f s0_0 bt602.2.1 bt602.2.2 10).bind fun bt607 => (if bt607.1 = 0 then ((spec_l1AnyName.f s0_0 bt607.2.1 bt607.2.2).bind fun bt610 => ((spec_l1AnyPlain.f s0_0 bt610.2.1 bt610.2.2).bind fun bt613 => (if bt602.1.length < 4398046511104 then (some ((bt602.1 ++ [(⟨bt610.1, bt613.1⟩ : S83)]), bt613.2.1, bt613.2.2)) else (none)))) else (if bt607.1 = 1 then ((some (([(⟨(⟨#[122, 122]⟩ : ByteArray), (⟨#[49]⟩ : ByteArray)⟩ : S83)] : List (S83)) : List (S83))).bind fun y619 => (if y619.length + bt602.1.length < 4398046511104 then (some ((y619 ++ bt602.1), bt607.2.1, bt607.2.2)) else (none))) else (if bt607.1 = 2 then (if 0 < (bt602.1.length : Int) then (if bt602.1.length < 4398046511104 then (some ((bt602.1 ++ [(⟨(rd_T83 bt602.1 0).f0, (rd_T83 bt602.1 0).f1⟩ : S83)]), bt607.2.1, bt607.2.2)) else (none)) else (none)) else (if bt607.1 = 3 then ((some (([(⟨(⟨#[122, 117]⟩ : ByteArray), (⟨#[]⟩ : ByteArray)⟩ : S83), (⟨(⟨#[122, 118]⟩ : ByteArray), (⟨#[]⟩ : ByteArray)⟩ : S83), (⟨(⟨#[122, 119]⟩ : ByteArray), (⟨#[]⟩ : ByteArray)⟩ : S83), (⟨(⟨#[122, 120]⟩ : ByteArray), (⟨#[]⟩ : ByteArray)⟩ : S83)] : List (S83)) : List (S83))).bind fun y629 => (if bt602.1.length + y629.length < 4398046511104 then (some ((bt602.1 ++ y629), bt607.2.1, bt607.2.2)) else (none))) else (if bt607.1 = 4 then ((spec_l1AnyPlain.f s0_0 bt607.2.1 bt607.2.2).bind fun bt635 => (if 0 < (bt602.1.length : Int) then (some ((bt602.1.set (0 : Int).toNat (⟨(rd_T83 bt602.1 0).f0, bt635.1⟩ : S83)), bt635.2.1, bt635.2.2)) else (none))) else (if bt607.1 = 5 then (some ((([] : List (S83))), bt607.2.1, bt607.2.2)) else (some (bt602.1, bt607.2.1, bt607.2.2)))))))))) = some (r1, r2, r3) := h
 clear h
 replace H := Option.bind_eq_some_iff.mp H
 obtain ⟨⟨t602, t605, t606⟩, A20, H⟩ := H
 have A2 := Aside0.mk A20
 clear A20
 replace H := Option.bind_eq_some_iff.mp H
 obtain ⟨⟨t607, t608, t609⟩, A30, H⟩ := H
 have A3 := Aside0.mk A30
 clear A30
 by_cases c4 : t607 = 0
 ·
  rw [if_pos c4] at H
  have c4b0 : (t607 == 0) = true := beq_iff_eq.mpr c4
  have c4b1 : (t607 != 0) = false := bne_eq_false_iff_eq.mpr c4
  clear c4
  replace H := Option.bind_eq_some_iff.mp H
  obtain ⟨⟨t610, t611, t612⟩, A50, H⟩ := H
  have A5 := Aside0.mk A50
  clear A50
  replace H := Option.bind_eq_some_iff.mp H
  obtain ⟨⟨t613, t614, t615⟩, A60, H⟩ := H
  have A6 := Aside0.mk A60
  clear A60
  by_cases c7 : t602.length < 4398046511104
  ·
   rw [if_pos c7] at H
   have LMc7 := Aside0.mk c7
   clear c7
   obtain ⟨y616, hy616⟩ : ∃ y_ : List (S83), y_ = (t602 ++ [(⟨t610, t613⟩ : S83)]) := ⟨_, rfl⟩
   replace H : (some (y616, t614, t615)) = some (r1, r2, r3) := by first | (rw [hy616]; with_reducible exact H) | (have H2_ := (Option.bind_some _ _).symm.trans H; rw [hy616]; with_reducible exact H2_) | (have H2_ := (Option.bind_some _ _).symm.trans H; with_reducible exact H2_) | with_reducible exact H | (rw [hy616]; exact H) | exact H
   have Ny616 := Aside0.mk hy616
   clear hy616
   simp only [Option.some.injEq, Prod.mk.injEq] at H
   obtain ⟨rfl, rfl, rfl⟩ := H
   go_enter Tryd.func49, Tryd.ntmps49
   go_wp2_with (first | ((with_reducible refine gate_callee (f := 66) rfl ?_); refine gl_ (some 5) Tryd.func66 #[.pointer (some ⟨g, 0, none⟩)] ?_; (with_reducible refine (spec_l2Draw.calls k g s0_0 s0_1 s0_2 t602 t605 t606 w0 _ ?side1 ?side2 A2.out).mono ?_); (case side1 => exact IsS64.pk_ HI0.out); (case side2 => exact hs_ HB.out); rintro e w8 ⟨v603, rfl, ho0, hi, hb, hk⟩; refine ⟨_, rfl, ?_⟩; have HO604 := rl_ ho0 HK; have n1_ := kh_ HK hk; have n2_ := Aside0.mk (hb); have n3_ := Aside0.mk (hi); clear HK HB HI0; have HK := n1_; have HB := n2_; have HI0 := n3_; clear n1_ n2_ n3_; (try clear hb); (try clear hk); (try clear hi); (try clear ho0)) | ((with_reducible refine gate_callee (f := 43) rfl ?_); refine gl_ (some 7) Tryd.func43 #[.pointer (some ⟨g, 0, none⟩), .int .i64 10] ?_; (with_reducible refine (spec_l1Below.calls g s0_0 t605 t606 10 t607 t608 t609 w0 _ ?side1 ?side2 A3.out).mono ?_); (case side1 => exact IsS64.pk_ HI0.out); (case side2 => exact hs_ HB.out); rintro e w9 ⟨rfl, hi, hb, hk⟩; refine ⟨_, rfl, ?_⟩; replace HO604 := IsS64.rk_ HI0 HO604 hk; replace HK := kh_ HK hk; replace HB := Aside0.mk (hb); replace HI0 := Aside0.mk (hi); (try clear hb); (try clear hk); (try clear hi)) | ((with_reducible refine gate_callee (f := 65) rfl ?_); refine gl_ (some 12) Tryd.func65 #[.pointer (some ⟨g, 0, none⟩)] ?_; (with_reducible refine (spec_l1AnyName.calls g s0_0 t608 t609 t610 t611 t612 w0 _ ?side1 ?side2 A5.out).mono ?_); (case side1 => exact IsS64.pk_ HI0.out); (case side2 => exact hs_ HB.out); rintro e w10 ⟨rfl, hi, hb, hk⟩; refine ⟨_, rfl, ?_⟩; replace HO604 := IsS64.rk_ HI0 HO604 hk; replace HK := kh_ HK hk; replace HB := Aside0.mk (hb); replace HI0 := Aside0.mk (hi); (try clear hb); (try clear hk); (try clear hi)) | ((with_reducible refine gate_callee (f := 51) rfl ?_); refine gl_ (some 14) Tryd.func51 #[.pointer (some ⟨g, 0, none⟩)] ?_; (with_reducible refine (spec_l1AnyPlain.calls g s0_0 t611 t612 t613 t614 t615 w0 _ ?side1 ?side2 A6.out).mono ?_); (case side1 => exact IsS64.pk_ HI0.out); (case side2 => exact hs_ HB.out); rintro e w11 ⟨rfl, hi, hb, hk⟩; refine ⟨_, rfl, ?_⟩; replace HO604 := IsS64.rk_ HI0 HO604 hk; replace HK := kh_ HK hk; replace HB := Aside0.mk (hb); replace HI0 := Aside0.mk (hi); (try clear hb); (try clear hk); (try clear hi)) | ((with_reducible refine gate_builtin (b := .append) (xs := #[.tmp 10, .tmp 16]) rfl ?_); at_builtin; refine Kd.R_append k83 w.heap.size rfl (.tmp 10) (.tmp 16) 30 83 (.agg #[(.string ⟨#[]⟩), (.string ⟨#[]⟩)]) 32 rfl Tryd.underlying30 info83 rfl (by decide) (by omega) v603 t602 (⟨t610, t613⟩ : S83) [.string t610, .string t613] (fun _ => True) (fun _ => False) rfl rfl ?aP (fun _ hk => hk.elim) ?aF ?aO (Below.refl _ _) ?aS ?aL ?_; (case aP => exact k83_mkM _ _ _ (⟨t610, t613⟩ : S83)); (case aF => exact (fun _ _ => trivial)); (case aO => exact (rp_ HO604.out)); (case aS => exact (ks_ HK)); (case aL => have := LMc7.out; omega); intro v617 w12 ho hb hg hat; rw [← Ny616.out] at ho; replace HI0 := Aside0.mk (IsS64.grown (IsS64.pk_ HI0.out) hg (IsS64.own_ne HI0.out HO604.out (by decide))); replace HB := Aside0.mk (below_weaken (hs_ HB.out) HL.out hb); replace HK := Aside0.mk (KeepBut.trans (ku_ HK.out) (KeepBut.of_grown hg g) (Kd.R_base2 HO604.out)); have HO618 := Aside0.mk (ho); clear HO604; clear ho hb hg hat))
   go_ret
   exact ⟨_, by first | rfl | (simp [errW_none, errW_some] <;> rfl) | (simp [*, errW_none, errW_some] <;> rfl), by (with_reducible repeat (first | apply Kd.R_alloc | apply Kd.R_drewN | apply Kd.R_drew)); exact HO618.out, IsS64.pk_ HI0.out, by exact hs_ HB.out, ku_ HK.out⟩
  rw [if_neg c7] at H
  exact absurd H (by simp)
 rw [if_neg c4] at H
 have c4b0 : (t607 == 0) = false := beq_eq_false_iff_ne.mpr c4
 have c4b1 : (t607 != 0) = true := bne_iff_ne.mpr c4
 by_cases c13 : t607 = 1
 ·
  rw [if_pos c13] at H
  have c13b0 : (t607 == 1) = true := beq_iff_eq.mpr c13
  have c13b1 : (t607 != 1) = false := bne_eq_false_iff_eq.mpr c13
  clear c13
  obtain ⟨y619, hy619⟩ : ∃ y_ : List (S83), y_ = (([(⟨(⟨#[122, 122]⟩ : ByteArray), (⟨#[49]⟩ : ByteArray)⟩ : S83)] : List (S83))) := ⟨_, rfl⟩
  replace H : (if y619.length + t602.length < 4398046511104 then (some ((y619 ++ t602), t608, t609)) else (none)) = some (r1, r2, r3) := by first | (rw [hy619]; with_reducible exact H) | (have H2_ := (Option.bind_some _ _).symm.trans H; rw [hy619]; with_reducible exact H2_) | (have H2_ := (Option.bind_some _ _).symm.trans H; with_reducible exact H2_) | with_reducible exact H | (rw [hy619]; exact H) | exact H
  have Ny619 := Aside0.mk hy619
  clear hy619
  by_cases c14 : y619.length + t602.length < 4398046511104
  ·
   rw [if_pos c14] at H
   have LMc14 := Aside0.mk c14
   clear c14
   obtain ⟨y622, hy622⟩ : ∃ y_ : List (S83), y_ = (y619 ++ t602) := ⟨_, rfl⟩
   replace H : (some (y622, t608, t609)) = some (r1, r2, r3) := by first | (rw [hy622]; with_reducible exact H) | (have H2_ := (Option.bind_some _ _).symm.trans H; rw [hy622]; with_reducible exact H2_) | (have H2_ := (Option.bind_some _ _).symm.trans H; with_reducible exact H2_) | with_reducible exact H | (rw [hy622]; exact H) | exact H
   have Ny622 := Aside0.mk hy622
   clear hy622
   simp only [Option.some.injEq, Prod.mk.injEq] at H
   obtain ⟨rfl, rfl, rfl⟩ := H
   go_enter Tryd.func49, Tryd.ntmps49
   go_wp2_with (first | ((with_reducible refine gate_callee (f := 66) rfl ?_); refine gl_ (some 5) Tryd.func66 #[.pointer (some ⟨g, 0, none⟩)] ?_; (with_reducible refine (spec_l2Draw.calls k g s0_0 s0_1 s0_2 t602 t605 t606 w0 _ ?side1 ?side2 A2.out).mono ?_); (case side1 => exact IsS64.pk_ HI0.out); (case side2 => exact hs_ HB.out); rintro e w15 ⟨v603, rfl, ho0, hi, hb, hk⟩; refine ⟨_, rfl, ?_⟩; have HO604 := rl_ ho0 HK; have n1_ := kh_ HK hk; have n2_ := Aside0.mk (hb); have n3_ := Aside0.mk (hi); clear HK HB HI0; have HK := n1_; have HB := n2_; have HI0 := n3_; clear n1_ n2_ n3_; (try clear hb); (try clear hk); (try clear hi); (try clear ho0)) | ((with_reducible refine gate_callee (f := 43) rfl ?_); refine gl_ (some 7) Tryd.func43 #[.pointer (some ⟨g, 0, none⟩), .int .i64 10] ?_; (with_reducible refine (spec_l1Below.calls g s0_0 t605 t606 10 t607 t608 t609 w0 _ ?side1 ?side2 A3.out).mono ?_); (case side1 => exact IsS64.pk_ HI0.out); (case side2 => exact hs_ HB.out); rintro e w16 ⟨rfl, hi, hb, hk⟩; refine ⟨_, rfl, ?_⟩; replace HO604 := IsS64.rk_ HI0 HO604 hk; replace HK := kh_ HK hk; replace HB := Aside0.mk (hb); replace HI0 := Aside0.mk (hi); (try clear hb); (try clear hk); (try clear hi)) | ((with_reducible refine gd_ 21 rfl ?_); refine Kd.R_lit k83 _ 83 ?hg (N := 21) ?hd (xs := ([(⟨(⟨#[122, 122]⟩ : ByteArray), (⟨#[49]⟩ : ByteArray)⟩ : S83)] : List (S83))) (inner := [.string (⟨#[122, 122]⟩ : ByteArray), .string (⟨#[49]⟩ : ByteArray)]) (ok := fun _ => True) (okp := fun _ => True) ?hr ?hp (fun _ hk => hk) trivial (Below.refl _ _) (Nat.le_refl _) (by simp) ?_; (case hd => rfl); (case hg => rfl); (case hr => first | (go_simp; done) | (go_simp; rfl)); (case hp => exact (Reps.c2 (show Kd.M k83 _ _ _ (⟨(⟨#[122, 122]⟩ : ByteArray), (⟨#[49]⟩ : ByteArray)⟩ : S83) [.string (⟨#[122, 122]⟩ : ByteArray), .string (⟨#[49]⟩ : ByteArray)] from (k83_mkM _ _ _ (⟨(⟨#[122, 122]⟩ : ByteArray), (⟨#[49]⟩ : ByteArray)⟩ : S83) )) (Reps.none _ _))); intro v620 w17 ho18 hb hg_ hnew_; clear hg_ hnew_; (first | rw [← Ny619.out] at ho18 | (simp only [Int.reduceToNat] at ho18; rw [← Ny619.out] at ho18)); have HO621 := Aside0.mk (Kd.R_lower (Kd.R_new' ho18 (Kd.R_lt (rp_ HO604.out))) (ks_ HK)); replace HO604 := Aside0.mk (Kd.R_elder' (rp_ HO604.out) (Kd.R_base ho18) hb); replace HI0 := IsS64.bk_ HI0 hb; replace HK := kt_ HK hb; replace HB := st_ HB hb; clear hb ho18; obtain ⟨Ao20, co20, eo20⟩ := Kd.R_slice HO604.out; subst eo20) | ((with_reducible refine gate_builtin (b := .append) (xs := #[.tmp 21, .tmp 22]) rfl ?_); at_builtin; refine Kd.R_append_rows k83 w.heap.size rfl (.tmp 21) (.tmp 22) 30 83 (.agg #[(.string ⟨#[]⟩), (.string ⟨#[]⟩)]) 32 rfl Tryd.underlying30 info83 rfl (by decide) (by omega) v620 y619 t602 _ _ _ (fun k_ => some k_ ≠ (.slice Ao20 t602.length co20 : Value).ownBlock) (fun _ => False) rfl rfl ?aO ?aR (fun _ _ h => h) (fun _ h => h.elim) ?aF (Below.refl _ _) ?aS ?aL ?_; (case aR => repeat (first | exact (Kd.R_reads' HO604.out).2.2 | (with_reducible first | refine ca_ ?_ _ | refine cn_ ?_ _ | refine cd_ ?_))); (case aF => exact (fun k_ hk => Kd.fresh' (Kd.R_lt (rp_ HO604.out)) k_ hk)); (case aO => exact (Kd.R_mono (rp_ HO621.out) (fun _ hk => hk.2))); (case aS => exact (ks_ HK)); (case aL => have := LMc14.out; omega); intro v623 w19 ho hb hg hat; rw [← Ny622.out] at ho; replace HI0 := Aside0.mk (IsS64.grown (IsS64.pk_ HI0.out) hg (IsS64.own_ne HI0.out HO621.out (by decide))); replace HO604 := Aside0.mk (Kd.R_after (ok := (fun _ => True)) (rp_ HO604.out) hg hat); replace HB := Aside0.mk (below_weaken (hs_ HB.out) HL.out hb); replace HK := Aside0.mk (KeepBut.trans (ku_ HK.out) (KeepBut.of_grown hg g) (Kd.R_base2 HO621.out)); have HO624 := Aside0.mk (ho); clear HO621; clear ho hb hg hat))
   go_ret
   exact ⟨_, by first | rfl | (simp [errW_none, errW_some] <;> rfl) | (simp [*, errW_none, errW_some] <;> rfl), by (with_reducible repeat (first | apply Kd.R_alloc | apply Kd.R_drewN | apply Kd.R_drew)); exact Kd.R_mono HO624.out (fun _ hk => trivial), IsS64.pk_ HI0.out, by exact hs_ HB.out, ku_ HK.out⟩
  rw [if_neg c14] at H
  exact absurd H (by simp)
 rw [if_neg c13] at H
 have c13b0 : (t607 == 1) = false := beq_eq_false_iff_ne.mpr c13
 have c13b1 : (t607 != 1) = true := bne_iff_ne.mpr c13
 by_cases c21 : t607 = 2
 ·
  rw [if_pos c21] at H
  have c21b0 : (t607 == 2) = true := beq_iff_eq.mpr c21
  have c21b1 : (t607 != 2) = false := bne_eq_false_iff_eq.mpr c21
  clear c21
  by_cases c22 : 0 < (t602.length : Int)
  ·
   rw [if_pos c22] at H
   have c22b0 := decide_eq_true c22
   have c22b1 : decide (0 < t602.length) = true := decide_eq_true (by omega)
   clear c22
   by_cases c23 : t602.length < 4398046511104
   ·
    rw [if_pos c23] at H
    have LMc23 := Aside0.mk c23
    clear c23
    obtain ⟨y626, hy626⟩ : ∃ y_ : List (S83), y_ = (t602 ++ [(⟨(rd_T83 t602 0).f0, (rd_T83 t602 0).f1⟩ : S83)]) := ⟨_, rfl⟩
    replace H : (some (y626, t608, t609)) = some (r1, r2, r3) := by first | (rw [hy626]; with_reducible exact H) | (have H2_ := (Option.bind_some _ _).symm.trans H; rw [hy626]; with_reducible exact H2_) | (have H2_ := (Option.bind_some _ _).symm.trans H; with_reducible exact H2_) | with_reducible exact H | (rw [hy626]; exact H) | exact H
    have Ny626 := Aside0.mk hy626
    clear hy626
    simp only [Option.some.injEq, Prod.mk.injEq] at H
    obtain ⟨rfl, rfl, rfl⟩ := H
    go_enter Tryd.func49, Tryd.ntmps49
    go_wp2_with (first | ((with_reducible refine gate_callee (f := 66) rfl ?_); refine gl_ (some 5) Tryd.func66 #[.pointer (some ⟨g, 0, none⟩)] ?_; (with_reducible refine (spec_l2Draw.calls k g s0_0 s0_1 s0_2 t602 t605 t606 w0 _ ?side1 ?side2 A2.out).mono ?_); (case side1 => exact IsS64.pk_ HI0.out); (case side2 => exact hs_ HB.out); rintro e w24 ⟨v603, rfl, ho0, hi, hb, hk⟩; refine ⟨_, rfl, ?_⟩; have HO604 := rl_ ho0 HK; have n1_ := kh_ HK hk; have n2_ := Aside0.mk (hb); have n3_ := Aside0.mk (hi); clear HK HB HI0; have HK := n1_; have HB := n2_; have HI0 := n3_; clear n1_ n2_ n3_; (try clear hb); (try clear hk); (try clear hi); (try clear ho0)) | ((with_reducible refine gate_callee (f := 43) rfl ?_); refine gl_ (some 7) Tryd.func43 #[.pointer (some ⟨g, 0, none⟩), .int .i64 10] ?_; (with_reducible refine (spec_l1Below.calls g s0_0 t605 t606 10 t607 t608 t609 w0 _ ?side1 ?side2 A3.out).mono ?_); (case side1 => exact IsS64.pk_ HI0.out); (case side2 => exact hs_ HB.out); rintro e w25 ⟨rfl, hi, hb, hk⟩; refine ⟨_, rfl, ?_⟩; replace HO604 := IsS64.rk_ HI0 HO604 hk; replace HK := kh_ HK hk; replace HB := Aside0.mk (hb); replace HI0 := Aside0.mk (hi); (try clear hb); (try clear hk); (try clear hi); obtain ⟨Ao26, co26, eo26⟩ := Kd.R_slice HO604.out; subst eo26; have p625 : 0 ≤ (0 : Int) := (by omega); have q625 : 0 < (t602.length : Int) := of_decide_eq_true (by with_reducible assumption); obtain ⟨ad625, e625, hx625_0, hx625_1⟩ := at_T83 (Kd.R_reads' HO604.out).2.2 0 p625 q625; cases e625; have qi625 : (0 < t602.length) = True := eq_true (by omega); (try rw [show ((0 : Int)).toNat = 0 from rfl] at hx625_0); (try rw [show 0 * 2 = 0 from rfl] at hx625_0); (try rw [Addr.add_zero'] at hx625_0); (try rw [show ((0 : Int)).toNat = 0 from rfl] at hx625_1); (try rw [show 0 * 2 = 0 from rfl] at hx625_1); (try rw [Addr.add_zero'] at hx625_1); replace p625 := eq_true p625; replace q625 := eq_true q625) | ((with_reducible refine gate_builtin (b := .append) (xs := #[.tmp 26, .tmp 30]) rfl ?_); at_builtin; refine Kd.R_append k83 w.heap.size rfl (.tmp 26) (.tmp 30) 30 83 (.agg #[(.string ⟨#[]⟩), (.string ⟨#[]⟩)]) 32 rfl Tryd.underlying30 info83 rfl (by decide) (by omega) (.slice (some ad625) t602.length co26) t602 (⟨(rd_T83 t602 0).f0, (rd_T83 t602 0).f1⟩ : S83) [.string ((rd_T83 t602 0).f0), .string ((rd_T83 t602 0).f1)] (fun _ => True) (fun _ => False) rfl rfl ?aP (fun _ hk => hk.elim) ?aF ?aO (Below.refl _ _) ?aS ?aL ?_; (case aP => exact k83_mkM _ _ _ (⟨(rd_T83 t602 0).f0, (rd_T83 t602 0).f1⟩ : S83)); (case aF => exact (fun _ _ => trivial)); (case aO => exact (rp_ HO604.out)); (case aS => exact (ks_ HK)); (case aL => have := LMc23.out; omega); intro v627 w27 ho hb hg hat; rw [← Ny626.out] at ho; replace HI0 := Aside0.mk (IsS64.grown (IsS64.pk_ HI0.out) hg (IsS64.own_ne HI0.out HO604.out (by decide))); replace HB := Aside0.mk (below_weaken (hs_ HB.out) HL.out hb); replace HK := Aside0.mk (KeepBut.trans (ku_ HK.out) (KeepBut.of_grown hg g) (Kd.R_base2 HO604.out)); have HO628 := Aside0.mk (ho); clear HO604; clear ho hb hg hat))
    go_ret
    exact ⟨_, by first | rfl | (simp [errW_none, errW_some] <;> rfl) | (simp [*, errW_none, errW_some] <;> rfl), by (with_reducible repeat (first | apply Kd.R_alloc | apply Kd.R_drewN | apply Kd.R_drew)); exact HO628.out, IsS64.pk_ HI0.out, by exact hs_ HB.out, ku_ HK.out⟩
   rw [if_neg c23] at H
   exact absurd H (by simp)
  rw [if_neg c22] at H
  exact absurd H (by simp)
 rw [if_neg c21] at H
 have c21b0 : (t607 == 2) = false := beq_eq_false_iff_ne.mpr c21
 have c21b1 : (t607 != 2) = true := bne_iff_ne.mpr c21
 by_cases c28 : t607 = 3
 ·
  rw [if_pos c28] at H
  have c28b0 : (t607 == 3) = true := beq_iff_eq.mpr c28
  have c28b1 : (t607 != 3) = false := bne_eq_false_iff_eq.mpr c28
  clear c28
  obtain ⟨y629, hy629⟩ : ∃ y_ : List (S83), y_ = (([(⟨(⟨#[122, 117]⟩ : ByteArray), (⟨#[]⟩ : ByteArray)⟩ : S83), (⟨(⟨#[122, 118]⟩ : ByteArray), (⟨#[]⟩ : ByteArray)⟩ : S83), (⟨(⟨#[122, 119]⟩ : ByteArray), (⟨#[]⟩ : ByteArray)⟩ : S83), (⟨(⟨#[122, 120]⟩ : ByteArray), (⟨#[]⟩ : ByteArray)⟩ : S83)] : List (S83))) := ⟨_, rfl⟩
  replace H : (if t602.length + y629.length < 4398046511104 then (some ((t602 ++ y629), t608, t609)) else (none)) = some (r1, r2, r3) := by first | (rw [hy629]; with_reducible exact H) | (have H2_ := (Option.bind_some _ _).symm.trans H; rw [hy629]; with_reducible exact H2_) | (have H2_ := (Option.bind_some _ _).symm.trans H; with_reducible exact H2_) | with_reducible exact H | (rw [hy629]; exact H) | exact H
  have Ny629 := Aside0.mk hy629
  clear hy629
  by_cases c29 : t602.length + y629.length < 4398046511104
  ·
   rw [if_pos c29] at H
   have LMc29 := Aside0.mk c29
   clear c29
   obtain ⟨y632, hy632⟩ : ∃ y_ : List (S83), y_ = (t602 ++ y629) := ⟨_, rfl⟩
   replace H : (some (y632, t608, t609)) = some (r1, r2, r3) := by first | (rw [hy632]; with_reducible exact H) | (have H2_ := (Option.bind_some _ _).symm.trans H; rw [hy632]; with_reducible exact H2_) | (have H2_ := (Option.bind_some _ _).symm.trans H; with_reducible exact H2_) | with_reducible exact H | (rw [hy632]; exact H) | exact H
   have Ny632 := Aside0.mk hy632
   clear hy632
   simp only [Option.some.injEq, Prod.mk.injEq] at H
   obtain ⟨rfl, rfl, rfl⟩ := H
   go_enter Tryd.func49, Tryd.ntmps49
   go_wp2_with (first | ((with_reducible refine gate_callee (f := 66) rfl ?_); refine gl_ (some 5) Tryd.func66 #[.pointer (some ⟨g, 0, none⟩)] ?_; (with_reducible refine (spec_l2Draw.calls k g s0_0 s0_1 s0_2 t602 t605 t606 w0 _ ?side1 ?side2 A2.out).mono ?_); (case side1 => exact IsS64.pk_ HI0.out); (case side2 => exact hs_ HB.out); rintro e w30 ⟨v603, rfl, ho0, hi, hb, hk⟩; refine ⟨_, rfl, ?_⟩; have HO604 := rl_ ho0 HK; have n1_ := kh_ HK hk; have n2_ := Aside0.mk (hb); have n3_ := Aside0.mk (hi); clear HK HB HI0; have HK := n1_; have HB := n2_; have HI0 := n3_; clear n1_ n2_ n3_; (try clear hb); (try clear hk); (try clear hi); (try clear ho0)) | ((with_reducible refine gate_callee (f := 43) rfl ?_); refine gl_ (some 7) Tryd.func43 #[.pointer (some ⟨g, 0, none⟩), .int .i64 10] ?_; (with_reducible refine (spec_l1Below.calls g s0_0 t605 t606 10 t607 t608 t609 w0 _ ?side1 ?side2 A3.out).mono ?_); (case side1 => exact IsS64.pk_ HI0.out); (case side2 => exact hs_ HB.out); rintro e w31 ⟨rfl, hi, hb, hk⟩; refine ⟨_, rfl, ?_⟩; replace HO604 := IsS64.rk_ HI0 HO604 hk; replace HK := kh_ HK hk; replace HB := Aside0.mk (hb); replace HI0 := Aside0.mk (hi); (try clear hb); (try clear hk); (try clear hi)) | ((with_reducible refine gd_ 39 rfl ?_); refine Kd.R_lit k83 _ 83 ?hg (N := 39) ?hd (xs := ([(⟨(⟨#[122, 117]⟩ : ByteArray), (⟨#[]⟩ : ByteArray)⟩ : S83), (⟨(⟨#[122, 118]⟩ : ByteArray), (⟨#[]⟩ : ByteArray)⟩ : S83), (⟨(⟨#[122, 119]⟩ : ByteArray), (⟨#[]⟩ : ByteArray)⟩ : S83), (⟨(⟨#[122, 120]⟩ : ByteArray), (⟨#[]⟩ : ByteArray)⟩ : S83)] : List (S83))) (inner := [.string (⟨#[122, 117]⟩ : ByteArray), .string (⟨#[]⟩ : ByteArray), .string (⟨#[122, 118]⟩ : ByteArray), .string (⟨#[]⟩ : ByteArray), .string (⟨#[122, 119]⟩ : ByteArray), .string (⟨#[]⟩ : ByteArray), .string (⟨#[122, 120]⟩ : ByteArray), .string (⟨#[]⟩ : ByteArray)]) (ok := fun _ => True) (okp := fun _ => True) ?hr ?hp (fun _ hk => hk) trivial (Below.refl _ _) (Nat.le_refl _) (by simp) ?_; (case hd => rfl); (case hg => rfl); (case hr => first | (go_simp; done) | (go_simp; rfl)); (case hp => exact (Reps.c2 (show Kd.M k83 _ _ _ (⟨(⟨#[122, 117]⟩ : ByteArray), (⟨#[]⟩ : ByteArray)⟩ : S83) [.string (⟨#[122, 117]⟩ : ByteArray), .string (⟨#[]⟩ : ByteArray)] from (k83_mkM _ _ _ (⟨(⟨#[122, 117]⟩ : ByteArray), (⟨#[]⟩ : ByteArray)⟩ : S83) )) (Reps.c2 (show Kd.M k83 _ _ _ (⟨(⟨#[122, 118]⟩ : ByteArray), (⟨#[]⟩ : ByteArray)⟩ : S83) [.string (⟨#[122, 118]⟩ : ByteArray), .string (⟨#[]⟩ : ByteArray)] from (k83_mkM _ _ _ (⟨(⟨#[122, 118]⟩ : ByteArray), (⟨#[]⟩ : ByteArray)⟩ : S83) )) (Reps.c2 (show Kd.M k83 _ _ _ (⟨(⟨#[122, 119]⟩ : ByteArray), (⟨#[]⟩ : ByteArray)⟩ : S83) [.string (⟨#[122, 119]⟩ : ByteArray), .string (⟨#[]⟩ : ByteArray)] from (k83_mkM _ _ _ (⟨(⟨#[122, 119]⟩ : ByteArray), (⟨#[]⟩ : ByteArray)⟩ : S83) )) (Reps.c2 (show Kd.M k83 _ _ _ (⟨(⟨#[122, 120]⟩ : ByteArray), (⟨#[]⟩ : ByteArray)⟩ : S83) [.string (⟨#[122, 120]⟩ : ByteArray), .string (⟨#[]⟩ : ByteArray)] from (k83_mkM _ _ _ (⟨(⟨#[122, 120]⟩ : ByteArray), (⟨#[]⟩ : ByteArray)⟩ : S83) )) (Reps.none _ _)))))); intro v630 w32 ho33 hb hg_ hnew_; clear hg_ hnew_; (first | rw [← Ny629.out] at ho33 | (simp only [Int.reduceToNat] at ho33; rw [← Ny629.out] at ho33)); have HO631 := Aside0.mk (Kd.R_lower (Kd.R_new' ho33 (Kd.R_lt (rp_ HO604.out))) (ks_ HK)); replace HO604 := Aside0.mk (Kd.R_elder' (rp_ HO604.out) (Kd.R_base ho33) hb); replace HI0 := IsS64.bk_ HI0 hb; replace HK := kt_ HK hb; replace HB := st_ HB hb; clear hb ho33; obtain ⟨Ao35, co35, eo35⟩ := Kd.R_slice HO631.out; subst eo35) | ((with_reducible refine gate_builtin (b := .append) (xs := #[.tmp 34, .tmp 39]) rfl ?_); at_builtin; refine Kd.R_append_rows k83 w.heap.size rfl (.tmp 34) (.tmp 39) 30 83 (.agg #[(.string ⟨#[]⟩), (.string ⟨#[]⟩)]) 32 rfl Tryd.underlying30 info83 rfl (by decide) (by omega) v603 t602 y629 _ _ _ (fun k_ => some k_ ≠ (.slice Ao35 y629.length co35 : Value).ownBlock) (fun _ => False) rfl rfl ?aO ?aR (fun _ _ h => h) (fun _ h => h.elim) ?aF (Below.refl _ _) ?aS ?aL ?_; (case aR => repeat (first | exact (Kd.R_reads' HO631.out).2.2 | (with_reducible first | refine ca_ ?_ _ | refine cn_ ?_ _ | refine cd_ ?_))); (case aF => exact (fun k_ hk => Kd.fresh' (Kd.R_lt (rp_ HO631.out)) k_ hk)); (case aO => exact (Kd.R_mono (rp_ HO604.out) (fun _ hk => hk.2))); (case aS => exact (ks_ HK)); (case aL => have := LMc29.out; omega); intro v633 w34 ho hb hg hat; rw [← Ny632.out] at ho; replace HI0 := Aside0.mk (IsS64.grown (IsS64.pk_ HI0.out) hg (IsS64.own_ne HI0.out HO604.out (by decide))); replace HO631 := Aside0.mk (Kd.R_after (ok := (fun _ => True)) (rp_ HO631.out) hg hat); replace HB := Aside0.mk (below_weaken (hs_ HB.out) HL.out hb); replace HK := Aside0.mk (KeepBut.trans (ku_ HK.out) (KeepBut.of_grown hg g) (Kd.R_base2 HO604.out)); have HO634 := Aside0.mk (ho); clear HO604; clear ho hb hg hat))
   go_ret
   exact ⟨_, by first | rfl | (simp [errW_none, errW_some] <;> rfl) | (simp [*, errW_none, errW_some] <;> rfl), by (with_reducible repeat (first | apply Kd.R_alloc | apply Kd.R_drewN | apply Kd.R_drew)); exact Kd.R_mono HO634.out (fun _ hk => trivial), IsS64.pk_ HI0.out, by exact hs_ HB.out, ku_ HK.out⟩
  rw [if_neg c29] at H
  exact absurd H (by simp)
 rw [if_neg c28] at H
 have c28b0 : (t607 == 3) = false := beq_eq_false_iff_ne.mpr c28
 have c28b1 : (t607 != 3) = true := bne_iff_ne.mpr c28
 have AHz_ := Aside0.mk H
 clear H
 go_enter Tryd.func49, Tryd.ntmps49
 go_wp2_with (first | ((with_reducible refine gate_callee (f := 66) rfl ?_); refine gl_ (some 5) Tryd.func66 #[.pointer (some ⟨g, 0, none⟩)] ?_; (with_reducible refine (spec_l2Draw.calls k g s0_0 s0_1 s0_2 t602 t605 t606 w0 _ ?side1 ?side2 A2.out).mono ?_); (case side1 => exact IsS64.pk_ HI0.out); (case side2 => exact hs_ HB.out); rintro e w40 ⟨v603, rfl, ho0, hi, hb, hk⟩; refine ⟨_, rfl, ?_⟩; have HO604 := rl_ ho0 HK; have n1_ := kh_ HK hk; have n2_ := Aside0.mk (hb); have n3_ := Aside0.mk (hi); clear HK HB HI0; have HK := n1_; have HB := n2_; have HI0 := n3_; clear n1_ n2_ n3_; (try clear hb); (try clear hk); (try clear hi); (try clear ho0)) | (((with_reducible refine gate_callee (f := 43) rfl ?_); refine gl_ (some 7) Tryd.func43 #[.pointer (some ⟨g, 0, none⟩), .int .i64 10] ?_; (with_reducible refine (spec_l1Below.calls g s0_0 t605 t606 10 t607 t608 t609 w0 _ ?side1 ?side2 A3.out).mono ?_); (case side1 => exact IsS64.pk_ HI0.out); (case side2 => exact hs_ HB.out); rintro e w41 ⟨rfl, hi, hb, hk⟩; refine ⟨_, rfl, ?_⟩; replace HO604 := IsS64.rk_ HI0 HO604 hk; replace HK := kh_ HK hk; replace HB := Aside0.mk (hb); replace HI0 := Aside0.mk (hi); (try clear hb); (try clear hk); (try clear hi)); refine Aside0.out ?_))
 have H := AHz_.out
 clear AHz_
 by_cases c36 : t607 = 4
 ·
  rw [if_pos c36] at H
  have c36b0 : (t607 == 4) = true := beq_iff_eq.mpr c36
  have c36b1 : (t607 != 4) = false := bne_eq_false_iff_eq.mpr c36
  clear c36
  replace H := Option.bind_eq_some_iff.mp H
  obtain ⟨⟨t635, t636, t637⟩, A370, H⟩ := H
  have A37 := Aside0.mk A370
  clear A370
  by_cases c38 : 0 < (t602.length : Int)
  ·
   rw [if_pos c38] at H
   have c38b0 := decide_eq_true c38
   have c38b1 : decide (0 < t602.length) = true := decide_eq_true (by omega)
   clear c38
   obtain ⟨y638, hy638⟩ : ∃ y_ : List (S83), y_ = (t602.set (0 : Int).toNat (⟨(rd_T83 t602 0).f0, t635⟩ : S83)) := ⟨_, rfl⟩
   replace H : (some (y638, t636, t637)) = some (r1, r2, r3) := by first | (rw [hy638]; with_reducible exact H) | (have H2_ := (Option.bind_some _ _).symm.trans H; rw [hy638]; with_reducible exact H2_) | (have H2_ := (Option.bind_some _ _).symm.trans H; with_reducible exact H2_) | with_reducible exact H | (rw [hy638]; exact H) | exact H
   have Ny638 := Aside0.mk hy638
   clear hy638
   simp only [Option.some.injEq, Prod.mk.injEq] at H
   obtain ⟨rfl, rfl, rfl⟩ := H
   refine ⟨?_⟩
   go_wp2_with (first | ((with_reducible refine gate_callee (f := 51) rfl ?_); refine gl_ (some 45) Tryd.func51 #[.pointer (some ⟨g, 0, none⟩)] ?_; (with_reducible refine (spec_l1AnyPlain.calls g s0_0 t608 t609 t635 t636 t637 w0 _ ?side1 ?side2 A37.out).mono ?_); (case side1 => exact IsS64.pk_ HI0.out); (case side2 => exact hs_ HB.out); rintro e w42 ⟨rfl, hi, hb, hk⟩; refine ⟨_, rfl, ?_⟩; replace HO604 := IsS64.rk_ HI0 HO604 hk; replace HK := kh_ HK hk; replace HB := Aside0.mk (hb); replace HI0 := Aside0.mk (hi); (try clear hb); (try clear hk); (try clear hi); have p39 : 0 ≤ (0 : Int) := (by omega); have q39 : (0 : Int) < ((t602.length : Int) : Int) := of_decide_eq_true (by with_reducible assumption); have qi39 : (0 < t602.length) = True := eq_true (by omega); obtain ⟨go39, co39, eo39, gb39, gl39, cl39, HG39⟩ := Kd.R_form HO604.out (by omega); (first | cases eo39 | (injection eo39 with ea_ en_ ec_; (first | subst ea_ | (injection ea_ with ea_; subst ea_)); subst ec_; clear en_)); have GB39 := Aside0.mk gb39; have GG39 := Aside0.mk HG39; clear gb39 gl39 HG39; obtain ⟨ce39, hcl39, hM39, hcc39, hfr39⟩ := Kd.R_elem HO604.out z83 (0 : Int) p39 q39; obtain rfl := k83_openM hM39; have hx39_0 : w42.cell? ⟨go39, (0 : Int).toNat * 2, none⟩ = some (.string ((rd_T83 t602 0).f0)) := hcc39 0 _ rfl; have hx39_1 : w42.cell? ⟨go39, (0 : Int).toNat * 2 + 1, none⟩ = some (.string ((rd_T83 t602 0).f1)) := hcc39 1 _ rfl; have hf39_0 : w42.frozen? ⟨go39, (0 : Int).toNat * 2, none⟩ = false := hfr39 0; have hf39_1 : w42.frozen? ⟨go39, (0 : Int).toNat * 2 + 1, none⟩ = false := hfr39 1; clear hcl39 hcc39 hfr39 hM39; (try rw [show ((0 : Int)).toNat = 0 from rfl] at hx39_0); (try simp only [Nat.reduceMul, Nat.zero_mul, Nat.zero_add, Nat.reduceAdd] at hx39_0); (try rw [show ((0 : Int)).toNat = 0 from rfl] at hf39_0); (try simp only [Nat.reduceMul, Nat.zero_mul, Nat.zero_add, Nat.reduceAdd] at hf39_0); (try rw [show ((0 : Int)).toNat = 0 from rfl] at hx39_1); (try simp only [Nat.reduceMul, Nat.zero_mul, Nat.zero_add, Nat.reduceAdd] at hx39_1); (try rw [show ((0 : Int)).toNat = 0 from rfl] at hf39_1); (try simp only [Nat.reduceMul, Nat.zero_mul, Nat.zero_add, Nat.reduceAdd] at hf39_1); replace p39 := eq_true p39; replace q39 := eq_true q39; have HX43 := Aside0.mk (show Kd.R k83 83 w42 w.heap.size (fun _ => True) (.slice (some ⟨go39, 0, none⟩) t602.length co39) t602 from (rp_ HO604.out)); obtain ⟨ce43, hcl43, hM43, hcc43, hfr43⟩ := Kd.R_elem HX43.out z83 (0 : Int) (by omega) (by have h_ : (0 : Int) < ((t602.length : Int) : Int) := of_decide_eq_true (by with_reducible assumption); first | exact h_ | (have e_ := (Kd.R_reads' HO604.out).1; omega) | simpa using h_); obtain rfl := k83_openM hM43; have HP43 := Kd.R_seg HX43.out (0 : Int) (by omega) (by have h_ : (0 : Int) < ((t602.length : Int) : Int) := of_decide_eq_true (by with_reducible assumption); first | exact h_ | (have e_ := (Kd.R_reads' HO604.out).1; omega) | simpa using h_) (seg := [.string t635]) (j := 1) hcl43 hcc43 (show 2 ≤ 2 from by decide) (x' := (⟨(rd_T83 t602 0).f0, t635⟩ : S83)) (k83_mkM _ _ _ (⟨(rd_T83 t602 0).f0, t635⟩ : S83) ) (fun _ hk => hk); have hx43_1 := hcc43 1 _ rfl; (try simp only [show (k83).sz = 2 from rfl, Nat.mul_one, Nat.add_zero] at hx43_1); (try rw [show ((0 : Int)).toNat = 0 from rfl] at hx43_1); (try simp only [Nat.reduceMul, Nat.zero_mul, Nat.zero_add, Nat.reduceAdd] at hx43_1); have hf43_1 := hfr43 1; (try simp only [show (k83).sz = 2 from rfl, Nat.mul_one, Nat.add_zero] at hf43_1); (try rw [show ((0 : Int)).toNat = 0 from rfl] at hf43_1); (try simp only [Nat.reduceMul, Nat.zero_mul, Nat.zero_add, Nat.reduceAdd] at hf43_1); clear hcl43 hcc43 hfr43 hM43) | ((with_reducible refine gate_store (t := 9) (p := 47) rfl ?_); refine store_event (t := 9) (p := 47) (v := ?vo_w44) (w1 := (w42.setCell ⟨go39, 1, none⟩ (.string t635))) ?hg ?ho ?hn ?hr ?_; (case ho => rfl); (case hg => rfl); (case hn => rfl); (case hr => first | (go_simp; done) | (go_simp; rfl)); intro w44 hw; have hg : w42.grownBy w44 (some go39) := (by rw [hw]; exact HP43.2); have hp_ : Kd.R k83 83 w44 w.heap.size (fun _ => True) (.slice (some ⟨go39, 0, none⟩) t602.length co39) y638 := (by rw [hw, Ny638.out]; exact HP43.1); clear HP43; replace HI0 := Aside0.mk (IsS64.grown (IsS64.pk_ HI0.out) hg (IsS64.own_ne HI0.out HO604.out (by decide))); replace HB := Aside0.mk ((by rw [hw]; exact below_set (HB.out) (Nat.le_trans HL.out GB39.out) : Below w0.heap.size w0 w44)); replace HK := Aside0.mk (KeepBut.trans (ku_ HK.out) (KeepBut.of_grown hg g) (Kd.R_base2 HO604.out)); replace HO604 := Aside0.mk (hp_); clear hg hw hp_))
   go_ret
   exact ⟨_, by first | rfl | (simp [errW_none, errW_some] <;> rfl) | (simp [*, errW_none, errW_some] <;> rfl), by (with_reducible repeat (first | apply Kd.R_alloc | apply Kd.R_drewN | apply Kd.R_drew)); exact HO604.out, IsS64.pk_ HI0.out, by exact hs_ HB.out, ku_ HK.out⟩
  rw [if_neg c38] at H
  exact absurd H (by simp)
 rw [if_neg c36] at H
 have c36b0 : (t607 == 4) = false := beq_eq_false_iff_ne.mpr c36
 have c36b1 : (t607 != 4) = true := bne_iff_ne.mpr c36
 by_cases c45 : t607 = 5
 ·
  rw [if_pos c45] at H
  have c45b0 : (t607 == 5) = true := beq_iff_eq.mpr c45
  have c45b1 : (t607 != 5) = false := bne_eq_false_iff_eq.mpr c45
  clear c45
  obtain ⟨y639, hy639⟩ : ∃ y_ : List (S83), y_ = (([] : List (S83))) := ⟨_, rfl⟩
  replace H : (some (y639, t608, t609)) = some (r1, r2, r3) := by first | (rw [hy639]; with_reducible exact H) | (have H2_ := (Option.bind_some _ _).symm.trans H; rw [hy639]; with_reducible exact H2_) | (have H2_ := (Option.bind_some _ _).symm.trans H; with_reducible exact H2_) | with_reducible exact H | (rw [hy639]; exact H) | exact H
  have Ny639 := Aside0.mk hy639
  clear hy639
  simp only [Option.some.injEq, Prod.mk.injEq] at H
  obtain ⟨rfl, rfl, rfl⟩ := H
  refine ⟨?_⟩
  go_wp2_with (first | ((with_reducible refine gd_ 50 rfl ?_); refine Kd.R_lit k83 _ 83 ?hg (N := 50) ?hd (xs := ([] : List (S83))) (inner := []) (ok := fun _ => True) (okp := fun _ => True) ?hr ?hp (fun _ hk => hk) trivial (Below.refl _ _) (Nat.le_refl _) (by simp) ?_; (case hd => rfl); (case hg => rfl); (case hr => first | (go_simp; done) | (go_simp; rfl)); (case hp => exact (Reps.none _ _)); intro v640 w48 ho49 hb hg_ hnew_; clear hg_ hnew_; (first | rw [← Ny639.out] at ho49 | (simp only [Int.reduceToNat] at ho49; rw [← Ny639.out] at ho49)); have HO641 := Aside0.mk (Kd.R_lower (Kd.R_new' ho49 (Kd.R_lt (rp_ HO604.out))) (ks_ HK)); replace HO604 := Aside0.mk (Kd.R_elder' (rp_ HO604.out) (Kd.R_base ho49) hb); replace HI0 := IsS64.bk_ HI0 hb; replace HK := kt_ HK hb; replace HB := st_ HB hb; clear hb ho49))
  go_ret
  exact ⟨_, by first | rfl | (simp [errW_none, errW_some] <;> rfl) | (simp [*, errW_none, errW_some] <;> rfl), by (with_reducible repeat (first | apply Kd.R_alloc | apply Kd.R_drewN | apply Kd.R_drew)); exact Kd.R_mono HO641.out (fun _ hk => trivial), IsS64.pk_ HI0.out, by exact hs_ HB.out, ku_ HK.out⟩
 rw [if_neg c45] at H
 have c45b0 : (t607 == 5) = false := beq_eq_false_iff_ne.mpr c45
 have c45b1 : (t607 != 5) = true := bne_iff_ne.mpr c45
 simp only [Option.some.injEq, Prod.mk.injEq] at H
 obtain ⟨rfl, rfl, rfl⟩ := H
 refine ⟨?_⟩
 go_wp2
 go_ret
 exact ⟨_, by first | rfl | (simp [errW_none, errW_some] <;> rfl) | (simp [*, errW_none, errW_some] <;> rfl), by (with_reducible repeat (first | apply Kd.R_alloc | apply Kd.R_drewN | apply Kd.R_drew)); exact HO604.out, IsS64.pk_ HI0.out, by exact hs_ HB.out, ku_ HK.out⟩
def spec_l1Odd.f (s0_0 : List Int) (s0_1 : Int) (s0_2 : Int) : Option (Int × Int × Int) := (spec_l1Int.f s0_0 s0_1 s0_2 (([(-1), 0, 1, 2, 255, 256, 65535, 2147483647, 2147483648, 4294967295, 4294967296, (-2147483648), 9223372036854775807, (-9223372036854775808)] : List Int))).bind fun bt645 => (some (bt645.1, bt645.2.1, bt645.2.2))
theorem spec_l1Odd.calls (g : Nat) (s0_0 : List Int) (s0_1 : Int) (s0_2 : Int) (r1 : Int) (r2 : Int) (r3 : Int) (w0 w : World) (hI : IsS64 w0 w g s0_0 s0_1 s0_2) (hB : Below w0.heap.size w0 w) (h : spec_l1Odd.f s0_0 s0_1 s0_2 = some (r1, r2, r3)) :
  Calls Tryd.prog 74 #[.pointer (some ⟨g, 0, none⟩)] w fun e w' => e = .returned (.int .i64 r1) ∧ IsS64 w0 w' g s0_0 r2 r3 ∧ Below w0.heap.size w0 w' ∧ KeepBut w w' g none := by
 have HI0 := Aside0.mk hI
 have HK := Aside0.mk (KeepBut.refl w g none)
 have HL := Aside0.mk hB.size
 clear hI
 have HW0 := Aside0.mk hB.size
 have HB := Aside0.mk hB
 clear hB
 have H : ((spec_l1Int.f s0_0 s0_1 s0_2 (([(-1), 0, 1, 2, 255, 256, 65535, 2147483647, 2147483648, 4294967295, 4294967296, (-2147483648), 9223372036854775807, (-9223372036854775808)] : List Int))).bind fun bt645 => (some (bt645.1, bt645.2.1, bt645.2.2))) = some (r1, r2, r3) := h
 clear h
 obtain ⟨y642, hy642⟩ : ∃ y_ : List Int, y_ = (([(-1), 0, 1, 2, 255, 256, 65535, 2147483647, 2147483648, 4294967295, 4294967296, (-2147483648), 9223372036854775807, (-9223372036854775808)] : List Int)) := ⟨_, rfl⟩
 replace H : ((spec_l1Int.f s0_0 s0_1 s0_2 y642).bind fun bt645 => (some (bt645.1, bt645.2.1, bt645.2.2))) = some (r1, r2, r3) := by first | (rw [hy642]; with_reducible exact H) | (have H2_ := (Option.bind_some _ _).symm.trans H; rw [hy642]; with_reducible exact H2_) | (have H2_ := (Option.bind_some _ _).symm.trans H; with_reducible exact H2_) | with_reducible exact H | (rw [hy642]; exact H) | exact H
 have Ny642 := Aside0.mk hy642
 clear hy642
 replace H := Option.bind_eq_some_iff.mp H
 obtain ⟨⟨t645, t646, t647⟩, A20, H⟩ := H
 have A2 := Aside0.mk A20
 clear A20
 simp only [Option.some.injEq, Prod.mk.injEq] at H
 obtain ⟨rfl, rfl, rfl⟩ := H
 go_enter Tryd.func74, Tryd.ntmps74
 go_wp2_with (first | ((with_reducible refine gd_ 4 rfl ?_); refine Kd.R_lit (Kd.int .i64) _ 3 ?hg (N := 4) ?hd (xs := ([(-1), 0, 1, 2, 255, 256, 65535, 2147483647, 2147483648, 4294967295, 4294967296, (-2147483648), 9223372036854775807, (-9223372036854775808)] : List Int)) (inner := [.int .i64 (-1), .int .i64 0, .int .i64 1, .int .i64 2, .int .i64 255, .int .i64 256, .int .i64 65535, .int .i64 2147483647, .int .i64 2147483648, .int .i64 4294967295, .int .i64 4294967296, .int .i64 (-2147483648), .int .i64 9223372036854775807, .int .i64 (-9223372036854775808)]) (ok := fun _ => True) (okp := fun _ => True) ?hr ?hp (fun _ hk => hk) trivial (Below.refl _ _) (Nat.le_refl _) (by simp) ?_; (case hd => rfl); (case hg => rfl); (case hr => first | (go_simp; done) | (go_simp; rfl)); (case hp => exact (Reps.one (show Kd.M (Kd.int .i64) _ _ _ (-1) [.int .i64 (-1)] from rfl) (Reps.one (show Kd.M (Kd.int .i64) _ _ _ 0 [.int .i64 0] from rfl) (Reps.one (show Kd.M (Kd.int .i64) _ _ _ 1 [.int .i64 1] from rfl) (Reps.one (show Kd.M (Kd.int .i64) _ _ _ 2 [.int .i64 2] from rfl) (Reps.one (show Kd.M (Kd.int .i64) _ _ _ 255 [.int .i64 255] from rfl) (Reps.one (show Kd.M (Kd.int .i64) _ _ _ 256 [.int .i64 256] from rfl) (Reps.one (show Kd.M (Kd.int .i64) _ _ _ 65535 [.int .i64 65535] from rfl) (Reps.one (show Kd.M (Kd.int .i64) _ _ _ 2147483647 [.int .i64 2147483647] from rfl) (Reps.one (show Kd.M (Kd.int .i64) _ _ _ 2147483648 [.int .i64 2147483648] from rfl) (Reps.one (show Kd.M (Kd.int .i64) _ _ _ 4294967295 [.int .i64 4294967295] from rfl) (Reps.one (show Kd.M (Kd.int .i64) _ _ _ 4294967296 [.int .i64 4294967296] from rfl) (Reps.one (show Kd.M (Kd.int .i64) _ _ _ (-2147483648) [.int .i64 (-2147483648)] from rfl) (Reps.one (show Kd.M (Kd.int .i64) _ _ _ 9223372036854775807 [.int .i64 9223372036854775807] from rfl) (Reps.one (show Kd.M (Kd.int .i64) _ _ _ (-9223372036854775808) [.int .i64 (-9223372036854775808)] from rfl) (Reps.none _ _)))))))))))))))); intro v643 w3 ho4 hb hg_ hnew_; clear hg_ hnew_; (first | rw [← Ny642.out] at ho4 | (simp only [Int.reduceToNat] at ho4; rw [← Ny642.out] at ho4)); have HO644 := rl_ ho4 HK; have n1_ := IsS64.bk_ HI0 hb; have n2_ := kt_ HK hb; have n3_ := st_ HB hb; clear HI0 HK HB; have HI0 := n1_; have HK := n2_; have HB := n3_; clear n1_ n2_ n3_; clear hb ho4; obtain ⟨Ao5, co5, eo5⟩ := Kd.R_slice HO644.out; subst eo5) | ((with_reducible refine gate_callee (f := 28) rfl ?_); refine gl_ (some 5) Tryd.func28 #[.pointer (some ⟨g, 0, none⟩), .slice Ao5 y642.length co5] ?_; (with_reducible refine (spec_l1Int.calls g s0_0 s0_1 s0_2 _ _ y642 t645 t646 t647 w0 _ ?side1 ?side2 ?side3 ?side4 ?side5 A2.out).mono ?_); (case side1 => exact IsS64.pk_ HI0.out); (case side2 => exact hs_ HB.out); (case side3 => exact cp_ ((Kd.R_reads' HO644.out).2.2)); (case side4 => exact (Kd.R_reads' HO644.out).2.1); (case side5 => exact far_slice (IsS64.own_ne HI0.out HO644.out (by decide))); rintro e w6 ⟨rfl, hi, hb, hk⟩; refine ⟨_, rfl, ?_⟩; replace HO644 := IsS64.rk_ HI0 HO644 hk; replace HK := kh_ HK hk; replace HB := Aside0.mk (hb); replace HI0 := Aside0.mk (hi); (try clear hb); (try clear hk); (try clear hi)))
 go_ret
 exact an_ ⟨IsS64.pk_ HI0.out, by exact hs_ HB.out, ku_ HK.out⟩
def spec_l1Raw.f (s0_0 : List Int) (s0_1 : Int) (s0_2 : Int) : Option (Int × Int × Int) := (spec_l1Once.f s0_0 s0_1 s0_2 2).bind fun bt648 => (if bt648.1 = true then ((spec_l1Odd.f s0_0 bt648.2.1 bt648.2.2).bind fun bt651 => (some (bt651.1, bt651.2.1, bt651.2.2))) else ((spec_l1Int.f s0_0 bt648.2.1 bt648.2.2 (([(-1), 0, 1, 3, 99999, 100000] : List Int))).bind fun bt657 => (some (bt657.1, bt657.2.1, bt657.2.2))))
theorem spec_l1Raw.calls (g : Nat) (s0_0 : List Int) (s0_1 : Int) (s0_2 : Int) (r1 : Int) (r2 : Int) (r3 : Int) (w0 w : World) (hI : IsS64 w0 w g s0_0 s0_1 s0_2) (hB : Below w0.heap.size w0 w) (h : spec_l1Raw.f s0_0 s0_1 s0_2 = some (r1, r2, r3)) :
  Calls Tryd.prog 50 #[.pointer (some ⟨g, 0, none⟩)] w fun e w' => e = .returned (.int .i64 r1) ∧ IsS64 w0 w' g s0_0 r2 r3 ∧ Below w0.heap.size w0 w' ∧ KeepBut w w' g none := by
 have HI0 := Aside0.mk hI
 have HK := Aside0.mk (KeepBut.refl w g none)
 have HL := Aside0.mk hB.size
 clear hI
 have HW0 := Aside0.mk hB.size
 have HB := Aside0.mk hB
 clear hB
 have H : ((spec_l1Once.f s0_0 s0_1 s0_2 2).bind fun bt648 => (if bt648.1 = true then ((spec_l1Odd.f s0_0 bt648.2.1 bt648.2.2).bind fun bt651 => (some (bt651.1, bt651.2.1, bt651.2.2))) else ((spec_l1Int.f s0_0 bt648.2.1 bt648.2.2 (([(-1), 0, 1, 3, 99999, 100000] : List Int))).bind fun bt657 => (some (bt657.1, bt657.2.1, bt657.2.2))))) = some (r1, r2, r3) := h
 clear h
 replace H := Option.bind_eq_some_iff.mp H
 obtain ⟨⟨t648, t649, t650⟩, A20, H⟩ := H
 have A2 := Aside0.mk A20
 clear A20
 by_cases c3 : t648 = true
 ·
  subst c3
  rw [if_pos rfl] at H
  replace H := Option.bind_eq_some_iff.mp H
  obtain ⟨⟨t651, t652, t653⟩, A40, H⟩ := H
  have A4 := Aside0.mk A40
  clear A40
  simp only [Option.some.injEq, Prod.mk.injEq] at H
  obtain ⟨rfl, rfl, rfl⟩ := H
  go_enter Tryd.func50, Tryd.ntmps50
  go_wp2_with (first | ((with_reducible refine gate_callee (f := 24) rfl ?_); refine gl_ (some 4) Tryd.func24 #[.pointer (some ⟨g, 0, none⟩), .int .i64 2] ?_; (with_reducible refine (spec_l1Once.calls g s0_0 s0_1 s0_2 2 true t649 t650 w0 _ ?side1 ?side2 A2.out).mono ?_); (case side1 => exact IsS64.pk_ HI0.out); (case side2 => exact hs_ HB.out); rintro e w5 ⟨rfl, hi, hb, hk⟩; refine ⟨_, rfl, ?_⟩; replace HK := kh_ HK hk; replace HB := Aside0.mk (hb); replace HI0 := Aside0.mk (hi); (try clear hb); (try clear hk); (try clear hi)) | ((with_reducible refine gate_callee (f := 74) rfl ?_); refine gl_ (some 6) Tryd.func74 #[.pointer (some ⟨g, 0, none⟩)] ?_; (with_reducible refine (spec_l1Odd.calls g s0_0 t649 t650 t651 t652 t653 w0 _ ?side1 ?side2 A4.out).mono ?_); (case side1 => exact IsS64.pk_ HI0.out); (case side2 => exact hs_ HB.out); rintro e w6 ⟨rfl, hi, hb, hk⟩; refine ⟨_, rfl, ?_⟩; replace HK := kh_ HK hk; replace HB := Aside0.mk (hb); replace HI0 := Aside0.mk (hi); (try clear hb); (try clear hk); (try clear hi)))
  go_ret
  exact an_ ⟨IsS64.pk_ HI0.out, by exact hs_ HB.out, ku_ HK.out⟩
 replace c3 := Bool.eq_false_iff.mpr c3
 subst c3
 rw [if_neg (show ¬ (false = true) by decide)] at H
 obtain ⟨y654, hy654⟩ : ∃ y_ : List Int, y_ = (([(-1), 0, 1, 3, 99999, 100000] : List Int)) := ⟨_, rfl⟩
 replace H : ((spec_l1Int.f s0_0 t649 t650 y654).bind fun bt657 => (some (bt657.1, bt657.2.1, bt657.2.2))) = some (r1, r2, r3) := by first | (rw [hy654]; with_reducible exact H) | (have H2_ := (Option.bind_some _ _).symm.trans H; rw [hy654]; with_reducible exact H2_) | (have H2_ := (Option.bind_some _ _).symm.trans H; with_reducible exact H2_) | with_reducible exact H | (rw [hy654]; exact H) | exact H
 have Ny654 := Aside0.mk hy654
 clear hy654
 replace H := Option.bind_eq_some_iff.mp H
 obtain ⟨⟨t657, t658, t659⟩, A70, H⟩ := H
 have A7 := Aside0.mk A70
 clear A70
 simp only [Option.some.injEq, Prod.mk.injEq] at H
 obtain ⟨rfl, rfl, rfl⟩ := H
 go_enter Tryd.func50, Tryd.ntmps50
 go_wp2_with (first | ((with_reducible refine gate_callee (f := 24) rfl ?_); refine gl_ (some 4) Tryd.func24 #[.pointer (some ⟨g, 0, none⟩), .int .i64 2] ?_; (with_reducible refine (spec_l1Once.calls g s0_0 s0_1 s0_2 2 false t649 t650 w0 _ ?side1 ?side2 A2.out).mono ?_); (case side1 => exact IsS64.pk_ HI0.out); (case side2 => exact hs_ HB.out); rintro e w8 ⟨rfl, hi, hb, hk⟩; refine ⟨_, rfl, ?_⟩; replace HK := kh_ HK hk; replace HB := Aside0.mk (hb); replace HI0 := Aside0.mk (hi); (try clear hb); (try clear hk); (try clear hi)) | ((with_reducible refine gd_ 8 rfl ?_); refine Kd.R_lit (Kd.int .i64) _ 3 ?hg (N := 8) ?hd (xs := ([(-1), 0, 1, 3, 99999, 100000] : List Int)) (inner := [.int .i64 (-1), .int .i64 0, .int .i64 1, .int .i64 3, .int .i64 99999, .int .i64 100000]) (ok := fun _ => True) (okp := fun _ => True) ?hr ?hp (fun _ hk => hk) trivial (Below.refl _ _) (Nat.le_refl _) (by simp) ?_; (case hd => rfl); (case hg => rfl); (case hr => first | (go_simp; done) | (go_simp; rfl)); (case hp => exact (Reps.one (show Kd.M (Kd.int .i64) _ _ _ (-1) [.int .i64 (-1)] from rfl) (Reps.one (show Kd.M (Kd.int .i64) _ _ _ 0 [.int .i64 0] from rfl) (Reps.one (show Kd.M (Kd.int .i64) _ _ _ 1 [.int .i64 1] from rfl) (Reps.one (show Kd.M (Kd.int .i64) _ _ _ 3 [.int .i64 3] from rfl) (Reps.one (show Kd.M (Kd.int .i64) _ _ _ 99999 [.int .i64 99999] from rfl) (Reps.one (show Kd.M (Kd.int .i64) _ _ _ 100000 [.int .i64 100000] from rfl) (Reps.none _ _)))))))); intro v655 w9 ho10 hb hg_ hnew_; clear hg_ hnew_; (first | rw [← Ny654.out] at ho10 | (simp only [Int.reduceToNat] at ho10; rw [← Ny654.out] at ho10)); have HO656 := rl_ ho10 HK; have n1_ := IsS64.bk_ HI0 hb; have n2_ := kt_ HK hb; have n3_ := st_ HB hb; clear HI0 HK HB; have HI0 := n1_; have HK := n2_; have HB := n3_; clear n1_ n2_ n3_; clear hb ho10; obtain ⟨Ao11, co11, eo11⟩ := Kd.R_slice HO656.out; subst eo11) | ((with_reducible refine gate_callee (f := 28) rfl ?_); refine gl_ (some 9) Tryd.func28 #[.pointer (some ⟨g, 0, none⟩), .slice Ao11 y654.length co11] ?_; (with_reducible refine (spec_l1Int.calls g s0_0 t649 t650 _ _ y654 t657 t658 t659 w0 _ ?side1 ?side2 ?side3 ?side4 ?side5 A7.out).mono ?_); (case side1 => exact IsS64.pk_ HI0.out); (case side2 => exact hs_ HB.out); (case side3 => exact cp_ ((Kd.R_reads' HO656.out).2.2)); (case side4 => exact (Kd.R_reads' HO656.out).2.1); (case side5 => exact far_slice (IsS64.own_ne HI0.out HO656.out (by decide))); rintro e w12 ⟨rfl, hi, hb, hk⟩; refine ⟨_, rfl, ?_⟩; replace HO656 := IsS64.rk_ HI0 HO656 hk; replace HK := kh_ HK hk; replace HB := Aside0.mk (hb); replace HI0 := Aside0.mk (hi); (try clear hb); (try clear hk); (try clear hi)))
 go_ret
 exact an_ ⟨IsS64.pk_ HI0.out, by exact hs_ HB.out, ku_ HK.out⟩
def spec_l4Any.f (k : Nat) (s0_0 : List Int) (s0_1 : Int) (s0_2 : Int) : Option ((List (S83)) × Int × Int × ByteArray × Int × Int) := (spec_l4Draw.f k s0_0 s0_1 s0_2).bind fun bt661 => ((spec_l1Below.f s0_0 bt661.2.2.2.2.1 bt661.2.2.2.2.2 12).bind fun bt670 => (if bt670.1 = 0 then ((spec_l2Any.f k s0_0 bt670.2.1 bt670.2.2).bind fun bt673 => (some (bt673.1, bt661.2.1, bt661.2.2.1, bt661.2.2.2.1, bt673.2.1, bt673.2.2))) else (if bt670.1 = 1 then ((spec_l1Int.f s0_0 bt670.2.1 bt670.2.2 (([(-1), 99999, 100000] : List Int))).bind fun bt681 => (some (bt661.1, bt681.1, bt661.2.2.1, bt661.2.2.2.1, bt681.2.1, bt681.2.2))) else (if bt670.1 = 2 then ((spec_l1Raw.f s0_0 bt670.2.1 bt670.2.2).bind fun bt684 => (some (bt661.1, bt661.2.1, bt684.1, bt661.2.2.2.1, bt684.2.1, bt684.2.2))) else (if bt670.1 = 3 then ((spec_l1AnyPlain.f s0_0 bt670.2.1 bt670.2.2).bind fun bt687 => (some (bt661.1, bt661.2.1, bt661.2.2.1, bt687.1, bt687.2.1, bt687.2.2))) else (some (bt661.1, bt661.2.1, bt661.2.2.1, bt661.2.2.2.1, bt670.2.1, bt670.2.2)))))))
theorem spec_l4Any.mono : ∀ a0 a1 a2 k, LeO (spec_l4Any.f k a0 a1 a2) (spec_l4Any.f (k + 1) a0 a1 a2) := by
 intro a0 a1 a2 k
 unfold spec_l4Any.f
 repeat' first | (with_reducible first | exact spec_l2Any.mono _ _ _ _ | exact spec_l4Draw.mono _ _ _ _ | exact LeO.refl _ | exact LeO.none _ | refine LeO.ite ?_ ?_ | refine LeO.bind ?_ (fun _ => ?_)) | exact spec_l2Any.mono _ _ _ _ | exact spec_l4Draw.mono _ _ _ _
theorem spec_l4Any.calls (k : Nat) (g : Nat) (s0_0 : List Int) (s0_1 : Int) (s0_2 : Int) (r1 : List (S83)) (r2 : Int) (r3 : Int) (r4 : ByteArray) (r5 : Int) (r6 : Int) (w0 w : World) (hI : IsS64 w0 w g s0_0 s0_1 s0_2) (hB : Below w0.heap.size w0 w) (h : spec_l4Any.f k s0_0 s0_1 s0_2 = some (r1, r2, r3, r4, r5, r6)) :
  Calls Tryd.prog 27 #[.pointer (some ⟨g, 0, none⟩)] w fun e w' => ∃ v0_ : Value, e = .returned (.agg #[v0_, .int .i64 r2, .int .i64 r3, .string r4]) ∧ Kd.R k83 83 w' w.heap.size (fun _ => True) v0_ r1 ∧ IsS64 w0 w' g s0_0 r5 r6 ∧ Below w0.heap.size w0 w' ∧ KeepBut w w' g none := by
 have hu37 := Tryd.underlying37
 have HI0 := Aside0.mk hI
 have HK := Aside0.mk (KeepBut.refl w g none)
 have HL := Aside0.mk hB.size
 clear hI
 have HW0 := Aside0.mk hB.size
 have HB := Aside0.mk hB
 clear hB
 have H : ((spec_l4Draw.f k s0_0 s0_1 s0_2).bind fun bt661 => ((spec_l1Below.f s0_0 bt661.2.2.2.2.1 bt661.2.2.2.2.2 12).bind fun bt670 => (if bt670.1 = 0 then ((spec_l2Any.f k s0_0 bt670.2.1 bt670.2.2).bind fun bt673 => (some (bt673.1, bt661.2.1, bt661.2.2.1, bt661.2.2.2.1, bt673.2.1, bt673.2.2))) else (if bt670.1 = 1 then ((spec_l1Int.f s0_0 bt670.2.1 bt670.2.2 (([(-1), 99999, 100000] : List Int))).bind fun bt681 => (some (bt661.1, bt681.1, bt661.2.2.1, bt661.2.2.2.1, bt681.2.1, bt681.2.2))) else (if bt670.1 = 2 then ((spec_l1Raw.f s0_0 bt670.2.1 bt670.2.2).bind fun bt684 => (some (bt661.1, bt661.2.1, bt684.1, bt661.2.2.2.1, bt684.2.1, bt684.2.2))) else (if bt670.1 = 3 then ((spec_l1AnyPlain.f s0_0 bt670.2.1 bt670.2.2).bind fun bt687 => (some (bt661.1, bt661.2.1, bt661.2.2.1, bt687.1, bt687.2.1, bt687.2.2))) else (some (bt661.1, bt661.2.1, bt661.2.2.1, bt661.2.2.2.1, bt670.2.1, bt670.2.2)))))))) = some (r1, r2, r3, r4, r5, r6) := h
 clear h
 replace H := Option.bind_eq_some_iff.mp H
 obtain ⟨⟨t661, t664, t665, t666, t667, t668⟩, A20, H⟩ := H
 have A2 := Aside0.mk A20
 clear A20
 replace H := Option.bind_eq_some_iff.mp H
 obtain ⟨⟨t670, t671, t672⟩, A30, H⟩ := H
 have A3 := Aside0.mk A30
 clear A30
 have AHz_ := Aside0.mk H
 clear H
 go_enter Tryd.func27, Tryd.ntmps27
 go_wp2_with (first | ((with_reducible refine gd_ 2 rfl ?_); refine bv_ 2 #[.slice none 0 0, .int .i64 0, .int .i64 0, .string (⟨#[]⟩ : ByteArray)] 37 ?_; intro gb660 hg w6 hbox hb; replace HB := st_ HB hb; have BK660 := Aside0.mk (hbox); have GW660 := Ge_.mk ((by rw [hg]; exact (ks_ HK) : w.heap.size ≤ gb660)); replace HK := kt_ HK hb; have GE660 := gt_ HW0 GW660; have NB0_660 := IsS64.nl_ HI0 hg; replace HI0 := IsS64.bk_ HI0 hb; have NB660_0 := ns_ NB0_660; clear hb hbox hg) | ((with_reducible refine gate_callee (f := 45) rfl ?_); refine gl_ (some 5) Tryd.func45 #[.pointer (some ⟨g, 0, none⟩)] ?_; (with_reducible refine (spec_l4Draw.calls k g s0_0 s0_1 s0_2 t661 t664 t665 t666 t667 t668 w0 _ ?side1 ?side2 A2.out).mono ?_); (case side1 => exact IsS64.pk_ HI0.out); (case side2 => exact hs_ HB.out); rintro e w7 ⟨v662, rfl, ho0, hi, hb, hk⟩; refine ⟨_, rfl, ?_⟩; replace BK660 := kb_ hk BK660; have HO663 := rl_ ho0 HK; replace HK := kh_ HK hk; replace HB := Aside0.mk (hb); replace HI0 := Aside0.mk (hi); (try clear hb); (try clear hk); (try clear hi); (try clear ho0)) | (((with_reducible refine gd_ 3 rfl ?_); refine bv_ 3 #[.slice none 0 0, .int .i64 0, .int .i64 0, .string (⟨#[]⟩ : ByteArray)] 37 ?_; intro gb669 hg w8 hbox hb; replace HO663 := rb_ HO663 hb; replace HB := st_ HB hb; have BK669 := Aside0.mk (hbox); have GW669 := Ge_.mk ((by rw [hg]; exact (ks_ HK) : w.heap.size ≤ gb669)); replace HK := kt_ HK hb; have GE669 := gt_ HW0 GW669; have NB660_669 := nk_ BK660 hg; replace BK660 := bk2_ BK660 hb; have NB669_660 := ns_ NB660_669; have NB0_669 := IsS64.nl_ HI0 hg; replace HI0 := IsS64.bk_ HI0 hb; have NB669_0 := ns_ NB0_669; clear hb hbox hg; obtain ⟨Ao9, co9, eo9⟩ := Kd.R_slice HO663.out; subst eo9; have hnb10 := NB669_660.out; have hnc10 := NB660_669.out; have hnb11 := NB669_0.out; have hnc11 := NB0_669.out; obtain ⟨z12_0, z12_1, z12_2, z12_3, y12_0, y12_1, y12_2, y12_3⟩ := bc4_ BK669.out); refine Aside0.out ?_))
 have H := AHz_.out
 clear AHz_
 by_cases c4 : t670 = 0
 ·
  rw [if_pos c4] at H
  have c4b0 : (t670 == 0) = true := beq_iff_eq.mpr c4
  have c4b1 : (t670 != 0) = false := bne_eq_false_iff_eq.mpr c4
  clear c4
  replace H := Option.bind_eq_some_iff.mp H
  obtain ⟨⟨t673, t676, t677⟩, A50, H⟩ := H
  have A5 := Aside0.mk A50
  clear A50
  simp only [Option.some.injEq, Prod.mk.injEq] at H
  obtain ⟨rfl, rfl, rfl, rfl, rfl, rfl⟩ := H
  refine ⟨?_⟩
  go_wp2_with (first | ((with_reducible refine gate_callee (f := 43) rfl ?_); refine gl_ (some 7) Tryd.func43 #[.pointer (some ⟨g, 0, none⟩), .int .i64 12] ?_; (with_reducible refine (spec_l1Below.calls g s0_0 t667 t668 12 t670 t671 t672 w0 _ ?side1 ?side2 A3.out).mono ?_); (case side1 => exact IsS64.pk_ HI0.out); (case side2 => exact hs_ HB.out); rintro e w13 ⟨rfl, hi, hb, hk⟩; refine ⟨_, rfl, ?_⟩; replace BK660 := kc_ hk BK660 #[.slice none 0 0, .int .i64 0, .int .i64 0, .string (⟨#[]⟩ : ByteArray)]; replace HO663 := Aside0.mk (Kd.R_mono (Kd.R_keep (IsS64.apart (IsS64.pk_ HI0.out) (by (with_reducible repeat (first | apply Kd.R_alloc | apply Kd.R_drewN | apply Kd.R_drew)); exact (Kd.R_mono (rf_ gb669 (Kd.R_types HO663.out BK669.out (by decide)) (fun _ hk => hk.2)) (fun _ h_ => h_.1))) (by decide)) hk (fun _ h => h.2)) (fun _ h => h.1)); replace BK669 := kc_ hk BK669 #[.slice Ao9 t661.length co9, .int .i64 t664, .int .i64 t665, .string t666]; replace HK := kh_ HK hk; replace HB := Aside0.mk (hb); replace HI0 := Aside0.mk (hi); (try clear hb); (try clear hk); (try clear hi)) | ((with_reducible refine gate_callee (f := 49) rfl ?_); refine gl_ (some 11) Tryd.func49 #[.pointer (some ⟨g, 0, none⟩)] ?_; (with_reducible refine (spec_l2Any.calls k g s0_0 t671 t672 t673 t676 t677 w0 _ ?side1 ?side2 A5.out).mono ?_); (case side1 => exact IsS64.pk_ HI0.out); (case side2 => exact hs_ HB.out); rintro e w14 ⟨v674, rfl, ho0, hi, hb, hk⟩; refine ⟨_, rfl, ?_⟩; replace BK660 := kb_ hk BK660; replace BK669 := kb_ hk BK669; have HO675 := Aside0.mk (Kd.R_lower (Kd.R_new' ho0 (Kd.R_lt (rp_ HO663.out))) (ks_ HK)); replace HO663 := Aside0.mk (Kd.R_mono (Kd.R_told (Kd.R_oldK (IsS64.apart (IsS64.pk_ HI0.out) (rp_ HO663.out) (by decide)) hk) (Kd.R_base ho0)) (fun _ h_ => h_.1)); replace HK := kh_ HK hk; replace HB := Aside0.mk (hb); replace HI0 := Aside0.mk (hi); (try clear hb); (try clear hk); (try clear hi); (try clear ho0); obtain ⟨Ao15, co15, eo15⟩ := Kd.R_slice HO675.out; subst eo15; obtain ⟨z16_0, z16_1, z16_2, z16_3, y16_0, y16_1, y16_2, y16_3⟩ := bc4_ BK669.out; have hnb17 := NB660_0.out; have hnc17 := NB0_660.out; obtain ⟨z18_0, z18_1, z18_2, z18_3, y18_0, y18_1, y18_2, y18_3⟩ := bc4_ BK660.out))
  refine bodyPost_ret (results_cell_row rfl _ _ gb660 37 #[.slice Ao15 t673.length co15, .int .i64 t664, .int .i64 t665, .string t666] (0, 0) _ rfl (bp_ BK660.out) Tryd.underlying37 rfl (by kernel_rfl)) rfl ?_
  exact ⟨_, by first | rfl | (simp [errW_none, errW_some] <;> rfl) | (simp [*, errW_none, errW_some] <;> rfl), by (with_reducible repeat (first | apply Kd.R_alloc | apply Kd.R_drewN | apply Kd.R_drew)); exact Kd.R_mono (rf_ gb660 (Kd.R_far (p := ⟨gb669, 0, none⟩) (Kd.R_types (Kd.R_types HO675.out BK669.out (by decide)) BK660.out (by decide)) (fun _ hk => hk.1.2) (.slice Ao15 t673.length co15)) (fun _ hk => hk.2)) (fun _ hk => trivial), IsS64.pk_ HI0.out, by exact hs_ HB.out, ku_ HK.out⟩
 rw [if_neg c4] at H
 have c4b0 : (t670 == 0) = false := beq_eq_false_iff_ne.mpr c4
 have c4b1 : (t670 != 0) = true := bne_iff_ne.mpr c4
 by_cases c19 : t670 = 1
 ·
  rw [if_pos c19] at H
  have c19b0 : (t670 == 1) = true := beq_iff_eq.mpr c19
  have c19b1 : (t670 != 1) = false := bne_eq_false_iff_eq.mpr c19
  clear c19
  obtain ⟨y678, hy678⟩ : ∃ y_ : List Int, y_ = (([(-1), 99999, 100000] : List Int)) := ⟨_, rfl⟩
  replace H : ((spec_l1Int.f s0_0 t671 t672 y678).bind fun bt681 => (some (t661, bt681.1, t665, t666, bt681.2.1, bt681.2.2))) = some (r1, r2, r3, r4, r5, r6) := by first | (rw [hy678]; with_reducible exact H) | (have H2_ := (Option.bind_some _ _).symm.trans H; rw [hy678]; with_reducible exact H2_) | (have H2_ := (Option.bind_some _ _).symm.trans H; with_reducible exact H2_) | with_reducible exact H | (rw [hy678]; exact H) | exact H
  have Ny678 := Aside0.mk hy678
  clear hy678
  replace H := Option.bind_eq_some_iff.mp H
  obtain ⟨⟨t681, t682, t683⟩, A200, H⟩ := H
  have A20 := Aside0.mk A200
  clear A200
  simp only [Option.some.injEq, Prod.mk.injEq] at H
  obtain ⟨rfl, rfl, rfl, rfl, rfl, rfl⟩ := H
  refine ⟨?_⟩
  go_wp2_with (first | ((with_reducible refine gate_callee (f := 43) rfl ?_); refine gl_ (some 7) Tryd.func43 #[.pointer (some ⟨g, 0, none⟩), .int .i64 12] ?_; (with_reducible refine (spec_l1Below.calls g s0_0 t667 t668 12 t670 t671 t672 w0 _ ?side1 ?side2 A3.out).mono ?_); (case side1 => exact IsS64.pk_ HI0.out); (case side2 => exact hs_ HB.out); rintro e w28 ⟨rfl, hi, hb, hk⟩; refine ⟨_, rfl, ?_⟩; replace BK660 := kc_ hk BK660 #[.slice none 0 0, .int .i64 0, .int .i64 0, .string (⟨#[]⟩ : ByteArray)]; replace HO663 := Aside0.mk (Kd.R_mono (Kd.R_keep (IsS64.apart (IsS64.pk_ HI0.out) (by (with_reducible repeat (first | apply Kd.R_alloc | apply Kd.R_drewN | apply Kd.R_drew)); exact (Kd.R_mono (rf_ gb669 (Kd.R_types HO663.out BK669.out (by decide)) (fun _ hk => hk.2)) (fun _ h_ => h_.1))) (by decide)) hk (fun _ h => h.2)) (fun _ h => h.1)); replace BK669 := kc_ hk BK669 #[.slice Ao9 t661.length co9, .int .i64 t664, .int .i64 t665, .string t666]; replace HK := kh_ HK hk; replace HB := Aside0.mk (hb); replace HI0 := Aside0.mk (hi); (try clear hb); (try clear hk); (try clear hi)) | ((with_reducible refine gd_ 16 rfl ?_); refine Kd.R_lit (Kd.int .i64) _ 3 ?hg (N := 16) ?hd (xs := ([(-1), 99999, 100000] : List Int)) (inner := [.int .i64 (-1), .int .i64 99999, .int .i64 100000]) (ok := fun _ => True) (okp := fun _ => True) ?hr ?hp (fun _ hk => hk) trivial (Below.refl _ _) (Nat.le_refl _) (by simp) ?_; (case hd => rfl); (case hg => rfl); (case hr => first | (go_simp; done) | (go_simp; rfl)); (case hp => exact (Reps.one (show Kd.M (Kd.int .i64) _ _ _ (-1) [.int .i64 (-1)] from rfl) (Reps.one (show Kd.M (Kd.int .i64) _ _ _ 99999 [.int .i64 99999] from rfl) (Reps.one (show Kd.M (Kd.int .i64) _ _ _ 100000 [.int .i64 100000] from rfl) (Reps.none _ _))))); intro v679 w29 ho30 hb hg_ hnew_; clear hg_ hnew_; (first | rw [← Ny678.out] at ho30 | (simp only [Int.reduceToNat] at ho30; rw [← Ny678.out] at ho30)); replace HO663 := rb_ HO663 hb; have HO680 := rl_ ho30 HK; replace HI0 := IsS64.bk_ HI0 hb; replace BK660 := bk2_ BK660 hb; replace BK669 := bk2_ BK669 hb; replace HK := kt_ HK hb; replace HB := st_ HB hb; clear hb ho30; obtain ⟨Ao31, co31, eo31⟩ := Kd.R_slice HO680.out; subst eo31) | ((with_reducible refine gate_callee (f := 28) rfl ?_); refine gl_ (some 17) Tryd.func28 #[.pointer (some ⟨g, 0, none⟩), .slice Ao31 y678.length co31] ?_; (with_reducible refine (spec_l1Int.calls g s0_0 t671 t672 _ _ y678 t681 t682 t683 w0 _ ?side1 ?side2 ?side3 ?side4 ?side5 A20.out).mono ?_); (case side1 => exact IsS64.pk_ HI0.out); (case side2 => exact hs_ HB.out); (case side3 => exact cp_ ((Kd.R_reads' HO680.out).2.2)); (case side4 => exact (Kd.R_reads' HO680.out).2.1); (case side5 => exact far_slice (IsS64.own_ne HI0.out HO680.out (by decide))); rintro e w32 ⟨rfl, hi, hb, hk⟩; refine ⟨_, rfl, ?_⟩; replace BK660 := kb_ hk BK660; replace HO663 := IsS64.rk_ HI0 HO663 hk; replace BK669 := kb_ hk BK669; replace HO680 := IsS64.rk_ HI0 HO680 hk; replace HK := kh_ HK hk; replace HB := Aside0.mk (hb); replace HI0 := Aside0.mk (hi); (try clear hb); (try clear hk); (try clear hi); obtain ⟨z33_0, z33_1, z33_2, z33_3, y33_0, y33_1, y33_2, y33_3⟩ := bc4_ BK669.out; have hnb34 := NB660_0.out; have hnc34 := NB0_660.out; obtain ⟨z35_0, z35_1, z35_2, z35_3, y35_0, y35_1, y35_2, y35_3⟩ := bc4_ BK660.out))
  refine bodyPost_ret (results_cell_row rfl _ _ gb660 37 #[.slice Ao9 t661.length co9, .int .i64 t681, .int .i64 t665, .string t666] (0, 0) _ rfl (bp_ BK660.out) Tryd.underlying37 rfl (by kernel_rfl)) rfl ?_
  exact ⟨_, by first | rfl | (simp [errW_none, errW_some] <;> rfl) | (simp [*, errW_none, errW_some] <;> rfl), by (with_reducible repeat (first | apply Kd.R_alloc | apply Kd.R_drewN | apply Kd.R_drew)); exact Kd.R_mono (rf_ gb660 (Kd.R_far (p := ⟨gb669, 1, none⟩) (Kd.R_types (Kd.R_types HO663.out BK669.out (by decide)) BK660.out (by decide)) (fun _ hk => hk.1.2) (.int .i64 t681)) (fun _ hk => hk.2)) (fun _ hk => trivial), IsS64.pk_ HI0.out, by exact hs_ HB.out, ku_ HK.out⟩
 rw [if_neg c19] at H
 have c19b0 : (t670 == 1) = false := beq_eq_false_iff_ne.mpr c19
 have c19b1 : (t670 != 1) = true := bne_iff_ne.mpr c19
 by_cases c36 : t670 = 2
 ·
  rw [if_pos c36] at H
  have c36b0 : (t670 == 2) = true := beq_iff_eq.mpr c36
  have c36b1 : (t670 != 2) = false := bne_eq_false_iff_eq.mpr c36
  clear c36
  replace H := Option.bind_eq_some_iff.mp H
  obtain ⟨⟨t684, t685, t686⟩, A370, H⟩ := H
  have A37 := Aside0.mk A370
  clear A370
  simp only [Option.some.injEq, Prod.mk.injEq] at H
  obtain ⟨rfl, rfl, rfl, rfl, rfl, rfl⟩ := H
  refine ⟨?_⟩
  go_wp2_with (first | ((with_reducible refine gate_callee (f := 43) rfl ?_); refine gl_ (some 7) Tryd.func43 #[.pointer (some ⟨g, 0, none⟩), .int .i64 12] ?_; (with_reducible refine (spec_l1Below.calls g s0_0 t667 t668 12 t670 t671 t672 w0 _ ?side1 ?side2 A3.out).mono ?_); (case side1 => exact IsS64.pk_ HI0.out); (case side2 => exact hs_ HB.out); rintro e w45 ⟨rfl, hi, hb, hk⟩; refine ⟨_, rfl, ?_⟩; replace BK660 := kc_ hk BK660 #[.slice none 0 0, .int .i64 0, .int .i64 0, .string (⟨#[]⟩ : ByteArray)]; replace HO663 := Aside0.mk (Kd.R_mono (Kd.R_keep (IsS64.apart (IsS64.pk_ HI0.out) (by (with_reducible repeat (first | apply Kd.R_alloc | apply Kd.R_drewN | apply Kd.R_drew)); exact (Kd.R_mono (rf_ gb669 (Kd.R_types HO663.out BK669.out (by decide)) (fun _ hk => hk.2)) (fun _ h_ => h_.1))) (by decide)) hk (fun _ h => h.2)) (fun _ h => h.1)); replace BK669 := kc_ hk BK669 #[.slice Ao9 t661.length co9, .int .i64 t664, .int .i64 t665, .string t666]; replace HK := kh_ HK hk; replace HB := Aside0.mk (hb); replace HI0 := Aside0.mk (hi); (try clear hb); (try clear hk); (try clear hi)) | ((with_reducible refine gate_callee (f := 50) rfl ?_); refine gl_ (some 22) Tryd.func50 #[.pointer (some ⟨g, 0, none⟩)] ?_; (with_reducible refine (spec_l1Raw.calls g s0_0 t671 t672 t684 t685 t686 w0 _ ?side1 ?side2 A37.out).mono ?_); (case side1 => exact IsS64.pk_ HI0.out); (case side2 => exact hs_ HB.out); rintro e w46 ⟨rfl, hi, hb, hk⟩; refine ⟨_, rfl, ?_⟩; replace BK660 := kb_ hk BK660; replace HO663 := IsS64.rk_ HI0 HO663 hk; replace BK669 := kb_ hk BK669; replace HK := kh_ HK hk; replace HB := Aside0.mk (hb); replace HI0 := Aside0.mk (hi); (try clear hb); (try clear hk); (try clear hi); obtain ⟨z47_0, z47_1, z47_2, z47_3, y47_0, y47_1, y47_2, y47_3⟩ := bc4_ BK669.out; have hnb48 := NB660_0.out; have hnc48 := NB0_660.out; obtain ⟨z49_0, z49_1, z49_2, z49_3, y49_0, y49_1, y49_2, y49_3⟩ := bc4_ BK660.out))
  refine bodyPost_ret (results_cell_row rfl _ _ gb660 37 #[.slice Ao9 t661.length co9, .int .i64 t664, .int .i64 t684, .string t666] (0, 0) _ rfl (bp_ BK660.out) Tryd.underlying37 rfl (by kernel_rfl)) rfl ?_
  exact ⟨_, by first | rfl | (simp [errW_none, errW_some] <;> rfl) | (simp [*, errW_none, errW_some] <;> rfl), by (with_reducible repeat (first | apply Kd.R_alloc | apply Kd.R_drewN | apply Kd.R_drew)); exact Kd.R_mono (rf_ gb660 (Kd.R_far (p := ⟨gb669, 2, none⟩) (Kd.R_types (Kd.R_types HO663.out BK669.out (by decide)) BK660.out (by decide)) (fun _ hk => hk.1.2) (.int .i64 t684)) (fun _ hk => hk.2)) (fun _ hk => trivial), IsS64.pk_ HI0.out, by exact hs_ HB.out, ku_ HK.out⟩
 rw [if_neg c36] at H
 have c36b0 : (t670 == 2) = false := beq_eq_false_iff_ne.mpr c36
 have c36b1 : (t670 != 2) = true := bne_iff_ne.mpr c36
 by_cases c50 : t670 = 3
 ·
  rw [if_pos c50] at H
  have c50b0 : (t670 == 3) = true := beq_iff_eq.mpr c50
  have c50b1 : (t670 != 3) = false := bne_eq_false_iff_eq.mpr c50
  clear c50
  replace H := Option.bind_eq_some_iff.mp H
  obtain ⟨⟨t687, t688, t689⟩, A510, H⟩ := H
  have A51 := Aside0.mk A510
  clear A510
  simp only [Option.some.injEq, Prod.mk.injEq] at H
  obtain ⟨rfl, rfl, rfl, rfl, rfl, rfl⟩ := H
  refine ⟨?_⟩
  go_wp2_with (first | ((with_reducible refine gate_callee (f := 43) rfl ?_); refine gl_ (some 7) Tryd.func43 #[.pointer (some ⟨g, 0, none⟩), .int .i64 12] ?_; (with_reducible refine (spec_l1Below.calls g s0_0 t667 t668 12 t670 t671 t672 w0 _ ?side1 ?side2 A3.out).mono ?_); (case side1 => exact IsS64.pk_ HI0.out); (case side2 => exact hs_ HB.out); rintro e w59 ⟨rfl, hi, hb, hk⟩; refine ⟨_, rfl, ?_⟩; replace BK660 := kc_ hk BK660 #[.slice none 0 0, .int .i64 0, .int .i64 0, .string (⟨#[]⟩ : ByteArray)]; replace HO663 := Aside0.mk (Kd.R_mono (Kd.R_keep (IsS64.apart (IsS64.pk_ HI0.out) (by (with_reducible repeat (first | apply Kd.R_alloc | apply Kd.R_drewN | apply Kd.R_drew)); exact (Kd.R_mono (rf_ gb669 (Kd.R_types HO663.out BK669.out (by decide)) (fun _ hk => hk.2)) (fun _ h_ => h_.1))) (by decide)) hk (fun _ h => h.2)) (fun _ h => h.1)); replace BK669 := kc_ hk BK669 #[.slice Ao9 t661.length co9, .int .i64 t664, .int .i64 t665, .string t666]; replace HK := kh_ HK hk; replace HB := Aside0.mk (hb); replace HI0 := Aside0.mk (hi); (try clear hb); (try clear hk); (try clear hi)) | ((with_reducible refine gate_callee (f := 51) rfl ?_); refine gl_ (some 27) Tryd.func51 #[.pointer (some ⟨g, 0, none⟩)] ?_; (with_reducible refine (spec_l1AnyPlain.calls g s0_0 t671 t672 t687 t688 t689 w0 _ ?side1 ?side2 A51.out).mono ?_); (case side1 => exact IsS64.pk_ HI0.out); (case side2 => exact hs_ HB.out); rintro e w60 ⟨rfl, hi, hb, hk⟩; refine ⟨_, rfl, ?_⟩; replace BK660 := kb_ hk BK660; replace HO663 := IsS64.rk_ HI0 HO663 hk; replace BK669 := kb_ hk BK669; replace HK := kh_ HK hk; replace HB := Aside0.mk (hb); replace HI0 := Aside0.mk (hi); (try clear hb); (try clear hk); (try clear hi); obtain ⟨z61_0, z61_1, z61_2, z61_3, y61_0, y61_1, y61_2, y61_3⟩ := bc4_ BK669.out; have hnb62 := NB660_0.out; have hnc62 := NB0_660.out; obtain ⟨z63_0, z63_1, z63_2, z63_3, y63_0, y63_1, y63_2, y63_3⟩ := bc4_ BK660.out))
  refine bodyPost_ret (results_cell_row rfl _ _ gb660 37 #[.slice Ao9 t661.length co9, .int .i64 t664, .int .i64 t665, .string t687] (0, 0) _ rfl (bp_ BK660.out) Tryd.underlying37 rfl (by kernel_rfl)) rfl ?_
  exact ⟨_, by first | rfl | (simp [errW_none, errW_some] <;> rfl) | (simp [*, errW_none, errW_some] <;> rfl), by (with_reducible repeat (first | apply Kd.R_alloc | apply Kd.R_drewN | apply Kd.R_drew)); exact Kd.R_mono (rf_ gb660 (Kd.R_far (p := ⟨gb669, 3, none⟩) (Kd.R_types (Kd.R_types HO663.out BK669.out (by decide)) BK660.out (by decide)) (fun _ hk => hk.1.2) (.string t687)) (fun _ hk => hk.2)) (fun _ hk => trivial), IsS64.pk_ HI0.out, by exact hs_ HB.out, ku_ HK.out⟩
 rw [if_neg c50] at H
 have c50b0 : (t670 == 3) = false := beq_eq_false_iff_ne.mpr c50
 have c50b1 : (t670 != 3) = true := bne_iff_ne.mpr c50
 simp only [Option.some.injEq, Prod.mk.injEq] at H
 obtain ⟨rfl, rfl, rfl, rfl, rfl, rfl⟩ := H
 refine ⟨?_⟩
 go_wp2_with (first | ((with_reducible refine gate_callee (f := 43) rfl ?_); refine gl_ (some 7) Tryd.func43 #[.pointer (some ⟨g, 0, none⟩), .int .i64 12] ?_; (with_reducible refine (spec_l1Below.calls g s0_0 t667 t668 12 t670 t671 t672 w0 _ ?side1 ?side2 A3.out).mono ?_); (case side1 => exact IsS64.pk_ HI0.out); (case side2 => exact hs_ HB.out); rintro e w71 ⟨rfl, hi, hb, hk⟩; refine ⟨_, rfl, ?_⟩; replace BK660 := kc_ hk BK660 #[.slice none 0 0, .int .i64 0, .int .i64 0, .string (⟨#[]⟩ : ByteArray)]; replace HO663 := Aside0.mk (Kd.R_mono (Kd.R_keep (IsS64.apart (IsS64.pk_ HI0.out) (by (with_reducible repeat (first | apply Kd.R_alloc | apply Kd.R_drewN | apply Kd.R_drew)); exact (Kd.R_mono (rf_ gb669 (Kd.R_types HO663.out BK669.out (by decide)) (fun _ hk => hk.2)) (fun _ h_ => h_.1))) (by decide)) hk (fun _ h => h.2)) (fun _ h => h.1)); replace BK669 := kc_ hk BK669 #[.slice Ao9 t661.length co9, .int .i64 t664, .int .i64 t665, .string t666]; replace HK := kh_ HK hk; replace HB := Aside0.mk (hb); replace HI0 := Aside0.mk (hi); (try clear hb); (try clear hk); (try clear hi); obtain ⟨z72_0, z72_1, z72_2, z72_3, y72_0, y72_1, y72_2, y72_3⟩ := bc4_ BK669.out; have hnb73 := NB660_0.out; have hnc73 := NB0_660.out; obtain ⟨z74_0, z74_1, z74_2, z74_3, y74_0, y74_1, y74_2, y74_3⟩ := bc4_ BK660.out))
 refine bodyPost_ret (results_cell_row rfl _ _ gb660 37 #[.slice Ao9 t661.length co9, .int .i64 t664, .int .i64 t665, .string t666] (0, 0) _ rfl (bp_ BK660.out) Tryd.underlying37 rfl (by kernel_rfl)) rfl ?_
 exact ⟨_, by first | rfl | (simp [errW_none, errW_some] <;> rfl) | (simp [*, errW_none, errW_some] <;> rfl), by (with_reducible repeat (first | apply Kd.R_alloc | apply Kd.R_drewN | apply Kd.R_drew)); exact Kd.R_mono (rf_ gb660 (Kd.R_types HO663.out BK660.out (by decide)) (fun _ hk => hk.2)) (fun _ hk => trivial), IsS64.pk_ HI0.out, by exact hs_ HB.out, ku_ HK.out⟩
end Go.Proofs.YtanfohlpkppeiaaDoor.Print
end
