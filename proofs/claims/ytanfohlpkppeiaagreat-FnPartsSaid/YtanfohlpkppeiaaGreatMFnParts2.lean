import Derived.Test.YtanfohlpkppeiaaGreatMFnParts1
import Derived.Laws.Cover1
section
namespace Go.Proofs.YtanfohlpkppeiaaGreat.Print
open Go.RowKit Go.Proofs.YtanfohlpkppeiaaGreatV.PrintWords Go.Proofs.YtanfohlpkppeiaaGreatV.PrintLast Go.Proofs.YtanfohlpkppeiaaGreatV.PrintMore
attribute [local go_sem] max2_int min2_int max_two min_two max_three min_three max_four min_four
set_option linter.unusedVariables false
set_option linter.unusedSimpArgs false
set_option maxHeartbeats 80000000
set_option maxRecDepth 100000
def spec_l2Draw.l0 : Nat → List (S99) → List ByteArray → Int → Int → List Int → Int → Int → Option ((List (S99)) × Int × Int)
 | 0, _, _, _, _, _, _, _ => none
 | k + 1, j, h, i, d, b, e, g => if d < i then (if 0 ≤ d then (if d < (h.length : Int) then ((spec_l1Once.f b e g 4).bind fun a => (if a.1 = true then ((spec_l1Str.f b a.2.1 a.2.2 (([(⟨#[49]⟩ : ByteArray), (⟨#[50]⟩ : ByteArray)] : List ByteArray))).bind fun c => (if j.length < 4398046511104 then (spec_l2Draw.l0 k (j ++ [(⟨rdOf ByteArray.empty h d, c.1⟩ : S99)]) h i (wrap64 (d + 1)) b c.2.1 c.2.2) else (none))) else (spec_l2Draw.l0 k j h i (wrap64 (d + 1)) b a.2.1 a.2.2))) else (none)) else (none)) else (some (j, e, g))
def spec_l2Draw.f (k : Nat) (b : List Int) (d : Int) (e : Int) : Option ((List (S99)) × Int × Int) := (spec_l1Str.f b d e (([(⟨#[97]⟩ : ByteArray), (⟨#[98]⟩ : ByteArray), (⟨#[99]⟩ : ByteArray)] : List ByteArray))).bind fun a => ((some (([(⟨#[104, 111, 115, 116]⟩ : ByteArray), (⟨#[115, 101, 118]⟩ : ByteArray), (⟨#[122, 111, 110, 101]⟩ : ByteArray)] : List ByteArray) : List ByteArray)).bind fun c => (spec_l2Draw.l0 k (([(⟨(⟨#[97, 112, 112]⟩ : ByteArray), a.1⟩ : S99)] : List (S99))) c (c.length : Int) 0 b a.2.1 a.2.2))
theorem spec_l2Draw.calls (k : Nat) (g : Nat) (j : List Int) (A : Int) (B : Int) (r1 : List (S99)) (r2 : Int) (r3 : Int) (G w : World) (hI : IsS102 G w g j A B) (hB : Below G.heap.size G w) (h : spec_l2Draw.f k j A B = some (r1, r2, r3)) :
  Calls Tryz.prog 88 #[.pointer (some ⟨g, 0, none⟩)] w fun e w' => ∃ v0_ : Value, e = .returned (v0_) ∧ Kd.R k99 99 w' w.heap.size (fun _ => True) v0_ r1 ∧ IsS102 G w' g j r2 r3 ∧ Below G.heap.size G w' ∧ KeepBut w w' g none := by
 have hu99 := Tryz.underlying99
 have d := M_ hI
 have HK := M_ (KeepBut.refl w g none)
 have HL := M_ hB.size
 clear hI
 have Ka := M_ hB.size
 have s := M_ hB
 clear hB
 unfold spec_l2Draw.f at h
 have H := h; clear h
 obtain ⟨I, hy_⟩ : ∃ y_ : List ByteArray, y_ = (([(⟨#[97]⟩ : ByteArray), (⟨#[98]⟩ : ByteArray), (⟨#[99]⟩ : ByteArray)] : List ByteArray)) := ⟨_, rfl⟩
 replace H : ((spec_l1Str.f j A B I).bind fun x => ((some (([(⟨#[104, 111, 115, 116]⟩ : ByteArray), (⟨#[115, 101, 118]⟩ : ByteArray), (⟨#[122, 111, 110, 101]⟩ : ByteArray)] : List ByteArray) : List ByteArray)).bind fun a => (spec_l2Draw.l0 k (([(⟨(⟨#[97, 112, 112]⟩ : ByteArray), x.1⟩ : S99)] : List (S99))) a (a.length : Int) 0 j x.2.1 x.2.2))) = some (r1, r2, r3) := hm_
 have J := M_ hy_; clear hy_
 replace H := bi_ H; obtain ⟨⟨r, C, D⟩, A2, H⟩ := H; (try dsimp only at H)
 obtain ⟨K, hy_⟩ : ∃ y_ : List (S99), y_ = (([(⟨(⟨#[97, 112, 112]⟩ : ByteArray), r⟩ : S99)] : List (S99))) := ⟨_, rfl⟩
 replace H : ((some (([(⟨#[104, 111, 115, 116]⟩ : ByteArray), (⟨#[115, 101, 118]⟩ : ByteArray), (⟨#[122, 111, 110, 101]⟩ : ByteArray)] : List ByteArray) : List ByteArray)).bind fun a => (spec_l2Draw.l0 k K a (a.length : Int) 0 j C D)) = some (r1, r2, r3) := hm_
 have L := M_ hy_; clear hy_
 obtain ⟨a, hy_⟩ : ∃ y_ : List ByteArray, y_ = (([(⟨#[104, 111, 115, 116]⟩ : ByteArray), (⟨#[115, 101, 118]⟩ : ByteArray), (⟨#[122, 111, 110, 101]⟩ : ByteArray)] : List ByteArray)) := ⟨_, rfl⟩
 replace H : (spec_l2Draw.l0 k K a (a.length : Int) 0 j C D) = some (r1, r2, r3) := hm_
 have O := M_ hy_; clear hy_
 have H' := M_ H
 clear H
 go_enter Tryz.func88, Tryz.ntmps88
 go_wp2_with (first | ((with_reducible refine gd_ 7 rfl ?_); refine Kd.R_lit Kd.string _ 9 ?hg (N := 7) ?hd (xs := ([(⟨#[97]⟩ : ByteArray), (⟨#[98]⟩ : ByteArray), (⟨#[99]⟩ : ByteArray)] : List ByteArray)) (inner := [.string (⟨#[97]⟩ : ByteArray), .string (⟨#[98]⟩ : ByteArray), .string (⟨#[99]⟩ : ByteArray)]) (ok := fun _ => True) (okp := fun _ => True) ?hr ?hp (fun _ hk => hk) trivial (Below.refl _ _) (Nat.le_refl _) (by simp) ?_; (case hd => rfl); (case hg => rfl); (case hr => first | (go_simp; done) | (go_simp; rfl)); (case hp => exact (Reps.one (show Kd.M Kd.string _ _ _ (⟨#[97]⟩ : ByteArray) [.string (⟨#[97]⟩ : ByteArray)] from rfl) (Reps.one (show Kd.M Kd.string _ _ _ (⟨#[98]⟩ : ByteArray) [.string (⟨#[98]⟩ : ByteArray)] from rfl) (Reps.one (show Kd.M Kd.string _ _ _ (⟨#[99]⟩ : ByteArray) [.string (⟨#[99]⟩ : ByteArray)] from rfl) (Reps.none _ _))))); intro Fa w3 P hb hg_ hnew_; clear hg_ hnew_; (first | rw [← J.1] at P | (simp only [Int.reduceToNat] at P; rw [← J.1] at P)); have l := rl_ P HK; have ja := IsS102.bk_ d hb; have n2_ := kt_ HK hb; have ka := st_ s hb; clear d HK s; have d := ja; have HK := n2_; have s := ka; clear ja n2_ ka; clear hb P; obtain ⟨va, wa, xa⟩ := Kd.R_slice l.1; subst xa) | ((with_reducible refine gate_callee (f := 112) rfl ?_); refine gl_ (some 8) Tryz.func112 #[.pointer (some ⟨g, 0, none⟩), .slice va I.length wa] ?_; (with_reducible refine (spec_l1Str.calls g j A B _ _ I r C D G _ ?_ ?_ ?_ ?_ ?_ A2.1).mono ?_); exact IsS102.pk_ d.1; exact hs_ s.1; exact cp_ ((Kd.R_reads' l.1).2.2); exact (Kd.R_reads' l.1).2.1; exact far_slice (IsS102.own_ne d.1 l.1 (by decide)); rintro e w6 ⟨rfl, hi, hb, hk⟩; refine ⟨_, rfl, ?_⟩; replace l := IsS102.rk_ d l hk; replace HK := kh_ HK hk; replace s := M_ (hb); replace d := M_ (hi); (try clear hb hk hi)) | ((with_reducible refine gd_ 10 rfl ?_); refine Kd.R_lit k99 _ 99 ?hg (N := 10) ?hd (xs := ([(⟨(⟨#[97, 112, 112]⟩ : ByteArray), r⟩ : S99)] : List (S99))) (inner := [.string (⟨#[97, 112, 112]⟩ : ByteArray), .string r]) (ok := fun _ => True) (okp := fun _ => True) ?hr ?hp (fun _ hk => hk) trivial (Below.refl _ _) (Nat.le_refl _) (by simp) ?_; (case hd => rfl); (case hg => rfl); (case hr => first | (go_simp; done) | (go_simp; rfl)); (case hp => exact (Reps.c2 (show Kd.M k99 _ _ _ (⟨(⟨#[97, 112, 112]⟩ : ByteArray), r⟩ : S99) [.string (⟨#[97, 112, 112]⟩ : ByteArray), .string r] from (k99_mkM _ _ _ (⟨(⟨#[97, 112, 112]⟩ : ByteArray), r⟩ : S99) )) (Reps.none _ _))); intro Ga w7 Q hb hg_ hnew_; clear hg_ hnew_; (first | rw [← L.1] at Q | (simp only [Int.reduceToNat] at Q; rw [← L.1] at Q)); replace l := rb_ l hb; have y := rl_ Q HK; replace d := IsS102.bk_ d hb; replace HK := kt_ HK hb; replace s := st_ s hb; clear hb Q) | ((with_reducible refine gd_ 11 rfl ?_); refine Kd.R_lit Kd.string _ 9 ?hg (N := 11) ?hd (xs := ([(⟨#[104, 111, 115, 116]⟩ : ByteArray), (⟨#[115, 101, 118]⟩ : ByteArray), (⟨#[122, 111, 110, 101]⟩ : ByteArray)] : List ByteArray)) (inner := [.string (⟨#[104, 111, 115, 116]⟩ : ByteArray), .string (⟨#[115, 101, 118]⟩ : ByteArray), .string (⟨#[122, 111, 110, 101]⟩ : ByteArray)]) (ok := fun _ => True) (okp := fun _ => True) ?hr ?hp (fun _ hk => hk) trivial (Below.refl _ _) (Nat.le_refl _) (by simp) ?_; (case hd => rfl); (case hg => rfl); (case hr => first | (go_simp; done) | (go_simp; rfl)); (case hp => exact (Reps.one (show Kd.M Kd.string _ _ _ (⟨#[104, 111, 115, 116]⟩ : ByteArray) [.string (⟨#[104, 111, 115, 116]⟩ : ByteArray)] from rfl) (Reps.one (show Kd.M Kd.string _ _ _ (⟨#[115, 101, 118]⟩ : ByteArray) [.string (⟨#[115, 101, 118]⟩ : ByteArray)] from rfl) (Reps.one (show Kd.M Kd.string _ _ _ (⟨#[122, 111, 110, 101]⟩ : ByteArray) [.string (⟨#[122, 111, 110, 101]⟩ : ByteArray)] from rfl) (Reps.none _ _))))); intro Ha w9 t hb hg_ hnew_; clear hg_ hnew_; (first | rw [← O.1] at t | (simp only [Int.reduceToNat] at t; rw [← O.1] at t)); replace y := rb_ y hb; have S := M_ (Kd.R_lower (Kd.R_new' t (Kd.R_lt (rp_ l.1))) (ks_ HK)); replace l := M_ (Kd.R_elder' (rp_ l.1) (Kd.R_base t) hb); replace d := IsS102.bk_ d hb; replace HK := kt_ HK hb; replace s := st_ s hb; clear hb t; obtain ⟨la, ma, na⟩ := Kd.R_slice S.1; subst na))
 go_loopg [3, 13] k (fun kq v3 ya w' => ∃ (q : List (S99)) (c : Int) (o : Int) (p : Int), ya = .int .i64 c ∧ Aside0 (spec_l2Draw.l0 kq q a (a.length : Int) c j o p = some (r1, r2, r3)) ∧ Aside0 (kq ≤ k) ∧ Aside0 (Kd.R k99 99 w' w.heap.size (fun _ => True) v3 q) ∧ Aside0 (Kd.R Kd.string 9 w' w.heap.size (fun _ => True) (.slice la a.length ma) a) ∧ Aside0 (IsS102 G w' g j o p) ∧ Aside0 (KeepBut w w' g none) ∧ Aside0 (Below G.heap.size G w'))
 case atStart => exact ⟨(K), (0), (C), (D), rs_, H', ⟨Nat.le_refl _⟩, ⟨rp_ y.1⟩, ⟨Kd.R_mono (rp_ S.1) (fun _ hk => trivial)⟩, ⟨IsS102.pk_ d.1⟩, ⟨ku_ HK.1⟩, ⟨hs_ s.1⟩⟩
 case round =>
  clear H'
  obtain ⟨q, c, o, p, rfl, HA, aa, m, i, d, HK, s⟩ := hrel
  cases gk with
  | zero => exact absurd HA.1 (by simp [spec_l2Draw.l0])
  | succ k1 =>
   have H := HA.1
   clear HA
   simp only [spec_l2Draw.l0] at H
   replace H := ie_ H; rcases H with ⟨T, H⟩ | ⟨T, H⟩
   ·
    have fa := decide_eq_true T
    clear T
    replace H := i2_ H; obtain ⟨Aa, Ba, H⟩ := H
    replace H := bi_ H; obtain ⟨⟨oa, E, F⟩, Ca, H⟩ := H; (try dsimp only at H)
    have AHz_ := M_ H
    clear H
    obtain ⟨U, V⟩ : 0 ≤ (c : Int) ∧ c < (a.length : Int) := pq_
    obtain ⟨Da, pa, qa⟩ := Kd.at_string (Kd.R_reads' i.1).2.2 c U V
    cases pa
    replace U := eq_true U; replace V := eq_true V
    go_wp2_with (first | (((with_reducible refine gate_callee (f := 70) rfl ?_); refine gl_ (some 18) Tryz.func70 #[.pointer (some ⟨g, 0, none⟩), .int .i64 4] ?_; (with_reducible refine (spec_l1Once.calls g j o p 4 oa E F G _ ?_ ?_ Ca.1).mono ?_); exact IsS102.pk_ d.1; exact hs_ s.1; rintro e Na ⟨rfl, hi, hb, hk⟩; refine ⟨_, rfl, ?_⟩; replace m := IsS102.rk_ d m hk; replace i := IsS102.rk_ d i hk; replace HK := kh_ HK hk; replace s := M_ (hb); replace d := M_ (hi); (try clear hb hk hi)); refine Aside0.out ?_))
    have H := AHz_.1
    clear AHz_
    replace H := ib_ H; rcases H with ⟨rfl, H⟩ | ⟨rfl, H⟩
    ·
     obtain ⟨W, hy_⟩ : ∃ y_ : List ByteArray, y_ = (([(⟨#[49]⟩ : ByteArray), (⟨#[50]⟩ : ByteArray)] : List ByteArray)) := ⟨_, rfl⟩
     replace H : ((spec_l1Str.f j E F W).bind fun z => (if q.length < 4398046511104 then (spec_l2Draw.l0 k1 (q ++ [(⟨rdOf ByteArray.empty a c, z.1⟩ : S99)]) a (a.length : Int) (wrap64 (c + 1)) j z.2.1 z.2.2) else (none))) = some (r1, r2, r3) := hm_
     have X := M_ hy_; clear hy_
     replace H := bi_ H; obtain ⟨⟨v, Y, Z⟩, Ea, H⟩ := H; (try dsimp only at H)
     replace H := im_ H; obtain ⟨ga, H⟩ := H
     obtain ⟨ea, hy_⟩ : ∃ y_ : List (S99), y_ = (q ++ [(⟨rdOf ByteArray.empty a c, v⟩ : S99)]) := ⟨_, rfl⟩
     replace H : (spec_l2Draw.l0 k1 ea a (a.length : Int) (wrap64 (c + 1)) j Y Z) = some (r1, r2, r3) := hm_
     have ha := M_ hy_; clear hy_
     have H' := M_ H
     clear H
     refine ⟨?_⟩
     go_wp2_with (first | ((with_reducible refine gd_ 22 rfl ?_); refine Kd.R_lit Kd.string _ 9 ?hg (N := 22) ?hd (xs := ([(⟨#[49]⟩ : ByteArray), (⟨#[50]⟩ : ByteArray)] : List ByteArray)) (inner := [.string (⟨#[49]⟩ : ByteArray), .string (⟨#[50]⟩ : ByteArray)]) (ok := fun _ => True) (okp := fun _ => True) ?hr ?hp (fun _ hk => hk) trivial (Below.refl _ _) (Nat.le_refl _) (by simp) ?_; (case hd => rfl); (case hg => rfl); (case hr => first | (go_simp; done) | (go_simp; rfl)); (case hp => exact (Reps.one (show Kd.M Kd.string _ _ _ (⟨#[49]⟩ : ByteArray) [.string (⟨#[49]⟩ : ByteArray)] from rfl) (Reps.one (show Kd.M Kd.string _ _ _ (⟨#[50]⟩ : ByteArray) [.string (⟨#[50]⟩ : ByteArray)] from rfl) (Reps.none _ _)))); intro Ia Oa u hb hg_ hnew_; clear hg_ hnew_; (first | rw [← X.1] at u | (simp only [Int.reduceToNat] at u; rw [← X.1] at u)); replace m := rb_ m hb; have n := M_ (Kd.R_lower (Kd.R_new' u (Kd.R_lt (rp_ i.1))) (ks_ HK)); replace i := M_ (Kd.R_elder' (rp_ i.1) (Kd.R_base u) hb); replace d := IsS102.bk_ d hb; replace HK := kt_ HK hb; replace s := st_ s hb; clear hb u; obtain ⟨ra, sa, ta⟩ := Kd.R_slice n.1; subst ta) | ((with_reducible refine gate_callee (f := 112) rfl ?_); refine gl_ (some 23) Tryz.func112 #[.pointer (some ⟨g, 0, none⟩), .slice ra W.length sa] ?_; (with_reducible refine (spec_l1Str.calls g j E F _ _ W v Y Z G _ ?_ ?_ ?_ ?_ ?_ Ea.1).mono ?_); exact IsS102.pk_ d.1; exact hs_ s.1; exact cp_ ((Kd.R_reads' n.1).2.2); exact (Kd.R_reads' n.1).2.1; exact far_slice (IsS102.own_ne d.1 n.1 (by decide)); rintro e Pa ⟨rfl, hi, hb, hk⟩; refine ⟨_, rfl, ?_⟩; replace m := IsS102.rk_ d m hk; replace i := IsS102.rk_ d i hk; replace n := IsS102.rk_ d n hk; replace HK := kh_ HK hk; replace s := M_ (hb); replace d := M_ (hi); (try clear hb hk hi)) | ((with_reducible refine gate_builtin (b := .append) (xs := #[.tmp 19, .tmp 25]) rfl ?_); at_builtin; refine Kd.R_append k99 w.heap.size rfl (.tmp 19) (.tmp 25) 27 99 (.agg #[(.string ⟨#[]⟩), (.string ⟨#[]⟩)]) 32 rfl Tryz.underlying27 info99 rfl (by decide) (by omega) u3 q (⟨rdOf ByteArray.empty a c, v⟩ : S99) [.string (rdOf ByteArray.empty a c), .string v] (fun _ => True) (fun _ => False) rfl rfl ?aP (fun _ hk => hk.elim) ?aF ?aO (Below.refl _ _) ?aS ?aL ?_; (case aP => exact k99_mkM _ _ _ (⟨rdOf ByteArray.empty a c, v⟩ : S99)); (case aF => exact (fun _ _ => trivial)); (case aO => exact (rp_ m.1)); (case aS => exact (ks_ HK)); (case aL => have := ga.1; omega); intro Ja Qa ho hb hg hat; rw [← ha.1] at ho; replace i := M_ (Kd.R_over' (rp_ i.1) (Kd.R_typed (rp_ m.1)) (by decide) hg); replace d := M_ (IsS102.grown (IsS102.pk_ d.1) hg (IsS102.own_ne d.1 m.1 (by decide))); replace n := M_ (Kd.R_over' (rp_ n.1) (Kd.R_typed (rp_ m.1)) (by decide) hg); replace s := M_ (below_weaken (hs_ s.1) HL.out hb); replace HK := M_ (KeepBut.trans (ku_ HK.1) (KeepBut.of_grown hg g) (Kd.R_base2 m.1)); have ia := M_ (ho); clear m; clear ho hb hg hat))
     go_roundg k1
     case measure => have := aa.1; omega
     case rel => exact ⟨(ea), (wrap64 (c + 1)), (Y), (Z), rs_, H', ⟨by have := aa.1; omega⟩, ⟨rp_ ia.1⟩, ⟨Kd.R_mono (rp_ i.1) (fun _ hk => trivial)⟩, ⟨IsS102.pk_ d.1⟩, ⟨ku_ HK.1⟩, ⟨hs_ s.1⟩⟩
    have H' := M_ H
    clear H
    refine ⟨?_⟩
    go_wp2
    go_roundg k1
    case measure => have := aa.1; omega
    case rel => exact ⟨(q), (wrap64 (c + 1)), (E), (F), rs_, H', ⟨by have := aa.1; omega⟩, ⟨rp_ m.1⟩, ⟨rp_ i.1⟩, ⟨IsS102.pk_ d.1⟩, ⟨ku_ HK.1⟩, ⟨hs_ s.1⟩⟩
   have fa : decide (c < (a.length : Int)) = false := decide_eq_false T
   clear T
   simp only [Option.some.injEq, Prod.mk.injEq] at H
   obtain ⟨rfl, rfl, rfl⟩ := H
   go_wp2
   go_ret
   exact ⟨_, rr_, rp_ m.1, IsS102.pk_ d.1, hs_ s.1, ku_ HK.1⟩
def spec_l1Plain.f (b : List Int) (c : Int) (d : Int) : Option (ByteArray × Int × Int) := (spec_l1Str.f b c d (([(⟨#[97]⟩ : ByteArray), (⟨#[98]⟩ : ByteArray), (⟨#[120, 32, 121]⟩ : ByteArray), (⟨#[]⟩ : ByteArray), (⟨#[99, 114, 105, 116]⟩ : ByteArray), (⟨#[125, 45]⟩ : ByteArray)] : List ByteArray))).bind fun a => (some (a.1, a.2.1, a.2.2))
theorem spec_l1Plain.calls (g : Nat) (b : List Int) (i : Int) (j : Int) (u : ByteArray) (v : Int) (x : Int) (n w : World) (hI : IsS102 n w g b i j) (hB : Below n.heap.size n w) (h : spec_l1Plain.f b i j = some (u, v, x)) :
  Calls Tryz.prog 93 #[.pointer (some ⟨g, 0, none⟩)] w fun e w' => e = .returned (.string u) ∧ IsS102 n w' g b v x ∧ Below n.heap.size n w' ∧ KeepBut w w' g none := by
 have c := M_ hI
 have HK := M_ (KeepBut.refl w g none)
 have HL := M_ hB.size
 clear hI
 have C := M_ hB.size
 have o := M_ hB
 clear hB
 unfold spec_l1Plain.f at h
 have H := h; clear h
 obtain ⟨k, hy_⟩ : ∃ y_ : List ByteArray, y_ = (([(⟨#[97]⟩ : ByteArray), (⟨#[98]⟩ : ByteArray), (⟨#[120, 32, 121]⟩ : ByteArray), (⟨#[]⟩ : ByteArray), (⟨#[99, 114, 105, 116]⟩ : ByteArray), (⟨#[125, 45]⟩ : ByteArray)] : List ByteArray)) := ⟨_, rfl⟩
 replace H : ((spec_l1Str.f b i j k).bind fun d => (some (d.1, d.2.1, d.2.2))) = some (u, v, x) := hm_
 have l := M_ hy_; clear hy_
 replace H := bi_ H; obtain ⟨⟨p, q, r⟩, D, H⟩ := H; (try dsimp only at H)
 simp only [Option.some.injEq, Prod.mk.injEq] at H
 obtain ⟨rfl, rfl, rfl⟩ := H
 go_enter Tryz.func93, Tryz.ntmps93
 go_wp2_with (first | ((with_reducible refine gd_ 4 rfl ?_); refine Kd.R_lit Kd.string _ 9 ?hg (N := 4) ?hd (xs := ([(⟨#[97]⟩ : ByteArray), (⟨#[98]⟩ : ByteArray), (⟨#[120, 32, 121]⟩ : ByteArray), (⟨#[]⟩ : ByteArray), (⟨#[99, 114, 105, 116]⟩ : ByteArray), (⟨#[125, 45]⟩ : ByteArray)] : List ByteArray)) (inner := [.string (⟨#[97]⟩ : ByteArray), .string (⟨#[98]⟩ : ByteArray), .string (⟨#[120, 32, 121]⟩ : ByteArray), .string (⟨#[]⟩ : ByteArray), .string (⟨#[99, 114, 105, 116]⟩ : ByteArray), .string (⟨#[125, 45]⟩ : ByteArray)]) (ok := fun _ => True) (okp := fun _ => True) ?hr ?hp (fun _ hk => hk) trivial (Below.refl _ _) (Nat.le_refl _) (by simp) ?_; (case hd => rfl); (case hg => rfl); (case hr => first | (go_simp; done) | (go_simp; rfl)); (case hp => exact (Reps.one (show Kd.M Kd.string _ _ _ (⟨#[97]⟩ : ByteArray) [.string (⟨#[97]⟩ : ByteArray)] from rfl) (Reps.one (show Kd.M Kd.string _ _ _ (⟨#[98]⟩ : ByteArray) [.string (⟨#[98]⟩ : ByteArray)] from rfl) (Reps.one (show Kd.M Kd.string _ _ _ (⟨#[120, 32, 121]⟩ : ByteArray) [.string (⟨#[120, 32, 121]⟩ : ByteArray)] from rfl) (Reps.one (show Kd.M Kd.string _ _ _ (⟨#[]⟩ : ByteArray) [.string (⟨#[]⟩ : ByteArray)] from rfl) (Reps.one (show Kd.M Kd.string _ _ _ (⟨#[99, 114, 105, 116]⟩ : ByteArray) [.string (⟨#[99, 114, 105, 116]⟩ : ByteArray)] from rfl) (Reps.one (show Kd.M Kd.string _ _ _ (⟨#[125, 45]⟩ : ByteArray) [.string (⟨#[125, 45]⟩ : ByteArray)] from rfl) (Reps.none _ _)))))))); intro B E m hb hg_ hnew_; clear hg_ hnew_; (first | rw [← l.1] at m | (simp only [Int.reduceToNat] at m; rw [← l.1] at m)); have a := rl_ m HK; have s := IsS102.bk_ c hb; have n2_ := kt_ HK hb; have t := st_ o hb; clear c HK o; have c := s; have HK := n2_; have o := t; clear s n2_ t; clear hb m; obtain ⟨y, z, A⟩ := Kd.R_slice a.1; subst A) | ((with_reducible refine gate_callee (f := 112) rfl ?_); refine gl_ (some 5) Tryz.func112 #[.pointer (some ⟨g, 0, none⟩), .slice y k.length z] ?_; (with_reducible refine (spec_l1Str.calls g b i j _ _ k p q r n _ ?_ ?_ ?_ ?_ ?_ D.1).mono ?_); exact IsS102.pk_ c.1; exact hs_ o.1; exact cp_ ((Kd.R_reads' a.1).2.2); exact (Kd.R_reads' a.1).2.1; exact far_slice (IsS102.own_ne c.1 a.1 (by decide)); rintro e F ⟨rfl, hi, hb, hk⟩; refine ⟨_, rfl, ?_⟩; replace a := IsS102.rk_ c a hk; replace HK := kh_ HK hk; replace o := M_ (hb); replace c := M_ (hi); (try clear hb hk hi)))
 go_ret
 exact an_ ⟨IsS102.pk_ c.1, hs_ o.1, ku_ HK.1⟩
def spec_l4Draw.f (k : Nat) (e : List Int) (g : Int) (h : Int) : Option ((List (S99)) × Int × Int × ByteArray × Int × Int) := (spec_l2Draw.f k e g h).bind fun b => ((spec_l1Below.f e b.2.1 b.2.2 8).bind fun a => ((spec_l1Plain.f e a.2.1 a.2.2).bind fun c => ((spec_l1Int.f e c.2.1 c.2.2 (([0, 2, 5, 20, 60] : List Int))).bind fun d => (some (b.1, a.1, wrap64 (a.1 + d.1), c.1, d.2.1, d.2.2)))))
def spec_l4Draw.T2 : Bool × List (List Nat × List Nat) := (true, [([], []), ([0], [0]), ([], []), ([], []), ([2, 3], [2, 3]), ([1, 4], [1, 4]), ([0, 1, 2, 3, 4, 5], []), ([6, 5, 4, 0, 1, 2, 3, 4, 5], [5, 6])])
def spec_l4Draw.B2 : List Nat := [0, 1, 0, 0, 12, 31, 63, 127]
theorem spec_l4Draw.tab2 : rtab .any (opsOf Tryz.f52 2) = spec_l4Draw.T2 := by kernel_rfl
theorem spec_l4Draw.bits2 : waitsOk spec_l4Draw.T2.2 spec_l4Draw.B2 = true := by kernel_rfl
theorem spec_l4Draw.calls (k : Nat) (g : Nat) (j : List Int) (E : Int) (F : Int) (r1 : List (S99)) (r2 : Int) (r3 : Int) (r4 : ByteArray) (r5 : Int) (r6 : Int) (G w : World) (hI : IsS102 G w g j E F) (hB : Below G.heap.size G w) (h : spec_l4Draw.f k j E F = some (r1, r2, r3, r4, r5, r6)) :
  Calls Tryz.prog 52 #[.pointer (some ⟨g, 0, none⟩)] w fun e w' => ∃ v0_ : Value, e = .returned (.agg #[v0_, .int .i64 r2, .int .i64 r3, .string r4]) ∧ Kd.R k99 99 w' w.heap.size (fun _ => True) v0_ r1 ∧ IsS102 G w' g j r5 r6 ∧ Below G.heap.size G w' ∧ KeepBut w w' g none := by
 have hu29 := Tryz.underlying29
 have d := M_ hI
 have HK := M_ (KeepBut.refl w g none)
 have HL := M_ hB.size
 clear hI
 have da := M_ hB.size
 have q := M_ hB
 clear hB
 unfold spec_l4Draw.f at h
 have H := h; clear h
 replace H := bi_ H; obtain ⟨⟨r, U, V⟩, A2, H⟩ := H; (try dsimp only at H)
 replace H := bi_ H; obtain ⟨⟨l, W, X⟩, A3, H⟩ := H; (try dsimp only at H)
 replace H := bi_ H; obtain ⟨⟨s, A, B⟩, A4, H⟩ := H; (try dsimp only at H)
 obtain ⟨I, hy_⟩ : ∃ y_ : List Int, y_ = (([0, 2, 5, 20, 60] : List Int)) := ⟨_, rfl⟩
 replace H : ((spec_l1Int.f j A B I).bind fun x => (some (r, l, wrap64 (l + x.1), s, x.2.1, x.2.2))) = some (r1, r2, r3, r4, r5, r6) := hm_
 have J := M_ hy_; clear hy_
 replace H := bi_ H; obtain ⟨⟨L, ea, fa⟩, A5, H⟩ := H; (try dsimp only at H)
 simp only [Option.some.injEq, Prod.mk.injEq] at H
 obtain ⟨rfl, rfl, rfl, rfl, rfl, rfl⟩ := H
 go_enter Tryz.func52, Tryz.ntmps52
 try go_wp2_with (first | ((with_reducible refine gd_ 2 rfl ?_); refine bV_ 2 #[.slice none 0 0, .int .i64 0, .int .i64 0, .string (⟨#[]⟩ : ByteArray)] 29 ?_; intro y hg w6 a hb; replace q := st_ q hb; have Z := Ge_.mk ((by rw [hg]; exact (ks_ HK) : w.heap.size ≤ y)); replace HK := kt_ HK hb; have va := gt_ da Z; have O := IsS102.nl_ d hg; replace d := IsS102.bk_ d hb; have P := ns_ O; clear hb hg) | ((with_reducible refine gate_callee (f := 88) rfl ?_); refine gl_ (some 5) Tryz.func88 #[.pointer (some ⟨g, 0, none⟩)] ?_; (with_reducible refine (spec_l2Draw.calls k g j E F r U V G _ ?_ ?_ A2.1).mono ?_); exact IsS102.pk_ d.1; exact hs_ q.1; rintro e w7 ⟨cb, rfl, ga, hi, hb, hk⟩; refine ⟨_, rfl, ?_⟩; replace a := kb_ hk a; have b := rl_ ga HK; replace HK := kh_ HK hk; replace q := M_ (hb); replace d := M_ (hi); (try clear hb hk hi ga)) | ((with_reducible refine gate_callee (f := 69) rfl ?_); refine gl_ (some 7) Tryz.func69 #[.pointer (some ⟨g, 0, none⟩), .int .i64 8] ?_; (with_reducible refine (spec_l1Below.calls g j U V 8 l W X G _ ?_ ?_ A3.1).mono ?_); exact IsS102.pk_ d.1; exact hs_ q.1; rintro e w8 ⟨rfl, hi, hb, hk⟩; refine ⟨_, rfl, ?_⟩; replace a := kb_ hk a; replace b := IsS102.rk_ d b hk; replace HK := kh_ HK hk; replace q := M_ (hb); replace d := M_ (hi); (try clear hb hk hi)) | ((with_reducible refine gate_callee (f := 93) rfl ?_); refine gl_ (some 9) Tryz.func93 #[.pointer (some ⟨g, 0, none⟩)] ?_; (with_reducible refine (spec_l1Plain.calls g j W X s A B G _ ?_ ?_ A4.1).mono ?_); exact IsS102.pk_ d.1; exact hs_ q.1; rintro e w9 ⟨rfl, hi, hb, hk⟩; refine ⟨_, rfl, ?_⟩; replace a := kb_ hk a; replace b := IsS102.rk_ d b hk; replace HK := kh_ HK hk; replace q := M_ (hb); replace d := M_ (hi); (try clear hb hk hi); obtain ⟨C, D, ha⟩ := Kd.R_slice b.1; subst ha) | ((with_reducible refine gd_ 3 rfl ?_); refine bV_ 3 #[.slice none 0 0, .int .i64 0, .int .i64 0, .string (⟨#[]⟩ : ByteArray)] 29 ?_; intro i hg wa c hb; obtain ⟨b, q⟩ := u2_ hb b q; have aa := Ge_.mk ((by rw [hg]; exact (ks_ HK) : w.heap.size ≤ i)); replace HK := kt_ HK hb; have xa := gt_ da aa; obtain ⟨z, o, a⟩ := nb_ a hg hb; have Q := IsS102.nl_ d hg; replace d := IsS102.bk_ d hb; have T := ns_ Q; clear hb hg; have ya := n2_ o; have za := n2_ T; obtain ⟨Aa, Ba, Ca, Da, Ea, Fa, Ga, Ha⟩ := bc4_ c.1))
 generalize hw_ : ((((wa.setCell ⟨i, 0, none⟩ (.slice C r.length D)).setCell ⟨i, 1, none⟩ (.int .i64 l)).setCell ⟨i, 2, none⟩ (.int .i64 0)).setCell ⟨i, 3, none⟩ (.string s)) = ba
 have ia := wr_ hw_ (Kd.R_mono (ok' := (fun _ => True)) (ry_ b.1 c.1) (fun _ hk => trivial))
 have ja : Aside0 (IsS102 G ba g j A B) := ⟨by rw [← hw_]; exact (IsS102.pk_ d.1)⟩
 have ka : Aside0 (KeepBut w ba g none) := ⟨by rw [← hw_]; exact (ku_ HK.1)⟩
 replace a := wq_ hw_ a
 replace c := wp_ hw_ #[.slice C r.length D, .int .i64 l, .int .i64 0, .string s] c
 replace q := wb_ hw_ q
 clear hw_
 (try clear b d HK)
 have b := ia
 have d := ja
 have HK := ka
 clear ia ja ka
 obtain ⟨b, a, c⟩ := y3_ b a c
 replace d := M_ (IsS102.drew d.1)
 replace HK := M_ (keep_drew HK.1)
 replace q := db_ q
 refine start_ (n := 8) (S := fun w' => c_ w' i 0 (.slice C r.length D) ∧ c_ w' i 1 (.int .i64 l) ∧ c_ w' i 2 (.int .i64 0) ∧ c_ w' i 3 (.string s)) (ds := [7]) (b_ 0 8) (by kernel_rfl) rfl rfl (e4_ c.1) (fun t => ?_); refine with_tabW spec_l4Draw.tab2 spec_l4Draw.bits2 (fun u Ia => ?_)
 generalize ba.drew = kb at b a c d HK q t ⊢
 refine p_ u ?_
 refine qw_ 2 (m_ 8 5) u ?_
 refine qt_ 1 (b_ 3 5) u Ia t ?_
 refine o1_ 3 (b_ 4 4) u (fun K hK => ?_)
 refine Kd.R_lit_step (Kd.int .i64) _ 3 ?hg (N := 14) ?hd (xs := ([0, 2, 5, 20, 60] : List Int)) (inner := [.int .i64 0, .int .i64 2, .int .i64 5, .int .i64 20, .int .i64 60]) (ok := fun _ => True) (okp := fun _ => True) ?hr ?hp (fun _ hk => hk) trivial (Below.refl _ _) (Nat.le_refl _) (by simp) ?_; (case hd => rfl); (case hg => rfl); (case hr => first | (go_simp; done) | (go_simp; rfl)); (case hp => exact (Reps.one (show Kd.M (Kd.int .i64) _ _ _ 0 [.int .i64 0] from rfl) (Reps.one (show Kd.M (Kd.int .i64) _ _ _ 2 [.int .i64 2] from rfl) (Reps.one (show Kd.M (Kd.int .i64) _ _ _ 5 [.int .i64 5] from rfl) (Reps.one (show Kd.M (Kd.int .i64) _ _ _ 20 [.int .i64 20] from rfl) (Reps.one (show Kd.M (Kd.int .i64) _ _ _ 60 [.int .i64 60] from rfl) (Reps.none _ _)))))))
 intro db lb v hb hg_ hnew_
 clear hg_ hnew_
 (first | rw [← J.1] at v | (simp only [Int.reduceToNat] at v; rw [← J.1] at v))
 replace b := rb_ b hb
 have m := rl_ v HK
 replace d := IsS102.bk_ d hb
 obtain ⟨a, c⟩ := u2_ hb a c
 replace HK := kt_ HK hb
 replace q := st_ q hb
 clear hb v
 obtain ⟨la, ma, Y⟩ := Kd.R_slice m.1
 (first | subst Y | (obtain ⟨rfl, rfl⟩ := si_ Y))
 refine ho_ hK (e4_ c.1) (fun t => ?_)
 refine o1_ 4 (b_ 5 3) u (fun K hK => ?_)
 refine gs_ Tryz.func66 #[.pointer (some ⟨g, 0, none⟩), .slice la I.length ma] ?_
 with_reducible refine (spec_l1Int.calls g j A B _ _ I L ea fa G _ ?_ ?_ ?_ ?_ ?_ A5.1).mono ?_
 exact IsS102.pk_ d.1
 exact hs_ q.1
 exact cp_ ((Kd.R_reads' m.1).2.2)
 exact (Kd.R_reads' m.1).2.1
 exact far_slice (IsS102.own_ne d.1 m.1 (by decide))
 rintro e Ja ⟨rfl, hi, hb, hk⟩
 refine ⟨_, rfl, ?_⟩
 replace a := kb_ hk a
 replace b := IsS102.rk_ d b hk
 replace c := kb_ hk c
 replace m := IsS102.rk_ d m hk
 replace HK := kh_ HK hk
 replace q := M_ (hb)
 replace d := M_ (hi)
 (try clear hb hk hi)
 refine ho_ hK (e4_ c.1) (fun t => ?_)
 iterate 2 refine p_ u ?_
 refine l1_ 7 (b_ 8 0) u (fun K hK => ?_)
 have eb : Ja.cell? ⟨i, 2, none⟩ = some (.int .i64 0) := bx_ c.1 2
 have Ka := blk_frozen c.1 2
 have na := z.1
 have oa := o.1
 refine skip_ (w1 := ?_) (by rfl) rfl ?_ ?_
 rotate_left
 ·
  go_simp
  rfl
 refine hK.out _ _ ?_
 clear hK K
 refine done_ (done_of u.1 (by kernel_rfl)) ?_
 obtain ⟨La, Ma, Na, Oa, Pa, Qa, Ra, Sa⟩ := bc4_ c.1
 have Ta := n2_ P
 obtain ⟨Ua, Va, Wa, Xa, Ya, Za, ab, bb⟩ := bc4_ a.1
 try go_wp2
 refine bodyPost_ret (results_cell_row rfl _ _ y 29 #[.slice C r.length D, .int .i64 l, .int .i64 (wrap64 (l + L)), .string s] (0, 0) _ rfl (bp_ a.1) Tryz.underlying29 rfl (by kernel_rfl)) rfl ?_
 exact ⟨_, rr_, Kd.R_mono (rf_ y (Kd.R_far (p := ⟨i, 2, none⟩) (Kd.R_types (Kd.R_types b.1 c.1 (by decide)) a.1 (by decide)) (fun _ hk => hk.1.2) (.int .i64 (wrap64 (l + L)))) (fun _ hk => hk.2)) (fun _ hk => trivial), IsS102.pk_ d.1, hs_ q.1, ku_ HK.1⟩
def spec_PartOf.f (b : Int) (a : Int) : Option (Int) := if a < 1 then (some 0) else (if b < 0 then (some 0) else (if a = 0 then (none) else (some (Int.tmod b a))))
theorem spec_PartOf.calls (i : Int) (a : Int) (r : Int) (w : World) (h : spec_PartOf.f i a = some r) :
  Calls Tryz.prog 77 #[.int .i64 i, .int .i64 a] w fun e w' => e = .returned (.int .i64 r) ∧ Drawn0 w w' := by
 unfold spec_PartOf.f at h
 have H := h; clear h
 replace H := ie_ H; rcases H with ⟨b, H⟩ | ⟨b, H⟩
 ·
  have c := decide_eq_true b
  clear b
  obtain rfl := Option.some.inj H
  go_enter Tryz.func77, Tryz.ntmps77
  go_wp2
  go_ret
  exact ⟨by first | rfl | (simp; done) | (simp [*]; done), by repeat (first | exact Drawn0.refl _ | apply Drawn0.step)⟩
 have c : decide (a < 1) = false := decide_eq_false b
 clear b
 replace H := ie_ H; rcases H with ⟨d, H⟩ | ⟨d, H⟩
 ·
  have g := decide_eq_true d
  clear d
  obtain rfl := Option.some.inj H
  go_enter Tryz.func77, Tryz.ntmps77
  go_wp2
  go_ret
  exact ⟨by first | rfl | (simp; done) | (simp [*]; done), by repeat (first | exact Drawn0.refl _ | apply Drawn0.step)⟩
 have g : decide (i < 0) = false := decide_eq_false d
 clear d
 replace H := io_ H; obtain ⟨j, H⟩ := H
 have k : (a == 0) = false := beq_eq_false_iff_ne.mpr j
 have l : (a != 0) = true := bne_iff_ne.mpr j
 obtain rfl := Option.some.inj H
 go_enter Tryz.func77, Tryz.ntmps77
 go_wp2
 go_ret
 exact ⟨by first | rfl | (simp; done) | (simp [*]; done), by repeat (first | exact Drawn0.refl _ | apply Drawn0.step)⟩
def spec_l7Draw.l0 : Nat → Int → Int → Int → List Int → Int → Int → Int → Int → List (S80) → Option (Int × Int × (List (S80)) × Int × Int)
 | 0, _, _, _, _, _, _, _, _, _ => none
 | k + 1, m, n, o, e, h, i, b, c, d => if o > 0 then ((spec_l4Draw.f k e h i).bind fun a => ((spec_Finger.f k a.1).bind fun j => ((spec_PartOf.f j n).bind fun l => (if l = m then ((spec_PutIn.f k b c d a.1 a.2.1 a.2.2.1 a.2.2.2.1).bind fun g => (spec_l7Draw.l0 k m n (wrap64 (o - 1)) e a.2.2.2.2.1 a.2.2.2.2.2 g.1 g.2.1 g.2.2.1)) else (spec_l7Draw.l0 k m n (wrap64 (o - 1)) e a.2.2.2.2.1 a.2.2.2.2.2 b c d))))) else (some (b, c, d, h, i))
def spec_l7Draw.f (k : Nat) (b : List Int) (c : Int) (d : Int) (e : Int) (g : Int) : Option (Int × Int × (List (S80)) × Int × Int) := (spec_l1Below.f b c d 8).bind fun a => (spec_l7Draw.l0 k e g a.1 b a.2.1 a.2.2 (-1) 0 ([] : List (S80)))
theorem spec_l7Draw.calls (k : Nat) (g : Nat) (u : List Int) (V : Int) (W : Int) (a1 : Int) (a2 : Int) (r1 : Int) (r2 : Int) (r3 : List (S80)) (r4 : Int) (r5 : Int) (N w : World) (hI : IsS102 N w g u V W) (hB : Below N.heap.size N w) (h : spec_l7Draw.f k u V W a1 a2 = some (r1, r2, r3, r4, r5)) :
  Calls Tryz.prog 90 #[.pointer (some ⟨g, 0, none⟩), .int .i64 a1, .int .i64 a2] w fun e w' => ∃ v2_ : Value, e = .returned (.agg #[.int .i64 r1, .int .i64 r2, v2_]) ∧ Kd.S k80 80 w' w.heap.size (fun _ => True) v2_ r3 ∧ IsS102 N w' g u r4 r5 ∧ Below N.heap.size N w' ∧ KeepBut w w' g none := by
 have hu26 := Tryz.underlying26
 have hu29 := Tryz.underlying29
 have o := M_ hI
 have HK := M_ (KeepBut.refl w g none)
 have HL := M_ hB.size
 clear hI
 have na := M_ hB.size
 have D := M_ hB
 clear hB
 unfold spec_l7Draw.f at h
 have H := h; clear h
 replace H := bi_ H; obtain ⟨⟨ga, ha, ia⟩, A4, H⟩ := H; (try dsimp only at H)
 have H' := M_ H
 clear H
 go_enter Tryz.func90, Tryz.ntmps90
 go_wp2_with (first | ((with_reducible refine gd_ 6 rfl ?_); refine bV_ 6 #[.int .i64 0, .int .i64 0, .slice none 0 0] 26 ?_; intro J hg w5 b hb; replace D := st_ D hb; have oa := Ge_.mk ((by rw [hg]; exact (ks_ HK) : w.heap.size ≤ J)); replace HK := kt_ HK hb; have Pa := gt_ na oa; have X := IsS102.nl_ o hg; replace o := IsS102.bk_ o hb; have Y := ns_ X; clear hb hg) | ((with_reducible refine gd_ 7 rfl ?_); refine bV_ 7 #[.int .i64 0, .int .i64 0, .slice none 0 0] 26 ?_; intro O hg w6 d hb; replace D := st_ D hb; have pa := Ge_.mk ((by rw [hg]; exact (ks_ HK) : w.heap.size ≤ O)); replace HK := kt_ HK hb; have Qa := gt_ na pa; obtain ⟨qa, t, b⟩ := nb_ b hg hb; have Z := IsS102.nl_ o hg; replace o := IsS102.bk_ o hb; have z := ns_ Z; clear hb hg; have Ub := n2_ t; have Vb := n2_ z; obtain ⟨Wb, Xb, Yb, Zb, ac, bc⟩ := bc3_ d.1) | ((with_reducible refine gate_callee (f := 69) rfl ?_); refine gl_ (some 12) Tryz.func69 #[.pointer (some ⟨g, 0, none⟩), .int .i64 8] ?_; (with_reducible refine (spec_l1Below.calls g u V W 8 ga ha ia N _ ?_ ?_ A4.1).mono ?_); exact IsS102.pk_ o.1; exact hs_ D.1; rintro e fc ⟨rfl, hi, hb, hk⟩; refine ⟨_, rfl, ?_⟩; replace b := kc_ hk b #[.int .i64 0, .int .i64 0, .slice none 0 0]; replace d := kc_ hk d #[.int .i64 (-1), .int .i64 0, .slice none 0 0]; replace HK := kh_ HK hk; replace D := M_ (hb); replace o := M_ (hi); (try clear hb hk hi)))
 go_loopg [8] k (fun kq v8 w' => ∃ (A : Int) (v : Int) (x : Int) (i : Int) (j : Int) (l : List (S80)) (q : Value), v8 = .int .i64 A ∧ Aside0 (spec_l7Draw.l0 kq a1 a2 A u v x i j l = some (r1, r2, r3, r4, r5)) ∧ Aside0 (kq ≤ k) ∧ Aside0 (Kd.S k80 80 w' w.heap.size (fun _ => True) q l) ∧ Aside0 (w'.heap[J]? = some (.cells #[.int .i64 0, .int .i64 0, (.slice none 0 0)] 26 (0, 0))) ∧ Aside0 (w'.heap[O]? = some (.cells #[.int .i64 i, .int .i64 j, q] 26 (0, 0))) ∧ Aside0 (IsS102 N w' g u v x) ∧ Aside0 (KeepBut w w' g none) ∧ Aside0 (Below N.heap.size N w'))
 case atStart => exact ⟨(ga), (ha), (ia), ((-1)), (0), (([] : List (S80))), (.slice none 0 0), rs_, H', ⟨Nat.le_refl _⟩, ⟨ni_⟩, ⟨bq_ b.1⟩, ⟨bq_ d.1⟩, ⟨IsS102.pk_ o.1⟩, ⟨ku_ HK.1⟩, ⟨hs_ D.1⟩⟩
 case round =>
  clear H'
  obtain ⟨A, v, x, i, j, l, q, rfl, HA, fa, a, b, d, o, HK, D⟩ := hrel
  cases gk with
  | zero => exact absurd HA.1 (by simp [spec_l7Draw.l0])
  | succ k1 =>
   have H := HA.1
   clear HA
   simp only [spec_l7Draw.l0] at H
   replace H := ie_ H; rcases H with ⟨aa, H⟩ | ⟨aa, H⟩
   ·
    have ra : decide (0 < A) = true := decide_eq_true aa
    clear aa
    replace H := bi_ H; obtain ⟨⟨r, E, F, G, K, L⟩, Sa, H⟩ := H; (try dsimp only at H)
    replace H := bi_ H; obtain ⟨M, Ta, H⟩ := H
    replace H := bi_ H; obtain ⟨I, ya, H⟩ := H
    have AHz_ := M_ H
    clear H
    go_wp2_with (first | ((with_reducible refine gate_callee (f := 52) rfl ?_); refine gl_ (some 18) Tryz.func52 #[.pointer (some ⟨g, 0, none⟩)] ?_; (with_reducible refine (spec_l4Draw.calls k1 g u v x r E F G K L N _ ?_ ?_ Sa.1).mono ?_); exact IsS102.pk_ o.1; exact hs_ D.1; rintro e hc ⟨cc, rfl, P, hi, hb, hk⟩; refine ⟨_, rfl, ?_⟩; replace a := M_ (Kd.S_mono (Kd.S_told (Kd.S_oldK (IsS102.apartS (IsS102.pk_ o.1) (sp_ a.1) (by decide)) hk) (Kd.R_base P)) (fun _ h_ => h_.1)); replace b := kb_ hk b; replace d := kb_ hk d; have m := rl_ P HK; replace HK := kh_ HK hk; replace D := M_ (hb); replace o := M_ (hi); (try clear hb hk hi P)) | ((with_reducible refine gd_ 9 rfl ?_); refine bV_ 9 #[.slice none 0 0, .int .i64 0, .int .i64 0, .string (⟨#[]⟩ : ByteArray)] 29 ?_; intro s hg Ua p hb; replace a := se_ a hg hb; obtain ⟨m, D⟩ := u2_ hb m D; have sa := Ge_.mk ((by rw [hg]; exact (ks_ HK) : w.heap.size ≤ s)); replace HK := kt_ HK hb; have Va := gt_ na sa; obtain ⟨ta, Q, b⟩ := nb_ b hg hb; obtain ⟨ua, T, d⟩ := nb_ d hg hb; have ba := IsS102.nl_ o hg; replace o := IsS102.bk_ o hb; have ca := ns_ ba; clear hb hg; obtain ⟨B, y, za⟩ := Kd.R_slice m.1; subst za; have Wa := n2_ Q; have Xa := n2_ T; have Ya := n2_ ca; obtain ⟨Za, ab, bb, cb, db, eb, fb, gb⟩ := bc4_ p.1) | (((with_reducible refine gate_callee (f := 60) rfl ?_); refine gl_ (some 21) Tryz.func60 #[.slice B r.length y] ?_; (with_reducible refine (spec_Finger.calls k1 _ _ r M _ ?side1 ?side2 Ta.1).mono ?_); (case side1 => refine (Kd.R_reads' (e := 99) (base := w.heap.size) (ok := fun k_ => True) (n := r.length) (c := y) ?_).2.2; exact (ry_ m.1 p.1)); (case side2 => exact (Kd.R_reads' m.1).2.1); rintro e C ⟨rfl, hb⟩; refine ⟨_, rfl, ?_⟩; replace a := M_ (Kd.S_below (sf_ s a.1 (fun _ hk => hk.2)) hb); replace m := M_ (Kd.R_below (ry_ m.1 p.1) hb); obtain ⟨b, d⟩ := u2_ hb b d; replace o := M_ (IsS102.below (show IsS102 N ((((Ua.setCell ⟨s, 0, none⟩ (.slice B r.length y)).setCell ⟨s, 1, none⟩ (.int .i64 E)).setCell ⟨s, 2, none⟩ (.int .i64 F)).setCell ⟨s, 3, none⟩ (.string G)) g u K L from IsS102.pk_ o.1) hb); replace p := by_ p #[.slice B r.length y, .int .i64 E, .int .i64 F, .string G] hb; replace HK := kt_ HK hb; replace D := st_ D hb; (try clear hb)); refine Aside0.out ?_))
    have H := AHz_.1
    clear AHz_
    replace H := ie_ H; rcases H with ⟨U, H⟩ | ⟨U, H⟩
    ·
     have va : (I == a1) = true := beq_iff_eq.mpr U
     have wa : (I != a1) = false := bne_eq_false_iff_eq.mpr U
     clear U
     replace H := bi_ H; obtain ⟨⟨ja, ka, da, Aa⟩, ib, H⟩ := H; (try dsimp only at H)
     have H' := M_ H
     clear H
     refine ⟨?_⟩
     go_wp2_with (first | ((with_reducible refine gate_callee (f := 77) rfl ?_); refine gl_ (some 23) Tryz.func77 #[.int .i64 M, .int .i64 a2] ?_; (with_reducible refine (spec_PartOf.calls M a2 I _ ya.1).mono ?_); rintro e w' ⟨rfl, ⟨nd, rfl⟩⟩; refine ⟨_, rfl, ?_⟩; (try (rw [drewN_self C]; generalize hq_ : World.drewN C _ = C; replace m : Aside0 (Kd.R k99 99 C w.heap.size (fun _ => True) (.slice B r.length y) r) := ⟨by rw [← hq_]; exact (rp_ m.1)⟩; replace a : Aside0 (Kd.S k80 80 C w.heap.size (fun k_ => some k_ ≠ (.slice B r.length y : Value).ownBlock ∧ k_ ≠ s) q l) := ⟨by rw [← hq_]; exact (Kd.S_mono (sp_ a.1) (fun _ hk => ⟨hk.1.2, hk.2⟩))⟩; replace b : Aside0 (C.heap[J]? = some (.cells #[.int .i64 0, .int .i64 0, .slice none 0 0] 26 (0, 0))) := ⟨by rw [← hq_]; exact (pb_ b.1)⟩; replace d : Aside0 (C.heap[O]? = some (.cells #[.int .i64 i, .int .i64 j, q] 26 (0, 0))) := ⟨by rw [← hq_]; exact (pb_ d.1)⟩; replace p : Aside0 (C.heap[s]? = some (.cells #[.slice B r.length y, .int .i64 E, .int .i64 F, .string G] 29 (0, 0))) := ⟨by rw [← hq_]; exact (pb_ p.1)⟩; replace o : Aside0 (IsS102 N C g u K L) := ⟨by rw [← hq_]; exact (IsS102.pk_ o.1)⟩; replace HK : Aside0 (KeepBut w C g none) := ⟨by rw [← hq_]; exact (ku_ HK.1)⟩; replace D : Aside0 (Below N.heap.size N C) := ⟨by rw [← hq_]; exact (hs_ D.1)⟩; clear hq_)); have jb := n2_ t; have kb := n2_ z; obtain ⟨lb, mb, nb, ob, pb, qb⟩ := bc3_ d.1; obtain ⟨rb, sb, tb, ub, vb, wb, xb, yb⟩ := bc4_ p.1; obtain ⟨Ba, Ca, Da⟩ := Kd.S_slice a.1; subst Da) | ((with_reducible refine gate_callee (f := 9) rfl ?_); refine gl_ (some 29) Tryz.func9 #[.agg #[.int .i64 i, .int .i64 j, .slice Ba l.length Ca], .agg #[.slice B r.length y, .int .i64 E, .int .i64 F, .string G]] ?_; (with_reducible refine (spec_PutIn.calls k1 i j _ _ l _ _ r E F G ja ka da Aa _ ?_ ?_ ?_ ?_ ib.1).mono ?_); exact cp_ ((Kd.S_reads' a.1).2.2); exact (Kd.S_reads' a.1).2.1; exact cp_ ((Kd.R_reads' m.1).2.2); exact (Kd.R_reads' m.1).2.1; rintro e jc ⟨dc, rfl, P, hb⟩; refine ⟨_, rfl, ?_⟩; have ea := M_ (Kd.S_lower (Kd.S_newB (Kd.S_new' (Kd.S_new' P (Kd.S_lt (sp_ a.1))) (Kd.R_lt (rp_ m.1))) (pb_ p.1)) (ks_ HK)); replace a := M_ (Kd.S_elder' (sp_ a.1) (Kd.S_base P) hb); obtain ⟨m, b, d⟩ := u3_ hb m b d; replace o := IsS102.bk_ o hb; replace p := bk2_ p hb; replace HK := kt_ HK hb; replace D := st_ D hb; (try clear hb P); obtain ⟨zb, Ab, Bb, Cb, Db, Eb⟩ := bc3_ d.1; obtain ⟨Ea, Fa, Ga⟩ := Kd.S_slice ea.1; subst Ga))
     go_roundg k1
     case measure => have := fa.1; omega
     case rel => exact ⟨(wrap64 (A - 1)), (K), (L), (ja), (ka), (da), (.slice Ea da.length Fa), rs_, H', ⟨by have := fa.1; omega⟩, ⟨Kd.S_mono (sy_ ea.1 d.1) (fun _ hk => trivial)⟩, ⟨bq_ b.1⟩, ⟨bp_ d.1⟩, ⟨IsS102.pk_ o.1⟩, ⟨ku_ HK.1⟩, ⟨hs_ D.1⟩⟩
    have va : (I == a1) = false := beq_eq_false_iff_ne.mpr U
    have wa : (I != a1) = true := bne_iff_ne.mpr U
    have H' := M_ H
    clear H
    refine ⟨?_⟩
    go_wp2_with (first | ((with_reducible refine gate_callee (f := 77) rfl ?_); refine gl_ (some 23) Tryz.func77 #[.int .i64 M, .int .i64 a2] ?_; (with_reducible refine (spec_PartOf.calls M a2 I _ ya.1).mono ?_); rintro e w' ⟨rfl, ⟨nd, rfl⟩⟩; refine ⟨_, rfl, ?_⟩))
    go_roundg k1
    case measure => have := fa.1; omega
    case rel => exact ⟨(wrap64 (A - 1)), (K), (L), (i), (j), (l), (q), rs_, H', ⟨by have := fa.1; omega⟩, ⟨Kd.S_mono (sp_ a.1) (fun _ hk => trivial)⟩, ⟨bq_ b.1⟩, ⟨bq_ d.1⟩, ⟨IsS102.pk_ o.1⟩, ⟨ku_ HK.1⟩, ⟨hs_ D.1⟩⟩
   have ra : decide (0 < A) = false := decide_eq_false aa
   clear aa
   simp only [Option.some.injEq, Prod.mk.injEq] at H
   obtain ⟨rfl, rfl, rfl, rfl, rfl⟩ := H
   have Fb := n2_ t
   have Gb := n2_ z
   obtain ⟨Hb, Ib, Jb, Kb, Lb, Mb⟩ := bc3_ d.1
   have Nb := n2_ Y
   obtain ⟨Ob, Pb, Qb, Rb, Sb, Tb⟩ := bc3_ b.1
   obtain ⟨Ha, Ia, Ja⟩ := Kd.S_slice a.1
   subst Ja
   go_wp2
   refine bodyPost_ret (results_cell_row rfl _ _ J 26 #[.int .i64 i, .int .i64 j, .slice Ha l.length Ia] (0, 0) _ rfl (bp_ b.1) Tryz.underlying26 rfl (by kernel_rfl)) rfl ?_
   exact ⟨_, rr_, Kd.S_mono (sy_ a.1 b.1) (fun _ hk => trivial), IsS102.pk_ o.1, hs_ D.1, ku_ HK.1⟩
mutual
def spec_l6Draw.l0 : Nat → Int → List Int → Int → Int → List (S99) → Int → Int → ByteArray → Int → List (S29) → Option (Int × (List (S29)) × Int × Int)
 | 0, _, _, _, _, _, _, _, _, _, _ => none
 | k + 1, m, j, h, i, c, d, e, g, a, b => if m ≥ 0 then ((spec_Finger.f k c).bind fun l => (if l = a then (spec_l6Draw.j1 k m (decide ((b.length : Int) < 4)) j h i c d e g a b) else (spec_l6Draw.j1 k m false j h i c d e g a b))) else (some (a, b, h, i))
def spec_l6Draw.j1 : Nat → Int → Bool → List Int → Int → Int → List (S99) → Int → Int → ByteArray → Int → List (S29) → Option (Int × (List (S29)) × Int × Int)
 | 0, _, _, _, _, _, _, _, _, _, _, _ => none
 | k + 1, p, o, c, g, h, i, j, l, m, d, e => if o = true then ((spec_PutChain.f k d e i j l m).bind fun n => ((spec_l4Draw.f k c g h).bind fun a => (spec_l6Draw.l0 k (wrap64 (p - 1)) c a.2.2.2.2.1 a.2.2.2.2.2 a.1 a.2.1 a.2.2.1 a.2.2.2.1 n.1 n.2.1))) else ((spec_l4Draw.f k c g h).bind fun b => (spec_l6Draw.l0 k (wrap64 (p - 1)) c b.2.2.2.2.1 b.2.2.2.2.2 b.1 b.2.1 b.2.2.1 b.2.2.2.1 d e))
end
def spec_l6Draw.f (k : Nat) (c : List Int) (d : Int) (e : Int) : Option (Int × (List (S29)) × Int × Int) := (spec_l4Draw.f k c d e).bind fun a => ((spec_Finger.f k a.1).bind fun g => ((spec_l1Below.f c a.2.2.2.2.1 a.2.2.2.2.2 30).bind fun b => (spec_l6Draw.l0 k b.1 c b.2.1 b.2.2 a.1 a.2.1 a.2.2.1 a.2.2.2.1 g ([] : List (S29)))))
def spec_l6Draw.T6 : Bool × List (List Nat × List Nat) := (true, [([], []), ([0], [0]), ([1], [1]), ([], []), ([3], [3]), ([2, 4], [2, 4]), ([5, 2], [5]), ([6], [6]), ([7, 6], [6, 7]), ([8, 6], [6, 8]), ([9, 6], [6, 9]), ([6, 10], [6, 10])])
def spec_l6Draw.B6 : List Nat := [0, 1, 3, 0, 8, 31, 63, 127, 255, 511, 1023, 2047]
theorem spec_l6Draw.tab6 : rtab .any (opsOf Tryz.f114 6) = spec_l6Draw.T6 := by kernel_rfl
theorem spec_l6Draw.bits6 : waitsOk spec_l6Draw.T6.2 spec_l6Draw.B6 = true := by kernel_rfl
theorem spec_l6Draw.calls (k : Nat) (g : Nat) (C : List Int) (ia : Int) (ja : Int) (r1 : Int) (r2 : List (S29)) (r3 : Int) (r4 : Int) (W w : World) (hI : IsS102 W w g C ia ja) (hB : Below W.heap.size W w) (h : spec_l6Draw.f k C ia ja = some (r1, r2, r3, r4)) :
  Calls Tryz.prog 114 #[.pointer (some ⟨g, 0, none⟩)] w fun e w' => ∃ v1_ : Value, e = .returned (.agg #[.int .i64 r1, v1_]) ∧ Kd.S k29 29 w' w.heap.size (fun _ => True) v1_ r2 ∧ IsS102 W w' g C r3 r4 ∧ Below W.heap.size W w' ∧ KeepBut w w' g none := by
 have hu80 := Tryz.underlying80
 have hu29 := Tryz.underlying29
 have o := M_ hI
 have HK := M_ (KeepBut.refl w g none)
 have HL := M_ hB.size
 clear hI
 have Xa := M_ hB.size
 have D := M_ hB
 clear hB
 unfold spec_l6Draw.f at h
 have H := h; clear h
 replace H := bi_ H; obtain ⟨⟨L, X, Y, Z, ka, la⟩, A2, H⟩ := H; (try dsimp only at H)
 replace H := bi_ H; obtain ⟨ma, A3, H⟩ := H
 replace H := bi_ H; obtain ⟨⟨za, Aa, Ba⟩, A4, H⟩ := H; (try dsimp only at H)
 have H' := M_ H
 clear H
 go_enter Tryz.func114, Tryz.ntmps114
 go_wp2_with (first | ((with_reducible refine gd_ 2 rfl ?_); refine bV_ 2 #[.int .i64 0, .slice none 0 0] 80 ?_; intro T hg w5 j hb; replace D := st_ D hb; have Ya := Ge_.mk ((by rw [hg]; exact (ks_ HK) : w.heap.size ≤ T)); replace HK := kt_ HK hb; have Ab := gt_ Xa Ya; have na := IsS102.nl_ o hg; replace o := IsS102.bk_ o hb; have oa := ns_ na; clear hb hg) | ((with_reducible refine gate_callee (f := 52) rfl ?_); refine gl_ (some 7) Tryz.func52 #[.pointer (some ⟨g, 0, none⟩)] ?_; (with_reducible refine (spec_l4Draw.calls k g C ia ja L X Y Z ka la W _ ?_ ?_ A2.1).mono ?_); exact IsS102.pk_ o.1; exact hs_ D.1; rintro e w6 ⟨cd, rfl, E, hi, hb, hk⟩; refine ⟨_, rfl, ?_⟩; replace j := kb_ hk j; have v := rl_ E HK; replace HK := kh_ HK hk; replace D := M_ (hb); replace o := M_ (hi); (try clear hb hk hi E)) | ((with_reducible refine gd_ 3 rfl ?_); refine bV_ 3 #[.slice none 0 0, .int .i64 0, .int .i64 0, .string (⟨#[]⟩ : ByteArray)] 29 ?_; intro t hg w7 d hb; obtain ⟨v, D⟩ := u2_ hb v D; have Za := Ge_.mk ((by rw [hg]; exact (ks_ HK) : w.heap.size ≤ t)); replace HK := kt_ HK hb; have Bb := gt_ Xa Za; obtain ⟨ba, F, j⟩ := nb_ j hg hb; have pa := IsS102.nl_ o hg; replace o := IsS102.bk_ o hb; have N := ns_ pa; clear hb hg; obtain ⟨qa, ea, Cb⟩ := Kd.R_slice v.1; subst Cb; have dd := n2_ F; have Db := n2_ N; obtain ⟨Eb, Fb, Gb, Hb, Ib, Jb, Kb, Lb⟩ := bc4_ d.1) | ((with_reducible refine gate_callee (f := 60) rfl ?_); refine gl_ (some 10) Tryz.func60 #[.slice qa L.length ea] ?_; (with_reducible refine (spec_Finger.calls k _ _ L ma _ ?side1 ?side2 A3.1).mono ?_); (case side1 => refine (Kd.R_reads' (e := 99) (base := w.heap.size) (ok := fun k_ => True) (n := L.length) (c := ea) ?_).2.2; exact (ry_ v.1 d.1)); (case side2 => exact (Kd.R_reads' v.1).2.1); rintro e od ⟨rfl, hb⟩; refine ⟨_, rfl, ?_⟩; replace v := M_ (Kd.R_below (ry_ v.1 d.1) hb); replace o := M_ (IsS102.below (show IsS102 W ((((w7.setCell ⟨t, 0, none⟩ (.slice qa L.length ea)).setCell ⟨t, 1, none⟩ (.int .i64 X)).setCell ⟨t, 2, none⟩ (.int .i64 Y)).setCell ⟨t, 3, none⟩ (.string Z)) g C ka la from IsS102.pk_ o.1) hb); replace j := bk2_ j hb; replace d := by_ d #[.slice qa L.length ea, .int .i64 X, .int .i64 Y, .string Z] hb; replace HK := kt_ HK hb; replace D := st_ D hb; (try clear hb)) | ((with_reducible refine gd_ 4 rfl ?_); refine bV_ 4 #[.int .i64 0, .slice none 0 0] 80 ?_; intro G hg pd i hb; obtain ⟨v, D⟩ := u2_ hb v D; have ab := Ge_.mk ((by rw [hg]; exact (ks_ HK) : w.heap.size ≤ G)); replace HK := kt_ HK hb; have Mb := gt_ Xa ab; obtain ⟨bb, I, j⟩ := nb_ j hg hb; obtain ⟨ca, J, d⟩ := nb_ d hg hb; have ra := IsS102.nl_ o hg; replace o := IsS102.bk_ o hb; have O := ns_ ra; clear hb hg; have Nb := n2_ I; have Ob := n2_ J; have Pb := n2_ O; obtain ⟨Qb, Rb, Sb, Tb⟩ := bc2_ i.1) | ((with_reducible refine gate_callee (f := 69) rfl ?_); refine gl_ (some 13) Tryz.func69 #[.pointer (some ⟨g, 0, none⟩), .int .i64 30] ?_; (with_reducible refine (spec_l1Below.calls g C ka la 30 za Aa Ba W _ ?_ ?_ A4.1).mono ?_); exact IsS102.pk_ o.1; exact hs_ D.1; rintro e qd ⟨rfl, hi, hb, hk⟩; refine ⟨_, rfl, ?_⟩; replace j := kc_ hk j #[.int .i64 0, .slice none 0 0]; replace v := M_ (Kd.R_mono (Kd.R_keep (IsS102.apart (IsS102.pk_ o.1) (ry_ v.1 i.1) (by decide)) hk (fun _ h => h.2)) (fun _ h => h.1)); replace d := kc_ hk d #[.slice qa L.length ea, .int .i64 X, .int .i64 Y, .string Z]; replace i := kc_ hk i #[.int .i64 ma, .slice none 0 0]; replace HK := kh_ HK hk; replace D := M_ (hb); replace o := M_ (hi); (try clear hb hk hi)))
 go_loopg [5] k (fun kq v5 w' => ∃ (M : Int) (x : Int) (y : Int) (m : List (S99)) (p : Int) (q : Int) (r : ByteArray) (l : Int) (s : List (S29)) (z : Value) (u : Value), v5 = .int .i64 M ∧ Aside0 (spec_l6Draw.l0 kq M C x y m p q r l s = some (r1, r2, r3, r4)) ∧ Aside0 (kq ≤ k) ∧ Aside0 (Kd.R k99 99 w' w.heap.size (fun _ => True) z m) ∧ Aside0 (Kd.S k29 29 w' w.heap.size (fun k_ => some k_ ≠ (z : Value).ownBlock ∧ k_ ≠ t) u s) ∧ Aside0 (w'.heap[T]? = some (.cells #[.int .i64 0, (.slice none 0 0)] 80 (0, 0))) ∧ Aside0 (w'.heap[t]? = some (.cells #[z, .int .i64 p, .int .i64 q, .string r] 29 (0, 0))) ∧ Aside0 (w'.heap[G]? = some (.cells #[.int .i64 l, u] 80 (0, 0))) ∧ Aside0 (IsS102 W w' g C x y) ∧ Aside0 (KeepBut w w' g none) ∧ Aside0 (Below W.heap.size W w'))
 case atStart => exact ⟨(za), (Aa), (Ba), (L), (X), (Y), (Z), (ma), (([] : List (S29))), (.slice qa L.length ea), (.slice none 0 0), rs_, H', ⟨Nat.le_refl _⟩, ⟨rp_ v.1⟩, ⟨ni_⟩, ⟨bq_ j.1⟩, ⟨bq_ d.1⟩, ⟨bq_ i.1⟩, ⟨IsS102.pk_ o.1⟩, ⟨ku_ HK.1⟩, ⟨hs_ D.1⟩⟩
 case round =>
  clear H'
  obtain ⟨M, x, y, m, p, q, r, l, s, z, u, rfl, HA, fa, a, b, j, d, i, o, HK, D⟩ := hrel
  cases gk with
  | zero => exact absurd HA.1 (by simp [spec_l6Draw.l0])
  | succ k1 =>
   have H := HA.1
   clear HA
   simp only [spec_l6Draw.l0] at H
   replace H := ie_ H; rcases H with ⟨sa, H⟩ | ⟨sa, H⟩
   ·
    have db : decide (0 ≤ M) = true := decide_eq_true sa
    clear sa
    have ta := M_ H
    clear H
    go_upto_region 6 with (fail)
    go_cut [29] (fun Vb wc => ∃ (kq : Nat) (U : Bool), Vb = .bool U ∧ Aside0 (spec_l6Draw.j1 kq M U C x y m p q r l s = some (r1, r2, r3, r4)) ∧ Aside0 (kq ≤ k1) ∧ Aside0 (Kd.R k99 99 wc w.heap.size (fun _ => True) z m) ∧ Aside0 (Kd.S k29 29 wc w.heap.size (fun k_ => some k_ ≠ (z : Value).ownBlock ∧ k_ ≠ t) u s) ∧ Aside0 (wc.heap[T]? = some (.cells #[.int .i64 0, (.slice none 0 0)] 80 (0, 0))) ∧ Aside0 (wc.heap[t]? = some (.cells #[z, .int .i64 p, .int .i64 q, .string r] 29 (0, 0))) ∧ Aside0 (wc.heap[G]? = some (.cells #[.int .i64 l, u] 80 (0, 0))) ∧ Aside0 (IsS102 W wc g C x y) ∧ Aside0 (KeepBut w wc g none) ∧ Aside0 (Below W.heap.size W wc))
    case first =>
     have H := ta.1
     clear ta
     replace H := bi_ H; obtain ⟨Q, fb, H⟩ := H
     replace H := ie_ H; rcases H with ⟨ga, H⟩ | ⟨ga, H⟩
     ·
      have P : (Q == l) = true := beq_iff_eq.mpr ga
      have eb : (Q != l) = false := bne_eq_false_iff_eq.mpr ga
      clear ga
      (first | rw [P] | (simp only [i64_w, i32_w]; rw [P]) | skip)
      have H' := M_ H
      clear H
      try go_wp2
      obtain ⟨a, b, j, d, i⟩ := y5_ a b j d i
      replace o := M_ (IsS102.drew o.1)
      replace HK := M_ (keep_drew HK.1)
      replace D := db_ D
      obtain ⟨Ca, Da, Ea⟩ := Kd.R_slice a.1
      (first | subst Ea | (obtain ⟨rfl, rfl⟩ := si_ Ea))
      refine start_ (n := 12) (S := fun w' => c_ w' t 0 (.slice Ca m.length Da) ∧ c_ w' t 1 (.int .i64 p) ∧ c_ w' t 2 (.int .i64 q) ∧ c_ w' t 3 (.string r) ∧ c_ w' G 0 (.int .i64 l) ∧ c_ w' G 1 (u)) (ds := []) (b_ 0 12) (by kernel_rfl) rfl rfl (f4_ d.1 (e2_ i.1)) (fun A => ?_); refine with_tabW spec_l6Draw.tab6 spec_l6Draw.bits6 (fun B ha => ?_)
      generalize wr.drew = sd at a b j d i o HK D A ⊢
      refine p_ B ?_
      refine qw_ 3 (m_ 12 9) B ?_
      refine qt_ 1 (m_ 12 11) B ha A ?_
      refine qt_ 4 (m_ 12 27) B ha A ?_
      refine o1_ 2 (b_ 5 7) B (fun K hK => ?_)
      refine gs_ Tryz.func60 #[.slice Ca m.length Da] ?_
      with_reducible refine (spec_Finger.calls k1 _ _ m Q _ ?_ ?_ fb.1).mono ?_
      exact cp_ ((Kd.R_reads' a.1).2.2)
      exact (Kd.R_reads' a.1).2.1
      rintro e td ⟨rfl, hb⟩
      refine ⟨_, rfl, ?_⟩
      obtain ⟨a, b, j, d, i⟩ := u5_ hb a b j d i
      replace o := IsS102.bk_ o hb
      replace HK := kt_ HK hb
      replace D := st_ D hb
      (try clear hb)
      obtain ⟨ed, fd, Fa⟩ := Kd.S_slice b.1
      (first | subst Fa | (obtain ⟨rfl, rfl⟩ := si_ Fa))
      refine ho_ hK (f4_ d.1 (e2_ i.1)) (fun A => ?_)
      iterate 3 refine p_ B ?_
      refine t0_ B ha A ?_
      iterate 3 refine p_ B ?_
      refine done_ (done_of B.1 (by kernel_rfl)) ?_
      try go_wp2
      go_meet
      case rel => exact ⟨_, (decide ((s.length : Int) < 4)), rs_, H', ⟨by have := fa.1; first | omega | exact Nat.le_refl _⟩, ⟨rp_ a.1⟩, ⟨sp_ b.1⟩, ⟨bq_ j.1⟩, ⟨bq_ d.1⟩, ⟨bq_ i.1⟩, ⟨IsS102.pk_ o.1⟩, ⟨ku_ HK.1⟩, ⟨hs_ D.1⟩⟩
     have P : (Q == l) = false := beq_eq_false_iff_ne.mpr ga
     have eb : (Q != l) = true := bne_iff_ne.mpr ga
     (first | rw [P] | (simp only [i64_w, i32_w]; rw [P]) | skip)
     have H' := M_ H
     clear H
     try go_wp2
     obtain ⟨a, b, j, d, i⟩ := y5_ a b j d i
     replace o := M_ (IsS102.drew o.1)
     replace HK := M_ (keep_drew HK.1)
     replace D := db_ D
     obtain ⟨Ga, Ha, Ia⟩ := Kd.R_slice a.1
     (first | subst Ia | (obtain ⟨rfl, rfl⟩ := si_ Ia))
     refine start_ (n := 12) (S := fun w' => c_ w' t 0 (.slice Ga m.length Ha) ∧ c_ w' t 1 (.int .i64 p) ∧ c_ w' t 2 (.int .i64 q) ∧ c_ w' t 3 (.string r) ∧ c_ w' G 0 (.int .i64 l) ∧ c_ w' G 1 (u)) (ds := []) (b_ 0 12) (by kernel_rfl) rfl rfl (f4_ d.1 (e2_ i.1)) (fun A => ?_); refine with_tabW spec_l6Draw.tab6 spec_l6Draw.bits6 (fun B ha => ?_)
     generalize wr.drew = ud at a b j d i o HK D A ⊢
     refine p_ B ?_
     refine qw_ 3 (m_ 12 9) B ?_
     refine qt_ 1 (m_ 12 11) B ha A ?_
     refine qt_ 4 (m_ 12 27) B ha A ?_
     refine o1_ 2 (b_ 5 7) B (fun K hK => ?_)
     refine gs_ Tryz.func60 #[.slice Ga m.length Ha] ?_
     with_reducible refine (spec_Finger.calls k1 _ _ m Q _ ?_ ?_ fb.1).mono ?_
     exact cp_ ((Kd.R_reads' a.1).2.2)
     exact (Kd.R_reads' a.1).2.1
     rintro e vd ⟨rfl, hb⟩
     refine ⟨_, rfl, ?_⟩
     obtain ⟨a, b, j, d, i⟩ := u5_ hb a b j d i
     replace o := IsS102.bk_ o hb
     replace HK := kt_ HK hb
     replace D := st_ D hb
     (try clear hb)
     refine ho_ hK (f4_ d.1 (e2_ i.1)) (fun A => ?_)
     iterate 2 refine p_ B ?_
     iterate 4 refine v_ B ?_
     refine p_ B ?_
     refine done_ (done_of B.1 (by kernel_rfl)) ?_
     try go_wp2
     go_meet
     case rel => exact ⟨_, (false), rs_, H', ⟨by have := fa.1; first | omega | exact Nat.le_refl _⟩, ⟨rp_ a.1⟩, ⟨sp_ b.1⟩, ⟨bq_ j.1⟩, ⟨bq_ d.1⟩, ⟨bq_ i.1⟩, ⟨IsS102.pk_ o.1⟩, ⟨ku_ HK.1⟩, ⟨hs_ D.1⟩⟩
    case rest =>
     clear ta
     obtain ⟨kq, U, rfl, HA, HJ19, a, b, j, d, i, o, HK, D⟩ := hcut
     cases kq with
     | zero => exact absurd HA.1 (by simp [spec_l6Draw.j1])
     | succ aa =>
      have H := HA.1
      clear HA
      simp only [spec_l6Draw.j1] at H
      replace H := ib_ H; rcases H with ⟨rfl, H⟩ | ⟨rfl, H⟩
      ·
       replace H := bi_ H; obtain ⟨⟨ua, da, gb⟩, Xb, H⟩ := H; (try dsimp only at H)
       replace H := bi_ H; obtain ⟨⟨va, Ja, Ka, La, Ma, Na⟩, Yb, H⟩ := H; (try dsimp only at H)
       have H' := M_ H
       clear H
       have Zb := n2_ I
       have ac := n2_ J
       have bc := n2_ O
       obtain ⟨cc, dc, ec, fc⟩ := bc2_ i.1
       have gc := n2_ F
       have hc := n2_ N
       obtain ⟨ic, jc, kc, lc, mc, nc, oc, pc⟩ := bc4_ d.1
       obtain ⟨ib, jb, kb⟩ := Kd.S_slice b.1
       subst kb
       obtain ⟨Oa, Pa, lb⟩ := Kd.R_slice a.1
       subst lb
       go_wp2_with (first | ((with_reducible refine gate_callee (f := 62) rfl ?_); refine gl_ (some 33) Tryz.func62 #[.agg #[.int .i64 l, .slice ib s.length jb], .agg #[.slice Oa m.length Pa, .int .i64 p, .int .i64 q, .string r]] ?_; (with_reducible refine (spec_PutChain.calls aa l _ _ s _ _ m p q r ua da gb _ ?_ ?_ ?_ ?_ Xb.1).mono ?_); exact cp_ ((Kd.S_reads' b.1).2.2); exact (Kd.S_reads' b.1).2.1; exact cp_ ((Kd.R_reads' a.1).2.2); exact (Kd.R_reads' a.1).2.1; rintro e wd ⟨gd, rfl, E, hb⟩; refine ⟨_, rfl, ?_⟩; have V := M_ (Kd.S_lower (Kd.S_newB (Kd.S_new' (Kd.S_new' E (Kd.R_lt (rp_ a.1))) (Kd.S_lt (sp_ b.1))) (pb_ d.1)) (ks_ HK)); replace a := rb_ a hb; replace b := M_ (Kd.S_elder' (sp_ b.1) (Kd.S_base E) hb); obtain ⟨j, d, i⟩ := u3_ hb j d i; replace o := IsS102.bk_ o hb; replace HK := kt_ HK hb; replace D := st_ D hb; (try clear hb E); obtain ⟨qc, rc, sc, tc⟩ := bc2_ i.1; obtain ⟨Qa, Ra, mb⟩ := Kd.S_slice V.1; subst mb) | ((with_reducible refine gate_callee (f := 52) rfl ?_); refine gl_ (some 37) Tryz.func52 #[.pointer (some ⟨g, 0, none⟩)] ?_; (with_reducible refine (spec_l4Draw.calls aa g C x y va Ja Ka La Ma Na W _ ?_ ?_ Yb.1).mono ?_); exact IsS102.pk_ o.1; exact hs_ D.1; rintro e xd ⟨hd, rfl, E, hi, hb, hk⟩; refine ⟨_, rfl, ?_⟩; replace b := M_ (Kd.S_mono (Kd.S_told (Kd.S_oldK (IsS102.apartS (IsS102.pk_ o.1) (sy_ b.1 i.1) (by decide)) hk) (Kd.R_base E)) (fun _ h_ => h_.1)); replace j := kc_ hk j #[.int .i64 0, .slice none 0 0]; replace d := kc_ hk d #[.slice Oa m.length Pa, .int .i64 p, .int .i64 q, .string r]; replace V := M_ (Kd.S_mono (Kd.S_told (Kd.S_oldK (IsS102.apartS (IsS102.pk_ o.1) (sy_ V.1 i.1) (by decide)) hk) (Kd.R_base E)) (fun _ h_ => h_.1)); have wa := M_ (Kd.R_lower (Kd.R_new' E (Kd.R_lt (ry_ a.1 i.1))) (ks_ HK)); replace a := M_ (Kd.R_mono (Kd.R_told (Kd.R_oldK (IsS102.apart (IsS102.pk_ o.1) (ry_ a.1 i.1) (by decide)) hk) (Kd.R_base E)) (fun _ h_ => h_.1)); replace i := kc_ hk i #[.int .i64 ua, .slice Qa da.length Ra]; replace HK := kh_ HK hk; replace D := M_ (hb); replace o := M_ (hi); (try clear hb hk hi E); obtain ⟨nb, ob, pb⟩ := Kd.R_slice wa.1; subst pb; obtain ⟨uc, vc, xc, yc, zc, Ac, Bc, Cc⟩ := bc4_ d.1))
       go_roundg aa
       case measure => have := fa.1; have := HJ19.1; omega
       case rel => exact ⟨(wrap64 (M - 1)), (Ma), (Na), (va), (Ja), (Ka), (La), (ua), (da), (.slice nb va.length ob), (.slice Qa da.length Ra), rs_, H', ⟨by have := fa.1; have := HJ19.1; omega⟩, ⟨Kd.R_mono (ry_ wa.1 d.1) (fun _ hk => trivial)⟩, ⟨Kd.S_mono (sf_ t V.1 (fun _ hk => hk.1.2)) (fun _ hk => ⟨hk.2, hk.1.2⟩)⟩, ⟨bq_ j.1⟩, ⟨bp_ d.1⟩, ⟨bq_ i.1⟩, ⟨IsS102.pk_ o.1⟩, ⟨ku_ HK.1⟩, ⟨hs_ D.1⟩⟩
      replace H := bi_ H; obtain ⟨⟨xa, Sa, Ta, Ua, Va, Wa⟩, Dc, H⟩ := H; (try dsimp only at H)
      have H' := M_ H
      clear H
      go_wp2_with (first | ((with_reducible refine gate_callee (f := 52) rfl ?_); refine gl_ (some 37) Tryz.func52 #[.pointer (some ⟨g, 0, none⟩)] ?_; (with_reducible refine (spec_l4Draw.calls aa g C x y xa Sa Ta Ua Va Wa W _ ?_ ?_ Dc.1).mono ?_); exact IsS102.pk_ o.1; exact hs_ D.1; rintro e yd ⟨jd, rfl, E, hi, hb, hk⟩; refine ⟨_, rfl, ?_⟩; replace b := M_ (Kd.S_mono (Kd.S_told (Kd.S_oldK (IsS102.apartS (IsS102.pk_ o.1) (sp_ b.1) (by decide)) hk) (Kd.R_base E)) (fun _ h_ => h_.1)); replace j := kb_ hk j; replace d := kb_ hk d; replace i := kb_ hk i; have ya := M_ (Kd.R_lower (Kd.R_new' E (Kd.R_lt (rp_ a.1))) (ks_ HK)); replace a := M_ (Kd.R_mono (Kd.R_told (Kd.R_oldK (IsS102.apart (IsS102.pk_ o.1) (rp_ a.1) (by decide)) hk) (Kd.R_base E)) (fun _ h_ => h_.1)); replace HK := kh_ HK hk; replace D := M_ (hb); replace o := M_ (hi); (try clear hb hk hi E); obtain ⟨qb, rb, sb⟩ := Kd.R_slice ya.1; subst sb; have Ec := n2_ F; have Fc := n2_ ca; have Gc := n2_ N; obtain ⟨Hc, Ic, Jc, Kc, Lc, Mc, Nc, Oc⟩ := bc4_ d.1))
      go_roundg aa
      case measure => have := fa.1; have := HJ19.1; omega
      case rel => exact ⟨(wrap64 (M - 1)), (Va), (Wa), (xa), (Sa), (Ta), (Ua), (l), (s), (.slice qb xa.length rb), (u), rs_, H', ⟨by have := fa.1; have := HJ19.1; omega⟩, ⟨Kd.R_mono (ry_ ya.1 d.1) (fun _ hk => trivial)⟩, ⟨Kd.S_mono (sf_ t b.1 (fun _ hk => hk.1.2)) (fun _ hk => ⟨hk.2, hk.1.2⟩)⟩, ⟨bq_ j.1⟩, ⟨bp_ d.1⟩, ⟨bq_ i.1⟩, ⟨IsS102.pk_ o.1⟩, ⟨ku_ HK.1⟩, ⟨hs_ D.1⟩⟩
   have db : decide (0 ≤ M) = false := decide_eq_false sa
   clear sa
   simp only [Option.some.injEq, Prod.mk.injEq] at H
   obtain ⟨rfl, rfl, rfl, rfl⟩ := H
   have Pc := n2_ I
   have Qc := n2_ J
   have Rc := n2_ O
   obtain ⟨Sc, Tc, Uc, Vc⟩ := bc2_ i.1
   have Wc := n2_ ba
   have Xc := n2_ oa
   obtain ⟨Yc, Zc, ad, bd⟩ := bc2_ j.1
   obtain ⟨tb, ub, vb⟩ := Kd.S_slice b.1
   subst vb
   go_wp2
   refine bodyPost_ret (results_cell_row rfl _ _ T 80 #[.int .i64 l, .slice tb s.length ub] (0, 0) _ rfl (bp_ j.1) Tryz.underlying80 rfl (by kernel_rfl)) rfl ?_
   exact ⟨_, rr_, Kd.S_mono (sy_ b.1 j.1) (fun _ hk => trivial), IsS102.pk_ o.1, hs_ D.1, ku_ HK.1⟩
def spec_l1AnyPlain.f (d : List Int) (e : Int) (g : Int) : Option (ByteArray × Int × Int) := (spec_l1Once.f d e g 2).bind fun a => (if a.1 = true then ((spec_l1Plain.f d a.2.1 a.2.2).bind fun b => (some (b.1, b.2.1, b.2.2))) else ((spec_l1Str.f d a.2.1 a.2.2 (([(⟨#[34]⟩ : ByteArray), (⟨#[92]⟩ : ByteArray), (⟨#[127]⟩ : ByteArray), (⟨#[31]⟩ : ByteArray), (⟨#[116, 119, 101, 108, 118, 101, 32, 98, 121, 116, 101, 115]⟩ : ByteArray), (⟨#[116, 104, 105, 114, 116, 101, 101, 110, 98, 121, 116, 101, 115]⟩ : ByteArray), (⟨#[126]⟩ : ByteArray), (⟨#[125]⟩ : ByteArray), (⟨#[44, 32, 98, 61]⟩ : ByteArray), (⟨#[125, 32, 49, 45, 50]⟩ : ByteArray)] : List ByteArray))).bind fun c => (some (c.1, c.2.1, c.2.2))))
theorem spec_l1AnyPlain.calls (g : Nat) (c : List Int) (l : Int) (m : Int) (E : ByteArray) (F : Int) (G : Int) (q w : World) (hI : IsS102 q w g c l m) (hB : Below q.heap.size q w) (h : spec_l1AnyPlain.f c l m = some (E, F, G)) :
  Calls Tryz.prog 131 #[.pointer (some ⟨g, 0, none⟩)] w fun e w' => e = .returned (.string E) ∧ IsS102 q w' g c F G ∧ Below q.heap.size q w' ∧ KeepBut w w' g none := by
 have a := M_ hI
 have HK := M_ (KeepBut.refl w g none)
 have HL := M_ hB.size
 clear hI
 have J := M_ hB.size
 have n := M_ hB
 clear hB
 unfold spec_l1AnyPlain.f at h
 have H := h; clear h
 replace H := bi_ H; obtain ⟨⟨r, j, k⟩, K, H⟩ := H; (try dsimp only at H)
 have AHz_ := M_ H
 clear H
 go_enter Tryz.func131, Tryz.ntmps131
 go_wp2_with (first | (((with_reducible refine gate_callee (f := 70) rfl ?_); refine gl_ (some 4) Tryz.func70 #[.pointer (some ⟨g, 0, none⟩), .int .i64 2] ?_; (with_reducible refine (spec_l1Once.calls g c l m 2 r j k q _ ?_ ?_ K.1).mono ?_); exact IsS102.pk_ a.1; exact hs_ n.1; rintro e Q ⟨rfl, hi, hb, hk⟩; refine ⟨_, rfl, ?_⟩; replace HK := kh_ HK hk; replace n := M_ (hb); replace a := M_ (hi); (try clear hb hk hi)); refine Aside0.out ?_))
 have H := AHz_.1
 clear AHz_
 replace H := ib_ H; rcases H with ⟨rfl, H⟩ | ⟨rfl, H⟩
 ·
  replace H := bi_ H; obtain ⟨⟨s, t, u⟩, L, H⟩ := H; (try dsimp only at H)
  simp only [Option.some.injEq, Prod.mk.injEq] at H
  obtain ⟨rfl, rfl, rfl⟩ := H
  refine ⟨?_⟩
  go_wp2_with (first | ((with_reducible refine gate_callee (f := 93) rfl ?_); refine gl_ (some 6) Tryz.func93 #[.pointer (some ⟨g, 0, none⟩)] ?_; (with_reducible refine (spec_l1Plain.calls g c j k s t u q _ ?_ ?_ L.1).mono ?_); exact IsS102.pk_ a.1; exact hs_ n.1; rintro e R ⟨rfl, hi, hb, hk⟩; refine ⟨_, rfl, ?_⟩; replace HK := kh_ HK hk; replace n := M_ (hb); replace a := M_ (hi); (try clear hb hk hi)))
  go_ret
  exact an_ ⟨IsS102.pk_ a.1, hs_ n.1, ku_ HK.1⟩
 obtain ⟨o, hy_⟩ : ∃ y_ : List ByteArray, y_ = (([(⟨#[34]⟩ : ByteArray), (⟨#[92]⟩ : ByteArray), (⟨#[127]⟩ : ByteArray), (⟨#[31]⟩ : ByteArray), (⟨#[116, 119, 101, 108, 118, 101, 32, 98, 121, 116, 101, 115]⟩ : ByteArray), (⟨#[116, 104, 105, 114, 116, 101, 101, 110, 98, 121, 116, 101, 115]⟩ : ByteArray), (⟨#[126]⟩ : ByteArray), (⟨#[125]⟩ : ByteArray), (⟨#[44, 32, 98, 61]⟩ : ByteArray), (⟨#[125, 32, 49, 45, 50]⟩ : ByteArray)] : List ByteArray)) := ⟨_, rfl⟩
 replace H : ((spec_l1Str.f c j k o).bind fun i => (some (i.1, i.2.1, i.2.2))) = some (E, F, G) := hm_
 have p := M_ hy_; clear hy_
 replace H := bi_ H; obtain ⟨⟨v, x, y⟩, O, H⟩ := H; (try dsimp only at H)
 simp only [Option.some.injEq, Prod.mk.injEq] at H
 obtain ⟨rfl, rfl, rfl⟩ := H
 refine ⟨?_⟩
 go_wp2_with (first | ((with_reducible refine gd_ 8 rfl ?_); refine Kd.R_lit Kd.string _ 9 ?hg (N := 8) ?hd (xs := ([(⟨#[34]⟩ : ByteArray), (⟨#[92]⟩ : ByteArray), (⟨#[127]⟩ : ByteArray), (⟨#[31]⟩ : ByteArray), (⟨#[116, 119, 101, 108, 118, 101, 32, 98, 121, 116, 101, 115]⟩ : ByteArray), (⟨#[116, 104, 105, 114, 116, 101, 101, 110, 98, 121, 116, 101, 115]⟩ : ByteArray), (⟨#[126]⟩ : ByteArray), (⟨#[125]⟩ : ByteArray), (⟨#[44, 32, 98, 61]⟩ : ByteArray), (⟨#[125, 32, 49, 45, 50]⟩ : ByteArray)] : List ByteArray)) (inner := [.string (⟨#[34]⟩ : ByteArray), .string (⟨#[92]⟩ : ByteArray), .string (⟨#[127]⟩ : ByteArray), .string (⟨#[31]⟩ : ByteArray), .string (⟨#[116, 119, 101, 108, 118, 101, 32, 98, 121, 116, 101, 115]⟩ : ByteArray), .string (⟨#[116, 104, 105, 114, 116, 101, 101, 110, 98, 121, 116, 101, 115]⟩ : ByteArray), .string (⟨#[126]⟩ : ByteArray), .string (⟨#[125]⟩ : ByteArray), .string (⟨#[44, 32, 98, 61]⟩ : ByteArray), .string (⟨#[125, 32, 49, 45, 50]⟩ : ByteArray)]) (ok := fun _ => True) (okp := fun _ => True) ?hr ?hp (fun _ hk => hk) trivial (Below.refl _ _) (Nat.le_refl _) (by simp) ?_; (case hd => rfl); (case hg => rfl); (case hr => first | (go_simp; done) | (go_simp; rfl)); (case hp => exact (Reps.one (show Kd.M Kd.string _ _ _ (⟨#[34]⟩ : ByteArray) [.string (⟨#[34]⟩ : ByteArray)] from rfl) (Reps.one (show Kd.M Kd.string _ _ _ (⟨#[92]⟩ : ByteArray) [.string (⟨#[92]⟩ : ByteArray)] from rfl) (Reps.one (show Kd.M Kd.string _ _ _ (⟨#[127]⟩ : ByteArray) [.string (⟨#[127]⟩ : ByteArray)] from rfl) (Reps.one (show Kd.M Kd.string _ _ _ (⟨#[31]⟩ : ByteArray) [.string (⟨#[31]⟩ : ByteArray)] from rfl) (Reps.one (show Kd.M Kd.string _ _ _ (⟨#[116, 119, 101, 108, 118, 101, 32, 98, 121, 116, 101, 115]⟩ : ByteArray) [.string (⟨#[116, 119, 101, 108, 118, 101, 32, 98, 121, 116, 101, 115]⟩ : ByteArray)] from rfl) (Reps.one (show Kd.M Kd.string _ _ _ (⟨#[116, 104, 105, 114, 116, 101, 101, 110, 98, 121, 116, 101, 115]⟩ : ByteArray) [.string (⟨#[116, 104, 105, 114, 116, 101, 101, 110, 98, 121, 116, 101, 115]⟩ : ByteArray)] from rfl) (Reps.one (show Kd.M Kd.string _ _ _ (⟨#[126]⟩ : ByteArray) [.string (⟨#[126]⟩ : ByteArray)] from rfl) (Reps.one (show Kd.M Kd.string _ _ _ (⟨#[125]⟩ : ByteArray) [.string (⟨#[125]⟩ : ByteArray)] from rfl) (Reps.one (show Kd.M Kd.string _ _ _ (⟨#[44, 32, 98, 61]⟩ : ByteArray) [.string (⟨#[44, 32, 98, 61]⟩ : ByteArray)] from rfl) (Reps.one (show Kd.M Kd.string _ _ _ (⟨#[125, 32, 49, 45, 50]⟩ : ByteArray) [.string (⟨#[125, 32, 49, 45, 50]⟩ : ByteArray)] from rfl) (Reps.none _ _)))))))))))); intro I S d hb hg_ hnew_; clear hg_ hnew_; (first | rw [← p.1] at d | (simp only [Int.reduceToNat] at d; rw [← p.1] at d)); have b := rl_ d HK; have z := IsS102.bk_ a hb; have n2_ := kt_ HK hb; have A := st_ n hb; clear a HK n; have a := z; have HK := n2_; have n := A; clear z n2_ A; clear hb d; obtain ⟨B, C, D⟩ := Kd.R_slice b.1; subst D) | ((with_reducible refine gate_callee (f := 112) rfl ?_); refine gl_ (some 9) Tryz.func112 #[.pointer (some ⟨g, 0, none⟩), .slice B o.length C] ?_; (with_reducible refine (spec_l1Str.calls g c j k _ _ o v x y q _ ?_ ?_ ?_ ?_ ?_ O.1).mono ?_); exact IsS102.pk_ a.1; exact hs_ n.1; exact cp_ ((Kd.R_reads' b.1).2.2); exact (Kd.R_reads' b.1).2.1; exact far_slice (IsS102.own_ne a.1 b.1 (by decide)); rintro e P ⟨rfl, hi, hb, hk⟩; refine ⟨_, rfl, ?_⟩; replace b := IsS102.rk_ a b hk; replace HK := kh_ HK hk; replace n := M_ (hb); replace a := M_ (hi); (try clear hb hk hi)))
 go_ret
 exact an_ ⟨IsS102.pk_ a.1, hs_ n.1, ku_ HK.1⟩
def spec_l1Names.f (b : List Int) (c : Int) (d : Int) : Option (ByteArray × Int × Int) := (spec_l1Str.f b c d (([(⟨#[97, 112, 112]⟩ : ByteArray), (⟨#[104, 111, 115, 116]⟩ : ByteArray), (⟨#[115, 101, 118]⟩ : ByteArray), (⟨#[122, 111, 110, 101]⟩ : ByteArray)] : List ByteArray))).bind fun a => (some (a.1, a.2.1, a.2.2))
theorem spec_l1Names.calls (g : Nat) (b : List Int) (i : Int) (j : Int) (u : ByteArray) (v : Int) (x : Int) (n w : World) (hI : IsS102 n w g b i j) (hB : Below n.heap.size n w) (h : spec_l1Names.f b i j = some (u, v, x)) :
  Calls Tryz.prog 155 #[.pointer (some ⟨g, 0, none⟩)] w fun e w' => e = .returned (.string u) ∧ IsS102 n w' g b v x ∧ Below n.heap.size n w' ∧ KeepBut w w' g none := by
 have c := M_ hI
 have HK := M_ (KeepBut.refl w g none)
 have HL := M_ hB.size
 clear hI
 have C := M_ hB.size
 have o := M_ hB
 clear hB
 unfold spec_l1Names.f at h
 have H := h; clear h
 obtain ⟨k, hy_⟩ : ∃ y_ : List ByteArray, y_ = (([(⟨#[97, 112, 112]⟩ : ByteArray), (⟨#[104, 111, 115, 116]⟩ : ByteArray), (⟨#[115, 101, 118]⟩ : ByteArray), (⟨#[122, 111, 110, 101]⟩ : ByteArray)] : List ByteArray)) := ⟨_, rfl⟩
 replace H : ((spec_l1Str.f b i j k).bind fun d => (some (d.1, d.2.1, d.2.2))) = some (u, v, x) := hm_
 have l := M_ hy_; clear hy_
 replace H := bi_ H; obtain ⟨⟨p, q, r⟩, D, H⟩ := H; (try dsimp only at H)
 simp only [Option.some.injEq, Prod.mk.injEq] at H
 obtain ⟨rfl, rfl, rfl⟩ := H
 go_enter Tryz.func155, Tryz.ntmps155
 go_wp2_with (first | ((with_reducible refine gd_ 4 rfl ?_); refine Kd.R_lit Kd.string _ 9 ?hg (N := 4) ?hd (xs := ([(⟨#[97, 112, 112]⟩ : ByteArray), (⟨#[104, 111, 115, 116]⟩ : ByteArray), (⟨#[115, 101, 118]⟩ : ByteArray), (⟨#[122, 111, 110, 101]⟩ : ByteArray)] : List ByteArray)) (inner := [.string (⟨#[97, 112, 112]⟩ : ByteArray), .string (⟨#[104, 111, 115, 116]⟩ : ByteArray), .string (⟨#[115, 101, 118]⟩ : ByteArray), .string (⟨#[122, 111, 110, 101]⟩ : ByteArray)]) (ok := fun _ => True) (okp := fun _ => True) ?hr ?hp (fun _ hk => hk) trivial (Below.refl _ _) (Nat.le_refl _) (by simp) ?_; (case hd => rfl); (case hg => rfl); (case hr => first | (go_simp; done) | (go_simp; rfl)); (case hp => exact (Reps.one (show Kd.M Kd.string _ _ _ (⟨#[97, 112, 112]⟩ : ByteArray) [.string (⟨#[97, 112, 112]⟩ : ByteArray)] from rfl) (Reps.one (show Kd.M Kd.string _ _ _ (⟨#[104, 111, 115, 116]⟩ : ByteArray) [.string (⟨#[104, 111, 115, 116]⟩ : ByteArray)] from rfl) (Reps.one (show Kd.M Kd.string _ _ _ (⟨#[115, 101, 118]⟩ : ByteArray) [.string (⟨#[115, 101, 118]⟩ : ByteArray)] from rfl) (Reps.one (show Kd.M Kd.string _ _ _ (⟨#[122, 111, 110, 101]⟩ : ByteArray) [.string (⟨#[122, 111, 110, 101]⟩ : ByteArray)] from rfl) (Reps.none _ _)))))); intro B E m hb hg_ hnew_; clear hg_ hnew_; (first | rw [← l.1] at m | (simp only [Int.reduceToNat] at m; rw [← l.1] at m)); have a := rl_ m HK; have s := IsS102.bk_ c hb; have n2_ := kt_ HK hb; have t := st_ o hb; clear c HK o; have c := s; have HK := n2_; have o := t; clear s n2_ t; clear hb m; obtain ⟨y, z, A⟩ := Kd.R_slice a.1; subst A) | ((with_reducible refine gate_callee (f := 112) rfl ?_); refine gl_ (some 5) Tryz.func112 #[.pointer (some ⟨g, 0, none⟩), .slice y k.length z] ?_; (with_reducible refine (spec_l1Str.calls g b i j _ _ k p q r n _ ?_ ?_ ?_ ?_ ?_ D.1).mono ?_); exact IsS102.pk_ c.1; exact hs_ o.1; exact cp_ ((Kd.R_reads' a.1).2.2); exact (Kd.R_reads' a.1).2.1; exact far_slice (IsS102.own_ne c.1 a.1 (by decide)); rintro e F ⟨rfl, hi, hb, hk⟩; refine ⟨_, rfl, ?_⟩; replace a := IsS102.rk_ c a hk; replace HK := kh_ HK hk; replace o := M_ (hb); replace c := M_ (hi); (try clear hb hk hi)))
 go_ret
 exact an_ ⟨IsS102.pk_ c.1, hs_ o.1, ku_ HK.1⟩
def spec_l1AnyName.f (d : List Int) (e : Int) (g : Int) : Option (ByteArray × Int × Int) := (spec_l1Once.f d e g 2).bind fun a => (if a.1 = true then ((spec_l1Names.f d a.2.1 a.2.2).bind fun b => (some (b.1, b.2.1, b.2.2))) else ((spec_l1Str.f d a.2.1 a.2.2 (([(⟨#[]⟩ : ByteArray), (⟨#[65]⟩ : ByteArray), (⟨#[110, 105, 110, 101, 99, 104, 97, 114, 115]⟩ : ByteArray), (⟨#[101, 105, 103, 104, 116, 97, 98, 99]⟩ : ByteArray), (⟨#[97, 32, 98]⟩ : ByteArray), (⟨#[97, 49]⟩ : ByteArray)] : List ByteArray))).bind fun c => (some (c.1, c.2.1, c.2.2))))
theorem spec_l1AnyName.calls (g : Nat) (c : List Int) (l : Int) (m : Int) (E : ByteArray) (F : Int) (G : Int) (q w : World) (hI : IsS102 q w g c l m) (hB : Below q.heap.size q w) (h : spec_l1AnyName.f c l m = some (E, F, G)) :
  Calls Tryz.prog 148 #[.pointer (some ⟨g, 0, none⟩)] w fun e w' => e = .returned (.string E) ∧ IsS102 q w' g c F G ∧ Below q.heap.size q w' ∧ KeepBut w w' g none := by
 have a := M_ hI
 have HK := M_ (KeepBut.refl w g none)
 have HL := M_ hB.size
 clear hI
 have J := M_ hB.size
 have n := M_ hB
 clear hB
 unfold spec_l1AnyName.f at h
 have H := h; clear h
 replace H := bi_ H; obtain ⟨⟨r, j, k⟩, K, H⟩ := H; (try dsimp only at H)
 have AHz_ := M_ H
 clear H
 go_enter Tryz.func148, Tryz.ntmps148
 go_wp2_with (first | (((with_reducible refine gate_callee (f := 70) rfl ?_); refine gl_ (some 4) Tryz.func70 #[.pointer (some ⟨g, 0, none⟩), .int .i64 2] ?_; (with_reducible refine (spec_l1Once.calls g c l m 2 r j k q _ ?_ ?_ K.1).mono ?_); exact IsS102.pk_ a.1; exact hs_ n.1; rintro e Q ⟨rfl, hi, hb, hk⟩; refine ⟨_, rfl, ?_⟩; replace HK := kh_ HK hk; replace n := M_ (hb); replace a := M_ (hi); (try clear hb hk hi)); refine Aside0.out ?_))
 have H := AHz_.1
 clear AHz_
 replace H := ib_ H; rcases H with ⟨rfl, H⟩ | ⟨rfl, H⟩
 ·
  replace H := bi_ H; obtain ⟨⟨s, t, u⟩, L, H⟩ := H; (try dsimp only at H)
  simp only [Option.some.injEq, Prod.mk.injEq] at H
  obtain ⟨rfl, rfl, rfl⟩ := H
  refine ⟨?_⟩
  go_wp2_with (first | ((with_reducible refine gate_callee (f := 155) rfl ?_); refine gl_ (some 6) Tryz.func155 #[.pointer (some ⟨g, 0, none⟩)] ?_; (with_reducible refine (spec_l1Names.calls g c j k s t u q _ ?_ ?_ L.1).mono ?_); exact IsS102.pk_ a.1; exact hs_ n.1; rintro e R ⟨rfl, hi, hb, hk⟩; refine ⟨_, rfl, ?_⟩; replace HK := kh_ HK hk; replace n := M_ (hb); replace a := M_ (hi); (try clear hb hk hi)))
  go_ret
  exact an_ ⟨IsS102.pk_ a.1, hs_ n.1, ku_ HK.1⟩
 obtain ⟨o, hy_⟩ : ∃ y_ : List ByteArray, y_ = (([(⟨#[]⟩ : ByteArray), (⟨#[65]⟩ : ByteArray), (⟨#[110, 105, 110, 101, 99, 104, 97, 114, 115]⟩ : ByteArray), (⟨#[101, 105, 103, 104, 116, 97, 98, 99]⟩ : ByteArray), (⟨#[97, 32, 98]⟩ : ByteArray), (⟨#[97, 49]⟩ : ByteArray)] : List ByteArray)) := ⟨_, rfl⟩
 replace H : ((spec_l1Str.f c j k o).bind fun i => (some (i.1, i.2.1, i.2.2))) = some (E, F, G) := hm_
 have p := M_ hy_; clear hy_
 replace H := bi_ H; obtain ⟨⟨v, x, y⟩, O, H⟩ := H; (try dsimp only at H)
 simp only [Option.some.injEq, Prod.mk.injEq] at H
 obtain ⟨rfl, rfl, rfl⟩ := H
 refine ⟨?_⟩
 go_wp2_with (first | ((with_reducible refine gd_ 8 rfl ?_); refine Kd.R_lit Kd.string _ 9 ?hg (N := 8) ?hd (xs := ([(⟨#[]⟩ : ByteArray), (⟨#[65]⟩ : ByteArray), (⟨#[110, 105, 110, 101, 99, 104, 97, 114, 115]⟩ : ByteArray), (⟨#[101, 105, 103, 104, 116, 97, 98, 99]⟩ : ByteArray), (⟨#[97, 32, 98]⟩ : ByteArray), (⟨#[97, 49]⟩ : ByteArray)] : List ByteArray)) (inner := [.string (⟨#[]⟩ : ByteArray), .string (⟨#[65]⟩ : ByteArray), .string (⟨#[110, 105, 110, 101, 99, 104, 97, 114, 115]⟩ : ByteArray), .string (⟨#[101, 105, 103, 104, 116, 97, 98, 99]⟩ : ByteArray), .string (⟨#[97, 32, 98]⟩ : ByteArray), .string (⟨#[97, 49]⟩ : ByteArray)]) (ok := fun _ => True) (okp := fun _ => True) ?hr ?hp (fun _ hk => hk) trivial (Below.refl _ _) (Nat.le_refl _) (by simp) ?_; (case hd => rfl); (case hg => rfl); (case hr => first | (go_simp; done) | (go_simp; rfl)); (case hp => exact (Reps.one (show Kd.M Kd.string _ _ _ (⟨#[]⟩ : ByteArray) [.string (⟨#[]⟩ : ByteArray)] from rfl) (Reps.one (show Kd.M Kd.string _ _ _ (⟨#[65]⟩ : ByteArray) [.string (⟨#[65]⟩ : ByteArray)] from rfl) (Reps.one (show Kd.M Kd.string _ _ _ (⟨#[110, 105, 110, 101, 99, 104, 97, 114, 115]⟩ : ByteArray) [.string (⟨#[110, 105, 110, 101, 99, 104, 97, 114, 115]⟩ : ByteArray)] from rfl) (Reps.one (show Kd.M Kd.string _ _ _ (⟨#[101, 105, 103, 104, 116, 97, 98, 99]⟩ : ByteArray) [.string (⟨#[101, 105, 103, 104, 116, 97, 98, 99]⟩ : ByteArray)] from rfl) (Reps.one (show Kd.M Kd.string _ _ _ (⟨#[97, 32, 98]⟩ : ByteArray) [.string (⟨#[97, 32, 98]⟩ : ByteArray)] from rfl) (Reps.one (show Kd.M Kd.string _ _ _ (⟨#[97, 49]⟩ : ByteArray) [.string (⟨#[97, 49]⟩ : ByteArray)] from rfl) (Reps.none _ _)))))))); intro I S d hb hg_ hnew_; clear hg_ hnew_; (first | rw [← p.1] at d | (simp only [Int.reduceToNat] at d; rw [← p.1] at d)); have b := rl_ d HK; have z := IsS102.bk_ a hb; have n2_ := kt_ HK hb; have A := st_ n hb; clear a HK n; have a := z; have HK := n2_; have n := A; clear z n2_ A; clear hb d; obtain ⟨B, C, D⟩ := Kd.R_slice b.1; subst D) | ((with_reducible refine gate_callee (f := 112) rfl ?_); refine gl_ (some 9) Tryz.func112 #[.pointer (some ⟨g, 0, none⟩), .slice B o.length C] ?_; (with_reducible refine (spec_l1Str.calls g c j k _ _ o v x y q _ ?_ ?_ ?_ ?_ ?_ O.1).mono ?_); exact IsS102.pk_ a.1; exact hs_ n.1; exact cp_ ((Kd.R_reads' b.1).2.2); exact (Kd.R_reads' b.1).2.1; exact far_slice (IsS102.own_ne a.1 b.1 (by decide)); rintro e P ⟨rfl, hi, hb, hk⟩; refine ⟨_, rfl, ?_⟩; replace b := IsS102.rk_ a b hk; replace HK := kh_ HK hk; replace n := M_ (hb); replace a := M_ (hi); (try clear hb hk hi)))
 go_ret
 exact an_ ⟨IsS102.pk_ a.1, hs_ n.1, ku_ HK.1⟩
def spec_l2Any.f (k : Nat) (c : List Int) (j : Int) (l : Int) : Option ((List (S99)) × Int × Int) := (spec_l2Draw.f k c j l).bind fun b => ((spec_l1Below.f c b.2.1 b.2.2 10).bind fun a => (if a.1 = 0 then ((spec_l1AnyName.f c a.2.1 a.2.2).bind fun d => ((spec_l1AnyPlain.f c d.2.1 d.2.2).bind fun e => (if b.1.length < 4398046511104 then (some ((b.1 ++ [(⟨d.1, e.1⟩ : S99)]), e.2.1, e.2.2)) else (none)))) else (if a.1 = 1 then ((some (([(⟨(⟨#[122, 122]⟩ : ByteArray), (⟨#[49]⟩ : ByteArray)⟩ : S99)] : List (S99)) : List (S99))).bind fun h => (if h.length + b.1.length < 4398046511104 then (some ((h ++ b.1), a.2.1, a.2.2)) else (none))) else (if a.1 = 2 then (if 0 < (b.1.length : Int) then (if b.1.length < 4398046511104 then (some ((b.1 ++ [(⟨(rd_T99 b.1 0).f0, (rd_T99 b.1 0).f1⟩ : S99)]), a.2.1, a.2.2)) else (none)) else (none)) else (if a.1 = 3 then ((some (([(⟨(⟨#[122, 117]⟩ : ByteArray), (⟨#[]⟩ : ByteArray)⟩ : S99), (⟨(⟨#[122, 118]⟩ : ByteArray), (⟨#[]⟩ : ByteArray)⟩ : S99), (⟨(⟨#[122, 119]⟩ : ByteArray), (⟨#[]⟩ : ByteArray)⟩ : S99), (⟨(⟨#[122, 120]⟩ : ByteArray), (⟨#[]⟩ : ByteArray)⟩ : S99)] : List (S99)) : List (S99))).bind fun i => (if b.1.length + i.length < 4398046511104 then (some ((b.1 ++ i), a.2.1, a.2.2)) else (none))) else (if a.1 = 4 then ((spec_l1AnyPlain.f c a.2.1 a.2.2).bind fun g => (if 0 < (b.1.length : Int) then (some ((b.1.set (0 : Int).toNat (⟨(rd_T99 b.1 0).f0, g.1⟩ : S99)), g.2.1, g.2.2)) else (none))) else (if a.1 = 5 then (some ((([] : List (S99))), a.2.1, a.2.2)) else (some (b.1, a.2.1, a.2.2)))))))))
theorem spec_l2Any.calls (k : Nat) (g : Nat) (o : List Int) (X : Int) (Y : Int) (r1 : List (S99)) (r2 : Int) (r3 : Int) (I w : World) (hI : IsS102 I w g o X Y) (hB : Below I.heap.size I w) (h : spec_l2Any.f k o X Y = some (r1, r2, r3)) :
  Calls Tryz.prog 129 #[.pointer (some ⟨g, 0, none⟩)] w fun e w' => ∃ v0_ : Value, e = .returned (v0_) ∧ Kd.R k99 99 w' w.heap.size (fun _ => True) v0_ r1 ∧ IsS102 I w' g o r2 r3 ∧ Below I.heap.size I w' ∧ KeepBut w w' g none := by
 have hu99 := Tryz.underlying99
 have d := M_ hI
 have HK := M_ (KeepBut.refl w g none)
 have HL := M_ hB.size
 clear hI
 have Hb := M_ hB.size
 have l := M_ hB
 clear hB
 unfold spec_l2Any.f at h
 have H := h; clear h
 replace H := bi_ H; obtain ⟨⟨c, C, D⟩, A2, H⟩ := H; (try dsimp only at H)
 replace H := bi_ H; obtain ⟨⟨i, m, n⟩, A3, H⟩ := H; (try dsimp only at H)
 have AHz_ := M_ H
 clear H
 go_enter Tryz.func129, Tryz.ntmps129
 go_wp2_with (first | (((with_reducible refine gate_callee (f := 88) rfl ?_); refine gl_ (some 5) Tryz.func88 #[.pointer (some ⟨g, 0, none⟩)] ?_; (with_reducible refine (spec_l2Draw.calls k g o X Y c C D I _ ?_ ?_ A2.1).mono ?_); exact IsS102.pk_ d.1; exact hs_ l.1; rintro e w8 ⟨ha, rfl, Ua, hi, hb, hk⟩; refine ⟨_, rfl, ?_⟩; have a := rl_ Ua HK; have Va := kh_ HK hk; have n2_ := M_ (hb); have Wa := M_ (hi); clear HK l d; have HK := Va; have l := n2_; have d := Wa; clear Va n2_ Wa; (try clear hb hk hi Ua)); refine Aside0.out ?_))
 have H := AHz_.1
 clear AHz_
 replace H := ie_ H; rcases H with ⟨c4, H⟩ | ⟨c4, H⟩
 ·
  have Xa : (i == 0) = true := beq_iff_eq.mpr c4
  have Ya : (i != 0) = false := bne_eq_false_iff_eq.mpr c4
  clear c4
  replace H := bi_ H; obtain ⟨⟨E, ia, ja⟩, A5, H⟩ := H; (try dsimp only at H)
  replace H := bi_ H; obtain ⟨⟨F, ka, la⟩, A6, H⟩ := H; (try dsimp only at H)
  replace H := im_ H; obtain ⟨Za, H⟩ := H
  obtain ⟨ab, hy_⟩ : ∃ y_ : List (S99), y_ = (c ++ [(⟨E, F⟩ : S99)]) := ⟨_, rfl⟩
  replace H : (some (ab, ka, la)) = some (r1, r2, r3) := hm_
  have sa := M_ hy_; clear hy_
  simp only [Option.some.injEq, Prod.mk.injEq] at H
  obtain ⟨rfl, rfl, rfl⟩ := H
  refine ⟨?_⟩
  go_wp2_with (first | ((with_reducible refine gate_callee (f := 69) rfl ?_); refine gl_ (some 7) Tryz.func69 #[.pointer (some ⟨g, 0, none⟩), .int .i64 10] ?_; (with_reducible refine (spec_l1Below.calls g o C D 10 i m n I _ ?_ ?_ A3.1).mono ?_); exact IsS102.pk_ d.1; exact hs_ l.1; rintro e w9 ⟨rfl, hi, hb, hk⟩; refine ⟨_, rfl, ?_⟩; replace a := IsS102.rk_ d a hk; replace HK := kh_ HK hk; replace l := M_ (hb); replace d := M_ (hi); (try clear hb hk hi)) | ((with_reducible refine gate_callee (f := 148) rfl ?_); refine gl_ (some 12) Tryz.func148 #[.pointer (some ⟨g, 0, none⟩)] ?_; (with_reducible refine (spec_l1AnyName.calls g o m n E ia ja I _ ?_ ?_ A5.1).mono ?_); exact IsS102.pk_ d.1; exact hs_ l.1; rintro e Lb ⟨rfl, hi, hb, hk⟩; refine ⟨_, rfl, ?_⟩; replace a := IsS102.rk_ d a hk; replace HK := kh_ HK hk; replace l := M_ (hb); replace d := M_ (hi); (try clear hb hk hi)) | ((with_reducible refine gate_callee (f := 131) rfl ?_); refine gl_ (some 14) Tryz.func131 #[.pointer (some ⟨g, 0, none⟩)] ?_; (with_reducible refine (spec_l1AnyPlain.calls g o ia ja F ka la I _ ?_ ?_ A6.1).mono ?_); exact IsS102.pk_ d.1; exact hs_ l.1; rintro e Mb ⟨rfl, hi, hb, hk⟩; refine ⟨_, rfl, ?_⟩; replace a := IsS102.rk_ d a hk; replace HK := kh_ HK hk; replace l := M_ (hb); replace d := M_ (hi); (try clear hb hk hi)) | ((with_reducible refine gate_builtin (b := .append) (xs := #[.tmp 10, .tmp 16]) rfl ?_); at_builtin; refine Kd.R_append k99 w.heap.size rfl (.tmp 10) (.tmp 16) 27 99 (.agg #[(.string ⟨#[]⟩), (.string ⟨#[]⟩)]) 32 rfl Tryz.underlying27 info99 rfl (by decide) (by omega) ha c (⟨E, F⟩ : S99) [.string E, .string F] (fun _ => True) (fun _ => False) rfl rfl ?aP (fun _ hk => hk.elim) ?aF ?aO (Below.refl _ _) ?aS ?aL ?_; (case aP => exact k99_mkM _ _ _ (⟨E, F⟩ : S99)); (case aF => exact (fun _ _ => trivial)); (case aO => exact (rp_ a.1)); (case aS => exact (ks_ HK)); (case aL => have := Za.1; omega); intro yb Nb ho hb hg hat; rw [← sa.1] at ho; replace d := M_ (IsS102.grown (IsS102.pk_ d.1) hg (IsS102.own_ne d.1 a.1 (by decide))); replace l := M_ (below_weaken (hs_ l.1) HL.out hb); replace HK := M_ (KeepBut.trans (ku_ HK.1) (KeepBut.of_grown hg g) (Kd.R_base2 a.1)); have ta := M_ (ho); clear a; clear ho hb hg hat))
  go_ret
  exact ⟨_, rr_, rp_ ta.1, IsS102.pk_ d.1, hs_ l.1, ku_ HK.1⟩
 have Xa : (i == 0) = false := beq_eq_false_iff_ne.mpr c4
 have Ya : (i != 0) = true := bne_iff_ne.mpr c4
 replace H := ie_ H; rcases H with ⟨S, H⟩ | ⟨S, H⟩
 ·
  have ua : (i == 1) = true := beq_iff_eq.mpr S
  have va : (i != 1) = false := bne_eq_false_iff_eq.mpr S
  clear S
  obtain ⟨O, hy_⟩ : ∃ y_ : List (S99), y_ = (([(⟨(⟨#[122, 122]⟩ : ByteArray), (⟨#[49]⟩ : ByteArray)⟩ : S99)] : List (S99))) := ⟨_, rfl⟩
  replace H : (if O.length + c.length < 4398046511104 then (some ((O ++ c), m, n)) else (none)) = some (r1, r2, r3) := hm_
  have Z := M_ hy_; clear hy_
  replace H := im_ H; obtain ⟨wa, H⟩ := H
  obtain ⟨bb, hy_⟩ : ∃ y_ : List (S99), y_ = (O ++ c) := ⟨_, rfl⟩
  replace H : (some (bb, m, n)) = some (r1, r2, r3) := hm_
  have xa := M_ hy_; clear hy_
  simp only [Option.some.injEq, Prod.mk.injEq] at H
  obtain ⟨rfl, rfl, rfl⟩ := H
  refine ⟨?_⟩
  go_wp2_with (first | ((with_reducible refine gate_callee (f := 69) rfl ?_); refine gl_ (some 7) Tryz.func69 #[.pointer (some ⟨g, 0, none⟩), .int .i64 10] ?_; (with_reducible refine (spec_l1Below.calls g o C D 10 i m n I _ ?_ ?_ A3.1).mono ?_); exact IsS102.pk_ d.1; exact hs_ l.1; rintro e Ob ⟨rfl, hi, hb, hk⟩; refine ⟨_, rfl, ?_⟩; replace a := IsS102.rk_ d a hk; replace HK := kh_ HK hk; replace l := M_ (hb); replace d := M_ (hi); (try clear hb hk hi)) | ((with_reducible refine gd_ 21 rfl ?_); refine Kd.R_lit k99 _ 99 ?hg (N := 21) ?hd (xs := ([(⟨(⟨#[122, 122]⟩ : ByteArray), (⟨#[49]⟩ : ByteArray)⟩ : S99)] : List (S99))) (inner := [.string (⟨#[122, 122]⟩ : ByteArray), .string (⟨#[49]⟩ : ByteArray)]) (ok := fun _ => True) (okp := fun _ => True) ?hr ?hp (fun _ hk => hk) trivial (Below.refl _ _) (Nat.le_refl _) (by simp) ?_; (case hd => rfl); (case hg => rfl); (case hr => first | (go_simp; done) | (go_simp; rfl)); (case hp => exact (Reps.c2 (show Kd.M k99 _ _ _ (⟨(⟨#[122, 122]⟩ : ByteArray), (⟨#[49]⟩ : ByteArray)⟩ : S99) [.string (⟨#[122, 122]⟩ : ByteArray), .string (⟨#[49]⟩ : ByteArray)] from (k99_mkM _ _ _ (⟨(⟨#[122, 122]⟩ : ByteArray), (⟨#[49]⟩ : ByteArray)⟩ : S99) )) (Reps.none _ _))); intro cb Pb u hb hg_ hnew_; clear hg_ hnew_; (first | rw [← Z.1] at u | (simp only [Int.reduceToNat] at u; rw [← Z.1] at u)); have A := M_ (Kd.R_lower (Kd.R_new' u (Kd.R_lt (rp_ a.1))) (ks_ HK)); replace a := M_ (Kd.R_elder' (rp_ a.1) (Kd.R_base u) hb); replace d := IsS102.bk_ d hb; replace HK := kt_ HK hb; replace l := st_ l hb; clear hb u; obtain ⟨db, eb, fb⟩ := Kd.R_slice a.1; subst fb) | ((with_reducible refine gate_builtin (b := .append) (xs := #[.tmp 21, .tmp 22]) rfl ?_); at_builtin; refine Kd.R_append_rows k99 w.heap.size rfl (.tmp 21) (.tmp 22) 27 99 (.agg #[(.string ⟨#[]⟩), (.string ⟨#[]⟩)]) 32 rfl Tryz.underlying27 info99 rfl (by decide) (by omega) cb O c _ _ _ (fun k_ => some k_ ≠ (.slice db c.length eb : Value).ownBlock) (fun _ => False) rfl rfl ?aO ?aR (fun _ _ h => h) (fun _ h => h.elim) ?aF (Below.refl _ _) ?aS ?aL ?_; (case aR => repeat (first | exact (Kd.R_reads' a.1).2.2 | (with_reducible first | refine ca_ ?_ _ | refine cn_ ?_ _ | refine cd_ ?_))); (case aF => exact (fun k_ hk => Kd.fresh' (Kd.R_lt (rp_ a.1)) k_ hk)); (case aO => exact (Kd.R_mono (rp_ A.1) (fun _ hk => hk.2))); (case aS => exact (ks_ HK)); (case aL => have := wa.1; omega); intro zb Qb ho hb hg hat; rw [← xa.1] at ho; replace d := M_ (IsS102.grown (IsS102.pk_ d.1) hg (IsS102.own_ne d.1 A.1 (by decide))); replace a := M_ (Kd.R_after (ok := (fun _ => True)) (rp_ a.1) hg hat); replace l := M_ (below_weaken (hs_ l.1) HL.out hb); replace HK := M_ (KeepBut.trans (ku_ HK.1) (KeepBut.of_grown hg g) (Kd.R_base2 A.1)); have ya := M_ (ho); clear A; clear ho hb hg hat))
  go_ret
  exact ⟨_, rr_, Kd.R_mono (rp_ ya.1) (fun _ hk => trivial), IsS102.pk_ d.1, hs_ l.1, ku_ HK.1⟩
 have ua : (i == 1) = false := beq_eq_false_iff_ne.mpr S
 have va : (i != 1) = true := bne_iff_ne.mpr S
 replace H := ie_ H; rcases H with ⟨T, H⟩ | ⟨T, H⟩
 ·
  have za : (i == 2) = true := beq_iff_eq.mpr T
  have Aa : (i != 2) = false := bne_eq_false_iff_eq.mpr T
  clear T
  replace H := in_ H; obtain ⟨gb, H⟩ := H
  have tb := decide_eq_true gb
  have ub : decide (0 < c.length) = true := decide_eq_true (by omega)
  clear gb
  replace H := im_ H; obtain ⟨Ba, H⟩ := H
  obtain ⟨ib, hy_⟩ : ∃ y_ : List (S99), y_ = (c ++ [(⟨(rd_T99 c 0).f0, (rd_T99 c 0).f1⟩ : S99)]) := ⟨_, rfl⟩
  replace H : (some (ib, m, n)) = some (r1, r2, r3) := hm_
  have Ca := M_ hy_; clear hy_
  simp only [Option.some.injEq, Prod.mk.injEq] at H
  obtain ⟨rfl, rfl, rfl⟩ := H
  refine ⟨?_⟩
  go_wp2_with (first | ((with_reducible refine gate_callee (f := 69) rfl ?_); refine gl_ (some 7) Tryz.func69 #[.pointer (some ⟨g, 0, none⟩), .int .i64 10] ?_; (with_reducible refine (spec_l1Below.calls g o C D 10 i m n I _ ?_ ?_ A3.1).mono ?_); exact IsS102.pk_ d.1; exact hs_ l.1; rintro e Rb ⟨rfl, hi, hb, hk⟩; refine ⟨_, rfl, ?_⟩; replace a := IsS102.rk_ d a hk; replace HK := kh_ HK hk; replace l := M_ (hb); replace d := M_ (hi); (try clear hb hk hi); obtain ⟨Ab, jb, kb⟩ := Kd.R_slice a.1; subst kb; have aa : 0 ≤ (0 : Int) := (by omega); have ba : 0 < (c.length : Int) := of_decide_eq_true (by with_reducible assumption); obtain ⟨Da, lb, q, r⟩ := at_T99 (Kd.R_reads' a.1).2.2 0 aa ba; cases lb; have qi458 : (0 < c.length) = True := eq_true (by omega); (try rw [show ((0 : Int)).toNat = 0 from rfl] at q); (try rw [show 0 * 2 = 0 from rfl] at q); (try rw [Addr.add_zero'] at q); (try rw [show ((0 : Int)).toNat = 0 from rfl] at r); (try rw [show 0 * 2 = 0 from rfl] at r); (try rw [Addr.add_zero'] at r); replace aa := eq_true aa; replace ba := eq_true ba) | ((with_reducible refine gate_builtin (b := .append) (xs := #[.tmp 26, .tmp 30]) rfl ?_); at_builtin; refine Kd.R_append k99 w.heap.size rfl (.tmp 26) (.tmp 30) 27 99 (.agg #[(.string ⟨#[]⟩), (.string ⟨#[]⟩)]) 32 rfl Tryz.underlying27 info99 rfl (by decide) (by omega) (.slice (some Da) c.length jb) c (⟨(rd_T99 c 0).f0, (rd_T99 c 0).f1⟩ : S99) [.string ((rd_T99 c 0).f0), .string ((rd_T99 c 0).f1)] (fun _ => True) (fun _ => False) rfl rfl ?aP (fun _ hk => hk.elim) ?aF ?aO (Below.refl _ _) ?aS ?aL ?_; (case aP => exact k99_mkM _ _ _ (⟨(rd_T99 c 0).f0, (rd_T99 c 0).f1⟩ : S99)); (case aF => exact (fun _ _ => trivial)); (case aO => exact (rp_ a.1)); (case aS => exact (ks_ HK)); (case aL => have := Ba.1; omega); intro Bb Sb ho hb hg hat; rw [← Ca.1] at ho; replace d := M_ (IsS102.grown (IsS102.pk_ d.1) hg (IsS102.own_ne d.1 a.1 (by decide))); replace l := M_ (below_weaken (hs_ l.1) HL.out hb); replace HK := M_ (KeepBut.trans (ku_ HK.1) (KeepBut.of_grown hg g) (Kd.R_base2 a.1)); have Ea := M_ (ho); clear a; clear ho hb hg hat))
  go_ret
  exact ⟨_, rr_, rp_ Ea.1, IsS102.pk_ d.1, hs_ l.1, ku_ HK.1⟩
 have za : (i == 2) = false := beq_eq_false_iff_ne.mpr T
 have Aa : (i != 2) = true := bne_iff_ne.mpr T
 have AHz_ := M_ H
 clear H
 refine ⟨?_⟩
 go_wp2_with (first | (((with_reducible refine gate_callee (f := 69) rfl ?_); refine gl_ (some 7) Tryz.func69 #[.pointer (some ⟨g, 0, none⟩), .int .i64 10] ?_; (with_reducible refine (spec_l1Below.calls g o C D 10 i m n I _ ?_ ?_ A3.1).mono ?_); exact IsS102.pk_ d.1; exact hs_ l.1; rintro e Tb ⟨rfl, hi, hb, hk⟩; refine ⟨_, rfl, ?_⟩; replace a := IsS102.rk_ d a hk; replace HK := kh_ HK hk; replace l := M_ (hb); replace d := M_ (hi); (try clear hb hk hi)); refine Aside0.out ?_))
 have H := AHz_.1
 clear AHz_
 replace H := ie_ H; rcases H with ⟨U, H⟩ | ⟨U, H⟩
 ·
  have Fa : (i == 3) = true := beq_iff_eq.mpr U
  have Ga : (i != 3) = false := bne_eq_false_iff_eq.mpr U
  clear U
  obtain ⟨G, hy_⟩ : ∃ y_ : List (S99), y_ = (([(⟨(⟨#[122, 117]⟩ : ByteArray), (⟨#[]⟩ : ByteArray)⟩ : S99), (⟨(⟨#[122, 118]⟩ : ByteArray), (⟨#[]⟩ : ByteArray)⟩ : S99), (⟨(⟨#[122, 119]⟩ : ByteArray), (⟨#[]⟩ : ByteArray)⟩ : S99), (⟨(⟨#[122, 120]⟩ : ByteArray), (⟨#[]⟩ : ByteArray)⟩ : S99)] : List (S99))) := ⟨_, rfl⟩
  replace H : (if c.length + G.length < 4398046511104 then (some ((c ++ G), m, n)) else (none)) = some (r1, r2, r3) := hm_
  have ca := M_ hy_; clear hy_
  replace H := im_ H; obtain ⟨Ha, H⟩ := H
  obtain ⟨mb, hy_⟩ : ∃ y_ : List (S99), y_ = (c ++ G) := ⟨_, rfl⟩
  replace H : (some (mb, m, n)) = some (r1, r2, r3) := hm_
  have Ia := M_ hy_; clear hy_
  simp only [Option.some.injEq, Prod.mk.injEq] at H
  obtain ⟨rfl, rfl, rfl⟩ := H
  refine ⟨?_⟩
  go_wp2_with (first | ((with_reducible refine gd_ 39 rfl ?_); refine Kd.R_lit k99 _ 99 ?hg (N := 39) ?hd (xs := ([(⟨(⟨#[122, 117]⟩ : ByteArray), (⟨#[]⟩ : ByteArray)⟩ : S99), (⟨(⟨#[122, 118]⟩ : ByteArray), (⟨#[]⟩ : ByteArray)⟩ : S99), (⟨(⟨#[122, 119]⟩ : ByteArray), (⟨#[]⟩ : ByteArray)⟩ : S99), (⟨(⟨#[122, 120]⟩ : ByteArray), (⟨#[]⟩ : ByteArray)⟩ : S99)] : List (S99))) (inner := [.string (⟨#[122, 117]⟩ : ByteArray), .string (⟨#[]⟩ : ByteArray), .string (⟨#[122, 118]⟩ : ByteArray), .string (⟨#[]⟩ : ByteArray), .string (⟨#[122, 119]⟩ : ByteArray), .string (⟨#[]⟩ : ByteArray), .string (⟨#[122, 120]⟩ : ByteArray), .string (⟨#[]⟩ : ByteArray)]) (ok := fun _ => True) (okp := fun _ => True) ?hr ?hp (fun _ hk => hk) trivial (Below.refl _ _) (Nat.le_refl _) (by simp) ?_; (case hd => rfl); (case hg => rfl); (case hr => first | (go_simp; done) | (go_simp; rfl)); (case hp => exact (Reps.c2 (show Kd.M k99 _ _ _ (⟨(⟨#[122, 117]⟩ : ByteArray), (⟨#[]⟩ : ByteArray)⟩ : S99) [.string (⟨#[122, 117]⟩ : ByteArray), .string (⟨#[]⟩ : ByteArray)] from (k99_mkM _ _ _ (⟨(⟨#[122, 117]⟩ : ByteArray), (⟨#[]⟩ : ByteArray)⟩ : S99) )) (Reps.c2 (show Kd.M k99 _ _ _ (⟨(⟨#[122, 118]⟩ : ByteArray), (⟨#[]⟩ : ByteArray)⟩ : S99) [.string (⟨#[122, 118]⟩ : ByteArray), .string (⟨#[]⟩ : ByteArray)] from (k99_mkM _ _ _ (⟨(⟨#[122, 118]⟩ : ByteArray), (⟨#[]⟩ : ByteArray)⟩ : S99) )) (Reps.c2 (show Kd.M k99 _ _ _ (⟨(⟨#[122, 119]⟩ : ByteArray), (⟨#[]⟩ : ByteArray)⟩ : S99) [.string (⟨#[122, 119]⟩ : ByteArray), .string (⟨#[]⟩ : ByteArray)] from (k99_mkM _ _ _ (⟨(⟨#[122, 119]⟩ : ByteArray), (⟨#[]⟩ : ByteArray)⟩ : S99) )) (Reps.c2 (show Kd.M k99 _ _ _ (⟨(⟨#[122, 120]⟩ : ByteArray), (⟨#[]⟩ : ByteArray)⟩ : S99) [.string (⟨#[122, 120]⟩ : ByteArray), .string (⟨#[]⟩ : ByteArray)] from (k99_mkM _ _ _ (⟨(⟨#[122, 120]⟩ : ByteArray), (⟨#[]⟩ : ByteArray)⟩ : S99) )) (Reps.none _ _)))))); intro Cb Ub x hb hg_ hnew_; clear hg_ hnew_; (first | rw [← ca.1] at x | (simp only [Int.reduceToNat] at x; rw [← ca.1] at x)); have s := M_ (Kd.R_lower (Kd.R_new' x (Kd.R_lt (rp_ a.1))) (ks_ HK)); replace a := M_ (Kd.R_elder' (rp_ a.1) (Kd.R_base x) hb); replace d := IsS102.bk_ d hb; replace HK := kt_ HK hb; replace l := st_ l hb; clear hb x; obtain ⟨nb, ob, pb⟩ := Kd.R_slice s.1; subst pb) | ((with_reducible refine gate_builtin (b := .append) (xs := #[.tmp 34, .tmp 39]) rfl ?_); at_builtin; refine Kd.R_append_rows k99 w.heap.size rfl (.tmp 34) (.tmp 39) 27 99 (.agg #[(.string ⟨#[]⟩), (.string ⟨#[]⟩)]) 32 rfl Tryz.underlying27 info99 rfl (by decide) (by omega) ha c G _ _ _ (fun k_ => some k_ ≠ (.slice nb G.length ob : Value).ownBlock) (fun _ => False) rfl rfl ?aO ?aR (fun _ _ h => h) (fun _ h => h.elim) ?aF (Below.refl _ _) ?aS ?aL ?_; (case aR => repeat (first | exact (Kd.R_reads' s.1).2.2 | (with_reducible first | refine ca_ ?_ _ | refine cn_ ?_ _ | refine cd_ ?_))); (case aF => exact (fun k_ hk => Kd.fresh' (Kd.R_lt (rp_ s.1)) k_ hk)); (case aO => exact (Kd.R_mono (rp_ a.1) (fun _ hk => hk.2))); (case aS => exact (ks_ HK)); (case aL => have := Ha.1; omega); intro Db Vb ho hb hg hat; rw [← Ia.1] at ho; replace d := M_ (IsS102.grown (IsS102.pk_ d.1) hg (IsS102.own_ne d.1 a.1 (by decide))); replace s := M_ (Kd.R_after (ok := (fun _ => True)) (rp_ s.1) hg hat); replace l := M_ (below_weaken (hs_ l.1) HL.out hb); replace HK := M_ (KeepBut.trans (ku_ HK.1) (KeepBut.of_grown hg g) (Kd.R_base2 a.1)); have Ja := M_ (ho); clear a; clear ho hb hg hat))
  go_ret
  exact ⟨_, rr_, Kd.R_mono (rp_ Ja.1) (fun _ hk => trivial), IsS102.pk_ d.1, hs_ l.1, ku_ HK.1⟩
 have Fa : (i == 3) = false := beq_eq_false_iff_ne.mpr U
 have Ga : (i != 3) = true := bne_iff_ne.mpr U
 replace H := ie_ H; rcases H with ⟨V, H⟩ | ⟨V, H⟩
 ·
  have Ka : (i == 4) = true := beq_iff_eq.mpr V
  have La : (i != 4) = false := bne_eq_false_iff_eq.mpr V
  clear V
  replace H := bi_ H; obtain ⟨⟨y, ma, na⟩, vb, H⟩ := H; (try dsimp only at H)
  replace H := in_ H; obtain ⟨qb, H⟩ := H
  have wb := decide_eq_true qb
  have xb : decide (0 < c.length) = true := decide_eq_true (by omega)
  clear qb
  obtain ⟨oa, hy_⟩ : ∃ y_ : List (S99), y_ = (c.set (0 : Int).toNat (⟨(rd_T99 c 0).f0, y⟩ : S99)) := ⟨_, rfl⟩
  replace H : (some (oa, ma, na)) = some (r1, r2, r3) := hm_
  have Ma := M_ hy_; clear hy_
  simp only [Option.some.injEq, Prod.mk.injEq] at H
  obtain ⟨rfl, rfl, rfl⟩ := H
  refine ⟨?_⟩
  go_wp2_with (first | ((with_reducible refine gate_callee (f := 131) rfl ?_); refine gl_ (some 45) Tryz.func131 #[.pointer (some ⟨g, 0, none⟩)] ?_; (with_reducible refine (spec_l1AnyPlain.calls g o m n y ma na I _ ?_ ?_ vb.1).mono ?_); exact IsS102.pk_ d.1; exact hs_ l.1; rintro e J ⟨rfl, hi, hb, hk⟩; refine ⟨_, rfl, ?_⟩; replace a := IsS102.rk_ d a hk; replace HK := kh_ HK hk; replace l := M_ (hb); replace d := M_ (hi); (try clear hb hk hi); have Na : 0 ≤ (0 : Int) := (by omega); have Oa : (0 : Int) < ((c.length : Int) : Int) := of_decide_eq_true (by with_reducible assumption); have qi39 : (0 < c.length) = True := eq_true (by omega); obtain ⟨go39, pa, qa, ra, gl39, cl39, HG39⟩ := Kd.R_form a.1 (by omega); (first | cases qa | (injection qa with ea_ en_ ec_; (first | subst ea_ | (injection ea_ with ea_; subst ea_)); subst ec_; clear en_)); have GB39 := M_ ra; have GG39 := M_ HG39; clear ra gl39 HG39; obtain ⟨Eb, hcl39, hM39, K, hfr39⟩ := Kd.R_elem a.1 z99 (0 : Int) Na Oa; obtain rfl := k99_openM hM39; have P : J.cell? ⟨go39, (0 : Int).toNat * 2, none⟩ = some (.string ((rd_T99 c 0).f0)) := K 0 _ rfl; have Q : J.cell? ⟨go39, (0 : Int).toNat * 2 + 1, none⟩ = some (.string ((rd_T99 c 0).f1)) := K 1 _ rfl; have hf39_0 : J.frozen? ⟨go39, (0 : Int).toNat * 2, none⟩ = false := hfr39 0; have hf39_1 : J.frozen? ⟨go39, (0 : Int).toNat * 2 + 1, none⟩ = false := hfr39 1; clear hcl39 K hfr39 hM39; (try rw [show ((0 : Int)).toNat = 0 from rfl] at P); (try simp only [Nat.reduceMul, Nat.zero_mul, Nat.zero_add, Nat.reduceAdd] at P); (try rw [show ((0 : Int)).toNat = 0 from rfl] at hf39_0); (try simp only [Nat.reduceMul, Nat.zero_mul, Nat.zero_add, Nat.reduceAdd] at hf39_0); (try rw [show ((0 : Int)).toNat = 0 from rfl] at Q); (try simp only [Nat.reduceMul, Nat.zero_mul, Nat.zero_add, Nat.reduceAdd] at Q); (try rw [show ((0 : Int)).toNat = 0 from rfl] at hf39_1); (try simp only [Nat.reduceMul, Nat.zero_mul, Nat.zero_add, Nat.reduceAdd] at hf39_1); replace Na := eq_true Na; replace Oa := eq_true Oa; have HX43 := M_ (show Kd.R k99 99 J w.heap.size (fun _ => True) (.slice (some ⟨go39, 0, none⟩) c.length pa) c from (rp_ a.1)); obtain ⟨Fb, hcl43, hM43, L, hfr43⟩ := Kd.R_elem HX43.out z99 (0 : Int) (by omega) (by have h_ : (0 : Int) < ((c.length : Int) : Int) := of_decide_eq_true (by with_reducible assumption); first | exact h_ | (have e_ := (Kd.R_reads' a.1).1; omega) | simpa using h_); obtain rfl := k99_openM hM43; have HP43 := Kd.R_seg HX43.out (0 : Int) (by omega) (by have h_ : (0 : Int) < ((c.length : Int) : Int) := of_decide_eq_true (by with_reducible assumption); first | exact h_ | (have e_ := (Kd.R_reads' a.1).1; omega) | simpa using h_) (seg := [.string y]) (j := 1) hcl43 L (show 2 ≤ 2 from by decide) (x' := (⟨(rd_T99 c 0).f0, y⟩ : S99)) (k99_mkM _ _ _ (⟨(rd_T99 c 0).f0, y⟩ : S99) ) (fun _ hk => hk); have B := L 1 _ rfl; (try simp only [show (k99).sz = 2 from rfl, Nat.mul_one, Nat.add_zero] at B); (try rw [show ((0 : Int)).toNat = 0 from rfl] at B); (try simp only [Nat.reduceMul, Nat.zero_mul, Nat.zero_add, Nat.reduceAdd] at B); have hf43_1 := hfr43 1; (try simp only [show (k99).sz = 2 from rfl, Nat.mul_one, Nat.add_zero] at hf43_1); (try rw [show ((0 : Int)).toNat = 0 from rfl] at hf43_1); (try simp only [Nat.reduceMul, Nat.zero_mul, Nat.zero_add, Nat.reduceAdd] at hf43_1); clear hcl43 L hfr43 hM43) | ((with_reducible refine gate_store (t := 9) (p := 47) rfl ?_); refine store_event (t := 9) (p := 47) (v := ?vo_w44) (w1 := (J.setCell ⟨go39, 1, none⟩ (.string y))) ?hg ?ho ?hn ?hr ?_; (case ho => rfl); (case hg => rfl); (case hn => rfl); (case hr => first | (go_simp; done) | (go_simp; rfl)); intro Pa hw; have hg : J.grownBy Pa (some go39) := (by rw [hw]; exact HP43.2); have hp_ : Kd.R k99 99 Pa w.heap.size (fun _ => True) (.slice (some ⟨go39, 0, none⟩) c.length pa) oa := (by rw [hw, Ma.1]; exact HP43.1); clear HP43; replace d := M_ (IsS102.grown (IsS102.pk_ d.1) hg (IsS102.own_ne d.1 a.1 (by decide))); replace l := M_ ((by rw [hw]; exact below_set (l.1) (Nat.le_trans HL.out GB39.out) : Below I.heap.size I Pa)); replace HK := M_ (KeepBut.trans (ku_ HK.1) (KeepBut.of_grown hg g) (Kd.R_base2 a.1)); replace a := M_ (hp_); clear hg hw hp_))
  go_ret
  exact ⟨_, rr_, rp_ a.1, IsS102.pk_ d.1, hs_ l.1, ku_ HK.1⟩
 have Ka : (i == 4) = false := beq_eq_false_iff_ne.mpr V
 have La : (i != 4) = true := bne_iff_ne.mpr V
 replace H := ie_ H; rcases H with ⟨W, H⟩ | ⟨W, H⟩
 ·
  have Qa : (i == 5) = true := beq_iff_eq.mpr W
  have Ra : (i != 5) = false := bne_eq_false_iff_eq.mpr W
  clear W
  obtain ⟨rb, hy_⟩ : ∃ y_ : List (S99), y_ = (([] : List (S99))) := ⟨_, rfl⟩
  replace H : (some (rb, m, n)) = some (r1, r2, r3) := hm_
  have da := M_ hy_; clear hy_
  simp only [Option.some.injEq, Prod.mk.injEq] at H
  obtain ⟨rfl, rfl, rfl⟩ := H
  refine ⟨?_⟩
  go_wp2_with (first | ((with_reducible refine gd_ 50 rfl ?_); refine Kd.R_lit k99 _ 99 ?hg (N := 50) ?hd (xs := ([] : List (S99))) (inner := []) (ok := fun _ => True) (okp := fun _ => True) ?hr ?hp (fun _ hk => hk) trivial (Below.refl _ _) (Nat.le_refl _) (by simp) ?_; (case hd => rfl); (case hg => rfl); (case hr => first | (go_simp; done) | (go_simp; rfl)); (case hp => exact (Reps.none _ _)); intro Gb Wb z hb hg_ hnew_; clear hg_ hnew_; (first | rw [← da.1] at z | (simp only [Int.reduceToNat] at z; rw [← da.1] at z)); have Sa := M_ (Kd.R_lower (Kd.R_new' z (Kd.R_lt (rp_ a.1))) (ks_ HK)); replace a := M_ (Kd.R_elder' (rp_ a.1) (Kd.R_base z) hb); replace d := IsS102.bk_ d hb; replace HK := kt_ HK hb; replace l := st_ l hb; clear hb z))
  go_ret
  exact ⟨_, rr_, Kd.R_mono (rp_ Sa.1) (fun _ hk => trivial), IsS102.pk_ d.1, hs_ l.1, ku_ HK.1⟩
 have Qa : (i == 5) = false := beq_eq_false_iff_ne.mpr W
 have Ra : (i != 5) = true := bne_iff_ne.mpr W
 simp only [Option.some.injEq, Prod.mk.injEq] at H
 obtain ⟨rfl, rfl, rfl⟩ := H
 refine ⟨?_⟩
 go_wp2
 go_ret
 exact ⟨_, rr_, rp_ a.1, IsS102.pk_ d.1, hs_ l.1, ku_ HK.1⟩
def spec_l1Odd.f (b : List Int) (c : Int) (d : Int) : Option (Int × Int × Int) := (spec_l1Int.f b c d (([(-1), 0, 1, 2, 255, 256, 65535, 2147483647, 2147483648, 4294967295, 4294967296, (-2147483648), 9223372036854775807, (-9223372036854775808)] : List Int))).bind fun a => (some (a.1, a.2.1, a.2.2))
theorem spec_l1Odd.calls (g : Nat) (b : List Int) (i : Int) (j : Int) (u : Int) (v : Int) (x : Int) (n w : World) (hI : IsS102 n w g b i j) (hB : Below n.heap.size n w) (h : spec_l1Odd.f b i j = some (u, v, x)) :
  Calls Tryz.prog 149 #[.pointer (some ⟨g, 0, none⟩)] w fun e w' => e = .returned (.int .i64 u) ∧ IsS102 n w' g b v x ∧ Below n.heap.size n w' ∧ KeepBut w w' g none := by
 have c := M_ hI
 have HK := M_ (KeepBut.refl w g none)
 have HL := M_ hB.size
 clear hI
 have C := M_ hB.size
 have o := M_ hB
 clear hB
 unfold spec_l1Odd.f at h
 have H := h; clear h
 obtain ⟨k, hy_⟩ : ∃ y_ : List Int, y_ = (([(-1), 0, 1, 2, 255, 256, 65535, 2147483647, 2147483648, 4294967295, 4294967296, (-2147483648), 9223372036854775807, (-9223372036854775808)] : List Int)) := ⟨_, rfl⟩
 replace H : ((spec_l1Int.f b i j k).bind fun d => (some (d.1, d.2.1, d.2.2))) = some (u, v, x) := hm_
 have l := M_ hy_; clear hy_
 replace H := bi_ H; obtain ⟨⟨p, q, r⟩, D, H⟩ := H; (try dsimp only at H)
 simp only [Option.some.injEq, Prod.mk.injEq] at H
 obtain ⟨rfl, rfl, rfl⟩ := H
 go_enter Tryz.func149, Tryz.ntmps149
 go_wp2_with (first | ((with_reducible refine gd_ 4 rfl ?_); refine Kd.R_lit (Kd.int .i64) _ 3 ?hg (N := 4) ?hd (xs := ([(-1), 0, 1, 2, 255, 256, 65535, 2147483647, 2147483648, 4294967295, 4294967296, (-2147483648), 9223372036854775807, (-9223372036854775808)] : List Int)) (inner := [.int .i64 (-1), .int .i64 0, .int .i64 1, .int .i64 2, .int .i64 255, .int .i64 256, .int .i64 65535, .int .i64 2147483647, .int .i64 2147483648, .int .i64 4294967295, .int .i64 4294967296, .int .i64 (-2147483648), .int .i64 9223372036854775807, .int .i64 (-9223372036854775808)]) (ok := fun _ => True) (okp := fun _ => True) ?hr ?hp (fun _ hk => hk) trivial (Below.refl _ _) (Nat.le_refl _) (by simp) ?_; (case hd => rfl); (case hg => rfl); (case hr => first | (go_simp; done) | (go_simp; rfl)); (case hp => exact (Reps.one (show Kd.M (Kd.int .i64) _ _ _ (-1) [.int .i64 (-1)] from rfl) (Reps.one (show Kd.M (Kd.int .i64) _ _ _ 0 [.int .i64 0] from rfl) (Reps.one (show Kd.M (Kd.int .i64) _ _ _ 1 [.int .i64 1] from rfl) (Reps.one (show Kd.M (Kd.int .i64) _ _ _ 2 [.int .i64 2] from rfl) (Reps.one (show Kd.M (Kd.int .i64) _ _ _ 255 [.int .i64 255] from rfl) (Reps.one (show Kd.M (Kd.int .i64) _ _ _ 256 [.int .i64 256] from rfl) (Reps.one (show Kd.M (Kd.int .i64) _ _ _ 65535 [.int .i64 65535] from rfl) (Reps.one (show Kd.M (Kd.int .i64) _ _ _ 2147483647 [.int .i64 2147483647] from rfl) (Reps.one (show Kd.M (Kd.int .i64) _ _ _ 2147483648 [.int .i64 2147483648] from rfl) (Reps.one (show Kd.M (Kd.int .i64) _ _ _ 4294967295 [.int .i64 4294967295] from rfl) (Reps.one (show Kd.M (Kd.int .i64) _ _ _ 4294967296 [.int .i64 4294967296] from rfl) (Reps.one (show Kd.M (Kd.int .i64) _ _ _ (-2147483648) [.int .i64 (-2147483648)] from rfl) (Reps.one (show Kd.M (Kd.int .i64) _ _ _ 9223372036854775807 [.int .i64 9223372036854775807] from rfl) (Reps.one (show Kd.M (Kd.int .i64) _ _ _ (-9223372036854775808) [.int .i64 (-9223372036854775808)] from rfl) (Reps.none _ _)))))))))))))))); intro B E m hb hg_ hnew_; clear hg_ hnew_; (first | rw [← l.1] at m | (simp only [Int.reduceToNat] at m; rw [← l.1] at m)); have a := rl_ m HK; have s := IsS102.bk_ c hb; have n2_ := kt_ HK hb; have t := st_ o hb; clear c HK o; have c := s; have HK := n2_; have o := t; clear s n2_ t; clear hb m; obtain ⟨y, z, A⟩ := Kd.R_slice a.1; subst A) | ((with_reducible refine gate_callee (f := 66) rfl ?_); refine gl_ (some 5) Tryz.func66 #[.pointer (some ⟨g, 0, none⟩), .slice y k.length z] ?_; (with_reducible refine (spec_l1Int.calls g b i j _ _ k p q r n _ ?_ ?_ ?_ ?_ ?_ D.1).mono ?_); exact IsS102.pk_ c.1; exact hs_ o.1; exact cp_ ((Kd.R_reads' a.1).2.2); exact (Kd.R_reads' a.1).2.1; exact far_slice (IsS102.own_ne c.1 a.1 (by decide)); rintro e F ⟨rfl, hi, hb, hk⟩; refine ⟨_, rfl, ?_⟩; replace a := IsS102.rk_ c a hk; replace HK := kh_ HK hk; replace o := M_ (hb); replace c := M_ (hi); (try clear hb hk hi)))
 go_ret
 exact an_ ⟨IsS102.pk_ c.1, hs_ o.1, ku_ HK.1⟩
def spec_l1Raw.f (d : List Int) (e : Int) (g : Int) : Option (Int × Int × Int) := (spec_l1Once.f d e g 2).bind fun a => (if a.1 = true then ((spec_l1Odd.f d a.2.1 a.2.2).bind fun b => (some (b.1, b.2.1, b.2.2))) else ((spec_l1Int.f d a.2.1 a.2.2 (([(-1), 0, 1, 3, 99999, 100000] : List Int))).bind fun c => (some (c.1, c.2.1, c.2.2))))
theorem spec_l1Raw.calls (g : Nat) (c : List Int) (l : Int) (m : Int) (E : Int) (F : Int) (G : Int) (q w : World) (hI : IsS102 q w g c l m) (hB : Below q.heap.size q w) (h : spec_l1Raw.f c l m = some (E, F, G)) :
  Calls Tryz.prog 130 #[.pointer (some ⟨g, 0, none⟩)] w fun e w' => e = .returned (.int .i64 E) ∧ IsS102 q w' g c F G ∧ Below q.heap.size q w' ∧ KeepBut w w' g none := by
 have a := M_ hI
 have HK := M_ (KeepBut.refl w g none)
 have HL := M_ hB.size
 clear hI
 have J := M_ hB.size
 have n := M_ hB
 clear hB
 unfold spec_l1Raw.f at h
 have H := h; clear h
 replace H := bi_ H; obtain ⟨⟨r, j, k⟩, K, H⟩ := H; (try dsimp only at H)
 have AHz_ := M_ H
 clear H
 go_enter Tryz.func130, Tryz.ntmps130
 go_wp2_with (first | (((with_reducible refine gate_callee (f := 70) rfl ?_); refine gl_ (some 4) Tryz.func70 #[.pointer (some ⟨g, 0, none⟩), .int .i64 2] ?_; (with_reducible refine (spec_l1Once.calls g c l m 2 r j k q _ ?_ ?_ K.1).mono ?_); exact IsS102.pk_ a.1; exact hs_ n.1; rintro e Q ⟨rfl, hi, hb, hk⟩; refine ⟨_, rfl, ?_⟩; replace HK := kh_ HK hk; replace n := M_ (hb); replace a := M_ (hi); (try clear hb hk hi)); refine Aside0.out ?_))
 have H := AHz_.1
 clear AHz_
 replace H := ib_ H; rcases H with ⟨rfl, H⟩ | ⟨rfl, H⟩
 ·
  replace H := bi_ H; obtain ⟨⟨s, t, u⟩, L, H⟩ := H; (try dsimp only at H)
  simp only [Option.some.injEq, Prod.mk.injEq] at H
  obtain ⟨rfl, rfl, rfl⟩ := H
  refine ⟨?_⟩
  go_wp2_with (first | ((with_reducible refine gate_callee (f := 149) rfl ?_); refine gl_ (some 6) Tryz.func149 #[.pointer (some ⟨g, 0, none⟩)] ?_; (with_reducible refine (spec_l1Odd.calls g c j k s t u q _ ?_ ?_ L.1).mono ?_); exact IsS102.pk_ a.1; exact hs_ n.1; rintro e R ⟨rfl, hi, hb, hk⟩; refine ⟨_, rfl, ?_⟩; replace HK := kh_ HK hk; replace n := M_ (hb); replace a := M_ (hi); (try clear hb hk hi)))
  go_ret
  exact an_ ⟨IsS102.pk_ a.1, hs_ n.1, ku_ HK.1⟩
 obtain ⟨o, hy_⟩ : ∃ y_ : List Int, y_ = (([(-1), 0, 1, 3, 99999, 100000] : List Int)) := ⟨_, rfl⟩
 replace H : ((spec_l1Int.f c j k o).bind fun i => (some (i.1, i.2.1, i.2.2))) = some (E, F, G) := hm_
 have p := M_ hy_; clear hy_
 replace H := bi_ H; obtain ⟨⟨v, x, y⟩, O, H⟩ := H; (try dsimp only at H)
 simp only [Option.some.injEq, Prod.mk.injEq] at H
 obtain ⟨rfl, rfl, rfl⟩ := H
 refine ⟨?_⟩
 go_wp2_with (first | ((with_reducible refine gd_ 8 rfl ?_); refine Kd.R_lit (Kd.int .i64) _ 3 ?hg (N := 8) ?hd (xs := ([(-1), 0, 1, 3, 99999, 100000] : List Int)) (inner := [.int .i64 (-1), .int .i64 0, .int .i64 1, .int .i64 3, .int .i64 99999, .int .i64 100000]) (ok := fun _ => True) (okp := fun _ => True) ?hr ?hp (fun _ hk => hk) trivial (Below.refl _ _) (Nat.le_refl _) (by simp) ?_; (case hd => rfl); (case hg => rfl); (case hr => first | (go_simp; done) | (go_simp; rfl)); (case hp => exact (Reps.one (show Kd.M (Kd.int .i64) _ _ _ (-1) [.int .i64 (-1)] from rfl) (Reps.one (show Kd.M (Kd.int .i64) _ _ _ 0 [.int .i64 0] from rfl) (Reps.one (show Kd.M (Kd.int .i64) _ _ _ 1 [.int .i64 1] from rfl) (Reps.one (show Kd.M (Kd.int .i64) _ _ _ 3 [.int .i64 3] from rfl) (Reps.one (show Kd.M (Kd.int .i64) _ _ _ 99999 [.int .i64 99999] from rfl) (Reps.one (show Kd.M (Kd.int .i64) _ _ _ 100000 [.int .i64 100000] from rfl) (Reps.none _ _)))))))); intro I S d hb hg_ hnew_; clear hg_ hnew_; (first | rw [← p.1] at d | (simp only [Int.reduceToNat] at d; rw [← p.1] at d)); have b := rl_ d HK; have z := IsS102.bk_ a hb; have n2_ := kt_ HK hb; have A := st_ n hb; clear a HK n; have a := z; have HK := n2_; have n := A; clear z n2_ A; clear hb d; obtain ⟨B, C, D⟩ := Kd.R_slice b.1; subst D) | ((with_reducible refine gate_callee (f := 66) rfl ?_); refine gl_ (some 9) Tryz.func66 #[.pointer (some ⟨g, 0, none⟩), .slice B o.length C] ?_; (with_reducible refine (spec_l1Int.calls g c j k _ _ o v x y q _ ?_ ?_ ?_ ?_ ?_ O.1).mono ?_); exact IsS102.pk_ a.1; exact hs_ n.1; exact cp_ ((Kd.R_reads' b.1).2.2); exact (Kd.R_reads' b.1).2.1; exact far_slice (IsS102.own_ne a.1 b.1 (by decide)); rintro e P ⟨rfl, hi, hb, hk⟩; refine ⟨_, rfl, ?_⟩; replace b := IsS102.rk_ a b hk; replace HK := kh_ HK hk; replace n := M_ (hb); replace a := M_ (hi); (try clear hb hk hi)))
 go_ret
 exact an_ ⟨IsS102.pk_ a.1, hs_ n.1, ku_ HK.1⟩
def spec_l4Any.f (k : Nat) (c : List Int) (i : Int) (j : Int) : Option ((List (S99)) × Int × Int × ByteArray × Int × Int) := (spec_l4Draw.f k c i j).bind fun a => ((spec_l1Below.f c a.2.2.2.2.1 a.2.2.2.2.2 12).bind fun b => (if b.1 = 0 then ((spec_l2Any.f k c b.2.1 b.2.2).bind fun d => (some (d.1, a.2.1, a.2.2.1, a.2.2.2.1, d.2.1, d.2.2))) else (if b.1 = 1 then ((spec_l1Int.f c b.2.1 b.2.2 (([(-1), 99999, 100000] : List Int))).bind fun e => (some (a.1, e.1, a.2.2.1, a.2.2.2.1, e.2.1, e.2.2))) else (if b.1 = 2 then ((spec_l1Raw.f c b.2.1 b.2.2).bind fun g => (some (a.1, a.2.1, g.1, a.2.2.2.1, g.2.1, g.2.2))) else (if b.1 = 3 then ((spec_l1AnyPlain.f c b.2.1 b.2.2).bind fun h => (some (a.1, a.2.1, a.2.2.1, h.1, h.2.1, h.2.2))) else (some (a.1, a.2.1, a.2.2.1, a.2.2.2.1, b.2.1, b.2.2)))))))
theorem spec_l4Any.calls (k : Nat) (g : Nat) (j : List Int) (L : Int) (O : Int) (r1 : List (S99)) (r2 : Int) (r3 : Int) (r4 : ByteArray) (r5 : Int) (r6 : Int) (D w : World) (hI : IsS102 D w g j L O) (hB : Below D.heap.size D w) (h : spec_l4Any.f k j L O = some (r1, r2, r3, r4, r5, r6)) :
  Calls Tryz.prog 115 #[.pointer (some ⟨g, 0, none⟩)] w fun e w' => ∃ v0_ : Value, e = .returned (.agg #[v0_, .int .i64 r2, .int .i64 r3, .string r4]) ∧ Kd.R k99 99 w' w.heap.size (fun _ => True) v0_ r1 ∧ IsS102 D w' g j r5 r6 ∧ Below D.heap.size D w' ∧ KeepBut w w' g none := by
 have hu29 := Tryz.underlying29
 have d := M_ hI
 have HK := M_ (KeepBut.refl w g none)
 have HL := M_ hB.size
 clear hI
 have ma := M_ hB.size
 have u := M_ hB
 clear hB
 unfold spec_l4Any.f at h
 have H := h; clear h
 replace H := bi_ H; obtain ⟨⟨m, r, n, o, y, z⟩, A2, H⟩ := H; (try dsimp only at H)
 replace H := bi_ H; obtain ⟨⟨i, s, t⟩, A3, H⟩ := H; (try dsimp only at H)
 have AHz_ := M_ H
 clear H
 go_enter Tryz.func115, Tryz.ntmps115
 go_wp2_with (first | ((with_reducible refine gd_ 2 rfl ?_); refine bV_ 2 #[.slice none 0 0, .int .i64 0, .int .i64 0, .string (⟨#[]⟩ : ByteArray)] 29 ?_; intro l hg w6 a hb; replace u := st_ u hb; have ca := Ge_.mk ((by rw [hg]; exact (ks_ HK) : w.heap.size ≤ l)); replace HK := kt_ HK hb; have Ia := gt_ ma ca; have P := IsS102.nl_ d hg; replace d := IsS102.bk_ d hb; have q := ns_ P; clear hb hg) | ((with_reducible refine gate_callee (f := 52) rfl ?_); refine gl_ (some 5) Tryz.func52 #[.pointer (some ⟨g, 0, none⟩)] ?_; (with_reducible refine (spec_l4Draw.calls k g j L O m r n o y z D _ ?_ ?_ A2.1).mono ?_); exact IsS102.pk_ d.1; exact hs_ u.1; rintro e w7 ⟨Gc, rfl, G, hi, hb, hk⟩; refine ⟨_, rfl, ?_⟩; replace a := kb_ hk a; have c := rl_ G HK; replace HK := kh_ HK hk; replace u := M_ (hb); replace d := M_ (hi); (try clear hb hk hi G)) | (((with_reducible refine gd_ 3 rfl ?_); refine bV_ 3 #[.slice none 0 0, .int .i64 0, .int .i64 0, .string (⟨#[]⟩ : ByteArray)] 29 ?_; intro x hg w8 b hb; obtain ⟨c, u⟩ := u2_ hb c u; have da := Ge_.mk ((by rw [hg]; exact (ks_ HK) : w.heap.size ≤ x)); replace HK := kt_ HK hb; have Ja := gt_ ma da; obtain ⟨ea, E, a⟩ := nb_ a hg hb; have Q := IsS102.nl_ d hg; replace d := IsS102.bk_ d hb; have S := ns_ Q; clear hb hg; obtain ⟨A, B, Ka⟩ := Kd.R_slice c.1; subst Ka; have La := n2_ E; have Ma := n2_ S; obtain ⟨Na, Oa, Pa, Qa, Ra, Sa, Ta, Ua⟩ := bc4_ b.1); refine Aside0.out ?_))
 have H := AHz_.1
 clear AHz_
 replace H := ie_ H; rcases H with ⟨c4, H⟩ | ⟨c4, H⟩
 ·
  have oa : (i == 0) = true := beq_iff_eq.mpr c4
  have pa : (i != 0) = false := bne_eq_false_iff_eq.mpr c4
  clear c4
  replace H := bi_ H; obtain ⟨⟨T, qa, ra⟩, A5, H⟩ := H; (try dsimp only at H)
  simp only [Option.some.injEq, Prod.mk.injEq] at H
  obtain ⟨rfl, rfl, rfl, rfl, rfl, rfl⟩ := H
  refine ⟨?_⟩
  go_wp2_with (first | ((with_reducible refine gate_callee (f := 69) rfl ?_); refine gl_ (some 7) Tryz.func69 #[.pointer (some ⟨g, 0, none⟩), .int .i64 12] ?_; (with_reducible refine (spec_l1Below.calls g j y z 12 i s t D _ ?_ ?_ A3.1).mono ?_); exact IsS102.pk_ d.1; exact hs_ u.1; rintro e Lc ⟨rfl, hi, hb, hk⟩; refine ⟨_, rfl, ?_⟩; replace a := kc_ hk a #[.slice none 0 0, .int .i64 0, .int .i64 0, .string (⟨#[]⟩ : ByteArray)]; replace c := M_ (Kd.R_mono (Kd.R_keep (IsS102.apart (IsS102.pk_ d.1) (ry_ c.1 b.1) (by decide)) hk (fun _ h => h.2)) (fun _ h => h.1)); replace b := kc_ hk b #[.slice A m.length B, .int .i64 r, .int .i64 n, .string o]; replace HK := kh_ HK hk; replace u := M_ (hb); replace d := M_ (hi); (try clear hb hk hi)) | ((with_reducible refine gate_callee (f := 129) rfl ?_); refine gl_ (some 11) Tryz.func129 #[.pointer (some ⟨g, 0, none⟩)] ?_; (with_reducible refine (spec_l2Any.calls k g j s t T qa ra D _ ?_ ?_ A5.1).mono ?_); exact IsS102.pk_ d.1; exact hs_ u.1; rintro e Mc ⟨Hc, rfl, G, hi, hb, hk⟩; refine ⟨_, rfl, ?_⟩; replace a := kb_ hk a; replace b := kb_ hk b; have U := M_ (Kd.R_lower (Kd.R_new' G (Kd.R_lt (rp_ c.1))) (ks_ HK)); replace c := M_ (Kd.R_mono (Kd.R_told (Kd.R_oldK (IsS102.apart (IsS102.pk_ d.1) (rp_ c.1) (by decide)) hk) (Kd.R_base G)) (fun _ h_ => h_.1)); replace HK := kh_ HK hk; replace u := M_ (hb); replace d := M_ (hi); (try clear hb hk hi G); obtain ⟨aa, ba, sa⟩ := Kd.R_slice U.1; subst sa; obtain ⟨Va, Wa, Xa, Ya, Za, ab, bb, cb⟩ := bc4_ b.1; have db := n2_ q; obtain ⟨eb, fb, gb, ib, jb, kb, lb, mb⟩ := bc4_ a.1))
  refine bodyPost_ret (results_cell_row rfl _ _ l 29 #[.slice aa T.length ba, .int .i64 r, .int .i64 n, .string o] (0, 0) _ rfl (bp_ a.1) Tryz.underlying29 rfl (by kernel_rfl)) rfl ?_
  exact ⟨_, rr_, Kd.R_mono (rf_ l (Kd.R_far (p := ⟨x, 0, none⟩) (Kd.R_types (Kd.R_types U.1 b.1 (by decide)) a.1 (by decide)) (fun _ hk => hk.1.2) (.slice aa T.length ba)) (fun _ hk => hk.2)) (fun _ hk => trivial), IsS102.pk_ d.1, hs_ u.1, ku_ HK.1⟩
 have oa : (i == 0) = false := beq_eq_false_iff_ne.mpr c4
 have pa : (i != 0) = true := bne_iff_ne.mpr c4
 replace H := ie_ H; rcases H with ⟨I, H⟩ | ⟨I, H⟩
 ·
  have fa : (i == 1) = true := beq_iff_eq.mpr I
  have ga : (i != 1) = false := bne_eq_false_iff_eq.mpr I
  clear I
  obtain ⟨V, hy_⟩ : ∃ y_ : List Int, y_ = (([(-1), 99999, 100000] : List Int)) := ⟨_, rfl⟩
  replace H : ((spec_l1Int.f j s t V).bind fun F => (some (m, F.1, n, o, F.2.1, F.2.2))) = some (r1, r2, r3, r4, r5, r6) := hm_
  have W := M_ hy_; clear hy_
  replace H := bi_ H; obtain ⟨⟨X, ta, ua⟩, nb, H⟩ := H; (try dsimp only at H)
  simp only [Option.some.injEq, Prod.mk.injEq] at H
  obtain ⟨rfl, rfl, rfl, rfl, rfl, rfl⟩ := H
  refine ⟨?_⟩
  go_wp2_with (first | ((with_reducible refine gate_callee (f := 69) rfl ?_); refine gl_ (some 7) Tryz.func69 #[.pointer (some ⟨g, 0, none⟩), .int .i64 12] ?_; (with_reducible refine (spec_l1Below.calls g j y z 12 i s t D _ ?_ ?_ A3.1).mono ?_); exact IsS102.pk_ d.1; exact hs_ u.1; rintro e Nc ⟨rfl, hi, hb, hk⟩; refine ⟨_, rfl, ?_⟩; replace a := kc_ hk a #[.slice none 0 0, .int .i64 0, .int .i64 0, .string (⟨#[]⟩ : ByteArray)]; replace c := M_ (Kd.R_mono (Kd.R_keep (IsS102.apart (IsS102.pk_ d.1) (ry_ c.1 b.1) (by decide)) hk (fun _ h => h.2)) (fun _ h => h.1)); replace b := kc_ hk b #[.slice A m.length B, .int .i64 r, .int .i64 n, .string o]; replace HK := kh_ HK hk; replace u := M_ (hb); replace d := M_ (hi); (try clear hb hk hi)) | ((with_reducible refine gd_ 16 rfl ?_); refine Kd.R_lit (Kd.int .i64) _ 3 ?hg (N := 16) ?hd (xs := ([(-1), 99999, 100000] : List Int)) (inner := [.int .i64 (-1), .int .i64 99999, .int .i64 100000]) (ok := fun _ => True) (okp := fun _ => True) ?hr ?hp (fun _ hk => hk) trivial (Below.refl _ _) (Nat.le_refl _) (by simp) ?_; (case hd => rfl); (case hg => rfl); (case hr => first | (go_simp; done) | (go_simp; rfl)); (case hp => exact (Reps.one (show Kd.M (Kd.int .i64) _ _ _ (-1) [.int .i64 (-1)] from rfl) (Reps.one (show Kd.M (Kd.int .i64) _ _ _ 99999 [.int .i64 99999] from rfl) (Reps.one (show Kd.M (Kd.int .i64) _ _ _ 100000 [.int .i64 100000] from rfl) (Reps.none _ _))))); intro Ic Oc C hb hg_ hnew_; clear hg_ hnew_; (first | rw [← W.1] at C | (simp only [Int.reduceToNat] at C; rw [← W.1] at C)); replace c := rb_ c hb; have v := rl_ C HK; replace d := IsS102.bk_ d hb; obtain ⟨a, b⟩ := u2_ hb a b; replace HK := kt_ HK hb; replace u := st_ u hb; clear hb C; obtain ⟨va, wa, xa⟩ := Kd.R_slice v.1; subst xa) | ((with_reducible refine gate_callee (f := 66) rfl ?_); refine gl_ (some 17) Tryz.func66 #[.pointer (some ⟨g, 0, none⟩), .slice va V.length wa] ?_; (with_reducible refine (spec_l1Int.calls g j s t _ _ V X ta ua D _ ?_ ?_ ?_ ?_ ?_ nb.1).mono ?_); exact IsS102.pk_ d.1; exact hs_ u.1; exact cp_ ((Kd.R_reads' v.1).2.2); exact (Kd.R_reads' v.1).2.1; exact far_slice (IsS102.own_ne d.1 v.1 (by decide)); rintro e Pc ⟨rfl, hi, hb, hk⟩; refine ⟨_, rfl, ?_⟩; replace a := kb_ hk a; replace c := IsS102.rk_ d c hk; replace b := kb_ hk b; replace v := IsS102.rk_ d v hk; replace HK := kh_ HK hk; replace u := M_ (hb); replace d := M_ (hi); (try clear hb hk hi); obtain ⟨ob, pb, qb, rb, sb, tb, ub, vb⟩ := bc4_ b.1; have wb := n2_ q; obtain ⟨xb, yb, zb, Ab, Bb, Cb, Db, Eb⟩ := bc4_ a.1))
  refine bodyPost_ret (results_cell_row rfl _ _ l 29 #[.slice A m.length B, .int .i64 X, .int .i64 n, .string o] (0, 0) _ rfl (bp_ a.1) Tryz.underlying29 rfl (by kernel_rfl)) rfl ?_
  exact ⟨_, rr_, Kd.R_mono (rf_ l (Kd.R_far (p := ⟨x, 1, none⟩) (Kd.R_types (Kd.R_types c.1 b.1 (by decide)) a.1 (by decide)) (fun _ hk => hk.1.2) (.int .i64 X)) (fun _ hk => hk.2)) (fun _ hk => trivial), IsS102.pk_ d.1, hs_ u.1, ku_ HK.1⟩
 have fa : (i == 1) = false := beq_eq_false_iff_ne.mpr I
 have ga : (i != 1) = true := bne_iff_ne.mpr I
 replace H := ie_ H; rcases H with ⟨J, H⟩ | ⟨J, H⟩
 ·
  have ha : (i == 2) = true := beq_iff_eq.mpr J
  have ia : (i != 2) = false := bne_eq_false_iff_eq.mpr J
  clear J
  replace H := bi_ H; obtain ⟨⟨Y, ya, za⟩, Fb, H⟩ := H; (try dsimp only at H)
  simp only [Option.some.injEq, Prod.mk.injEq] at H
  obtain ⟨rfl, rfl, rfl, rfl, rfl, rfl⟩ := H
  refine ⟨?_⟩
  go_wp2_with (first | ((with_reducible refine gate_callee (f := 69) rfl ?_); refine gl_ (some 7) Tryz.func69 #[.pointer (some ⟨g, 0, none⟩), .int .i64 12] ?_; (with_reducible refine (spec_l1Below.calls g j y z 12 i s t D _ ?_ ?_ A3.1).mono ?_); exact IsS102.pk_ d.1; exact hs_ u.1; rintro e Qc ⟨rfl, hi, hb, hk⟩; refine ⟨_, rfl, ?_⟩; replace a := kc_ hk a #[.slice none 0 0, .int .i64 0, .int .i64 0, .string (⟨#[]⟩ : ByteArray)]; replace c := M_ (Kd.R_mono (Kd.R_keep (IsS102.apart (IsS102.pk_ d.1) (ry_ c.1 b.1) (by decide)) hk (fun _ h => h.2)) (fun _ h => h.1)); replace b := kc_ hk b #[.slice A m.length B, .int .i64 r, .int .i64 n, .string o]; replace HK := kh_ HK hk; replace u := M_ (hb); replace d := M_ (hi); (try clear hb hk hi)) | ((with_reducible refine gate_callee (f := 130) rfl ?_); refine gl_ (some 22) Tryz.func130 #[.pointer (some ⟨g, 0, none⟩)] ?_; (with_reducible refine (spec_l1Raw.calls g j s t Y ya za D _ ?_ ?_ Fb.1).mono ?_); exact IsS102.pk_ d.1; exact hs_ u.1; rintro e Rc ⟨rfl, hi, hb, hk⟩; refine ⟨_, rfl, ?_⟩; replace a := kb_ hk a; replace c := IsS102.rk_ d c hk; replace b := kb_ hk b; replace HK := kh_ HK hk; replace u := M_ (hb); replace d := M_ (hi); (try clear hb hk hi); obtain ⟨Gb, Hb, Ib, Jb, Kb, Lb, Mb, Nb⟩ := bc4_ b.1; have Ob := n2_ q; obtain ⟨Pb, Qb, Rb, Sb, Tb, Ub, Vb, Wb⟩ := bc4_ a.1))
  refine bodyPost_ret (results_cell_row rfl _ _ l 29 #[.slice A m.length B, .int .i64 r, .int .i64 Y, .string o] (0, 0) _ rfl (bp_ a.1) Tryz.underlying29 rfl (by kernel_rfl)) rfl ?_
  exact ⟨_, rr_, Kd.R_mono (rf_ l (Kd.R_far (p := ⟨x, 2, none⟩) (Kd.R_types (Kd.R_types c.1 b.1 (by decide)) a.1 (by decide)) (fun _ hk => hk.1.2) (.int .i64 Y)) (fun _ hk => hk.2)) (fun _ hk => trivial), IsS102.pk_ d.1, hs_ u.1, ku_ HK.1⟩
 have ha : (i == 2) = false := beq_eq_false_iff_ne.mpr J
 have ia : (i != 2) = true := bne_iff_ne.mpr J
 replace H := ie_ H; rcases H with ⟨K, H⟩ | ⟨K, H⟩
 ·
  have ja : (i == 3) = true := beq_iff_eq.mpr K
  have ka : (i != 3) = false := bne_eq_false_iff_eq.mpr K
  clear K
  replace H := bi_ H; obtain ⟨⟨Z, Aa, Ba⟩, Xb, H⟩ := H; (try dsimp only at H)
  simp only [Option.some.injEq, Prod.mk.injEq] at H
  obtain ⟨rfl, rfl, rfl, rfl, rfl, rfl⟩ := H
  refine ⟨?_⟩
  go_wp2_with (first | ((with_reducible refine gate_callee (f := 69) rfl ?_); refine gl_ (some 7) Tryz.func69 #[.pointer (some ⟨g, 0, none⟩), .int .i64 12] ?_; (with_reducible refine (spec_l1Below.calls g j y z 12 i s t D _ ?_ ?_ A3.1).mono ?_); exact IsS102.pk_ d.1; exact hs_ u.1; rintro e Sc ⟨rfl, hi, hb, hk⟩; refine ⟨_, rfl, ?_⟩; replace a := kc_ hk a #[.slice none 0 0, .int .i64 0, .int .i64 0, .string (⟨#[]⟩ : ByteArray)]; replace c := M_ (Kd.R_mono (Kd.R_keep (IsS102.apart (IsS102.pk_ d.1) (ry_ c.1 b.1) (by decide)) hk (fun _ h => h.2)) (fun _ h => h.1)); replace b := kc_ hk b #[.slice A m.length B, .int .i64 r, .int .i64 n, .string o]; replace HK := kh_ HK hk; replace u := M_ (hb); replace d := M_ (hi); (try clear hb hk hi)) | ((with_reducible refine gate_callee (f := 131) rfl ?_); refine gl_ (some 27) Tryz.func131 #[.pointer (some ⟨g, 0, none⟩)] ?_; (with_reducible refine (spec_l1AnyPlain.calls g j s t Z Aa Ba D _ ?_ ?_ Xb.1).mono ?_); exact IsS102.pk_ d.1; exact hs_ u.1; rintro e Tc ⟨rfl, hi, hb, hk⟩; refine ⟨_, rfl, ?_⟩; replace a := kb_ hk a; replace c := IsS102.rk_ d c hk; replace b := kb_ hk b; replace HK := kh_ HK hk; replace u := M_ (hb); replace d := M_ (hi); (try clear hb hk hi); obtain ⟨Yb, Zb, ac, bc, cc, dc, ec, fc⟩ := bc4_ b.1; have gc := n2_ q; obtain ⟨hc, ic, jc, kc, lc, mc, nc, oc⟩ := bc4_ a.1))
  refine bodyPost_ret (results_cell_row rfl _ _ l 29 #[.slice A m.length B, .int .i64 r, .int .i64 n, .string Z] (0, 0) _ rfl (bp_ a.1) Tryz.underlying29 rfl (by kernel_rfl)) rfl ?_
  exact ⟨_, rr_, Kd.R_mono (rf_ l (Kd.R_far (p := ⟨x, 3, none⟩) (Kd.R_types (Kd.R_types c.1 b.1 (by decide)) a.1 (by decide)) (fun _ hk => hk.1.2) (.string Z)) (fun _ hk => hk.2)) (fun _ hk => trivial), IsS102.pk_ d.1, hs_ u.1, ku_ HK.1⟩
 have ja : (i == 3) = false := beq_eq_false_iff_ne.mpr K
 have ka : (i != 3) = true := bne_iff_ne.mpr K
 simp only [Option.some.injEq, Prod.mk.injEq] at H
 obtain ⟨rfl, rfl, rfl, rfl, rfl, rfl⟩ := H
 refine ⟨?_⟩
 go_wp2_with (first | ((with_reducible refine gate_callee (f := 69) rfl ?_); refine gl_ (some 7) Tryz.func69 #[.pointer (some ⟨g, 0, none⟩), .int .i64 12] ?_; (with_reducible refine (spec_l1Below.calls g j y z 12 i s t D _ ?_ ?_ A3.1).mono ?_); exact IsS102.pk_ d.1; exact hs_ u.1; rintro e Uc ⟨rfl, hi, hb, hk⟩; refine ⟨_, rfl, ?_⟩; replace a := kc_ hk a #[.slice none 0 0, .int .i64 0, .int .i64 0, .string (⟨#[]⟩ : ByteArray)]; replace c := M_ (Kd.R_mono (Kd.R_keep (IsS102.apart (IsS102.pk_ d.1) (ry_ c.1 b.1) (by decide)) hk (fun _ h => h.2)) (fun _ h => h.1)); replace b := kc_ hk b #[.slice A m.length B, .int .i64 r, .int .i64 n, .string o]; replace HK := kh_ HK hk; replace u := M_ (hb); replace d := M_ (hi); (try clear hb hk hi); obtain ⟨pc, qc, rc, sc, tc, uc, vc, wc⟩ := bc4_ b.1; have xc := n2_ q; obtain ⟨yc, zc, Ac, Bc, Cc, Dc, Ec, Fc⟩ := bc4_ a.1))
 refine bodyPost_ret (results_cell_row rfl _ _ l 29 #[.slice A m.length B, .int .i64 r, .int .i64 n, .string o] (0, 0) _ rfl (bp_ a.1) Tryz.underlying29 rfl (by kernel_rfl)) rfl ?_
 exact ⟨_, rr_, Kd.R_mono (ry_ c.1 a.1) (fun _ hk => trivial), IsS102.pk_ d.1, hs_ u.1, ku_ HK.1⟩
def spec_l6Any.f (k : Nat) (g : List Int) (h : Int) (i : Int) : Option (Int × (List (S29)) × Int × Int) := (spec_l6Draw.f k g h i).bind fun a => ((spec_l1Below.f g a.2.2.1 a.2.2.2 8).bind fun b => (if b.1 = 0 then ((spec_l1Below.f g b.2.1 b.2.2 33).bind fun e => (some (e.1, a.2.1, e.2.1, e.2.2))) else (if b.1 = 1 then ((spec_l4Any.f k g b.2.1 b.2.2).bind fun c => (if a.2.1.length < 2513169434916 then (some (a.1, (a.2.1 ++ [(⟨c.1, c.2.1, c.2.2.1, c.2.2.2.1⟩ : S29)]), c.2.2.2.2.1, c.2.2.2.2.2)) else (none))) else (if b.1 = 2 then (if 0 < (a.2.1.length : Int) then ((spec_l4Copy.f ((rd_T29 a.2.1 0).f0) ((rd_T29 a.2.1 0).f1) ((rd_T29 a.2.1 0).f2) ((rd_T29 a.2.1 0).f3)).bind fun d => (if a.2.1.length < 2513169434916 then (some (a.1, (a.2.1 ++ [(⟨d.1, d.2.1, d.2.2.1, d.2.2.2⟩ : S29)]), b.2.1, b.2.2)) else (none))) else (none)) else (if b.1 = 3 then (some (a.1, (([] : List (S29))), b.2.1, b.2.2)) else (some (a.1, a.2.1, b.2.1, b.2.2)))))))
def spec_l6Any.T6 : Bool × List (List Nat × List Nat) := (true, [([], []), ([0], [0]), ([], []), ([2], [2]), ([3], [3]), ([1, 4, 3], [1, 4]), ([0, 1, 2, 3, 4, 5], []), ([6, 5, 5, 0, 1, 2, 3, 4, 5], [5, 6])])
def spec_l6Any.B6 : List Nat := [0, 1, 0, 4, 12, 31, 63, 127]
theorem spec_l6Any.tab6 : rtab .any (opsOf Tryz.f91 6) = spec_l6Any.T6 := by kernel_rfl
theorem spec_l6Any.bits6 : waitsOk spec_l6Any.T6.2 spec_l6Any.B6 = true := by kernel_rfl
def spec_l6Any.T8 : Bool × List (List Nat × List Nat) := (true, [([], []), ([0], [0]), ([], []), ([2], [2]), ([3], [3]), ([4], [4]), ([5], [5]), ([6], [6]), ([1, 7, 6], [1, 7]), ([0, 1, 2, 3, 4, 5, 6, 7, 8], []), ([9, 8, 8, 0, 1, 2, 3, 4, 5, 6, 7, 8], [8, 9])])
def spec_l6Any.B8 : List Nat := [0, 1, 0, 4, 12, 28, 60, 124, 255, 511, 1023]
theorem spec_l6Any.tab8 : rtab .any (opsOf Tryz.f91 8) = spec_l6Any.T8 := by kernel_rfl
theorem spec_l6Any.bits8 : waitsOk spec_l6Any.T8.2 spec_l6Any.B8 = true := by kernel_rfl
theorem spec_l6Any.calls (k : Nat) (g : Nat) (B : List Int) (ra : Int) (sa : Int) (r1 : Int) (r2 : List (S29)) (r3 : Int) (r4 : Int) (w0 w : World) (hI : IsS102 w0 w g B ra sa) (hB : Below w0.heap.size w0 w) (h : spec_l6Any.f k B ra sa = some (r1, r2, r3, r4)) :
  Calls Tryz.prog 91 #[.pointer (some ⟨g, 0, none⟩)] w fun e w' => ∃ v1_ : Value, e = .returned (.agg #[.int .i64 r1, v1_]) ∧ Kd.S k29 29 w' w.heap.size (fun _ => True) v1_ r2 ∧ IsS102 w0 w' g B r3 r4 ∧ Below w0.heap.size w0 w' ∧ KeepBut w w' g none := by
 have hu80 := Tryz.underlying80
 have hu29 := Tryz.underlying29
 have j := M_ hI
 have HK := M_ (KeepBut.refl w g none)
 have HL := M_ hB.size
 clear hI
 have qb := M_ hB.size
 have z := M_ hB
 clear hB
 unfold spec_l6Any.f at h
 have H := h; clear h
 replace H := bi_ H; obtain ⟨⟨q, d, T, U⟩, A2, H⟩ := H; (try dsimp only at H)
 replace H := bi_ H; obtain ⟨⟨l, J, L⟩, A3, H⟩ := H; (try dsimp only at H)
 have AHz_ := M_ H
 clear H
 go_enter Tryz.func91, Tryz.ntmps91
 go_wp2_with (first | ((with_reducible refine gd_ 2 rfl ?_); refine bV_ 2 #[.int .i64 0, .slice none 0 0] 80 ?_; intro t hg w6 b hb; replace z := st_ z hb; have Ya := Ge_.mk ((by rw [hg]; exact (ks_ HK) : w.heap.size ≤ t)); replace HK := kt_ HK hb; have Jb := gt_ qb Ya; have ta := IsS102.nl_ j hg; replace j := IsS102.bk_ j hb; have C := ns_ ta; clear hb hg) | ((with_reducible refine gate_callee (f := 114) rfl ?_); refine gl_ (some 5) Tryz.func114 #[.pointer (some ⟨g, 0, none⟩)] ?_; (with_reducible refine (spec_l6Draw.calls k g B ra sa q d T U w0 _ ?_ ?_ A2.1).mono ?_); exact IsS102.pk_ j.1; exact hs_ z.1; rintro e w7 ⟨Uc, rfl, M, hi, hb, hk⟩; refine ⟨_, rfl, ?_⟩; replace b := kb_ hk b; have c := sl_ M HK; replace HK := kh_ HK hk; replace z := M_ (hb); replace j := M_ (hi); (try clear hb hk hi M)) | (((with_reducible refine gd_ 3 rfl ?_); refine bV_ 3 #[.int .i64 0, .slice none 0 0] 80 ?_; intro r hg w8 a hb; obtain ⟨c, z⟩ := u2_ hb c z; have Za := Ge_.mk ((by rw [hg]; exact (ks_ HK) : w.heap.size ≤ r)); replace HK := kt_ HK hb; have Kb := gt_ qb Za; obtain ⟨O, I, b⟩ := nb_ b hg hb; have ua := IsS102.nl_ j hg; replace j := IsS102.bk_ j hb; have va := ns_ ua; clear hb hg; have Vc := n2_ I; have Lb := n2_ va; obtain ⟨Mb, Nb, Ob, Pb⟩ := bc2_ a.1; obtain ⟨A, m, sb⟩ := Kd.S_slice c.1; subst sb); refine Aside0.out ?_))
 have H := AHz_.1
 clear AHz_
 replace H := ie_ H; rcases H with ⟨c4, H⟩ | ⟨c4, H⟩
 ·
  have tb : (l == 0) = true := beq_iff_eq.mpr c4
  have ub : (l != 0) = false := bne_eq_false_iff_eq.mpr c4
  clear c4
  replace H := bi_ H; obtain ⟨⟨wa, vb, wb⟩, A5, H⟩ := H; (try dsimp only at H)
  simp only [Option.some.injEq, Prod.mk.injEq] at H
  obtain ⟨rfl, rfl, rfl, rfl⟩ := H
  refine ⟨?_⟩
  go_wp2_with (first | ((with_reducible refine gate_callee (f := 69) rfl ?_); refine gl_ (some 7) Tryz.func69 #[.pointer (some ⟨g, 0, none⟩), .int .i64 8] ?_; (with_reducible refine (spec_l1Below.calls g B T U 8 l J L w0 _ ?_ ?_ A3.1).mono ?_); exact IsS102.pk_ j.1; exact hs_ z.1; rintro e fd ⟨rfl, hi, hb, hk⟩; refine ⟨_, rfl, ?_⟩; replace b := kc_ hk b #[.int .i64 0, .slice none 0 0]; replace c := M_ (Kd.S_mono (Kd.S_keep (IsS102.apartS (IsS102.pk_ j.1) (sy_ c.1 a.1) (by decide)) hk (fun _ h => h.2)) (fun _ h => h.1)); replace a := kc_ hk a #[.int .i64 q, .slice A d.length m]; replace HK := kh_ HK hk; replace z := M_ (hb); replace j := M_ (hi); (try clear hb hk hi)) | ((with_reducible refine gate_callee (f := 69) rfl ?_); refine gl_ (some 11) Tryz.func69 #[.pointer (some ⟨g, 0, none⟩), .int .i64 33] ?_; (with_reducible refine (spec_l1Below.calls g B J L 33 wa vb wb w0 _ ?_ ?_ A5.1).mono ?_); exact IsS102.pk_ j.1; exact hs_ z.1; rintro e gd ⟨rfl, hi, hb, hk⟩; refine ⟨_, rfl, ?_⟩; replace b := kb_ hk b; replace c := IsS102.sk_ j c hk; replace a := kb_ hk a; replace HK := kh_ HK hk; replace z := M_ (hb); replace j := M_ (hi); (try clear hb hk hi); obtain ⟨Qb, Rb, Sb, Tb⟩ := bc2_ a.1; have Ub := n2_ C; obtain ⟨Vb, Wb, Xb, Yb⟩ := bc2_ b.1))
  refine bodyPost_ret (results_cell_row rfl _ _ t 80 #[.int .i64 wa, .slice A d.length m] (0, 0) _ rfl (bp_ b.1) Tryz.underlying80 rfl (by kernel_rfl)) rfl ?_
  exact ⟨_, rr_, Kd.S_mono (sf_ t (Kd.S_far (p := ⟨r, 0, none⟩) (Kd.S_types (Kd.S_types c.1 a.1 (by decide)) b.1 (by decide)) (fun _ hk => hk.1.2) (.int .i64 wa)) (fun _ hk => hk.2)) (fun _ hk => trivial), IsS102.pk_ j.1, hs_ z.1, ku_ HK.1⟩
 have tb : (l == 0) = false := beq_eq_false_iff_ne.mpr c4
 have ub : (l != 0) = true := bne_iff_ne.mpr c4
 replace H := ie_ H; rcases H with ⟨oa, H⟩ | ⟨oa, H⟩
 ·
  have ab : (l == 1) = true := beq_iff_eq.mpr oa
  have bb : (l != 1) = false := bne_eq_false_iff_eq.mpr oa
  clear oa
  replace H := bi_ H; obtain ⟨⟨V, aa, ba, ca, Ka, La⟩, Zb, H⟩ := H; (try dsimp only at H)
  replace H := im_ H; obtain ⟨cb, H⟩ := H
  obtain ⟨xa, hy_⟩ : ∃ y_ : List (S29), y_ = (d ++ [(⟨V, aa, ba, ca⟩ : S29)]) := ⟨_, rfl⟩
  replace H : (some (q, xa, Ka, La)) = some (r1, r2, r3, r4) := hm_
  have db := M_ hy_; clear hy_
  simp only [Option.some.injEq, Prod.mk.injEq] at H
  obtain ⟨rfl, rfl, rfl, rfl⟩ := H
  refine ⟨?_⟩
  try go_wp2_with (first | ((with_reducible refine gate_callee (f := 69) rfl ?_); refine gl_ (some 7) Tryz.func69 #[.pointer (some ⟨g, 0, none⟩), .int .i64 8] ?_; (with_reducible refine (spec_l1Below.calls g B T U 8 l J L w0 _ ?_ ?_ A3.1).mono ?_); exact IsS102.pk_ j.1; exact hs_ z.1; rintro e ac ⟨rfl, hi, hb, hk⟩; refine ⟨_, rfl, ?_⟩; replace b := kc_ hk b #[.int .i64 0, .slice none 0 0]; replace c := M_ (Kd.S_mono (Kd.S_keep (IsS102.apartS (IsS102.pk_ j.1) (sy_ c.1 a.1) (by decide)) hk (fun _ h => h.2)) (fun _ h => h.1)); replace a := kc_ hk a #[.int .i64 q, .slice A d.length m]; replace HK := kh_ HK hk; replace z := M_ (hb); replace j := M_ (hi); (try clear hb hk hi)))
  obtain ⟨c, b, a⟩ := y3_ c b a
  replace j := M_ (IsS102.drew j.1)
  replace HK := M_ (keep_drew HK.1)
  replace z := db_ z
  refine start_ (n := 8) (S := fun w' => c_ w' r 0 (.int .i64 q) ∧ c_ w' r 1 (.slice A d.length m)) (ds := [7]) (b_ 0 8) (by kernel_rfl) rfl rfl (e2_ a.1) (fun i => ?_); refine with_tabW spec_l6Any.tab6 spec_l6Any.bits6 (fun s ya => ?_)
  generalize ac.drew = jd at c b a j HK z i ⊢
  refine p_ s ?_
  refine qw_ 2 (m_ 8 5) s ?_
  refine qt_ 1 (b_ 3 5) s ya i ?_
  refine o1_ 3 (b_ 4 4) s (fun K Z => ?_)
  refine gs_ Tryz.func115 #[.pointer (some ⟨g, 0, none⟩)] ?_
  with_reducible refine (spec_l4Any.calls k g B J L V aa ba ca Ka La w0 _ ?_ ?_ Zb.1).mono ?_
  exact IsS102.pk_ j.1
  exact hs_ z.1
  rintro e kd ⟨Wc, rfl, M, hi, hb, hk⟩
  refine ⟨_, rfl, ?_⟩
  replace b := kb_ hk b
  replace c := M_ (Kd.S_mono (Kd.S_told (Kd.S_oldK (IsS102.apartS (IsS102.pk_ j.1) (sp_ c.1) (by decide)) hk) (Kd.R_base M)) (fun _ h_ => h_.1))
  replace a := kb_ hk a
  have X := rl_ M HK
  replace HK := kh_ HK hk
  replace z := M_ (hb)
  replace j := M_ (hi)
  (try clear hb hk hi M)
  obtain ⟨Ma, Na, Oa⟩ := Kd.R_slice X.1
  (first | subst Oa | (obtain ⟨rfl, rfl⟩ := si_ Oa))
  refine ho_ Z (e2_ a.1) (fun i => ?_)
  refine o1_ 4 (b_ 5 3) s (fun K Z => ?_)
  refine value_ (w1 := ?_) (v := ?_) (by rfl) rfl ?_ ?_
  rotate_left 2
  ·
   go_simp
   constructor
   ·
    rfl
   rfl
  refine ho_ Z ⟨(blk_cell (blk_alloc a.1 _) 0).trans rfl, (blk_cell (blk_alloc a.1 _) 1).trans rfl⟩ (fun i => ?_)
  refine o1_ 5 (b_ 6 2) s (fun K Z => ?_)
  refine Kd.S_append_step k29 w.heap.size (by rfl) (.tmp 16) (.tmp 19) 40 29 (.agg #[(.slice none 0 0), (.int .i64 0), (.int .i64 0), (.string ⟨#[]⟩)]) 56 rfl Tryz.underlying40 info29 rfl (by decide) (by omega) (.slice A d.length m) d (⟨V, aa, ba, ca⟩ : S29) [.slice Ma V.length Na, .int .i64 aa, .int .i64 ba, .string ca] (fun _ => True) (fun k_ => some k_ = (.slice Ma V.length Na : Value).ownBlock) rfl rfl ?aP (fun k_ hk_ => ((Kd.R_mono (ok' := fun k_ => ((fun _ => True)) k_ ∧ some k_ ≠ (.slice A d.length m : Value).ownBlock) (Kd.R_apart' (X.1) (Kd.S_typed c.1) (by decide)) (fun k_ hk => ⟨trivial, hk.2⟩))).1 k_ hk_.symm) ?aF ?aO (Below.refl _ _) ?aS ?aL ?_
  (case aP => exact k29_mkM _ _ _ (⟨V, aa, ba, ca⟩ : S29) (Kd.R_mono (Kd.R_tight rfl (Kd.R_mono (ok' := fun k_ => ((fun _ => True)) k_ ∧ some k_ ≠ (.slice A d.length m : Value).ownBlock) (Kd.R_apart' (X.1) (Kd.S_typed c.1) (by decide)) (fun k_ hk => ⟨trivial, hk.2⟩))) (fun _ h_ => h_)))
  (case aF => exact (fun _ _ => trivial))
  (case aO => exact (Kd.S_mono (sp_ c.1) (fun k_ hk => ⟨trivial, fun e_ => hk.2 e_⟩)))
  (case aS => exact (ks_ HK))
  (case aL => have := cb.1; omega)
  intro Xc bc ho hb hg hat
  rw [← db.1] at ho
  replace j := M_ (IsS102.grown (IsS102.pk_ j.1) hg (IsS102.own_neS j.1 c.1 (by decide)))
  replace b := bg_ b hg c
  replace a := bg_ a hg c
  replace z := M_ (below_weaken (hs_ z.1) HL.out hb)
  replace HK := M_ (KeepBut.trans (ku_ HK.1) (KeepBut.of_grown hg g) (Kd.S_base2 c.1))
  have za := M_ (ho)
  clear c X
  clear ho hb hg hat
  obtain ⟨Pa, Qa, Ra⟩ := Kd.S_slice za.1
  (first | subst Ra | (obtain ⟨rfl, rfl⟩ := si_ Ra))
  refine ho_ Z (e2_ a.1) (fun i => ?_)
  refine p_ s ?_
  refine l1_ 7 (b_ 8 0) s (fun K Z => ?_)
  have Yc : bc.cell? ⟨r, 1, none⟩ = some (.slice A d.length m) := bx_ a.1 1
  have cc := blk_frozen a.1 1
  have xb := O.1
  have yb := I.1
  refine skip_ (w1 := ?_) (by rfl) rfl ?_ ?_
  rotate_left
  ·
   go_simp
   rfl
  refine Z.out _ _ ?_
  clear Z K
  refine done_ (done_of s.1 (by kernel_rfl)) ?_
  obtain ⟨dc, ec, fc, gc⟩ := bc2_ a.1
  have hc := n2_ C
  obtain ⟨ic, jc, kc, lc⟩ := bc2_ b.1
  try go_wp2
  refine bodyPost_ret (results_cell_row rfl _ _ t 80 #[.int .i64 q, .slice Pa xa.length Qa] (0, 0) _ rfl (bp_ b.1) Tryz.underlying80 rfl (by kernel_rfl)) rfl ?_
  exact ⟨_, rr_, Kd.S_mono (sf_ t (Kd.S_far (p := ⟨r, 1, none⟩) (Kd.S_types (Kd.S_types za.1 a.1 (by decide)) b.1 (by decide)) (fun _ hk => hk.1.2) (.slice Pa xa.length Qa)) (fun _ hk => hk.2)) (fun _ hk => trivial), IsS102.pk_ j.1, hs_ z.1, ku_ HK.1⟩
 have ab : (l == 1) = false := beq_eq_false_iff_ne.mpr oa
 have bb : (l != 1) = true := bne_iff_ne.mpr oa
 replace H := ie_ H; rcases H with ⟨pa, H⟩ | ⟨pa, H⟩
 ·
  have eb : (l == 2) = true := beq_iff_eq.mpr pa
  have fb : (l != 2) = false := bne_eq_false_iff_eq.mpr pa
  clear pa
  replace H := in_ H; obtain ⟨zb, H⟩ := H
  have mc := decide_eq_true zb
  have nc : decide (0 < d.length) = true := decide_eq_true (by omega)
  clear zb
  replace H := bi_ H; obtain ⟨⟨P, da, ea, fa⟩, oc, H⟩ := H; (try dsimp only at H)
  replace H := im_ H; obtain ⟨gb, H⟩ := H
  obtain ⟨Aa, hy_⟩ : ∃ y_ : List (S29), y_ = (d ++ [(⟨P, da, ea, fa⟩ : S29)]) := ⟨_, rfl⟩
  replace H : (some (q, Aa, J, L)) = some (r1, r2, r3, r4) := hm_
  have ib := M_ hy_; clear hy_
  simp only [Option.some.injEq, Prod.mk.injEq] at H
  obtain ⟨rfl, rfl, rfl, rfl⟩ := H
  refine ⟨?_⟩
  try go_wp2_with (first | ((with_reducible refine gate_callee (f := 69) rfl ?_); refine gl_ (some 7) Tryz.func69 #[.pointer (some ⟨g, 0, none⟩), .int .i64 8] ?_; (with_reducible refine (spec_l1Below.calls g B T U 8 l J L w0 _ ?_ ?_ A3.1).mono ?_); exact IsS102.pk_ j.1; exact hs_ z.1; rintro e pc ⟨rfl, hi, hb, hk⟩; refine ⟨_, rfl, ?_⟩; replace b := kc_ hk b #[.int .i64 0, .slice none 0 0]; replace c := M_ (Kd.S_mono (Kd.S_keep (IsS102.apartS (IsS102.pk_ j.1) (sy_ c.1 a.1) (by decide)) hk (fun _ h => h.2)) (fun _ h => h.1)); replace a := kc_ hk a #[.int .i64 q, .slice A d.length m]; replace HK := kh_ HK hk; replace z := M_ (hb); replace j := M_ (hi); (try clear hb hk hi)))
  obtain ⟨c, b, a⟩ := y3_ c b a
  replace j := M_ (IsS102.drew j.1)
  replace HK := M_ (keep_drew HK.1)
  replace z := db_ z
  have ja : 0 ≤ (0 : Int) := (by omega)
  have ka : 0 < (d.length : Int) := of_decide_eq_true (by with_reducible assumption)
  obtain ⟨o, la, ma, Ab, u, D, E, F, ga, ha⟩ := at_T29 (Kd.S_reads' c.1).2.2 0 ja ka
  cases Ab
  obtain ⟨qc, Ia, Ja, na⟩ := Kd.S_get c.1 z29 0 ja (by first | exact ka | exact of_decide_eq_true (by with_reducible assumption) | (have e_ := (Kd.S_reads' c.1).1; omega))
  obtain ⟨Bb, rfl, Q⟩ := k29_openM Ja
  have G := na 0 _ rfl
  rw [Nat.add_zero] at G
  replace G := Option.some.inj (G.symm.trans u)
  rw [G] at Q
  have x := M_ (show Kd.R k99 99 _ _ _ _ ((rd_T29 d 0).f0) from Q)
  clear G Q na Ia
  have qi548 : (0 < d.length) = True := eq_true (by omega)
  (try rw [show ((0 : Int)).toNat = 0 from rfl] at u)
  (try rw [show 0 * 4 = 0 from rfl] at u)
  (try rw [Addr.add_zero'] at u)
  (try rw [show ((0 : Int)).toNat = 0 from rfl] at D)
  (try rw [show 0 * 4 = 0 from rfl] at D)
  (try rw [Addr.add_zero'] at D)
  (try rw [show ((0 : Int)).toNat = 0 from rfl] at E)
  (try rw [show 0 * 4 = 0 from rfl] at E)
  (try rw [Addr.add_zero'] at E)
  (try rw [show ((0 : Int)).toNat = 0 from rfl] at F)
  (try rw [show 0 * 4 = 0 from rfl] at F)
  (try rw [Addr.add_zero'] at F)
  have y := M_ ha
  have Ba := M_ ga
  clear ha ga
  replace ja := eq_true ja; replace ka := eq_true ka
  refine start_ (n := 11) (S := fun w' => c_ w' r 0 (.int .i64 q) ∧ c_ w' r 1 (.slice (some o) d.length m) ∧ w'.cell? o = some (.slice la ((rd_T29 d 0).f0).length ma) ∧ w'.cell? ⟨o.block, o.off + 1, none⟩ = some (.int .i64 ((rd_T29 d 0).f1)) ∧ w'.cell? ⟨o.block, o.off + 2, none⟩ = some (.int .i64 ((rd_T29 d 0).f2)) ∧ w'.cell? ⟨o.block, o.off + 3, none⟩ = some (.string ((rd_T29 d 0).f3))) (ds := [8, 10]) (b_ 0 11) (by kernel_rfl) rfl rfl ⟨bx_ a.1 0, bx_ a.1 1, u, D, E, F⟩ (fun i => ?_); refine with_tabW spec_l6Any.tab8 spec_l6Any.bits8 (fun s ya => ?_)
  generalize pc.drew = ld at c b a j HK z x y u D E F i ⊢
  refine p_ s ?_
  refine qw_ 2 (m_ 11 5) s ?_
  refine qt_ 1 (b_ 3 8) s ya i ?_
  refine t0_ s ya i ?_
  refine p_ s ?_
  refine t0_ s ya i ?_
  refine o1_ 6 (b_ 7 4) s (fun K Z => ?_)
  refine gs_ Tryz.func63 #[.agg #[.slice la ((rd_T29 d 0).f0).length ma, .int .i64 ((rd_T29 d 0).f1), .int .i64 ((rd_T29 d 0).f2), .string ((rd_T29 d 0).f3)]] ?_
  with_reducible refine (spec_l4Copy.calls _ _ ((rd_T29 d 0).f0) ((rd_T29 d 0).f1) ((rd_T29 d 0).f2) ((rd_T29 d 0).f3) P da ea fa _ ?side1 ?side2 oc.1).mono ?_
  (case side1 => repeat (first | exact (by repeat (first | (with_reducible exact y.1) | (with_reducible first | refine ca_ ?_ _ | refine cn_ ?_ _ | refine cd_ ?_) | exact y.1)) | (with_reducible first | refine ca_ ?_ _ | refine cn_ ?_ _ | refine cd_ ?_)))
  (case side2 => exact Ba.1)
  rintro e md ⟨Zc, rfl, M, hb⟩
  have Cb := (hb.cell (World.block_lt_of_cell? _ _ (i.2.2.1))).trans (i.2.2.1)
  have Db := (hb.cell (World.block_lt_of_cell? _ _ (i.2.2.2.1))).trans (i.2.2.2.1)
  have Eb := (hb.cell (World.block_lt_of_cell? _ _ (i.2.2.2.2.1))).trans (i.2.2.2.2.1)
  have Fb := (hb.cell (World.block_lt_of_cell? _ _ (i.2.2.2.2.2))).trans (i.2.2.2.2.2)
  refine ⟨_, rfl, ?_⟩
  replace c := M_ (Kd.S_elder' (sp_ c.1) (Kd.R_base M) hb)
  have Y := M_ (Kd.R_lower (Kd.R_new' M (Kd.R_lt (rp_ x.1))) (ks_ HK))
  replace x := M_ (Kd.R_elder' (rp_ x.1) (Kd.R_base M) hb)
  replace j := IsS102.bk_ j hb
  obtain ⟨b, a⟩ := u2_ hb b a
  replace y := M_ (Kd.C_below (by repeat (first | (with_reducible exact y.1) | (with_reducible first | refine ca_ ?_ _ | refine cn_ ?_ _ | refine cd_ ?_) | exact y.1)) hb)
  replace HK := kt_ HK hb
  replace z := st_ z hb
  (try clear hb M)
  obtain ⟨Ca, Da, Sa⟩ := Kd.R_slice Y.1
  (first | subst Sa | (obtain ⟨rfl, rfl⟩ := si_ Sa))
  refine ho_ Z ⟨bx_ a.1 0, bx_ a.1 1, Cb, Db, Eb, Fb⟩ (fun i => ?_)
  refine o1_ 7 (b_ 8 3) s (fun K Z => ?_)
  refine value_ (w1 := ?_) (v := ?_) (by rfl) rfl ?_ ?_
  rotate_left 2
  ·
   go_simp
   constructor
   ·
    rfl
   rfl
  refine ho_ Z ⟨(blk_cell (blk_alloc a.1 _) 0).trans rfl, (blk_cell (blk_alloc a.1 _) 1).trans rfl, (World.cell?_alloc_lt _ _ _ (World.block_lt_of_cell? _ _ (i.2.2.1))).trans (i.2.2.1), (World.cell?_alloc_lt _ _ _ (World.block_lt_of_cell? _ _ (i.2.2.2.1))).trans (i.2.2.2.1), (World.cell?_alloc_lt _ _ _ (World.block_lt_of_cell? _ _ (i.2.2.2.2.1))).trans (i.2.2.2.2.1), (World.cell?_alloc_lt _ _ _ (World.block_lt_of_cell? _ _ (i.2.2.2.2.2))).trans (i.2.2.2.2.2)⟩ (fun i => ?_)
  refine l1_ 8 (b_ 9 2) s (fun K Z => ?_)
  refine Kd.S_append_step k29 w.heap.size (by rfl) (.tmp 25) (.tmp 31) 40 29 (.agg #[(.slice none 0 0), (.int .i64 0), (.int .i64 0), (.string ⟨#[]⟩)]) 56 rfl Tryz.underlying40 info29 rfl (by decide) (by omega) (.slice (some o) d.length m) d (⟨P, da, ea, fa⟩ : S29) [.slice Ca P.length Da, .int .i64 da, .int .i64 ea, .string fa] (fun _ => True) (fun k_ => some k_ = (.slice Ca P.length Da : Value).ownBlock) rfl rfl ?aP (fun k_ hk_ => ((Kd.R_mono (ok' := fun k_ => ((fun _ => True)) k_ ∧ some k_ ≠ (.slice (some o) d.length m : Value).ownBlock) (Kd.R_apart' (Y.1) (Kd.S_typed c.1) (by decide)) (fun k_ hk => ⟨trivial, hk.2⟩))).1 k_ hk_.symm) ?aF ?aO (Below.refl _ _) ?aS ?aL ?_
  (case aP => exact k29_mkM _ _ _ (⟨P, da, ea, fa⟩ : S29) (Kd.R_mono (Kd.R_tight rfl (Kd.R_mono (ok' := fun k_ => ((fun _ => True)) k_ ∧ some k_ ≠ (.slice (some o) d.length m : Value).ownBlock) (Kd.R_apart' (Y.1) (Kd.S_typed c.1) (by decide)) (fun k_ hk => ⟨trivial, hk.2⟩))) (fun _ h_ => h_)))
  (case aF => exact (fun _ _ => trivial))
  (case aO => exact (Kd.S_mono (sp_ c.1) (fun k_ hk => ⟨trivial, fun e_ => hk.2 e_⟩)))
  (case aS => exact (ks_ HK))
  (case aL => have := gb.1; omega)
  intro ad rc ho hb hg hat
  rw [← ib.1] at ho
  replace j := M_ (IsS102.grown (IsS102.pk_ j.1) hg (IsS102.own_neS j.1 c.1 (by decide)))
  replace b := bg_ b hg c
  replace a := bg_ a hg c
  replace x := M_ (Kd.R_after (ok := (fun k_ => some k_ ≠ (.slice Ca P.length Da : Value).ownBlock)) (Kd.R_mono (rp_ x.1) (fun _ hk => ⟨hk.2, hk.1.2⟩)) hg hat)
  replace z := M_ (below_weaken (hs_ z.1) HL.out hb)
  replace HK := M_ (KeepBut.trans (ku_ HK.1) (KeepBut.of_grown hg g) (Kd.S_base2 c.1))
  have Ea := M_ (ho)
  clear c Y
  clear ho hb hg hat
  obtain ⟨Ta, Ua, Va⟩ := Kd.S_slice Ea.1
  (first | subst Va | (obtain ⟨rfl, rfl⟩ := si_ Va))
  refine Z.out _ _ ?_
  clear Z K
  refine nm_ ?_
  refine p_ s ?_
  refine l1_ 10 (b_ 11 0) s (fun K Z => ?_)
  have bd : rc.cell? ⟨r, 1, none⟩ = some (.slice (some o) d.length m) := bx_ a.1 1
  have sc := blk_frozen a.1 1
  have Gb := O.1
  have Hb := I.1
  refine skip_ (w1 := ?_) (by rfl) rfl ?_ ?_
  rotate_left
  ·
   go_simp
   rfl
  refine Z.out _ _ ?_
  clear Z K
  refine done_ (done_of s.1 (by kernel_rfl)) ?_
  obtain ⟨tc, uc, vc, wc⟩ := bc2_ a.1
  have xc := n2_ C
  obtain ⟨yc, zc, Ac, Bc⟩ := bc2_ b.1
  try go_wp2
  refine bodyPost_ret (results_cell_row rfl _ _ t 80 #[.int .i64 q, .slice Ta Aa.length Ua] (0, 0) _ rfl (bp_ b.1) Tryz.underlying80 rfl (by kernel_rfl)) rfl ?_
  exact ⟨_, rr_, Kd.S_mono (sf_ t (Kd.S_far (p := ⟨r, 1, none⟩) (Kd.S_types (Kd.S_types Ea.1 a.1 (by decide)) b.1 (by decide)) (fun _ hk => hk.1.2) (.slice Ta Aa.length Ua)) (fun _ hk => hk.2)) (fun _ hk => trivial), IsS102.pk_ j.1, hs_ z.1, ku_ HK.1⟩
 have eb : (l == 2) = false := beq_eq_false_iff_ne.mpr pa
 have fb : (l != 2) = true := bne_iff_ne.mpr pa
 replace H := ie_ H; rcases H with ⟨qa, H⟩ | ⟨qa, H⟩
 ·
  have jb : (l == 3) = true := beq_iff_eq.mpr qa
  have kb : (l != 3) = false := bne_eq_false_iff_eq.mpr qa
  clear qa
  obtain ⟨Fa, hy_⟩ : ∃ y_ : List (S29), y_ = (([] : List (S29))) := ⟨_, rfl⟩
  replace H : (some (q, Fa, J, L)) = some (r1, r2, r3, r4) := hm_
  have Ga := M_ hy_; clear hy_
  simp only [Option.some.injEq, Prod.mk.injEq] at H
  obtain ⟨rfl, rfl, rfl, rfl⟩ := H
  refine ⟨?_⟩
  go_wp2_with (first | ((with_reducible refine gate_callee (f := 69) rfl ?_); refine gl_ (some 7) Tryz.func69 #[.pointer (some ⟨g, 0, none⟩), .int .i64 8] ?_; (with_reducible refine (spec_l1Below.calls g B T U 8 l J L w0 _ ?_ ?_ A3.1).mono ?_); exact IsS102.pk_ j.1; exact hs_ z.1; rintro e nd ⟨rfl, hi, hb, hk⟩; refine ⟨_, rfl, ?_⟩; replace b := kc_ hk b #[.int .i64 0, .slice none 0 0]; replace c := M_ (Kd.S_mono (Kd.S_keep (IsS102.apartS (IsS102.pk_ j.1) (sy_ c.1 a.1) (by decide)) hk (fun _ h => h.2)) (fun _ h => h.1)); replace a := kc_ hk a #[.int .i64 q, .slice A d.length m]; replace HK := kh_ HK hk; replace z := M_ (hb); replace j := M_ (hi); (try clear hb hk hi)) | ((with_reducible refine gd_ 36 rfl ?_); refine Kd.S_lit k29 _ 29 ?hg (N := 36) ?hd (xs := ([] : List (S29))) (inner := []) (ok := fun _ => True) (okp := fun _ => True) ?hr ?hp (fun _ hk => hk) trivial (Below.refl _ _) (Nat.le_refl _) (by simp) ?_; (case hd => rfl); (case hg => rfl); (case hr => first | (go_simp; done) | (go_simp; rfl)); (case hp => exact (Reps.none _ _)); intro cd od W hb hg_ hnew_; clear hg_ hnew_; (first | rw [← Ga.1] at W | (simp only [Int.reduceToNat] at W; rw [← Ga.1] at W)); have Ha := M_ (Kd.S_lower (Kd.S_new' W (Kd.S_lt (sp_ c.1))) (ks_ HK)); replace c := M_ (Kd.S_elder' (sp_ c.1) (Kd.S_base W) hb); replace j := IsS102.bk_ j hb; obtain ⟨b, a⟩ := u2_ hb b a; replace HK := kt_ HK hb; replace z := st_ z hb; clear hb W; obtain ⟨Wa, Xa, Ib⟩ := Kd.S_slice Ha.1; subst Ib; obtain ⟨Cc, Dc, Ec, Fc⟩ := bc2_ a.1; have Gc := n2_ C; obtain ⟨Hc, Ic, Jc, Kc⟩ := bc2_ b.1))
  refine bodyPost_ret (results_cell_row rfl _ _ t 80 #[.int .i64 q, .slice Wa Fa.length Xa] (0, 0) _ rfl (bp_ b.1) Tryz.underlying80 rfl (by kernel_rfl)) rfl ?_
  exact ⟨_, rr_, Kd.S_mono (sf_ t (Kd.S_far (p := ⟨r, 1, none⟩) (Kd.S_types (Kd.S_types Ha.1 a.1 (by decide)) b.1 (by decide)) (fun _ hk => hk.1.2) (.slice Wa Fa.length Xa)) (fun _ hk => hk.2)) (fun _ hk => trivial), IsS102.pk_ j.1, hs_ z.1, ku_ HK.1⟩
 have jb : (l == 3) = false := beq_eq_false_iff_ne.mpr qa
 have kb : (l != 3) = true := bne_iff_ne.mpr qa
 simp only [Option.some.injEq, Prod.mk.injEq] at H
 obtain ⟨rfl, rfl, rfl, rfl⟩ := H
 refine ⟨?_⟩
 go_wp2_with (first | ((with_reducible refine gate_callee (f := 69) rfl ?_); refine gl_ (some 7) Tryz.func69 #[.pointer (some ⟨g, 0, none⟩), .int .i64 8] ?_; (with_reducible refine (spec_l1Below.calls g B T U 8 l J L w0 _ ?_ ?_ A3.1).mono ?_); exact IsS102.pk_ j.1; exact hs_ z.1; rintro e pd ⟨rfl, hi, hb, hk⟩; refine ⟨_, rfl, ?_⟩; replace b := kc_ hk b #[.int .i64 0, .slice none 0 0]; replace c := M_ (Kd.S_mono (Kd.S_keep (IsS102.apartS (IsS102.pk_ j.1) (sy_ c.1 a.1) (by decide)) hk (fun _ h => h.2)) (fun _ h => h.1)); replace a := kc_ hk a #[.int .i64 q, .slice A d.length m]; replace HK := kh_ HK hk; replace z := M_ (hb); replace j := M_ (hi); (try clear hb hk hi); obtain ⟨Lc, Mc, Nc, Oc⟩ := bc2_ a.1; have Pc := n2_ C; obtain ⟨Qc, Rc, Sc, Tc⟩ := bc2_ b.1))
 refine bodyPost_ret (results_cell_row rfl _ _ t 80 #[.int .i64 q, .slice A d.length m] (0, 0) _ rfl (bp_ b.1) Tryz.underlying80 rfl (by kernel_rfl)) rfl ?_
 exact ⟨_, rr_, Kd.S_mono (sy_ c.1 b.1) (fun _ hk => trivial), IsS102.pk_ j.1, hs_ z.1, ku_ HK.1⟩
def spec_l7Any.f (k : Nat) (e : List Int) (h : Int) (i : Int) (j : Int) (l : Int) : Option (Int × Int × (List (S80)) × Int × Int) := (spec_l7Draw.f k e h i j l).bind fun a => ((spec_l1Below.f e a.2.2.2.1 a.2.2.2.2 12).bind fun b => (if b.1 = 0 then ((spec_l1Int.f e b.2.1 b.2.2 (([(-2), 4, 5] : List Int))).bind fun d => (some (d.1, a.2.1, a.2.2.1, d.2.1, d.2.2))) else (if b.1 = 1 then (some (a.1, (-1), a.2.2.1, b.2.1, b.2.2)) else (if b.1 = 2 then ((spec_l6Any.f k e b.2.1 b.2.2).bind fun c => (if a.2.2.1.length < 4398046511104 then (some (a.1, a.2.1, (a.2.2.1 ++ [(⟨c.1, c.2.1⟩ : S80)]), c.2.2.1, c.2.2.2)) else (none))) else (if b.1 = 3 then (if (a.2.2.1.length : Int) > 0 then (if 0 < (a.2.2.1.length : Int) then ((spec_l6Copy.f k ((rd_T80 a.2.2.1 0).f0) ((rd_T80 a.2.2.1 0).f1)).bind fun g => (if a.2.2.1.length < 4398046511104 then (some (a.1, a.2.1, (a.2.2.1 ++ [(⟨g.1, g.2⟩ : S80)]), b.2.1, b.2.2)) else (none))) else (none)) else (some (a.1, a.2.1, a.2.2.1, b.2.1, b.2.2))) else (some (a.1, a.2.1, a.2.2.1, b.2.1, b.2.2)))))))
def spec_l7Any.T8 : Bool × List (List Nat × List Nat) := (true, [([], []), ([0], [0]), ([], []), ([2], [2]), ([3], [3]), ([1, 4, 3], [1, 4]), ([0, 1, 2, 3, 4, 5], []), ([6, 5, 5, 0, 1, 2, 3, 4, 5], [5, 6])])
def spec_l7Any.B8 : List Nat := [0, 1, 0, 4, 12, 31, 63, 127]
theorem spec_l7Any.tab8 : rtab .any (opsOf Tryz.f51 8) = spec_l7Any.T8 := by kernel_rfl
theorem spec_l7Any.bits8 : waitsOk spec_l7Any.T8.2 spec_l7Any.B8 = true := by kernel_rfl
def spec_l7Any.T11 : Bool × List (List Nat × List Nat) := (true, [([], []), ([0], [0]), ([], []), ([2], [2]), ([3], [3]), ([4], [4]), ([5], [5]), ([6], [6]), ([1, 7, 6], [1, 7]), ([0, 1, 2, 3, 4, 5, 6, 7, 8], []), ([9, 8, 8, 0, 1, 2, 3, 4, 5, 6, 7, 8], [8, 9])])
def spec_l7Any.B11 : List Nat := [0, 1, 0, 4, 12, 28, 60, 124, 255, 511, 1023]
theorem spec_l7Any.tab11 : rtab .any (opsOf Tryz.f51 11) = spec_l7Any.T11 := by kernel_rfl
theorem spec_l7Any.bits11 : waitsOk spec_l7Any.T11.2 spec_l7Any.B11 = true := by kernel_rfl
theorem spec_l7Any.calls (k : Nat) (g : Nat) (x : List Int) (ra : Int) (sa : Int) (a1 : Int) (a2 : Int) (r1 : Int) (r2 : Int) (r3 : List (S80)) (r4 : Int) (r5 : Int) (w0 w : World) (hI : IsS102 w0 w g x ra sa) (hB : Below w0.heap.size w0 w) (h : spec_l7Any.f k x ra sa a1 a2 = some (r1, r2, r3, r4, r5)) :
  Calls Tryz.prog 51 #[.pointer (some ⟨g, 0, none⟩), .int .i64 a1, .int .i64 a2] w fun e w' => ∃ v2_ : Value, e = .returned (.agg #[.int .i64 r1, .int .i64 r2, v2_]) ∧ Kd.S k80 80 w' w.heap.size (fun _ => True) v2_ r3 ∧ IsS102 w0 w' g x r4 r5 ∧ Below w0.heap.size w0 w' ∧ KeepBut w w' g none := by
 have hu26 := Tryz.underlying26
 have hu80 := Tryz.underlying80
 have d := M_ hI
 have HK := M_ (KeepBut.refl w g none)
 have HL := M_ hB.size
 clear hI
 have wb := M_ hB.size
 have u := M_ hB
 clear hB
 unfold spec_l7Any.f at h
 have H := h; clear h
 replace H := bi_ H; obtain ⟨⟨q, o, i, O, P⟩, A4, H⟩ := H; (try dsimp only at H)
 replace H := bi_ H; obtain ⟨⟨l, F, G⟩, A5, H⟩ := H; (try dsimp only at H)
 have AHz_ := M_ H
 clear H
 go_enter Tryz.func51, Tryz.ntmps51
 go_wp2_with (first | ((with_reducible refine gd_ 6 rfl ?_); refine bV_ 6 #[.int .i64 0, .int .i64 0, .slice none 0 0] 26 ?_; intro s hg w8 b hb; replace u := st_ u hb; have Xa := Ge_.mk ((by rw [hg]; exact (ks_ HK) : w.heap.size ≤ s)); replace HK := kt_ HK hb; have cc := gt_ wb Xa; have ta := IsS102.nl_ d hg; replace d := IsS102.bk_ d hb; have y := ns_ ta; clear hb hg) | ((with_reducible refine gate_callee (f := 90) rfl ?_); refine gl_ (some 11) Tryz.func90 #[.pointer (some ⟨g, 0, none⟩), .int .i64 a1, .int .i64 a2] ?_; (with_reducible refine (spec_l7Draw.calls k g x ra sa a1 a2 q o i O P w0 _ ?_ ?_ A4.1).mono ?_); exact IsS102.pk_ d.1; exact hs_ u.1; rintro e w9 ⟨Zd, rfl, Q, hi, hb, hk⟩; refine ⟨_, rfl, ?_⟩; obtain ⟨Ha, Ya⟩ := Kd.S_name Q; replace b := kb_ hk b; have c := M_ (Kd.S_lower (Kd.S_gez Ya Q) (ks_ HK)); replace HK := kh_ HK hk; replace u := M_ (hb); replace d := M_ (hi); (try clear hb hk hi Q)) | (((with_reducible refine gd_ 7 rfl ?_); refine bV_ 7 #[.int .i64 0, .int .i64 0, .slice none 0 0] 26 ?_; intro m hg ie a hb; obtain ⟨c, u⟩ := u2_ hb c u; have Za := Ge_.mk ((by rw [hg]; exact (ks_ HK) : w.heap.size ≤ m)); replace HK := kt_ HK hb; have dc := gt_ wb Za; obtain ⟨R, I, b⟩ := nb_ b hg hb; have ua := IsS102.nl_ d hg; replace d := IsS102.bk_ d hb; have va := ns_ ua; clear hb hg; have ec := n2_ I; have fc := n2_ va; obtain ⟨gc, hc, ic, jc, kc, lc⟩ := bc3_ a.1; obtain ⟨z, r, xb⟩ := Kd.S_slice c.1; subst xb); refine Aside0.out ?_))
 have H := AHz_.1
 clear AHz_
 replace H := ie_ H; rcases H with ⟨c6, H⟩ | ⟨c6, H⟩
 ·
  have yb : (l == 0) = true := beq_iff_eq.mpr c6
  have zb : (l != 0) = false := bne_eq_false_iff_eq.mpr c6
  clear c6
  obtain ⟨wa, hy_⟩ : ∃ y_ : List Int, y_ = (([(-2), 4, 5] : List Int)) := ⟨_, rfl⟩
  replace H : ((spec_l1Int.f x F G wa).bind fun da => (some (da.1, o, i, da.2.1, da.2.2))) = some (r1, r2, r3, r4, r5) := hm_
  have xa := M_ hy_; clear hy_
  replace H := bi_ H; obtain ⟨⟨ya, Ab, Bb⟩, A7, H⟩ := H; (try dsimp only at H)
  simp only [Option.some.injEq, Prod.mk.injEq] at H
  obtain ⟨rfl, rfl, rfl, rfl, rfl⟩ := H
  refine ⟨?_⟩
  go_wp2_with (first | ((with_reducible refine gate_callee (f := 69) rfl ?_); refine gl_ (some 13) Tryz.func69 #[.pointer (some ⟨g, 0, none⟩), .int .i64 12] ?_; (with_reducible refine (spec_l1Below.calls g x O P 12 l F G w0 _ ?_ ?_ A5.1).mono ?_); exact IsS102.pk_ d.1; exact hs_ u.1; rintro e ke ⟨rfl, hi, hb, hk⟩; refine ⟨_, rfl, ?_⟩; replace b := kc_ hk b #[.int .i64 0, .int .i64 0, .slice none 0 0]; replace c := M_ (Kd.S_mono (Kd.S_keep (IsS102.apartS (IsS102.pk_ d.1) (sy_ c.1 a.1) (by decide)) hk (fun _ h => h.2)) (fun _ h => h.1)); replace a := kc_ hk a #[.int .i64 q, .int .i64 o, .slice z i.length r]; replace HK := kh_ HK hk; replace u := M_ (hb); replace d := M_ (hi); (try clear hb hk hi)) | ((with_reducible refine gd_ 17 rfl ?_); refine Kd.R_lit (Kd.int .i64) _ 3 ?hg (N := 17) ?hd (xs := ([(-2), 4, 5] : List Int)) (inner := [.int .i64 (-2), .int .i64 4, .int .i64 5]) (ok := fun _ => True) (okp := fun _ => True) ?hr ?hp (fun _ hk => hk) trivial (Below.refl _ _) (Nat.le_refl _) (by simp) ?_; (case hd => rfl); (case hg => rfl); (case hr => first | (go_simp; done) | (go_simp; rfl)); (case hp => exact (Reps.one (show Kd.M (Kd.int .i64) _ _ _ (-2) [.int .i64 (-2)] from rfl) (Reps.one (show Kd.M (Kd.int .i64) _ _ _ 4 [.int .i64 4] from rfl) (Reps.one (show Kd.M (Kd.int .i64) _ _ _ 5 [.int .i64 5] from rfl) (Reps.none _ _))))); intro ae le V hb hg_ hnew_; clear hg_ hnew_; (first | rw [← xa.1] at V | (simp only [Int.reduceToNat] at V; rw [← xa.1] at V)); replace c := sb_ c hb; have J := rl_ V HK; replace d := IsS102.bk_ d hb; obtain ⟨b, a⟩ := u2_ hb b a; replace HK := kt_ HK hb; replace u := st_ u hb; clear hb V; obtain ⟨Cb, Db, Eb⟩ := Kd.R_slice J.1; subst Eb) | ((with_reducible refine gate_callee (f := 66) rfl ?_); refine gl_ (some 18) Tryz.func66 #[.pointer (some ⟨g, 0, none⟩), .slice Cb wa.length Db] ?_; (with_reducible refine (spec_l1Int.calls g x F G _ _ wa ya Ab Bb w0 _ ?_ ?_ ?_ ?_ ?_ A7.1).mono ?_); exact IsS102.pk_ d.1; exact hs_ u.1; exact cp_ ((Kd.R_reads' J.1).2.2); exact (Kd.R_reads' J.1).2.1; exact far_slice (IsS102.own_ne d.1 J.1 (by decide)); rintro e me ⟨rfl, hi, hb, hk⟩; refine ⟨_, rfl, ?_⟩; replace b := kb_ hk b; replace c := IsS102.sk_ d c hk; replace a := kb_ hk a; replace J := IsS102.rk_ d J hk; replace HK := kh_ HK hk; replace u := M_ (hb); replace d := M_ (hi); (try clear hb hk hi); obtain ⟨mc, nc, oc, pc, qc, rc⟩ := bc3_ a.1; have sc := n2_ y; obtain ⟨tc, uc, vc, wc, xc, yc⟩ := bc3_ b.1))
  refine bodyPost_ret (results_cell_row rfl _ _ s 26 #[.int .i64 ya, .int .i64 o, .slice z i.length r] (0, 0) _ rfl (bp_ b.1) Tryz.underlying26 rfl (by kernel_rfl)) rfl ?_
  exact ⟨_, rr_, Kd.S_mono (sf_ s (Kd.S_far (p := ⟨m, 0, none⟩) (Kd.S_types (Kd.S_types c.1 a.1 (by decide)) b.1 (by decide)) (fun _ hk => hk.1.2) (.int .i64 ya)) (fun _ hk => hk.2)) (fun _ hk => trivial), IsS102.pk_ d.1, hs_ u.1, ku_ HK.1⟩
 have yb : (l == 0) = false := beq_eq_false_iff_ne.mpr c6
 have zb : (l != 0) = true := bne_iff_ne.mpr c6
 replace H := ie_ H; rcases H with ⟨oa, H⟩ | ⟨oa, H⟩
 ·
  have ab : (l == 1) = true := beq_iff_eq.mpr oa
  have bb : (l != 1) = false := bne_eq_false_iff_eq.mpr oa
  clear oa
  simp only [Option.some.injEq, Prod.mk.injEq] at H
  obtain ⟨rfl, rfl, rfl, rfl, rfl⟩ := H
  refine ⟨?_⟩
  go_wp2_with (first | ((with_reducible refine gate_callee (f := 69) rfl ?_); refine gl_ (some 13) Tryz.func69 #[.pointer (some ⟨g, 0, none⟩), .int .i64 12] ?_; (with_reducible refine (spec_l1Below.calls g x O P 12 l F G w0 _ ?_ ?_ A5.1).mono ?_); exact IsS102.pk_ d.1; exact hs_ u.1; rintro e ne ⟨rfl, hi, hb, hk⟩; refine ⟨_, rfl, ?_⟩; replace b := kc_ hk b #[.int .i64 0, .int .i64 0, .slice none 0 0]; replace c := M_ (Kd.S_mono (Kd.S_keep (IsS102.apartS (IsS102.pk_ d.1) (sy_ c.1 a.1) (by decide)) hk (fun _ h => h.2)) (fun _ h => h.1)); replace a := kc_ hk a #[.int .i64 q, .int .i64 o, .slice z i.length r]; replace HK := kh_ HK hk; replace u := M_ (hb); replace d := M_ (hi); (try clear hb hk hi); obtain ⟨zc, Ac, Bc, Cc, Dc, Ec⟩ := bc3_ a.1; have Fc := n2_ y; obtain ⟨Gc, Hc, Ic, Jc, Kc, Lc⟩ := bc3_ b.1))
  refine bodyPost_ret (results_cell_row rfl _ _ s 26 #[.int .i64 q, .int .i64 (-1), .slice z i.length r] (0, 0) _ rfl (bp_ b.1) Tryz.underlying26 rfl (by kernel_rfl)) rfl ?_
  exact ⟨_, rr_, Kd.S_mono (sf_ s (Kd.S_far (p := ⟨m, 1, none⟩) (Kd.S_types (Kd.S_types c.1 a.1 (by decide)) b.1 (by decide)) (fun _ hk => hk.1.2) (.int .i64 (-1))) (fun _ hk => hk.2)) (fun _ hk => trivial), IsS102.pk_ d.1, hs_ u.1, ku_ HK.1⟩
 have ab : (l == 1) = false := beq_eq_false_iff_ne.mpr oa
 have bb : (l != 1) = true := bne_iff_ne.mpr oa
 replace H := ie_ H; rcases H with ⟨pa, H⟩ | ⟨pa, H⟩
 ·
  have cb : (l == 2) = true := beq_iff_eq.mpr pa
  have db : (l != 2) = false := bne_eq_false_iff_eq.mpr pa
  clear pa
  replace H := bi_ H; obtain ⟨⟨W, X, Na, Oa⟩, Mc, H⟩ := H; (try dsimp only at H)
  replace H := im_ H; obtain ⟨eb, H⟩ := H
  obtain ⟨za, hy_⟩ : ∃ y_ : List (S80), y_ = (i ++ [(⟨W, X⟩ : S80)]) := ⟨_, rfl⟩
  replace H : (some (q, o, za, Na, Oa)) = some (r1, r2, r3, r4, r5) := hm_
  have fb := M_ hy_; clear hy_
  simp only [Option.some.injEq, Prod.mk.injEq] at H
  obtain ⟨rfl, rfl, rfl, rfl, rfl⟩ := H
  refine ⟨?_⟩
  try go_wp2_with (first | ((with_reducible refine gate_callee (f := 69) rfl ?_); refine gl_ (some 13) Tryz.func69 #[.pointer (some ⟨g, 0, none⟩), .int .i64 12] ?_; (with_reducible refine (spec_l1Below.calls g x O P 12 l F G w0 _ ?_ ?_ A5.1).mono ?_); exact IsS102.pk_ d.1; exact hs_ u.1; rintro e Nc ⟨rfl, hi, hb, hk⟩; refine ⟨_, rfl, ?_⟩; replace b := kc_ hk b #[.int .i64 0, .int .i64 0, .slice none 0 0]; replace c := M_ (Kd.S_mono (Kd.S_keep (IsS102.apartS (IsS102.pk_ d.1) (sy_ c.1 a.1) (by decide)) hk (fun _ h => h.2)) (fun _ h => h.1)); replace a := kc_ hk a #[.int .i64 q, .int .i64 o, .slice z i.length r]; replace HK := kh_ HK hk; replace u := M_ (hb); replace d := M_ (hi); (try clear hb hk hi)))
  obtain ⟨c, b, a⟩ := y3_ c b a
  replace d := M_ (IsS102.drew d.1)
  replace HK := M_ (keep_drew HK.1)
  replace u := db_ u
  refine start_ (n := 8) (S := fun w' => c_ w' m 0 (.int .i64 q) ∧ c_ w' m 1 (.int .i64 o) ∧ c_ w' m 2 (.slice z i.length r)) (ds := [7]) (b_ 0 8) (by kernel_rfl) rfl rfl (e3_ a.1) (fun j => ?_); refine with_tabW spec_l7Any.tab8 spec_l7Any.bits8 (fun t Aa => ?_)
  generalize Nc.drew = oe at c b a d HK u j ⊢
  refine p_ t ?_
  refine qw_ 2 (m_ 8 5) t ?_
  refine qt_ 1 (b_ 3 5) t Aa j ?_
  refine o1_ 3 (b_ 4 4) t (fun K U => ?_)
  refine gs_ Tryz.func91 #[.pointer (some ⟨g, 0, none⟩)] ?_
  with_reducible refine (spec_l6Any.calls k g x F G W X Na Oa w0 _ ?_ ?_ Mc.1).mono ?_
  exact IsS102.pk_ d.1
  exact hs_ u.1
  rintro e pe ⟨be, rfl, Q, hi, hb, hk⟩
  refine ⟨_, rfl, ?_⟩
  obtain ⟨Ub, Ba⟩ := Kd.S_name Q
  replace b := kb_ hk b
  replace c := M_ (Kd.S_mono (Kd.S_keep (IsS102.apartS (IsS102.pk_ d.1) ((Kd.S_ltz Ba (sp_ c.1))) (by decide)) hk (fun _ h => h.2)) (fun _ h => h.1))
  replace a := kb_ hk a
  have ea := M_ (Kd.S_lower (Kd.S_gez Ba Q) (ks_ HK))
  replace HK := kh_ HK hk
  replace u := M_ (hb)
  replace d := M_ (hi)
  (try clear hb hk hi Q)
  obtain ⟨Fb, Gb, Pa⟩ := Kd.S_slice ea.1
  (first | subst Pa | (obtain ⟨rfl, rfl⟩ := si_ Pa))
  obtain ⟨gb, Ia, ha⟩ := Kd.S_fp (Kd.S_apart' (ea.1) (Kd.S_typed c.1) (by decide))
  refine ho_ U (e3_ a.1) (fun j => ?_)
  refine o1_ 4 (b_ 5 3) t (fun K U => ?_)
  refine value_ (w1 := ?_) (v := ?_) (by rfl) rfl ?_ ?_
  rotate_left 2
  ·
   go_simp
   constructor
   ·
    rfl
   rfl
  refine ho_ U ⟨(blk_cell (blk_alloc a.1 _) 0).trans rfl, (blk_cell (blk_alloc a.1 _) 1).trans rfl, (blk_cell (blk_alloc a.1 _) 2).trans rfl⟩ (fun j => ?_)
  refine o1_ 5 (b_ 6 2) t (fun K U => ?_)
  refine Kd.S_append_step k80 w.heap.size (by rfl) (.tmp 26) (.tmp 29) 24 80 (.agg #[(.int .i64 0), (.slice none 0 0)]) 32 rfl Tryz.underlying24 info80 rfl (by decide) (by omega) (.slice z i.length r) i (⟨W, X⟩ : S80) [.int .i64 W, .slice Fb X.length Gb] (fun _ => True) (fun k_ => gb k_) rfl rfl ?aP (fun k_ hk_ => ⟨trivial, (ha k_ hk_).1.2⟩) ?aF ?aO (Below.refl _ _) ?aS ?aL ?_
  (case aP => exact k80_mkM _ _ _ (⟨W, X⟩ : S80) (Kd.S_mono Ia (fun _ h_ => h_)))
  (case aF => exact (fun _ _ => trivial))
  (case aO => exact (Kd.S_mono (sp_ c.1) (fun k_ hk => ⟨trivial, fun e_ => (fun ez_ => Nat.lt_irrefl _ (Nat.lt_of_lt_of_le hk.2 (ha _ ez_).1.1.2)) e_⟩)))
  (case aS => exact (ks_ HK))
  (case aL => have := eb.1; omega)
  intro ce Oc ho hb hg hat
  rw [← fb.1] at ho
  replace d := M_ (IsS102.grown (IsS102.pk_ d.1) hg (IsS102.own_neS d.1 c.1 (by decide)))
  replace b := bg_ b hg c
  replace a := bg_ a hg c
  replace u := M_ (below_weaken (hs_ u.1) HL.out hb)
  replace HK := M_ (KeepBut.trans (ku_ HK.1) (KeepBut.of_grown hg g) (Kd.S_base2 c.1))
  have Ca := M_ (ho)
  clear c ea
  clear ho hb hg hat
  obtain ⟨Qa, Ra, Sa⟩ := Kd.S_slice Ca.1
  (first | subst Sa | (obtain ⟨rfl, rfl⟩ := si_ Sa))
  refine ho_ U (e3_ a.1) (fun j => ?_)
  refine p_ t ?_
  refine l1_ 7 (b_ 8 0) t (fun K U => ?_)
  have de : Oc.cell? ⟨m, 2, none⟩ = some (.slice z i.length r) := bx_ a.1 2
  have Pc := blk_frozen a.1 2
  have Hb := R.1
  have Ib := I.1
  refine skip_ (w1 := ?_) (by rfl) rfl ?_ ?_
  rotate_left
  ·
   go_simp
   rfl
  refine U.out _ _ ?_
  clear U K
  refine done_ (done_of t.1 (by kernel_rfl)) ?_
  obtain ⟨Qc, Rc, Sc, Tc, Uc, Vc⟩ := bc3_ a.1
  have Wc := n2_ y
  obtain ⟨Xc, Yc, Zc, ad, bd, cd⟩ := bc3_ b.1
  try go_wp2
  refine bodyPost_ret (results_cell_row rfl _ _ s 26 #[.int .i64 q, .int .i64 o, .slice Qa za.length Ra] (0, 0) _ rfl (bp_ b.1) Tryz.underlying26 rfl (by kernel_rfl)) rfl ?_
  exact ⟨_, rr_, Kd.S_mono (sf_ s (Kd.S_far (p := ⟨m, 2, none⟩) (Kd.S_types (Kd.S_types Ca.1 a.1 (by decide)) b.1 (by decide)) (fun _ hk => hk.1.2) (.slice Qa za.length Ra)) (fun _ hk => hk.2)) (fun _ hk => trivial), IsS102.pk_ d.1, hs_ u.1, ku_ HK.1⟩
 have cb : (l == 2) = false := beq_eq_false_iff_ne.mpr pa
 have db : (l != 2) = true := bne_iff_ne.mpr pa
 replace H := ie_ H; rcases H with ⟨qa, H⟩ | ⟨qa, H⟩
 ·
  have ib : (l == 3) = true := beq_iff_eq.mpr qa
  have jb : (l != 3) = false := bne_eq_false_iff_eq.mpr qa
  clear qa
  replace H := ie_ H; rcases H with ⟨Da, H⟩ | ⟨Da, H⟩
  ·
   have kb : decide (0 < (i.length : Int)) = true := decide_eq_true Da
   have lb : decide (0 < i.length) = true := decide_eq_true (by omega)
   clear Da
   replace H := in_ H; obtain ⟨Jb, H⟩ := H
   have dd := decide_eq_true Jb
   have ed : decide (0 < i.length) = true := decide_eq_true (by omega)
   clear Jb
   replace H := bi_ H; obtain ⟨⟨Y, Z⟩, fd, H⟩ := H; (try dsimp only at H)
   replace H := im_ H; obtain ⟨mb, H⟩ := H
   obtain ⟨Ea, hy_⟩ : ∃ y_ : List (S80), y_ = (i ++ [(⟨Y, Z⟩ : S80)]) := ⟨_, rfl⟩
   replace H : (some (q, o, Ea, F, G)) = some (r1, r2, r3, r4, r5) := hm_
   have nb := M_ hy_; clear hy_
   simp only [Option.some.injEq, Prod.mk.injEq] at H
   obtain ⟨rfl, rfl, rfl, rfl, rfl⟩ := H
   refine ⟨?_⟩
   try go_wp2_with (first | ((with_reducible refine gate_callee (f := 69) rfl ?_); refine gl_ (some 13) Tryz.func69 #[.pointer (some ⟨g, 0, none⟩), .int .i64 12] ?_; (with_reducible refine (spec_l1Below.calls g x O P 12 l F G w0 _ ?_ ?_ A5.1).mono ?_); exact IsS102.pk_ d.1; exact hs_ u.1; rintro e gd ⟨rfl, hi, hb, hk⟩; refine ⟨_, rfl, ?_⟩; replace b := kc_ hk b #[.int .i64 0, .int .i64 0, .slice none 0 0]; replace c := M_ (Kd.S_mono (Kd.S_keep (IsS102.apartS (IsS102.pk_ d.1) (sy_ c.1 a.1) (by decide)) hk (fun _ h => h.2)) (fun _ h => h.1)); replace a := kc_ hk a #[.int .i64 q, .int .i64 o, .slice z i.length r]; replace HK := kh_ HK hk; replace u := M_ (hb); replace d := M_ (hi); (try clear hb hk hi); obtain ⟨jd, kd, ld, md, nd, od⟩ := bc3_ a.1))
   obtain ⟨c, b, a⟩ := y3_ c b a
   replace d := M_ (IsS102.drew d.1)
   replace HK := M_ (keep_drew HK.1)
   replace u := db_ u
   have ia : 0 ≤ (0 : Int) := (by omega)
   have ja : 0 < (i.length : Int) := of_decide_eq_true (by with_reducible assumption)
   obtain ⟨L, ka, la, Kb, C, A, aa, ba⟩ := at_T80 (Kd.S_reads' c.1).2.2 0 ia ja
   cases Kb
   obtain ⟨pd, Ja, Ka, ma⟩ := Kd.S_get c.1 z80 0 ia (by first | exact ja | exact of_decide_eq_true (by with_reducible assumption) | (have e_ := (Kd.S_reads' c.1).1; omega))
   obtain ⟨Lb, rfl, T⟩ := k80_openM Ka
   have D := ma 1 _ rfl
   rw [add_field _ _ 1 (by omega)] at D
   replace D := Option.some.inj (D.symm.trans A)
   rw [D] at T
   have E := M_ (show Kd.S k29 29 _ _ _ _ ((rd_T80 i 0).f1) from T)
   clear D T ma Ja
   have qi588 : (0 < i.length) = True := eq_true (by omega)
   (try rw [show ((0 : Int)).toNat = 0 from rfl] at C)
   (try rw [show 0 * 2 = 0 from rfl] at C)
   (try rw [Addr.add_zero'] at C)
   (try rw [show ((0 : Int)).toNat = 0 from rfl] at A)
   (try rw [show 0 * 2 = 0 from rfl] at A)
   (try rw [Addr.add_zero'] at A)
   have B := M_ ba
   have Fa := M_ aa
   clear ba aa
   replace ia := eq_true ia; replace ja := eq_true ja
   refine start_ (n := 11) (S := fun w' => c_ w' m 0 (.int .i64 q) ∧ c_ w' m 1 (.int .i64 o) ∧ c_ w' m 2 (.slice (some L) i.length r) ∧ w'.cell? L = some (.int .i64 ((rd_T80 i 0).f0)) ∧ w'.cell? ⟨L.block, L.off + 1, none⟩ = some (.slice ka ((rd_T80 i 0).f1).length la)) (ds := [8, 10]) (b_ 0 11) (by kernel_rfl) rfl rfl ⟨bx_ a.1 0, bx_ a.1 1, bx_ a.1 2, C, A⟩ (fun j => ?_); refine with_tabW spec_l7Any.tab11 spec_l7Any.bits11 (fun t Aa => ?_)
   generalize gd.drew = qe at c b a d HK u E B C A j ⊢
   refine p_ t ?_
   refine qw_ 2 (m_ 11 5) t ?_
   refine qt_ 1 (b_ 3 8) t Aa j ?_
   refine t0_ t Aa j ?_
   refine p_ t ?_
   refine t0_ t Aa j ?_
   refine o1_ 6 (b_ 7 4) t (fun K U => ?_)
   refine gs_ Tryz.func92 #[.agg #[.int .i64 ((rd_T80 i 0).f0), .slice ka ((rd_T80 i 0).f1).length la]] ?_
   with_reducible refine (spec_l6Copy.calls k ((rd_T80 i 0).f0) _ _ ((rd_T80 i 0).f1) Y Z _ ?side1 ?side2 fd.1).mono ?_
   (case side1 => repeat (first | exact (by repeat (first | (with_reducible exact B.1) | (with_reducible first | refine ca_ ?_ _ | refine cn_ ?_ _ | refine cd_ ?_) | exact B.1)) | (with_reducible first | refine ca_ ?_ _ | refine cn_ ?_ _ | refine cd_ ?_)))
   (case side2 => exact Fa.1)
   rintro e re ⟨ee, rfl, Q, hb⟩
   have Mb := (hb.cell (World.block_lt_of_cell? _ _ (j.2.2.2.1))).trans (j.2.2.2.1)
   have Nb := (hb.cell (World.block_lt_of_cell? _ _ (j.2.2.2.2))).trans (j.2.2.2.2)
   refine ⟨_, rfl, ?_⟩
   obtain ⟨La, fa⟩ := Kd.S_name Q
   replace c := su_ fa (sp_ c.1) hb
   replace E := su_ fa (sp_ E.1) hb
   have ga := M_ (Kd.S_lower (Kd.S_gez fa Q) (ks_ HK))
   replace d := IsS102.bk_ d hb
   obtain ⟨b, a⟩ := u2_ hb b a
   replace B := M_ (Kd.C_below (by repeat (first | (with_reducible exact B.1) | (with_reducible first | refine ca_ ?_ _ | refine cn_ ?_ _ | refine cd_ ?_) | exact B.1)) hb)
   replace HK := kt_ HK hb
   replace u := st_ u hb
   (try clear hb Q)
   obtain ⟨Ob, Pb, Ta⟩ := Kd.S_slice ga.1
   (first | subst Ta | (obtain ⟨rfl, rfl⟩ := si_ Ta))
   obtain ⟨ob, Ma, na⟩ := Kd.S_fp (Kd.S_apart' (ga.1) (Kd.S_typed c.1) (by decide))
   refine ho_ U ⟨bx_ a.1 0, bx_ a.1 1, bx_ a.1 2, Mb, Nb⟩ (fun j => ?_)
   refine o1_ 7 (b_ 8 3) t (fun K U => ?_)
   refine value_ (w1 := ?_) (v := ?_) (by rfl) rfl ?_ ?_
   rotate_left 2
   ·
    go_simp
    constructor
    ·
     rfl
    rfl
   refine ho_ U ⟨(blk_cell (blk_alloc a.1 _) 0).trans rfl, (blk_cell (blk_alloc a.1 _) 1).trans rfl, (blk_cell (blk_alloc a.1 _) 2).trans rfl, (World.cell?_alloc_lt _ _ _ (World.block_lt_of_cell? _ _ (j.2.2.2.1))).trans (j.2.2.2.1), (World.cell?_alloc_lt _ _ _ (World.block_lt_of_cell? _ _ (j.2.2.2.2))).trans (j.2.2.2.2)⟩ (fun j => ?_)
   refine l1_ 8 (b_ 9 2) t (fun K U => ?_)
   refine Kd.S_append_step k80 w.heap.size (by rfl) (.tmp 39) (.tmp 45) 24 80 (.agg #[(.int .i64 0), (.slice none 0 0)]) 32 rfl Tryz.underlying24 info80 rfl (by decide) (by omega) (.slice (some L) i.length r) i (⟨Y, Z⟩ : S80) [.int .i64 Y, .slice Ob Z.length Pb] (fun _ => True) (fun k_ => ob k_) rfl rfl ?aP (fun k_ hk_ => ⟨trivial, (na k_ hk_).1.2⟩) ?aF ?aO (Below.refl _ _) ?aS ?aL ?_
   (case aP => exact k80_mkM _ _ _ (⟨Y, Z⟩ : S80) (Kd.S_mono Ma (fun _ h_ => h_)))
   (case aF => exact (fun _ _ => trivial))
   (case aO => exact (Kd.S_mono (sp_ c.1) (fun k_ hk => ⟨trivial, fun e_ => (fun ez_ => Nat.lt_irrefl _ (Nat.lt_of_lt_of_le hk.2 (na _ ez_).1.1.2)) e_⟩)))
   (case aS => exact (ks_ HK))
   (case aL => have := mb.1; omega)
   intro fe qd ho hb hg hat
   rw [← nb.1] at ho
   replace d := M_ (IsS102.grown (IsS102.pk_ d.1) hg (IsS102.own_neS d.1 c.1 (by decide)))
   replace b := bg_ b hg c
   replace a := bg_ a hg c
   replace E := M_ (Kd.S_after (ok := (fun k_ => Ha ≤ k_ ∧ k_ < La)) (Kd.S_mono (sp_ E.1) (fun _ hk => ⟨⟨hk.1.1.2, hk.2⟩, hk.1.2⟩)) hg hat)
   replace u := M_ (below_weaken (hs_ u.1) HL.out hb)
   replace HK := M_ (KeepBut.trans (ku_ HK.1) (KeepBut.of_grown hg g) (Kd.S_base2 c.1))
   have Ga := M_ (ho)
   clear c ga
   clear ho hb hg hat
   obtain ⟨Ua, Va, Wa⟩ := Kd.S_slice Ga.1
   (first | subst Wa | (obtain ⟨rfl, rfl⟩ := si_ Wa))
   refine U.out _ _ ?_
   clear U K
   refine nm_ ?_
   refine p_ t ?_
   refine l1_ 10 (b_ 11 0) t (fun K U => ?_)
   have ge : qd.cell? ⟨m, 2, none⟩ = some (.slice (some L) i.length r) := bx_ a.1 2
   have rd := blk_frozen a.1 2
   have Qb := R.1
   have Rb := I.1
   refine skip_ (w1 := ?_) (by rfl) rfl ?_ ?_
   rotate_left
   ·
    go_simp
    rfl
   refine U.out _ _ ?_
   clear U K
   refine done_ (done_of t.1 (by kernel_rfl)) ?_
   obtain ⟨sd, td, ud, vd, wd, xd⟩ := bc3_ a.1
   have yd := n2_ y
   obtain ⟨zd, Ad, Bd, Cd, Dd, Ed⟩ := bc3_ b.1
   try go_wp2
   refine bodyPost_ret (results_cell_row rfl _ _ s 26 #[.int .i64 q, .int .i64 o, .slice Ua Ea.length Va] (0, 0) _ rfl (bp_ b.1) Tryz.underlying26 rfl (by kernel_rfl)) rfl ?_
   exact ⟨_, rr_, Kd.S_mono (sf_ s (Kd.S_far (p := ⟨m, 2, none⟩) (Kd.S_types (Kd.S_types Ga.1 a.1 (by decide)) b.1 (by decide)) (fun _ hk => hk.1.2) (.slice Ua Ea.length Va)) (fun _ hk => hk.2)) (fun _ hk => trivial), IsS102.pk_ d.1, hs_ u.1, ku_ HK.1⟩
  have kb : decide (0 < (i.length : Int)) = false := decide_eq_false Da
  have lb : decide (0 < i.length) = false := decide_eq_false (by omega)
  clear Da
  simp only [Option.some.injEq, Prod.mk.injEq] at H
  obtain ⟨rfl, rfl, rfl, rfl, rfl⟩ := H
  refine ⟨?_⟩
  go_wp2_with (first | ((with_reducible refine gate_callee (f := 69) rfl ?_); refine gl_ (some 13) Tryz.func69 #[.pointer (some ⟨g, 0, none⟩), .int .i64 12] ?_; (with_reducible refine (spec_l1Below.calls g x O P 12 l F G w0 _ ?_ ?_ A5.1).mono ?_); exact IsS102.pk_ d.1; exact hs_ u.1; rintro e se ⟨rfl, hi, hb, hk⟩; refine ⟨_, rfl, ?_⟩; replace b := kc_ hk b #[.int .i64 0, .int .i64 0, .slice none 0 0]; replace c := M_ (Kd.S_mono (Kd.S_keep (IsS102.apartS (IsS102.pk_ d.1) (sy_ c.1 a.1) (by decide)) hk (fun _ h => h.2)) (fun _ h => h.1)); replace a := kc_ hk a #[.int .i64 q, .int .i64 o, .slice z i.length r]; replace HK := kh_ HK hk; replace u := M_ (hb); replace d := M_ (hi); (try clear hb hk hi); obtain ⟨Fd, Gd, Hd, Id, Jd, Ld⟩ := bc3_ a.1; have Md := n2_ y; obtain ⟨Nd, Od, Pd, Qd, Rd, Sd⟩ := bc3_ b.1))
  refine bodyPost_ret (results_cell_row rfl _ _ s 26 #[.int .i64 q, .int .i64 o, .slice z i.length r] (0, 0) _ rfl (bp_ b.1) Tryz.underlying26 rfl (by kernel_rfl)) rfl ?_
  exact ⟨_, rr_, Kd.S_mono (sy_ c.1 b.1) (fun _ hk => trivial), IsS102.pk_ d.1, hs_ u.1, ku_ HK.1⟩
 have ib : (l == 3) = false := beq_eq_false_iff_ne.mpr qa
 have jb : (l != 3) = true := bne_iff_ne.mpr qa
 simp only [Option.some.injEq, Prod.mk.injEq] at H
 obtain ⟨rfl, rfl, rfl, rfl, rfl⟩ := H
 refine ⟨?_⟩
 go_wp2_with (first | ((with_reducible refine gate_callee (f := 69) rfl ?_); refine gl_ (some 13) Tryz.func69 #[.pointer (some ⟨g, 0, none⟩), .int .i64 12] ?_; (with_reducible refine (spec_l1Below.calls g x O P 12 l F G w0 _ ?_ ?_ A5.1).mono ?_); exact IsS102.pk_ d.1; exact hs_ u.1; rintro e te ⟨rfl, hi, hb, hk⟩; refine ⟨_, rfl, ?_⟩; replace b := kc_ hk b #[.int .i64 0, .int .i64 0, .slice none 0 0]; replace c := M_ (Kd.S_mono (Kd.S_keep (IsS102.apartS (IsS102.pk_ d.1) (sy_ c.1 a.1) (by decide)) hk (fun _ h => h.2)) (fun _ h => h.1)); replace a := kc_ hk a #[.int .i64 q, .int .i64 o, .slice z i.length r]; replace HK := kh_ HK hk; replace u := M_ (hb); replace d := M_ (hi); (try clear hb hk hi); obtain ⟨Td, Ud, Vd, Wd, Xd, Yd⟩ := bc3_ a.1; have Vb := n2_ y; obtain ⟨Wb, Xb, Yb, Zb, ac, bc⟩ := bc3_ b.1))
 refine bodyPost_ret (results_cell_row rfl _ _ s 26 #[.int .i64 q, .int .i64 o, .slice z i.length r] (0, 0) _ rfl (bp_ b.1) Tryz.underlying26 rfl (by kernel_rfl)) rfl ?_
 exact ⟨_, rr_, Kd.S_mono (sy_ c.1 b.1) (fun _ hk => trivial), IsS102.pk_ d.1, hs_ u.1, ku_ HK.1⟩
def spec_l7Labels.j0 : Nat → List (S29) → Bool → List Int → Int → Int → Option ((List (S99)) × Int × Int)
 | 0, _, _, _, _, _ => none
 | k + 1, h, i, c, d, e => if i = true then ((some (([] : List (S99)) : List (S99))).bind fun g => ((spec_l1Below.f c d e (h.length : Int)).bind fun a => (if 0 ≤ a.1 then (if a.1 < (h.length : Int) then (if g.length + ((rd_T29 h a.1).f0).length < 4398046511104 then (some ((g ++ ((rd_T29 h a.1).f0)), a.2.1, a.2.2)) else (none)) else (none)) else (none)))) else ((spec_l2Draw.f k c d e).bind fun b => (some (b.1, b.2.1, b.2.2)))
def spec_l7Labels.f (k : Nat) (b : List Int) (c : Int) (d : Int) (e : List (S29)) : Option ((List (S99)) × Int × Int) := if (e.length : Int) > 0 then ((spec_l1Once.f b c d 3).bind fun a => (spec_l7Labels.j0 k e (!a.1) b a.2.1 a.2.2)) else (spec_l7Labels.j0 k e false b c d)
theorem spec_l7Labels.calls (k : Nat) (g : Nat) (i : List Int) (v : Int) (x : Int) (A1 : Option Addr) (c1 : Nat) (n : List (S29)) (T : List (S99)) (U : Int) (V : Int) (z w : World) (hI : IsS102 z w g i v x) (hB : Below z.heap.size z w) (W : ∀ W_, KeepBut w W_ g none → Kd.C k29 W_ A1 n.length n) (X : n.length ≤ c1) (h : spec_l7Labels.f k i v x n = some (T, U, V)) :
  Calls Tryz.prog 53 #[.pointer (some ⟨g, 0, none⟩), .slice A1 n.length c1] w fun e w' => ∃ v0_ : Value, e = .returned (v0_) ∧ Kd.R k99 99 w' w.heap.size (fun _ => True) v0_ T ∧ IsS102 z w' g i U V ∧ Below z.heap.size z w' ∧ KeepBut w w' g none := by
 have oa := M_ W
 have Aa := M_ X
 clear W X
 have d := M_ hI
 have HK := M_ (KeepBut.refl w g none)
 have HL := M_ hB.size
 clear hI
 have Ba := M_ hB.size
 have o := M_ hB
 clear hB
 unfold spec_l7Labels.f at h
 have H := h; clear h
 have M := M_ H
 clear H
 go_enter Tryz.func53, Tryz.ntmps53
 go_upto_region 1 with (fail)
 go_cut [12] (fun pa wc => ∃ (kq : Nat) (u : Bool) (a : Int) (c : Int), pa = .bool u ∧ Aside0 (spec_l7Labels.j0 kq n u i a c = some (T, U, V)) ∧ Aside0 (kq ≤ k) ∧ Aside0 (IsS102 z wc g i a c) ∧ Aside0 (KeepBut w wc g none) ∧ Aside0 (Below z.heap.size z wc))
 case first =>
  have H := M.1
  clear M
  replace H := ie_ H; rcases H with ⟨Y, H⟩ | ⟨Y, H⟩
  ·
   have p : decide (0 < (n.length : Int)) = true := decide_eq_true Y
   have Z : decide (0 < n.length) = true := decide_eq_true (by omega)
   clear Y
   (first | rw [p] | (simp only [i64_w, i32_w]; rw [p]) | skip)
   replace H := bi_ H; obtain ⟨⟨G, I, J⟩, A5, H⟩ := H; (try dsimp only at H)
   have H' := M_ H
   clear H
   go_wp2_with (first | (go_at_call 70; (with_reducible refine (spec_l1Once.calls g i v x 3 G I J z _ ?_ ?_ A5.1).mono ?_); exact IsS102.pk_ d.1; exact hs_ o.1; rintro e w6 ⟨rfl, hi, hb, hk⟩; replace HK := kh_ HK hk; replace o := M_ (hb); replace d := M_ (hi); (try clear hb hk hi)))
   go_meet
   case rel => exact ⟨_, (!G), (I), (J), rs_, H', ⟨by first | omega | exact Nat.le_refl _⟩, ⟨IsS102.pk_ d.1⟩, ⟨ku_ HK.1⟩, ⟨hs_ o.1⟩⟩
  have p : decide (0 < (n.length : Int)) = false := decide_eq_false Y
  have Z : decide (0 < n.length) = false := decide_eq_false (by omega)
  clear Y
  (first | rw [p] | (simp only [i64_w, i32_w]; rw [p]) | skip)
  have H' := M_ H
  clear H
  go_wp2
  go_meet
  case rel => exact ⟨_, (false), (v), (x), rs_, H', ⟨by first | omega | exact Nat.le_refl _⟩, ⟨IsS102.pk_ d.1⟩, ⟨ku_ HK.1⟩, ⟨hs_ o.1⟩⟩
 case rest =>
  clear M
  obtain ⟨kq, u, a, c, rfl, HA, HJ2, d, HK, o⟩ := hcut
  cases kq with
  | zero => exact absurd HA.1 (by simp [spec_l7Labels.j0])
  | succ ra =>
   have H := HA.1
   clear HA
   simp only [spec_l7Labels.j0] at H
   replace H := ib_ H; rcases H with ⟨rfl, H⟩ | ⟨rfl, H⟩
   ·
    obtain ⟨y, hy_⟩ : ∃ y_ : List (S99), y_ = (([] : List (S99))) := ⟨_, rfl⟩
    replace H : ((spec_l1Below.f i a c (n.length : Int)).bind fun j => (if 0 ≤ j.1 then (if j.1 < (n.length : Int) then (if y.length + ((rd_T29 n j.1).f0).length < 4398046511104 then (some ((y ++ ((rd_T29 n j.1).f0)), j.2.1, j.2.2)) else (none)) else (none)) else (none))) = some (T, U, V) := hm_
    have A := M_ hy_; clear hy_
    replace H := bi_ H; obtain ⟨⟨m, K, L⟩, A8, H⟩ := H; (try dsimp only at H)
    replace H := i2_ H; obtain ⟨xa, sa, H⟩ := H
    replace H := im_ H; obtain ⟨O, H⟩ := H
    obtain ⟨aa, hy_⟩ : ∃ y_ : List (S99), y_ = (y ++ ((rd_T29 n m).f0)) := ⟨_, rfl⟩
    replace H : (some (aa, K, L)) = some (T, U, V) := hm_
    have P := M_ hy_; clear hy_
    simp only [Option.some.injEq, Prod.mk.injEq] at H
    obtain ⟨rfl, rfl, rfl⟩ := H
    go_wp2_with (first | ((with_reducible refine gd_ 13 rfl ?_); refine Kd.R_lit k99 _ 99 ?hg (N := 13) ?hd (xs := ([] : List (S99))) (inner := []) (ok := fun _ => True) (okp := fun _ => True) ?hr ?hp (fun _ hk => hk) trivial (Below.refl _ _) (Nat.le_refl _) (by simp) ?_; (case hd => rfl); (case hg => rfl); (case hr => first | (go_simp; done) | (go_simp; rfl)); (case hp => exact (Reps.none _ _)); intro ba Ea q hb hg_ hnew_; clear hg_ hnew_; (first | rw [← A.1] at q | (simp only [Int.reduceToNat] at q; rw [← A.1] at q)); have l := rl_ q HK; have B := IsS102.bk_ d hb; have n2_ := kt_ HK hb; have D := st_ o hb; clear d HK o; have d := B; have HK := n2_; have o := D; clear B n2_ D; clear hb q) | ((with_reducible refine gate_callee (f := 69) rfl ?_); refine gl_ (some 18) Tryz.func69 #[.pointer (some ⟨g, 0, none⟩), .int .i64 (n.length : Int)] ?_; (with_reducible refine (spec_l1Below.calls g i a c (n.length : Int) m K L z _ ?_ ?_ A8.1).mono ?_); exact IsS102.pk_ d.1; exact hs_ o.1; rintro e Fa ⟨rfl, hi, hb, hk⟩; refine ⟨_, rfl, ?_⟩; replace l := IsS102.rk_ d l hk; replace HK := kh_ HK hk; replace o := M_ (hb); replace d := M_ (hi); (try clear hb hk hi); have E : 0 ≤ (m : Int) := of_decide_eq_true (by with_reducible assumption); have F : m < (n.length : Int) := of_decide_eq_true (by with_reducible assumption); obtain ⟨ta, ma, na, ca, da, ea, fa, ga, r, s⟩ := at_T29 (Kd.C_foot_now oa.1 HK.1) m E F; cases ca; have t := M_ s; have ha := M_ r; clear s r; replace E := eq_true E; replace F := eq_true F) | ((with_reducible refine gate_builtin (b := .append) (xs := #[.tmp 13, .tmp 21]) rfl ?_); at_builtin; refine Kd.R_append_rows k99 w.heap.size rfl (.tmp 13) (.tmp 21) 27 99 (.agg #[(.string ⟨#[]⟩), (.string ⟨#[]⟩)]) 32 rfl Tryz.underlying27 info99 rfl (by decide) (by omega) ba y ((rd_T29 n m).f0) _ _ _ (fun _ => True) (fun _ => False) rfl rfl ?aO ?aR (fun _ _ h => h) (fun _ h => h.elim) ?aF (Below.refl _ _) ?aS ?aL ?_; (case aR => repeat (first | exact (by repeat (first | (with_reducible exact t.1) | (with_reducible first | refine ca_ ?_ _ | refine cn_ ?_ _ | refine cd_ ?_) | exact t.1)) | (with_reducible first | refine ca_ ?_ _ | refine cn_ ?_ _ | refine cd_ ?_))); (case aF => exact (fun _ _ => trivial)); (case aO => exact (rp_ l.1)); (case aS => exact (ks_ HK)); (case aL => have := O.1; omega); intro ya Ga ho hb hg hat; rw [← P.1] at ho; replace d := M_ (IsS102.grown (IsS102.pk_ d.1) hg (IsS102.own_ne d.1 l.1 (by decide))); replace o := M_ (below_weaken (hs_ o.1) HL.out hb); replace HK := M_ (KeepBut.trans (ku_ HK.1) (KeepBut.of_grown hg g) (Kd.R_base2 l.1)); have Q := M_ (ho); clear l; clear ho hb hg hat))
    go_ret
    exact ⟨_, rr_, rp_ Q.1, IsS102.pk_ d.1, hs_ o.1, ku_ HK.1⟩
   replace H := bi_ H; obtain ⟨⟨ia, ja, ka⟩, ua, H⟩ := H; (try dsimp only at H)
   simp only [Option.some.injEq, Prod.mk.injEq] at H
   obtain ⟨rfl, rfl, rfl⟩ := H
   go_wp2_with (first | ((with_reducible refine gate_callee (f := 88) rfl ?_); refine gl_ (some 24) Tryz.func88 #[.pointer (some ⟨g, 0, none⟩)] ?_; (with_reducible refine (spec_l2Draw.calls ra g i a c ia ja ka z _ ?_ ?_ ua.1).mono ?_); exact IsS102.pk_ d.1; exact hs_ o.1; rintro e Ha ⟨za, rfl, la, hi, hb, hk⟩; refine ⟨_, rfl, ?_⟩; have S := rl_ la HK; have B := kh_ HK hk; have n2_ := M_ (hb); have D := M_ (hi); clear HK o d; have HK := B; have o := n2_; have d := D; clear B n2_ D; (try clear hb hk hi la)))
   go_ret
   exact ⟨_, rr_, rp_ S.1, IsS102.pk_ d.1, hs_ o.1, ku_ HK.1⟩
def spec_DrawPutIn.f (k : Nat) (g : List Int) : Option (Int × Int × (List (S80)) × (List (S99)) × Int × Int × ByteArray) := (spec_l1New.f k g).bind fun b => ((spec_l7Any.f k b.1 b.2.1 b.2.2 0 1).bind fun a => ((spec_l4Draw.f k b.1 a.2.2.2.1 a.2.2.2.2).bind fun c => ((spec_AlarmsIn.f k a.1 a.2.1 a.2.2.1).bind fun e => ((spec_l7Labels.f k b.1 c.2.2.2.2.1 c.2.2.2.2.2 e).bind fun d => (some (a.1, a.2.1, a.2.2.1, d.1, c.2.1, c.2.2.1, c.2.2.2.1))))))
theorem spec_DrawPutIn.calls (k : Nat) (A0 : Option Addr) (c0 : Nat) (l0 : List Int) (r1 : Int) (r2 : Int) (r3 : List (S80)) (r4 : List (S99)) (r5 : Int) (r6 : Int) (r7 : ByteArray) (w : World) (Ca : Kd.C (Kd.int .u8) w A0 l0.length l0) (Da : l0.length ≤ c0) (h : spec_DrawPutIn.f k l0 = some (r1, r2, r3, r4, r5, r6, r7)) :
  Calls Tryz.prog 7 #[.slice A0 l0.length c0] w fun e w' => ∃ v2_ v3_ : Value, e = .returned (.tuple #[.agg #[.int .i64 r1, .int .i64 r2, v2_], .agg #[v3_, .int .i64 r5, .int .i64 r6, .string r7]]) ∧ Kd.S k80 80 w' w.heap.size (fun k_ => some k_ ≠ (v3_ : Value).ownBlock) v2_ r3 ∧ Kd.R k99 99 w' w.heap.size (fun _ => True) v3_ r4 ∧ Below w.heap.size w w' := by
 have hu26 := Tryz.underlying26
 have hu29 := Tryz.underlying29
 have Hb := M_ Ca
 have Ib := M_ Da
 clear Ca Da
 have J := M_ (Below.refl w.heap.size w)
 unfold spec_DrawPutIn.f at h
 have H := h; clear h
 replace H := bi_ H; obtain ⟨⟨A, qa, ra⟩, A2, H⟩ := H; (try dsimp only at H)
 replace H := bi_ H; obtain ⟨⟨P, Q, O, na, oa⟩, A3, H⟩ := H; (try dsimp only at H)
 replace H := bi_ H; obtain ⟨⟨W, aa, ba, ca, T, U⟩, A4, H⟩ := H; (try dsimp only at H)
 replace H := bi_ H; obtain ⟨pa, A5, H⟩ := H
 replace H := bi_ H; obtain ⟨⟨V, sa, ta⟩, A6, H⟩ := H; (try dsimp only at H)
 simp only [Option.some.injEq, Prod.mk.injEq] at H
 obtain ⟨rfl, rfl, rfl, rfl, rfl, rfl, rfl⟩ := H
 go_enter Tryz.func7, Tryz.ntmps7
 try go_wp2_with (first | ((with_reducible refine gd_ 2 rfl ?_); refine bV_ 2 #[.int .i64 0, .int .i64 0, .slice none 0 0] 26 ?_; intro z hg w7 b hb; have Jb := gq_ hg J; replace J := st_ J hb; clear hb hg) | ((with_reducible refine gd_ 3 rfl ?_); refine bV_ 3 #[.slice none 0 0, .int .i64 0, .int .i64 0, .string (⟨#[]⟩ : ByteArray)] 29 ?_; intro t hg w8 a hb; have Kb := gq_ hg J; replace J := st_ J hb; obtain ⟨q, r, b⟩ := nb_ b hg hb; clear hb hg) | ((with_reducible refine gate_callee (f := 50) rfl ?_); refine gl_ (some 8) Tryz.func50 #[.slice A0 l0.length c0] ?_; (with_reducible refine (spec_l1New.calls k _ _ l0 A qa ra w _ ?_ ?_ ?_ A2.1).mono ?_); exact hs_ J.1; exact Hb.1; exact Ib.1; rintro e w9 ⟨g619, rfl, hi, hb, hb2⟩; refine ⟨_, rfl, ?_⟩; replace J := M_ (hb); have d := M_ (hi); have xa := Ne_.mk (IsS102.ne_blk hi (bb_ b.1 hb2) (by decide)); have ya := Ne_.mk (Ne.symm (IsS102.ne_blk hi (bb_ b.1 hb2) (by decide))); replace b := M_ (bb_ b.1 hb2); have za := Ne_.mk (IsS102.ne_blk hi (bb_ a.1 hb2) (by decide)); have Aa := Ne_.mk (Ne.symm (IsS102.ne_blk hi (bb_ a.1 hb2) (by decide))); replace a := M_ (bb_ a.1 hb2); (try clear hb); (try clear hb2); (try clear hi)) | ((with_reducible refine gate_callee (f := 51) rfl ?_); refine gl_ (some 10) Tryz.func51 #[.pointer (some ⟨g619, 0, none⟩), .int .i64 0, .int .i64 1] ?_; (with_reducible refine (spec_l7Any.calls k g619 A qa ra 0 1 P Q O na oa w _ ?_ ?_ A3.1).mono ?_); exact IsS102.pk_ d.1; exact hs_ J.1; rintro e cd ⟨Mc, rfl, I, hi, hb, hk⟩; refine ⟨_, rfl, ?_⟩; replace b := kb_ hk b; have g := M_ (Kd.S_lower (Kd.S_newB I (pb_ a.1)) (below_size (hs_ J.1))); replace a := kb_ hk a; replace J := M_ (hb); replace d := M_ (hi); (try clear hb); (try clear hb2); (try clear hk hi I)) | ((with_reducible refine gd_ 5 rfl ?_); refine bV_ 5 #[.int .i64 0, .int .i64 0, .slice none 0 0] 26 ?_; intro ga hg dd l hb; replace g := sb_ g hb; have Lb := gq_ hg J; replace J := st_ J hb; obtain ⟨L, B, b⟩ := nb_ b hg hb; obtain ⟨D, u, a⟩ := nb_ a hg hb; have ha := Ne_.mk ((by rw [hg]; exact Nat.ne_of_lt (IsS102.lt (show IsS102 w _ g619 A na oa from IsS102.pk_ d.1)) : g619 ≠ ga)); replace d := IsS102.bk_ d hb; have ia := ns_ ha; clear hb hg; have Mb := n2_ B; have Nb := n2_ u; have Ob := n2_ ia; obtain ⟨Pb, Qb, Rb, Sb, Tb, Ub⟩ := bc3_ l.1; obtain ⟨da, X, Ea⟩ := Kd.S_slice g.1; subst Ea) | ((with_reducible refine gate_callee (f := 52) rfl ?_); refine gl_ (some 12) Tryz.func52 #[.pointer (some ⟨g619, 0, none⟩)] ?_; (with_reducible refine (spec_l4Draw.calls k g619 A na oa W aa ba ca T U w _ ?_ ?_ A4.1).mono ?_); exact IsS102.pk_ d.1; exact hs_ J.1; rintro e ed ⟨Nc, rfl, I, hi, hb, hk⟩; refine ⟨_, rfl, ?_⟩; replace b := kc_ hk b #[.int .i64 0, .int .i64 0, .slice none 0 0]; replace a := kc_ hk a #[.slice none 0 0, .int .i64 0, .int .i64 0, .string (⟨#[]⟩ : ByteArray)]; replace g := M_ (Kd.S_mono (Kd.S_told (Kd.S_oldK (IsS102.apartS (show IsS102 w _ g619 A na oa from IsS102.pk_ d.1) (sy_ g.1 l.1) (by decide)) hk) (Kd.R_base I)) (fun _ h_ => h_.1)); replace l := kc_ hk l #[.int .i64 P, .int .i64 Q, .slice da O.length X]; have s := rw_ I J; replace J := M_ (hb); replace d := M_ (hi); (try clear hb); (try clear hb2); (try clear hk hi I)) | ((with_reducible refine gd_ 6 rfl ?_); refine bV_ 6 #[.slice none 0 0, .int .i64 0, .int .i64 0, .string (⟨#[]⟩ : ByteArray)] 29 ?_; intro m hg Vb o hb; replace g := se_ g hg hb; replace s := rb_ s hb; have Wb := gq_ hg J; replace J := st_ J hb; obtain ⟨M, E, b⟩ := nb_ b hg hb; obtain ⟨F, x, a⟩ := nb_ a hg hb; obtain ⟨Ba, ja, l⟩ := nb_ l hg hb; have ka := Ne_.mk ((by rw [hg]; exact Nat.ne_of_lt (IsS102.lt (show IsS102 w _ g619 A T U from IsS102.pk_ d.1)) : g619 ≠ m)); replace d := IsS102.bk_ d hb; have la := ns_ ka; clear hb hg; obtain ⟨ea, fa, Fa⟩ := Kd.R_slice s.1; subst Fa; have Xb := n2_ E; have Yb := n2_ x; have Zb := n2_ ja; have ac := n2_ la; obtain ⟨bc, cc, dc, ec, fc, gc, hc, ic⟩ := bc4_ o.1; obtain ⟨jc, kc, lc, mc, nc, oc⟩ := bc3_ l.1) | ((with_reducible refine gate_callee (f := 27) rfl ?_); refine gl_ (some 15) Tryz.func27 #[.agg #[.int .i64 P, .int .i64 Q, .slice da O.length X]] ?_; (with_reducible refine (spec_AlarmsIn.calls k P Q _ _ O pa _ ?side1 ?side2 A5.1).mono ?_); (case side1 => refine (Kd.S_reads' (e := 80) (base := w.heap.size) (ok := fun k_ => (((True ∧ k_ ≠ t) ∧ some k_ ≠ (.slice ea W.length fa : Value).ownBlock) ∧ k_ ≠ m)) (n := O.length) (c := X) ?_).2.2; exact (sf_ m g.1 (fun _ hk => hk.2))); (case side2 => exact (Kd.S_reads' g.1).2.1); rintro e fd ⟨Oc, rfl, I, hb⟩; refine ⟨_, rfl, ?_⟩; replace g := M_ (Kd.S_elder' (sf_ m g.1 (fun _ hk => hk.2)) (Kd.S_base I) hb); have y := M_ (Kd.S_lower (Kd.S_newB (Kd.S_newB (Kd.S_new' I (Kd.R_lt (ry_ s.1 o.1))) (bq_ a.1)) (bp_ o.1)) (below_size (hs_ J.1))); replace s := M_ (Kd.R_below (ry_ s.1 o.1) hb); obtain ⟨b, a⟩ := u2_ hb b a; replace d := M_ (IsS102.below (show IsS102 w ((((Vb.setCell ⟨m, 0, none⟩ (.slice ea W.length fa)).setCell ⟨m, 1, none⟩ (.int .i64 aa)).setCell ⟨m, 2, none⟩ (.int .i64 ba)).setCell ⟨m, 3, none⟩ (.string ca)) g619 A T U from IsS102.pk_ d.1) hb); replace l := bk2_ l hb; replace o := by_ o #[.slice ea W.length fa, .int .i64 aa, .int .i64 ba, .string ca] hb; replace J := st_ J hb; (try clear hb); (try clear hb2); (try clear I); obtain ⟨ua, va, Ga⟩ := Kd.S_slice y.1; subst Ga) | ((with_reducible refine gate_callee (f := 53) rfl ?_); refine gl_ (some 16) Tryz.func53 #[.pointer (some ⟨g619, 0, none⟩), .slice ua pa.length va] ?_; (with_reducible refine (spec_l7Labels.calls k g619 A T U _ _ pa V sa ta w _ ?_ ?_ ?_ ?_ A6.1).mono ?_); exact IsS102.pk_ d.1; exact hs_ J.1; exact Kd.C_foot_own ((Kd.S_R (IsS102.apartS (show IsS102 w _ g619 A T U from IsS102.pk_ d.1) (sp_ y.1) (by decide)))) (fun _ h_ => h_.2); exact (Kd.S_reads' y.1).2.1; rintro e pc ⟨Pc, rfl, I, hi, hb, hk⟩; refine ⟨_, rfl, ?_⟩; replace b := kb_ hk b; replace a := kb_ hk a; replace g := M_ (Kd.S_mono (Kd.S_told (Kd.S_oldK (IsS102.apartS (show IsS102 w _ g619 A T U from IsS102.pk_ d.1) (sp_ g.1) (by decide)) hk) (Kd.R_base I)) (fun _ h_ => h_.1)); replace l := kb_ hk l; replace o := kb_ hk o; replace y := M_ (Kd.S_mono (Kd.S_told (Kd.S_oldK (IsS102.apartS (show IsS102 w _ g619 A T U from IsS102.pk_ d.1) (sp_ y.1) (by decide)) hk) (Kd.R_base I)) (fun _ h_ => h_.1)); have G := M_ (Kd.R_lower (Kd.R_new' I (Kd.R_lt (rp_ s.1))) (below_size (hs_ J.1))); replace s := M_ (Kd.R_mono (Kd.R_told (Kd.R_oldK (IsS102.apart (show IsS102 w _ g619 A T U from IsS102.pk_ d.1) (rp_ s.1) (by decide)) hk) (Kd.R_base I)) (fun _ h_ => h_.1)); replace J := M_ (hb); replace d := M_ (hi); (try clear hb); (try clear hb2); (try clear hk hi I); obtain ⟨Y, Z, Ha⟩ := Kd.R_slice G.1; subst Ha; obtain ⟨qc, rc, sc, tc, uc, vc, wc, xc⟩ := bc4_ o.1))
 generalize hw_ : (pc.setCell ⟨m, 0, none⟩ (.slice Y V.length Z)) = Ia
 have Ja := ws_ hw_ (Kd.S_mono (ok' := (fun k_ => some k_ ≠ (.slice ea W.length fa : Value).ownBlock ∧ some k_ ≠ (.slice ua pa.length va : Value).ownBlock ∧ some k_ ≠ (.slice Y V.length Z : Value).ownBlock ∧ k_ ≠ t ∧ k_ ≠ m)) (sf_ m g.1 (fun _ hk => hk.1.1.2)) (fun _ hk => ⟨hk.1.1.1.2, ⟨hk.1.2, ⟨hk.2, ⟨hk.1.1.1.1.2, hk.1.1.2⟩⟩⟩⟩))
 have Ka := wr_ hw_ (Kd.R_mono (ok' := (fun k_ => some k_ ≠ (.slice Y V.length Z : Value).ownBlock)) (ry_ s.1 o.1) (fun _ hk => hk.2))
 have n2_ := ws_ hw_ (Kd.S_mono (ok' := (fun k_ => some k_ ≠ (.slice ea W.length fa : Value).ownBlock ∧ some k_ ≠ (.slice Y V.length Z : Value).ownBlock ∧ k_ ≠ t ∧ k_ ≠ m)) (sf_ m y.1 (fun _ hk => hk.1.2)) (fun _ hk => ⟨hk.1.1.1.2, ⟨hk.2, ⟨hk.1.1.2, hk.1.2⟩⟩⟩))
 have La := wr_ hw_ (Kd.R_mono (ok' := (fun k_ => some k_ ≠ (.slice ea W.length fa : Value).ownBlock)) (ry_ G.1 o.1) (fun _ hk => hk.2))
 have Ma : Aside0 (IsS102 w Ia g619 A sa ta) := ⟨by rw [← hw_]; exact (IsS102.pk_ d.1)⟩
 replace b := wq_ hw_ b
 replace a := wq_ hw_ a
 replace l := wq_ hw_ l
 replace o := wp_ hw_ #[.slice Y V.length Z, .int .i64 aa, .int .i64 ba, .string ca] o
 replace J := wb_ hw_ J
 clear hw_
 (try clear g s y G d)
 have g := Ja
 have s := Ka
 have y := n2_
 have G := La
 have d := Ma
 clear Ja Ka n2_ La Ma
 obtain ⟨g, s, y, G, b, a, l, o⟩ := y8_ g s y G b a l o
 replace d := M_ (IsS102.drew d.1)
 replace J := db_ J
 refine start_ (n := 4) (S := fun w' => c_ w' ga 0 (.int .i64 P) ∧ c_ w' ga 1 (.int .i64 Q) ∧ c_ w' ga 2 (.slice da O.length X) ∧ c_ w' m 0 (.slice Y V.length Z) ∧ c_ w' m 1 (.int .i64 aa) ∧ c_ w' m 2 (.int .i64 ba) ∧ c_ w' m 3 (.string ca)) (ds := []) (b_ 0 4) (by kernel_rfl) rfl rfl (f3_ l.1 (e4_ o.1)) (fun j => ?_)
 generalize Ia.drew = ma at g s y G b a l o d J j ⊢
 refine take_ (i := 0) (N := some 18) (v := ?_) (a' := ?_) (b_ 1 3) rfl rfl (by kernel_rfl) (fun _ _ _ h => h) (Or.inl ⟨by rfl, ?_⟩) j ?_ ?_
 rotate_left
 ·
  rintro w' ⟨s0, s1, s2, s3, s4, s5, s6⟩
  go_simp
  with_reducible rfl
 rotate_left
 ·
  simp only [fr_]
  rfl
 refine take_ (i := 1) (N := some 19) (v := ?_) (a' := ?_) (b_ 2 2) rfl rfl (by kernel_rfl) (fun _ _ _ h => h) (Or.inl ⟨by rfl, ?_⟩) j ?_ ?_
 rotate_left
 ·
  rintro w' ⟨s0, s1, s2, s3, s4, s5, s6⟩
  go_simp
  with_reducible rfl
 rotate_left
 ·
  simp only [fr_]
  rfl
 refine one_ (i := 2) (N := none) (b_ 3 1) rfl rfl (by kernel_rfl) (by decide) (fun K hK => ?_)
 have Qc : ma.cell? ⟨z, 0, none⟩ = some (.int .i64 0) := bx_ b.1 0
 have yc := blk_frozen b.1 0
 have Oa := r.1
 have Pa := B.1
 have Qa := E.1
 have Ra := q.1
 have Sa := L.1
 have Ta := M.1
 have Rc : ma.cell? ⟨z, 1, none⟩ = some (.int .i64 0) := bx_ b.1 1
 have zc := blk_frozen b.1 1
 have Ua := r.1
 have Va := B.1
 have Wa := E.1
 have Xa := q.1
 have Ya := L.1
 have Za := M.1
 have Sc : ma.cell? ⟨z, 2, none⟩ = some (.slice none 0 0) := bx_ b.1 2
 have Ac := blk_frozen b.1 2
 have ab := r.1
 have bb := B.1
 have cb := E.1
 have db := q.1
 have eb := L.1
 have fb := M.1
 refine skip_ (w1 := ?_) (by rfl) rfl ?_ ?_
 rotate_left
 ·
  go_simp
  rfl
 refine hK.out _ _ ⟨(cg_ (j.1)), (cg_ (j.2.1)), (cg_ (j.2.2.1)), (cg_ (j.2.2.2.1)), (cg_ (j.2.2.2.2.1)), (cg_ (j.2.2.2.2.2.1)), (cg_ (j.2.2.2.2.2.2))⟩ (fun j => ?_)
 clear hK K
 refine one_ (i := 3) (N := none) (b_ 4 0) rfl rfl (by kernel_rfl) (by decide) (fun K hK => ?_)
 have Tc : ma.cell? ⟨t, 0, none⟩ = some (.slice none 0 0) := bx_ a.1 0
 have Bc := blk_frozen a.1 0
 have gb := q.1
 have ib := u.1
 have jb := x.1
 have kb := r.1
 have lb := D.1
 have mb := F.1
 have Uc : ma.cell? ⟨t, 1, none⟩ = some (.int .i64 0) := bx_ a.1 1
 have Cc := blk_frozen a.1 1
 have nb := q.1
 have ob := u.1
 have pb := x.1
 have qb := r.1
 have rb := D.1
 have sb := F.1
 have Vc : ma.cell? ⟨t, 2, none⟩ = some (.int .i64 0) := bx_ a.1 2
 have Dc := blk_frozen a.1 2
 have tb := q.1
 have ub := u.1
 have vb := x.1
 have wb := r.1
 have xb := D.1
 have yb := F.1
 have Wc : ma.cell? ⟨t, 3, none⟩ = some (.string (⟨#[]⟩ : ByteArray)) := bx_ a.1 3
 have Ec := blk_frozen a.1 3
 have zb := q.1
 have Ab := u.1
 have Bb := x.1
 have Cb := r.1
 have Db := D.1
 have Eb := F.1
 refine skip_ (w1 := ?_) (by rfl) rfl ?_ ?_
 rotate_left
 ·
  go_simp
  rfl
 refine hK.out _ _ ⟨(cg_ (j.1)), (cg_ (j.2.1)), (cg_ (j.2.2.1)), (cg_ (j.2.2.2.1)), (cg_ (j.2.2.2.2.1)), (cg_ (j.2.2.2.2.2.1)), (cg_ (j.2.2.2.2.2.2))⟩ (fun j => ?_)
 clear hK K
 refine done_ (by kernel_rfl) ?_
 try go_wp2
 refine bodyPost_ret (results_cc rfl _ _ z t 26 29 #[.int .i64 P, .int .i64 Q, .slice da O.length X] #[.slice Y V.length Z, .int .i64 aa, .int .i64 ba, .string ca] (0, 0) (0, 0) _ _ rfl (bp_ b.1) Tryz.underlying26 rfl (by kernel_rfl) rfl (bp_ a.1) Tryz.underlying29 rfl (by kernel_rfl)) rfl ?_
 exact ⟨_, _, rr_, Kd.S_mono (sf_ t (Kd.S_far (p := ⟨z, 2, none⟩) (Kd.S_far (p := ⟨z, 1, none⟩) (Kd.S_far (p := ⟨z, 0, none⟩) (Kd.S_mono (Kd.S_types g.1 b.1 (by decide)) (fun k_ hk => (⟨hk, hk.1.2.2.2.1⟩ : _ ∧ k_ ≠ t))) (fun _ hk => hk.1.2) (.int .i64 P)) (fun _ hk => hk.1.2) (.int .i64 Q)) (fun _ hk => hk.1.2) (.slice da O.length X)) (fun _ hk => hk.2)) (fun _ hk => hk.1.1.2.2.1), Kd.R_mono (rf_ t (Kd.R_far (p := ⟨z, 2, none⟩) (Kd.R_far (p := ⟨z, 1, none⟩) (Kd.R_far (p := ⟨z, 0, none⟩) (Kd.R_types (Kd.R_types G.1 b.1 (by decide)) a.1 (by decide)) (fun _ hk => hk.1.2) (.int .i64 P)) (fun _ hk => hk.1.2) (.int .i64 Q)) (fun _ hk => hk.1.2) (.slice da O.length X)) (fun _ hk => hk.2)) (fun _ hk => trivial), hs_ J.1⟩
def impl_copySet.f (a : List (S99)) : Option ((List (S99))) := if ([] : List (S99)).length + a.length < 4398046511104 then (some (([] : List (S99)) ++ a)) else (none)
theorem impl_copySet.calls (n : Option Addr) (o : Nat) (a : List (S99)) (r : List (S99)) (w : World) (g : Kd.C k99 w n a.length a) (i : a.length ≤ o) (h : impl_copySet.f a = some r) :
  Calls Tryz.prog 97 #[.slice n a.length o] w fun e w' => ∃ v0_ : Value, e = .returned (v0_) ∧ Kd.R k99 99 w' w.heap.size (fun _ => True) v0_ r ∧ Below w.heap.size w w' := by
 have m := M_ g
 have q := M_ i
 clear g i
 have l := M_ (Below.refl w.heap.size w)
 unfold impl_copySet.f at h
 have H := h; clear h
 replace H := im_ H; obtain ⟨j, H⟩ := H
 obtain ⟨k, hy_⟩ : ∃ y_ : List (S99), y_ = (([] : List (S99)) ++ a) := ⟨_, rfl⟩
 replace H : (some k) = some r := hm_
 have c := M_ hy_; clear hy_
 obtain rfl := Option.some.inj H
 go_enter Tryz.func97, Tryz.ntmps97
 go_wp2_with (first | ((with_reducible refine gate_builtin (b := .append) (xs := #[.const (.slice none 0 0), .tmp 3]) rfl ?_); at_builtin; refine Kd.R_append_rows k99 (w0 := w) w.heap.size rfl (.const (.slice none 0 0)) (.tmp 3) 27 99 (.agg #[(.string ⟨#[]⟩), (.string ⟨#[]⟩)]) 32 rfl Tryz.underlying27 info99 rfl (by decide) (by omega) (.slice none 0 0) ([] : List (S99)) a _ _ _ (fun _ => True) (fun _ => False) rfl rfl ?aO ?aR (fun _ _ h => h) (fun _ h => h.elim) ?aF ?aB ?aS ?aL ?_; (case aR => repeat (first | exact m.1 | (with_reducible first | refine ca_ ?_ _ | refine cn_ ?_ _ | refine cd_ ?_))); (case aB => exact (hs_ l.1)); (case aF => exact (fun _ _ => trivial)); (case aO => exact ((Kd.R_nil _ _ _ _ (fun _ => True)))); (case aS => exact (below_size (hs_ l.1))); (case aL => have := j.1; omega); intro p s ho hb hg hat; rw [← c.1] at ho; replace l := M_ (hb); have d := M_ (ho); clear ho hb hg hat))
 go_ret
 exact ⟨_, rr_, rp_ d.1, hs_ l.1⟩
def impl_copyAlarm.f (a : List (S99)) (b : Int) (c : Int) (d : ByteArray) : Option ((List (S99)) × Int × Int × ByteArray) := (impl_copySet.f a).bind fun e => (some (e, b, c, d))
theorem impl_copyAlarm.calls (g : Option Addr) (i : Nat) (b : List (S99)) (j : Int) (k : Int) (l : ByteArray) (O : List (S99)) (P : Int) (Q : Int) (S : ByteArray) (w : World) (m : Kd.C k99 w g b.length b) (n : b.length ≤ i) (h : impl_copyAlarm.f b j k l = some (O, P, Q, S)) :
  Calls Tryz.prog 58 #[.agg #[.slice g b.length i, .int .i64 j, .int .i64 k, .string l]] w fun e w' => ∃ v0_ : Value, e = .returned (.agg #[v0_, .int .i64 P, .int .i64 Q, .string S]) ∧ Kd.R k99 99 w' w.heap.size (fun _ => True) v0_ O ∧ Below w.heap.size w w' := by
 have hu29 := Tryz.underlying29
 have t := M_ m
 have u := M_ n
 clear m n
 have o := M_ (Below.refl w.heap.size w)
 unfold impl_copyAlarm.f at h
 have H := h; clear h
 replace H := bi_ H; obtain ⟨q, A2, H⟩ := H
 simp only [Option.some.injEq, Prod.mk.injEq] at H
 obtain ⟨rfl, rfl, rfl, rfl⟩ := H
 go_enter Tryz.func58, Tryz.ntmps58
 go_wp2_with (first | ((with_reducible refine gd_ 1 rfl ?_); refine bV_ 1 #[.slice g b.length i, .int .i64 j, .int .i64 k, .string l] 29 ?_; intro v hg w3 a hb; have B := gq_ hg o; replace o := st_ o hb; clear hb hg) | ((with_reducible refine gd_ 2 rfl ?_); refine bV_ 2 #[.slice none 0 0, .int .i64 0, .int .i64 0, .string (⟨#[]⟩ : ByteArray)] 29 ?_; intro r hg w4 c hb; have D := gq_ hg o; replace o := st_ o hb; obtain ⟨d, x, a⟩ := nb_ a hg hb; clear hb hg; have T := n2_ d; obtain ⟨U, V, W, X, Y, Z, aa, ba⟩ := bc4_ a.1) | ((with_reducible refine gate_callee (f := 97) rfl ?_); refine gl_ (some 5) Tryz.func97 #[.slice g b.length i] ?_; (with_reducible refine (impl_copySet.calls _ _ b q _ ?_ ?_ A2.1).mono ?_); exact cp_ ((Kd.C_below t.1 o.1)); exact u.1; rintro e w7 ⟨ca, rfl, y, hb⟩; refine ⟨_, rfl, ?_⟩; have s := rw_ y o; obtain ⟨a, c, o⟩ := u3_ hb a c o; (try clear hb y); obtain ⟨z, A, E⟩ := Kd.R_slice s.1; subst E; obtain ⟨da, ea, fa, ga, ha, ia, ja, ka⟩ := bc4_ a.1; obtain ⟨F, G, I, J, K, L, M, N⟩ := bc4_ c.1))
 refine bodyPost_ret (results_cell_row rfl _ _ r 29 #[.slice z q.length A, .int .i64 j, .int .i64 k, .string l] (0, 0) _ rfl (bp_ c.1) Tryz.underlying29 rfl (by kernel_rfl)) rfl ?_
 exact ⟨_, rr_, Kd.R_mono (rf_ r (Kd.R_far (p := ⟨v, 0, none⟩) (Kd.R_types (Kd.R_types s.1 a.1 (by decide)) c.1 (by decide)) (fun _ hk => hk.1.2) (.slice z q.length A)) (fun _ hk => hk.2)) (fun _ hk => trivial), hs_ o.1⟩
def impl_Touch.f (e : List (S99)) (a : Int) (b : Int) (f : ByteArray) (g : List (S99)) (c : Int) (d : Int) (h : ByteArray) : Option (Bool) := if a ≤ d then (some (decide (c ≤ b))) else (some false)
theorem impl_Touch.calls (j : Option Addr) (k : Nat) (a : List (S99)) (g : Int) (l : Int) (m : ByteArray) (n : Option Addr) (o : Nat) (b : List (S99)) (p : Int) (i : Int) (q : ByteArray) (r : Bool) (w : World) (s : Kd.C k99 w j a.length a) (t : a.length ≤ k) (u : Kd.C k99 w n b.length b) (v : b.length ≤ o) (h : impl_Touch.f a g l m b p i q = some r) :
  Calls Tryz.prog 80 #[.agg #[.slice j a.length k, .int .i64 g, .int .i64 l, .string m], .agg #[.slice n b.length o, .int .i64 p, .int .i64 i, .string q]] w fun e w' => e = .returned (.bool r) ∧ Below w.heap.size w w' := by
 have hu29 := Tryz.underlying29
 have D := M_ s
 have E := M_ t
 clear s t
 have F := M_ u
 have G := M_ v
 clear u v
 have x := M_ (Below.refl w.heap.size w)
 unfold impl_Touch.f at h
 have H := h; clear h
 have AHz_ := M_ H
 clear H
 go_enter Tryz.func80, Tryz.ntmps80
 go_wp2_with (first | ((with_reducible refine gd_ 2 rfl ?_); refine bV_ 2 #[.slice j a.length k, .int .i64 g, .int .i64 l, .string m] 29 ?_; intro I hg w4 c hb; have J := gq_ hg x; replace x := st_ x hb; clear hb hg) | (((with_reducible refine gd_ 3 rfl ?_); refine bV_ 3 #[.slice n b.length o, .int .i64 p, .int .i64 i, .string q] 29 ?_; intro K hg w5 y hb; have L := gq_ hg x; replace x := st_ x hb; obtain ⟨d, z, c⟩ := nb_ c hg hb; clear hb hg; have M := n2_ d; obtain ⟨N, O, P, Q, R, S, T, U⟩ := bc4_ c.1; obtain ⟨V, W, X, Y, Z, aa, ba, ca⟩ := bc4_ y.1); refine Aside0.out ?_))
 have H := AHz_.1
 clear AHz_
 replace H := ie_ H; rcases H with ⟨A, H⟩ | ⟨A, H⟩
 ·
  have B := decide_eq_true A
  clear A
  obtain rfl := Option.some.inj H
  refine ⟨?_⟩
  go_wp2
  go_ret
  exact an_ (hs_ x.1)
 have B : decide (g ≤ i) = false := decide_eq_false A
 clear A
 obtain rfl := Option.some.inj H
 refine ⟨?_⟩
 go_wp2
 go_ret
 exact an_ (hs_ x.1)
def impl_Merge.f (h : List (S99)) (c : Int) (i : Int) (j : ByteArray) (d : List (S99)) (b : Int) (e : Int) (g : ByteArray) : Option ((List (S99)) × Int × Int × ByteArray) := (impl_copyAlarm.f d b e g).bind fun a => ((impl_Touch.f h c i j d b e g).bind fun k => (if k = true then (some (a.1, mn c b, a.2.2.1, a.2.2.2)) else (some (a.1, a.2.1, a.2.2.1, a.2.2.2))))
theorem impl_Merge.calls (F : Option Addr) (G : Nat) (n : List (S99)) (o : Int) (x : Int) (y : ByteArray) (z : Option Addr) (A : Nat) (i : List (S99)) (j : Int) (l : Int) (m : ByteArray) (r1 : List (S99)) (r2 : Int) (r3 : Int) (r4 : ByteArray) (w : World) (U : Kd.C k99 w F n.length n) (V : n.length ≤ G) (W : Kd.C k99 w z i.length i) (X : i.length ≤ A) (h : impl_Merge.f n o x y i j l m = some (r1, r2, r3, r4)) :
  Calls Tryz.prog 24 #[.agg #[.slice F n.length G, .int .i64 o, .int .i64 x, .string y], .agg #[.slice z i.length A, .int .i64 j, .int .i64 l, .string m]] w fun e w' => ∃ v0_ : Value, e = .returned (.agg #[v0_, .int .i64 r2, .int .i64 r3, .string r4]) ∧ Kd.R k99 99 w' w.heap.size (fun _ => True) v0_ r1 ∧ Below w.heap.size w w' := by
 have hu29 := Tryz.underlying29
 have Y := M_ U
 have Z := M_ V
 clear U V
 have J := M_ W
 have K := M_ X
 clear W X
 have k := M_ (Below.refl w.heap.size w)
 unfold impl_Merge.f at h
 have H := h; clear h
 replace H := bi_ H; obtain ⟨⟨B, M, D, E⟩, A3, H⟩ := H; (try dsimp only at H)
 replace H := bi_ H; obtain ⟨Rc, A4, H⟩ := H
 replace H := ib_ H; rcases H with ⟨rfl, H⟩ | ⟨rfl, H⟩
 ·
  obtain ⟨ca, I⟩ : ∃ j_ : Int, (mn o j) = j_ := ⟨_, rfl⟩
  replace H : (some (B, ca, D, E)) = some (r1, r2, r3, r4) := by first | (rw [I] at H; exact H) | (simp only [I] at H ⊢; exact H)
  (try rw [I] at A3)
  (try rw [I] at A4)
  have hji6_ : (if j < o then j else o) = ca := I
  simp only [Option.some.injEq, Prod.mk.injEq] at H
  obtain ⟨rfl, rfl, rfl, rfl⟩ := H
  go_enter Tryz.func24, Tryz.ntmps24
  go_wp2_with (first | ((with_reducible refine gd_ 2 rfl ?_); refine bV_ 2 #[.slice F n.length G, .int .i64 o, .int .i64 x, .string y] 29 ?_; intro ha hg w7 a hb; have ia := gq_ hg k; replace k := st_ k hb; clear hb hg) | ((with_reducible refine gd_ 3 rfl ?_); refine bV_ 3 #[.slice z i.length A, .int .i64 j, .int .i64 l, .string m] 29 ?_; intro ja hg w8 b hb; have ka := gq_ hg k; replace k := st_ k hb; obtain ⟨N, q, a⟩ := nb_ a hg hb; clear hb hg) | ((with_reducible refine gd_ 4 rfl ?_); refine bV_ 4 #[.slice none 0 0, .int .i64 0, .int .i64 0, .string (⟨#[]⟩ : ByteArray)] 29 ?_; intro L hg w9 c hb; have la := gq_ hg k; replace k := st_ k hb; obtain ⟨r, O, a⟩ := nb_ a hg hb; obtain ⟨s, P, b⟩ := nb_ b hg hb; clear hb hg; have wa := n2_ q; have xa := n2_ s; obtain ⟨ya, za, Aa, Ba, Ca, Da, Ea, Fa⟩ := bc4_ b.1) | ((with_reducible refine gate_callee (f := 58) rfl ?_); refine gl_ (some 7) Tryz.func58 #[.agg #[.slice z i.length A, .int .i64 j, .int .i64 l, .string m]] ?_; (with_reducible refine (impl_copyAlarm.calls _ _ i j l m B M D E _ ?_ ?_ A3.1).mono ?_); exact cp_ ((Kd.C_below J.1 k.1)); exact K.1; rintro e Sc ⟨na, rfl, aa, hb⟩; refine ⟨_, rfl, ?_⟩; have d := rw_ aa k; obtain ⟨a, b, c, k⟩ := u4_ hb a b c k; (try clear hb aa)) | ((with_reducible refine gd_ 5 rfl ?_); refine bV_ 5 #[.slice none 0 0, .int .i64 0, .int .i64 0, .string (⟨#[]⟩ : ByteArray)] 29 ?_; intro ba hg Tc g hb; replace d := rb_ d hb; have ma := gq_ hg k; replace k := st_ k hb; obtain ⟨Q, t, a⟩ := nb_ a hg hb; obtain ⟨S, u, b⟩ := nb_ b hg hb; obtain ⟨T, v, c⟩ := nb_ c hg hb; clear hb hg; obtain ⟨da, ea, oa⟩ := Kd.R_slice d.1; subst oa; have Ga := n2_ t; have Ha := n2_ u; have Ia := n2_ v; obtain ⟨Ja, Ka, La, Ma, Na, Oa, Pa, Qa⟩ := bc4_ g.1; have Ra := n2_ r; obtain ⟨Sa, Ta, Ua, Va, Wa, Xa, Ya, Za⟩ := bc4_ a.1; obtain ⟨ab, bb, cb, db, eb, fb, gb, ib⟩ := bc4_ b.1) | ((with_reducible refine gate_callee (f := 80) rfl ?_); refine gl_ (some 10) Tryz.func80 #[.agg #[.slice F n.length G, .int .i64 o, .int .i64 x, .string y], .agg #[.slice z i.length A, .int .i64 j, .int .i64 l, .string m]] ?_; (with_reducible refine (impl_Touch.calls _ _ n o x y _ _ i j l m true _ ?_ ?_ ?_ ?_ A4.1).mono ?_); exact Kd.C_below Y.1 (hs_ k.1); exact Z.1; exact Kd.C_below J.1 (hs_ k.1); exact K.1; rintro e Uc ⟨rfl, hb⟩; refine ⟨_, rfl, ?_⟩; replace d := M_ (Kd.R_below (ry_ d.1 g.1) hb); obtain ⟨a, b, c⟩ := u3_ hb a b c; replace g := by_ g #[.slice da B.length ea, .int .i64 M, .int .i64 D, .string E] hb; replace k := st_ k hb; (try clear hb); obtain ⟨jb, kb, lb, mb, nb, ob, pb, qb⟩ := bc4_ a.1; obtain ⟨rb, sb, tb, ub, vb, wb, xb, yb⟩ := bc4_ b.1; obtain ⟨zb, Ab, Bb, Cb, Db, Eb, Fb, Gb⟩ := bc4_ g.1; obtain ⟨Hb, Ib, Jb, Kb, Lb, Mb, Nb, Ob⟩ := bc4_ c.1))
  refine bodyPost_ret (results_cell_row rfl _ _ L 29 #[.slice da B.length ea, .int .i64 ca, .int .i64 D, .string E] (0, 0) _ rfl (bp_ c.1) Tryz.underlying29 rfl (by kernel_rfl)) rfl ?_
  exact ⟨_, by first | rfl | (simp [errW_none, errW_some] <;> rfl) | (simp only [← I]; first | rfl | (simp [errW_none, errW_some] <;> rfl)) | (simp [*, errW_none, errW_some] <;> rfl), Kd.R_mono (rf_ L (Kd.R_far (p := ⟨ba, 1, none⟩) (Kd.R_types (Kd.R_types d.1 g.1 (by decide)) c.1 (by decide)) (fun _ hk => hk.1.2) (.int .i64 ca)) (fun _ hk => hk.2)) (fun _ hk => trivial), hs_ k.1⟩
 simp only [Option.some.injEq, Prod.mk.injEq] at H
 obtain ⟨rfl, rfl, rfl, rfl⟩ := H
 go_enter Tryz.func24, Tryz.ntmps24
 go_wp2_with (first | ((with_reducible refine gd_ 2 rfl ?_); refine bV_ 2 #[.slice F n.length G, .int .i64 o, .int .i64 x, .string y] 29 ?_; intro ha hg Vc a hb; have ia := gq_ hg k; replace k := st_ k hb; clear hb hg) | ((with_reducible refine gd_ 3 rfl ?_); refine bV_ 3 #[.slice z i.length A, .int .i64 j, .int .i64 l, .string m] 29 ?_; intro ja hg Wc b hb; have ka := gq_ hg k; replace k := st_ k hb; obtain ⟨N, q, a⟩ := nb_ a hg hb; clear hb hg) | ((with_reducible refine gd_ 4 rfl ?_); refine bV_ 4 #[.slice none 0 0, .int .i64 0, .int .i64 0, .string (⟨#[]⟩ : ByteArray)] 29 ?_; intro L hg Xc c hb; have la := gq_ hg k; replace k := st_ k hb; obtain ⟨r, O, a⟩ := nb_ a hg hb; obtain ⟨s, P, b⟩ := nb_ b hg hb; clear hb hg; have Pb := n2_ q; have Qb := n2_ s; obtain ⟨Rb, Sb, Tb, Ub, Vb, Wb, Xb, Yb⟩ := bc4_ b.1) | ((with_reducible refine gate_callee (f := 58) rfl ?_); refine gl_ (some 7) Tryz.func58 #[.agg #[.slice z i.length A, .int .i64 j, .int .i64 l, .string m]] ?_; (with_reducible refine (impl_copyAlarm.calls _ _ i j l m B M D E _ ?_ ?_ A3.1).mono ?_); exact cp_ ((Kd.C_below J.1 k.1)); exact K.1; rintro e Yc ⟨na, rfl, aa, hb⟩; refine ⟨_, rfl, ?_⟩; have d := rw_ aa k; obtain ⟨a, b, c, k⟩ := u4_ hb a b c k; (try clear hb aa)) | ((with_reducible refine gd_ 5 rfl ?_); refine bV_ 5 #[.slice none 0 0, .int .i64 0, .int .i64 0, .string (⟨#[]⟩ : ByteArray)] 29 ?_; intro ba hg Zc g hb; replace d := rb_ d hb; have ma := gq_ hg k; replace k := st_ k hb; obtain ⟨Q, t, a⟩ := nb_ a hg hb; obtain ⟨S, u, b⟩ := nb_ b hg hb; obtain ⟨T, v, c⟩ := nb_ c hg hb; clear hb hg; obtain ⟨fa, ga, pa⟩ := Kd.R_slice d.1; subst pa; have Zb := n2_ t; have ac := n2_ u; have bc := n2_ v; obtain ⟨cc, dc, ec, fc, gc, hc, ic, jc⟩ := bc4_ g.1; have kc := n2_ r; obtain ⟨lc, mc, nc, oc, pc, qc, rc, sc⟩ := bc4_ a.1; obtain ⟨tc, uc, vc, wc, xc, yc, zc, Ac⟩ := bc4_ b.1) | ((with_reducible refine gate_callee (f := 80) rfl ?_); refine gl_ (some 10) Tryz.func80 #[.agg #[.slice F n.length G, .int .i64 o, .int .i64 x, .string y], .agg #[.slice z i.length A, .int .i64 j, .int .i64 l, .string m]] ?_; (with_reducible refine (impl_Touch.calls _ _ n o x y _ _ i j l m false _ ?_ ?_ ?_ ?_ A4.1).mono ?_); exact Kd.C_below Y.1 (hs_ k.1); exact Z.1; exact Kd.C_below J.1 (hs_ k.1); exact K.1; rintro e ad ⟨rfl, hb⟩; refine ⟨_, rfl, ?_⟩; replace d := M_ (Kd.R_below (ry_ d.1 g.1) hb); obtain ⟨a, b, c⟩ := u3_ hb a b c; replace g := by_ g #[.slice fa B.length ga, .int .i64 M, .int .i64 D, .string E] hb; replace k := st_ k hb; (try clear hb); obtain ⟨Bc, Cc, Dc, Ec, Fc, Gc, Hc, Ic⟩ := bc4_ g.1; obtain ⟨Jc, Kc, Lc, Mc, Nc, Oc, Pc, Qc⟩ := bc4_ c.1))
 refine bodyPost_ret (results_cell_row rfl _ _ L 29 #[.slice fa B.length ga, .int .i64 M, .int .i64 D, .string E] (0, 0) _ rfl (bp_ c.1) Tryz.underlying29 rfl (by kernel_rfl)) rfl ?_
 exact ⟨_, rr_, Kd.R_mono (ry_ d.1 c.1) (fun _ hk => trivial), hs_ k.1⟩
def impl_copyAlarms.l0 : Nat → List (S29) → List (S29) → Int → Int → Option ((List (S29)))
 | 0, _, _, _, _ => none
 | k + 1, d, c, e, b => if b < e then (if 0 ≤ b then (if b < (c.length : Int) then ((impl_copyAlarm.f ((rd_T29 c b).f0) ((rd_T29 c b).f1) ((rd_T29 c b).f2) ((rd_T29 c b).f3)).bind fun a => (if d.length < 2513169434916 then (impl_copyAlarms.l0 k (d ++ [(⟨a.1, a.2.1, a.2.2.1, a.2.2.2⟩ : S29)]) c e (wrap64 (b + 1))) else (none))) else (none)) else (none)) else (some d)
def impl_copyAlarms.f (k : Nat) (l0 : List (S29)) : Option ((List (S29))) := impl_copyAlarms.l0 k ([] : List (S29)) l0 (l0.length : Int) 0
theorem impl_copyAlarms.calls (k : Nat) (X : Option Addr) (Y : Nat) (l0 : List (S29)) (r : List (S29)) (w : World) (F : Kd.C k29 w X l0.length l0) (G : l0.length ≤ Y) (h : impl_copyAlarms.f k l0 = some r) :
  Calls Tryz.prog 81 #[.slice X l0.length Y] w fun e w' => ∃ v0_ : Value, e = .returned (v0_) ∧ Kd.S k29 29 w' w.heap.size (fun _ => True) v0_ r ∧ Below w.heap.size w w' := by
 have hu29 := Tryz.underlying29
 have T := M_ F
 have pa := M_ G
 clear F G
 have u := M_ (Below.refl w.heap.size w)
 unfold impl_copyAlarms.f at h
 have H := h; clear h
 have H' := M_ H
 clear H
 go_enter Tryz.func81, Tryz.ntmps81
 go_wp2
 go_loopg [3, 8] k (fun kq v3 v8 w' => ∃ (p : List (S29)) (a : Int), v8 = .int .i64 a ∧ Aside0 (impl_copyAlarms.l0 kq p l0 (l0.length : Int) a = some r) ∧ Aside0 (kq ≤ k) ∧ Aside0 (Kd.S k29 29 w' w.heap.size (fun _ => True) v3 p) ∧ Aside0 (Below w.heap.size w w'))
 case atStart => exact ⟨(([] : List (S29))), (0), rs_, H', ⟨Nat.le_refl _⟩, ⟨ni_⟩, ⟨hs_ u.1⟩⟩
 case round =>
  clear H'
  obtain ⟨p, a, rfl, U, I, d, u⟩ := hrel
  cases gk with
  | zero => exact absurd U.1 (by simp [impl_copyAlarms.l0])
  | succ Z =>
   have H := U.1
   clear U
   simp only [impl_copyAlarms.l0] at H
   replace H := ie_ H; rcases H with ⟨J, H⟩ | ⟨J, H⟩
   ·
    have K := decide_eq_true J
    clear J
    replace H := i2_ H; obtain ⟨aa, ba, H⟩ := H
    replace H := bi_ H; obtain ⟨⟨j, q, s, t⟩, A5, H⟩ := H; (try dsimp only at H)
    replace H := im_ H; obtain ⟨L, H⟩ := H
    obtain ⟨y, hy_⟩ : ∃ y_ : List (S29), y_ = (p ++ [(⟨j, q, s, t⟩ : S29)]) := ⟨_, rfl⟩
    replace H : (impl_copyAlarms.l0 Z y l0 (l0.length : Int) (wrap64 (a + 1))) = some r := hm_
    have B := M_ hy_; clear hy_
    have H' := M_ H
    clear H
    obtain ⟨V, l, m, M, N, O, P, Q, v, x, ca, da⟩ := au_T29 T.1 u a
    cases M
    go_wp2_with (first | ((with_reducible refine gd_ 5 rfl ?_); refine bV_ 5 #[.slice none 0 0, .int .i64 0, .int .i64 0, .string (⟨#[]⟩ : ByteArray)] 29 ?_; intro i hg w7 c hb; replace d := se_ d hg hb; have W := gq_ hg u; replace u := st_ u hb; clear hb hg; obtain ⟨ea, fa, ga, ha, ia, ja, ka, la⟩ := bc4_ c.1) | ((with_reducible refine gate_callee (f := 58) rfl ?_); refine gl_ (some 14) Tryz.func58 #[.agg #[.slice l ((rd_T29 l0 a).f0).length m, .int .i64 ((rd_T29 l0 a).f1), .int .i64 ((rd_T29 l0 a).f2), .string ((rd_T29 l0 a).f3)]] ?_; (with_reducible refine (impl_copyAlarm.calls _ _ ((rd_T29 l0 a).f0) ((rd_T29 l0 a).f1) ((rd_T29 l0 a).f2) ((rd_T29 l0 a).f3) j q s t _ ?_ ?_ A5.1).mono ?_); exact Kd.C_below x.1 (hs_ u.1); exact v.1; rintro e w9 ⟨ma, rfl, D, hb⟩; refine ⟨_, rfl, ?_⟩; replace d := M_ (Kd.S_elder' (sf_ i d.1 (fun _ hk => hk.2)) (Kd.R_base D) hb); have n := rw_ D u; replace c := by_ c #[.slice l ((rd_T29 l0 a).f0).length m, .int .i64 ((rd_T29 l0 a).f1), .int .i64 ((rd_T29 l0 a).f2), .string ((rd_T29 l0 a).f3)] hb; replace u := st_ u hb; (try clear hb D); obtain ⟨z, A, R⟩ := Kd.R_slice n.1; subst R) | ((with_reducible refine gate_builtin (b := .append) (xs := #[.tmp 12, .tmp 15]) rfl ?_); at_builtin; refine Kd.S_append k29 (w0 := w) w.heap.size rfl (.tmp 12) (.tmp 15) 40 29 (.agg #[(.slice none 0 0), (.int .i64 0), (.int .i64 0), (.string ⟨#[]⟩)]) 56 rfl Tryz.underlying40 info29 rfl (by decide) (by omega) u3 p (⟨j, q, s, t⟩ : S29) [.slice z j.length A, .int .i64 q, .int .i64 s, .string t] (fun k_ => k_ ≠ i) (fun k_ => some k_ = (.slice z j.length A : Value).ownBlock) rfl rfl ?aP (fun k_ hk_ => ((Kd.R_mono (ok' := fun k_ => ((fun k_ => k_ ≠ i)) k_ ∧ some k_ ≠ (u3 : Value).ownBlock) (Kd.R_types (Kd.R_apart' (n.1) (Kd.S_typed d.1) (by decide)) c.1 (by decide)) (fun k_ hk => ⟨hk.2, hk.1.2⟩))).1 k_ hk_.symm) ?aF ?aO ?aB ?aS ?aL ?_; (case aP => exact k29_mkM _ _ _ (⟨j, q, s, t⟩ : S29) (Kd.R_mono (Kd.R_tight rfl (Kd.R_mono (ok' := fun k_ => ((fun k_ => k_ ≠ i)) k_ ∧ some k_ ≠ (u3 : Value).ownBlock) (Kd.R_types (Kd.R_apart' (n.1) (Kd.S_typed d.1) (by decide)) c.1 (by decide)) (fun k_ hk => ⟨hk.2, hk.1.2⟩))) (fun _ h_ => h_))); (case aB => exact (hs_ u.1)); (case aF => exact (fun k_ hk => Kd.freshB (g := i) (o := .cells #[.slice l ((rd_T29 l0 a).f0).length m, .int .i64 ((rd_T29 l0 a).f1), .int .i64 ((rd_T29 l0 a).f2), .string ((rd_T29 l0 a).f3)] 29 (0, 0)) (pb_ c.1) k_ hk)); (case aO => exact (Kd.S_mono (sp_ d.1) (fun k_ hk => ⟨hk.1.2, fun e_ => hk.2 e_⟩))); (case aS => exact (below_size (hs_ u.1))); (case aL => have := L.1; omega); intro oa ta ho hb hg hat; rw [← B.1] at ho; replace c := M_ (blk_grown (bq_ c.1) hg (Kd.S_away d.1 (fun _ hk => hk.1.2))); replace u := M_ (hb); have E := M_ (ho); clear d n; clear ho hb hg hat))
    go_roundg Z
    case measure => have := I.1; omega
    case rel => exact ⟨(y), (wrap64 (a + 1)), rs_, H', ⟨by have := I.1; omega⟩, ⟨Kd.S_mono (sp_ E.1) (fun _ hk => trivial)⟩, ⟨hs_ u.1⟩⟩
   have K : decide (a < (l0.length : Int)) = false := decide_eq_false J
   clear J
   obtain rfl := Option.some.inj H
   go_wp2
   go_ret
   exact ⟨_, rr_, sp_ d.1, hs_ u.1⟩
def impl_copyChain.f (k : Nat) (a : Int) (b : List (S29)) : Option (Int × (List (S29))) := (impl_copyAlarms.f k b).bind fun c => (some (a, c))
theorem impl_copyChain.calls (k : Nat) (l : Int) (m : Option Addr) (o : Nat) (d : List (S29)) (P : Int) (Q : List (S29)) (w : World) (r : Kd.C k29 w m d.length d) (s : d.length ≤ o) (h : impl_copyChain.f k l d = some (P, Q)) :
  Calls Tryz.prog 94 #[.agg #[.int .i64 l, .slice m d.length o]] w fun e w' => ∃ v1_ : Value, e = .returned (.agg #[.int .i64 P, v1_]) ∧ Kd.S k29 29 w' w.heap.size (fun _ => True) v1_ Q ∧ Below w.heap.size w w' := by
 have hu80 := Tryz.underlying80
 have y := M_ r
 have z := M_ s
 clear r s
 have q := M_ (Below.refl w.heap.size w)
 unfold impl_copyChain.f at h
 have H := h; clear h
 replace H := bi_ H; obtain ⟨x, W, H⟩ := H
 simp only [Option.some.injEq, Prod.mk.injEq] at H
 obtain ⟨rfl, rfl⟩ := H
 go_enter Tryz.func94, Tryz.ntmps94
 try go_wp2_with (first | ((with_reducible refine gd_ 1 rfl ?_); refine bV_ 1 #[.int .i64 l, .slice m d.length o] 80 ?_; intro t hg w3 b hb; have J := gq_ hg q; replace q := st_ q hb; clear hb hg) | ((with_reducible refine gd_ 2 rfl ?_); refine bV_ 2 #[.int .i64 0, .slice none 0 0] 80 ?_; intro p hg X a hb; have L := gq_ hg q; replace q := st_ q hb; obtain ⟨g, j, b⟩ := nb_ b hg hb; clear hb hg))
 obtain ⟨b, a, q⟩ := y3_ b a q
 refine start_ (n := 7) (S := fun w' => c_ w' t 0 (.int .i64 l) ∧ c_ w' t 1 (.slice m d.length o)) (ds := []) (b_ 0 7) (by kernel_rfl) rfl rfl (e2_ b.1) (fun c => ?_)
 generalize X.drew = w5 at b a q c ⊢
 refine pure_ (i := 0) (N := some 3) (v := ?_) (a' := ?_) (b_ 1 6) rfl rfl (by kernel_rfl) (fun _ _ _ h => h) (Or.inl ⟨by rfl, ?_⟩) ?_ ?_
 rotate_left
 ·
  intro w'
  go_simp
  with_reducible rfl
 rotate_left
 ·
  simp only [fr_]
  rfl
 refine pure_ (i := 2) (N := some 5) (v := ?_) (a' := ?_) #[t_,f_,t_,f_,f_,f_,f_] rfl rfl (by kernel_rfl) (fun _ _ _ h => h) (Or.inl ⟨by rfl, ?_⟩) ?_ ?_
 rotate_left
 ·
  intro w'
  go_simp
  with_reducible rfl
 rotate_left
 ·
  simp only [fr_]
  rfl
 refine take_ (i := 1) (N := some 4) (v := ?_) (a' := ?_) (b_ 3 4) rfl rfl (by kernel_rfl) (fun _ _ _ h => h) (Or.inl ⟨by rfl, ?_⟩) c ?_ ?_
 rotate_left
 ·
  rintro w' ⟨s0, s1⟩
  go_simp
  with_reducible rfl
 rotate_left
 ·
  simp only [fr_]
  rfl
 refine take_ (i := 3) (N := some 6) (v := ?_) (a' := ?_) (b_ 4 3) rfl rfl (by kernel_rfl) (fun _ _ _ h => h) (Or.inl ⟨by rfl, ?_⟩) c ?_ ?_
 rotate_left
 ·
  rintro w' ⟨s0, s1⟩
  go_simp
  with_reducible rfl
 rotate_left
 ·
  simp only [fr_]
  rfl
 refine one_ (i := 4) (N := some 7) (b_ 5 2) rfl rfl (by kernel_rfl) (by decide) (fun K D => ?_)
 refine gs_ Tryz.func81 #[.slice m d.length o] ?_
 with_reducible refine (impl_copyAlarms.calls k _ _ d x _ ?_ ?_ W.1).mono ?_
 exact cp_ ((Kd.C_below y.1 q.1))
 exact z.1
 rintro e R ⟨T, rfl, A, hb⟩
 refine ⟨_, rfl, ?_⟩
 have u := sw_ A q
 obtain ⟨b, a, q⟩ := u3_ hb b a q
 (try clear hb A)
 obtain ⟨M, O, B⟩ := Kd.S_slice u.1
 (first | subst B | (obtain ⟨rfl, rfl⟩ := si_ B))
 refine ho_ D (e2_ b.1) (fun c => ?_)
 refine pure_ (i := 5) (N := some 8) (v := ?_) (a' := ?_) (b_ 6 1) rfl rfl (by kernel_rfl) (fun _ _ _ h => h) (Or.inl ⟨by rfl, ?_⟩) ?_ ?_
 rotate_left
 ·
  intro w'
  go_simp
  with_reducible rfl
 rotate_left
 ·
  simp only [fr_]
  rfl
 refine one_ (i := 6) (N := none) (b_ 7 0) rfl rfl (by kernel_rfl) (by decide) (fun K D => ?_)
 have Y : R.cell? ⟨p, 0, none⟩ = some (.int .i64 0) := bx_ a.1 0
 have U := blk_frozen a.1 0
 have E := g.1
 have F := j.1
 have Z : R.cell? ⟨p, 1, none⟩ = some (.slice none 0 0) := bx_ a.1 1
 have V := blk_frozen a.1 1
 have G := g.1
 have I := j.1
 refine skip_ (w1 := ?_) (by rfl) rfl ?_ ?_
 rotate_left
 ·
  go_simp
  rfl
 refine D.out _ _ ⟨(cg_ (c.1)), (cg_ (c.2))⟩ (fun c => ?_)
 clear D K
 refine done_ (by kernel_rfl) ?_
 try go_wp2
 refine bodyPost_ret (results_cell_row rfl _ _ p 80 #[.int .i64 l, .slice M x.length O] (0, 0) _ rfl (bp_ a.1) Tryz.underlying80 rfl (by kernel_rfl)) rfl ?_
 exact ⟨_, rr_, Kd.S_mono (sy_ u.1 a.1) (fun _ hk => trivial), hs_ q.1⟩
def impl_copyPart.l0 : Nat → List (S80) → Int → Int → Int → Int → List (S80) → Option (Int × Int × (List (S80)))
 | 0, _, _, _, _, _, _ => none
 | k + 1, g, h, d, b, c, a => if d < h then (if 0 ≤ d then (if d < (g.length : Int) then ((impl_copyChain.f k ((rd_T80 g d).f0) ((rd_T80 g d).f1)).bind fun e => (if a.length < 4398046511104 then (impl_copyPart.l0 k g h (wrap64 (d + 1)) b c (a ++ [(⟨e.1, e.2⟩ : S80)])) else (none))) else (none)) else (none)) else (some (b, c, a))
def impl_copyPart.f (k : Nat) (b : Int) (c : Int) (a : List (S80)) : Option (Int × Int × (List (S80))) := impl_copyPart.l0 k a (a.length : Int) 0 b c ([] : List (S80))
def impl_copyPart.T5 : Bool × List (List Nat × List Nat) := (true, [([], []), ([0], [0]), ([], []), ([2], [2]), ([3], [3]), ([1, 4, 3], [1, 4]), ([0, 1, 2, 3, 4, 5], []), ([6, 5, 5, 0, 1, 2, 3, 4, 5], [5, 6])])
def impl_copyPart.B5 : List Nat := [0, 1, 0, 4, 12, 31, 63, 127]
theorem impl_copyPart.tab5 : rtab .any (opsOf Tryz.f54 5) = impl_copyPart.T5 := by kernel_rfl
theorem impl_copyPart.bits5 : waitsOk impl_copyPart.T5.2 impl_copyPart.B5 = true := by kernel_rfl
theorem impl_copyPart.calls (k : Nat) (t : Int) (u : Int) (T : Option Addr) (U : Nat) (j : List (S80)) (r1 : Int) (r2 : Int) (r3 : List (S80)) (w : World) (V : Kd.C k80 w T j.length j) (W : j.length ≤ U) (h : impl_copyPart.f k t u j = some (r1, r2, r3)) :
  Calls Tryz.prog 54 #[.agg #[.int .i64 t, .int .i64 u, .slice T j.length U]] w fun e w' => ∃ v2_ : Value, e = .returned (.agg #[.int .i64 r1, .int .i64 r2, v2_]) ∧ Kd.S k80 80 w' w.heap.size (fun _ => True) v2_ r3 ∧ Below w.heap.size w w' := by
 have hu26 := Tryz.underlying26
 have hu80 := Tryz.underlying80
 have ia := M_ V
 have Na := M_ W
 clear V W
 have x := M_ (Below.refl w.heap.size w)
 unfold impl_copyPart.f at h
 have H := h; clear h
 have H' := M_ H
 clear H
 go_enter Tryz.func54, Tryz.ntmps54
 go_wp2_with (first | ((with_reducible refine gd_ 1 rfl ?_); refine bV_ 1 #[.int .i64 t, .int .i64 u, .slice T j.length U] 26 ?_; intro ja hg w2 c hb; have Oa := gq_ hg x; replace x := st_ x hb; clear hb hg) | ((with_reducible refine gd_ 2 rfl ?_); refine bV_ 2 #[.int .i64 0, .int .i64 0, .slice none 0 0] 26 ?_; intro X hg w3 d hb; have Pa := gq_ hg x; replace x := st_ x hb; obtain ⟨J, L, c⟩ := nb_ c hg hb; clear hb hg; have Hb := n2_ J; obtain ⟨Ib, Jb, Kb, Lb, Mb, Nb⟩ := bc3_ c.1) | ((with_reducible refine gd_ 3 rfl ?_); refine bV_ 3 #[.int .i64 0, .int .i64 0, .slice none 0 0] 26 ?_; intro A hg w6 b hb; have Qa := gq_ hg x; replace x := st_ x hb; obtain ⟨M, r, c⟩ := nb_ c hg hb; obtain ⟨N, s, d⟩ := nb_ d hg hb; clear hb hg; have Ob := n2_ r; have Pb := n2_ s; obtain ⟨Qb, Rb, Sb, Tb, Ub, Vb⟩ := bc3_ b.1; obtain ⟨Ra, Sa, Ta, Ua, Va, Wa⟩ := bc3_ c.1))
 go_loopg [14] k (fun kq Xa w' => ∃ (i : Int) (m : List (S80)) (p : Value), Xa = .int .i64 i ∧ Aside0 (impl_copyPart.l0 kq j (j.length : Int) i t u m = some (r1, r2, r3)) ∧ Aside0 (kq ≤ k) ∧ Aside0 (Kd.S k80 80 w' w.heap.size (fun _ => True) p m) ∧ Aside0 (w'.heap[ja]? = some (.cells #[.int .i64 t, .int .i64 u, (.slice T j.length U)] 26 (0, 0))) ∧ Aside0 (w'.heap[X]? = some (.cells #[.int .i64 0, .int .i64 0, (.slice none 0 0)] 26 (0, 0))) ∧ Aside0 (w'.heap[A]? = some (.cells #[.int .i64 t, .int .i64 u, p] 26 (0, 0))) ∧ Aside0 (Below w.heap.size w w'))
 case atStart => exact ⟨(0), (([] : List (S80))), (.slice none 0 0), rs_, H', ⟨Nat.le_refl _⟩, ⟨ni_⟩, ⟨bq_ c.1⟩, ⟨bq_ d.1⟩, ⟨bp_ b.1⟩, ⟨hs_ x.1⟩⟩
 case round =>
  clear H'
  obtain ⟨i, m, p, rfl, HA, ra, a, c, d, b, x⟩ := hrel
  cases gk with
  | zero => exact absurd HA.1 (by simp [impl_copyPart.l0])
  | succ k1 =>
   have H := HA.1
   clear HA
   simp only [impl_copyPart.l0] at H
   replace H := ie_ H; rcases H with ⟨Y, H⟩ | ⟨Y, H⟩
   ·
    have ka := decide_eq_true Y
    clear Y
    replace H := i2_ H; obtain ⟨ab, bb, H⟩ := H
    replace H := bi_ H; obtain ⟨⟨F, G⟩, cb, H⟩ := H; (try dsimp only at H)
    replace H := im_ H; obtain ⟨la, H⟩ := H
    obtain ⟨Z, hy_⟩ : ∃ y_ : List (S80), y_ = (m ++ [(⟨F, G⟩ : S80)]) := ⟨_, rfl⟩
    replace H : (impl_copyPart.l0 k1 j (j.length : Int) (wrap64 (i + 1)) t u Z) = some (r1, r2, r3) := hm_
    have ma := M_ hy_; clear hy_
    have H' := M_ H
    clear H
    obtain ⟨db, y, z, sa, ta, ua, aa, ba, Wb, Xb⟩ := au_T80 ia.1 x i
    cases sa
    try go_wp2_with (first | ((with_reducible refine gd_ 5 rfl ?_); refine bV_ 5 #[.int .i64 0, .slice none 0 0] 80 ?_; intro q hg eb l hb; replace a := se_ a hg hb; have fb := gq_ hg x; replace x := st_ x hb; obtain ⟨na, O, c⟩ := nb_ c hg hb; obtain ⟨oa, P, d⟩ := nb_ d hg hb; obtain ⟨Q, B, b⟩ := nb_ b hg hb; clear hb hg; have gb := n2_ O; have ib := n2_ P; have jb := n2_ B; obtain ⟨kb, lb, mb, nb⟩ := bc2_ l.1))
    generalize hw_ : ((eb.setCell ⟨q, 0, none⟩ (.int .i64 ((rd_T80 j i).f0))).setCell ⟨q, 1, none⟩ (.slice y ((rd_T80 j i).f1).length z)) = ob
    have va := ws_ hw_ (Kd.S_mono (ok' := (fun k_ => k_ ≠ q)) (sf_ q a.1 (fun _ hk => hk.2)) (fun _ hk => hk.2))
    replace c := wq_ hw_ c
    replace d := wq_ hw_ d
    replace b := wq_ hw_ b
    replace l := wp_ hw_ #[.int .i64 ((rd_T80 j i).f0), .slice y ((rd_T80 j i).f1).length z] l
    replace x := wb_ hw_ x
    clear hw_
    (try clear a)
    have a := va
    clear va
    obtain ⟨a, c, d, b, l, x⟩ := y6_ a c d b l x
    refine start_ (n := 8) (S := fun w' => c_ w' A 0 (.int .i64 t) ∧ c_ w' A 1 (.int .i64 u) ∧ c_ w' A 2 (p) ∧ c_ w' q 0 (.int .i64 ((rd_T80 j i).f0)) ∧ c_ w' q 1 (.slice y ((rd_T80 j i).f1).length z)) (ds := [7]) (b_ 0 8) (by kernel_rfl) rfl rfl (f3_ b.1 (e2_ l.1)) (fun D => ?_); refine with_tabW impl_copyPart.tab5 impl_copyPart.bits5 (fun I pb => ?_)
    generalize ob.drew = bc at a c d b l x D ⊢
    refine p_ I ?_
    iterate 2 refine t0_ I pb D ?_
    refine o1_ 3 (b_ 4 4) I (fun K hK => ?_)
    refine gs_ Tryz.func94 #[.agg #[.int .i64 ((rd_T80 j i).f0), .slice y ((rd_T80 j i).f1).length z]] ?_
    with_reducible refine (impl_copyChain.calls k1 ((rd_T80 j i).f0) _ _ ((rd_T80 j i).f1) F G _ ?_ ?_ cb.1).mono ?_
    exact cp_ ((Kd.C_below ba.1 x.1))
    exact aa.1
    rintro e cc ⟨Yb, rfl, pa, hb⟩
    refine ⟨_, rfl, ?_⟩
    obtain ⟨Ma, ca⟩ := Kd.S_name pa
    replace a := su_ ca (sp_ a.1) hb
    have R := sg_ ca pa x
    obtain ⟨c, d, b, l, x⟩ := u5_ hb c d b l x
    (try clear hb pa)
    obtain ⟨wa, xa, ga⟩ := Kd.S_slice R.1
    (first | subst ga | (obtain ⟨rfl, rfl⟩ := si_ ga))
    obtain ⟨qa, ea, E⟩ := Kd.S_fp (Kd.S_types (Kd.S_apart' (R.1) (Kd.S_typed a.1) (by decide)) l.1 (by decide))
    refine ho_ hK (f3_ b.1 (e2_ l.1)) (fun D => ?_)
    refine o1_ 4 (b_ 5 3) I (fun K hK => ?_)
    refine value_ (w1 := ?_) (v := ?_) (by rfl) rfl ?_ ?_
    rotate_left 2
    ·
     go_simp
     constructor
     ·
      rfl
     rfl
    refine ho_ hK ⟨(blk_cell (blk_alloc b.1 _) 0).trans rfl, (blk_cell (blk_alloc b.1 _) 1).trans rfl, (blk_cell (blk_alloc b.1 _) 2).trans rfl, (blk_cell (blk_alloc l.1 _) 0).trans rfl, (blk_cell (blk_alloc l.1 _) 1).trans rfl⟩ (fun D => ?_)
    refine o1_ 5 (b_ 6 2) I (fun K hK => ?_)
    refine Kd.S_append_step k80 (w0 := w) w.heap.size (by rfl) (.tmp 19) (.tmp 22) 24 80 (.agg #[(.int .i64 0), (.slice none 0 0)]) 32 rfl Tryz.underlying24 info80 rfl (by decide) (by omega) p m (⟨F, G⟩ : S80) [.int .i64 F, .slice wa G.length xa] (fun k_ => k_ ≠ q) (fun k_ => qa k_) rfl rfl ?aP (fun k_ hk_ => ⟨(E k_ hk_).1.2, (E k_ hk_).1.1.2⟩) ?aF ?aO ?aB ?aS ?aL ?_
    (case aP => exact k80_mkM _ _ _ (⟨F, G⟩ : S80) (Kd.S_mono ea (fun _ h_ => h_)))
    (case aB => exact (hs_ x.1))
    (case aF => exact (fun k_ hk => Kd.freshB (g := q) (o := .cells #[.int .i64 ((rd_T80 j i).f0), .slice y ((rd_T80 j i).f1).length z] 80 (0, 0)) (pb_ l.1) k_ hk))
    (case aO => exact (Kd.S_mono (sp_ a.1) (fun k_ hk => ⟨hk.1, fun e_ => (fun ez_ => Nat.lt_irrefl _ (Nat.lt_of_lt_of_le hk.2 (E _ ez_).1.1.1.2)) e_⟩)))
    (case aS => exact (below_size (hs_ x.1)))
    (case aL => have := la.1; omega)
    intro Zb qb ho hb hg hat
    rw [← ma.1] at ho
    replace c := bg_ c hg a
    replace d := bg_ d hg a
    replace b := bg_ b hg a
    replace l := M_ (blk_grown (bq_ l.1) hg (Kd.S_away a.1 (fun _ hk => hk.1)))
    replace x := M_ (hb)
    have da := M_ (ho)
    clear a R
    clear ho hb hg hat
    obtain ⟨ya, za, ha⟩ := Kd.S_slice da.1
    (first | subst ha | (obtain ⟨rfl, rfl⟩ := si_ ha))
    refine ho_ hK (f3_ b.1 (e2_ l.1)) (fun D => ?_)
    refine p_ I ?_
    refine l1_ 7 (b_ 8 0) I (fun K hK => ?_)
    have ac : qb.cell? ⟨A, 2, none⟩ = some (p) := bx_ b.1 2
    have rb := blk_frozen b.1 2
    have Aa := M.1
    have Ba := N.1
    have Ca := B.1
    have Da := r.1
    have Ea := s.1
    have Fa := Q.1
    refine skip_ (w1 := ?_) (by rfl) rfl ?_ ?_
    rotate_left
    ·
     go_simp
     rfl
    refine hK.out _ _ ?_
    clear hK K
    refine done_ (done_of I.1 (by kernel_rfl)) ?_
    try go_wp2
    go_roundg k1
    case measure => have := ra.1; omega
    case rel => exact ⟨(wrap64 (i + 1)), (Z), (.slice ya Z.length za), rs_, H', ⟨by have := ra.1; omega⟩, ⟨Kd.S_mono (sy_ da.1 b.1) (fun _ hk => trivial)⟩, ⟨bq_ c.1⟩, ⟨bq_ d.1⟩, ⟨bp_ b.1⟩, ⟨hs_ x.1⟩⟩
   have ka : decide (i < (j.length : Int)) = false := decide_eq_false Y
   clear Y
   simp only [Option.some.injEq, Prod.mk.injEq] at H
   obtain ⟨rfl, rfl, rfl⟩ := H
   have sb := n2_ r
   have tb := n2_ s
   obtain ⟨ub, vb, wb, xb, yb, zb⟩ := bc3_ b.1
   have Ab := n2_ L
   obtain ⟨Bb, Cb, Db, Eb, Fb, Gb⟩ := bc3_ d.1
   obtain ⟨Ga, Ha, Ia⟩ := Kd.S_slice a.1
   subst Ia
   go_wp2
   refine bodyPost_ret (results_cell_row rfl _ _ X 26 #[.int .i64 t, .int .i64 u, .slice Ga m.length Ha] (0, 0) _ rfl (bp_ d.1) Tryz.underlying26 rfl (by kernel_rfl)) rfl ?_
   exact ⟨_, rr_, Kd.S_mono (sy_ a.1 d.1) (fun _ hk => trivial), hs_ x.1⟩
def impl_Sum.l0 : Nat → ByteArray → Int → Int → Option (Int)
 | 0, _, _, _ => none
 | k + 1, b, c, a => if a < (b.size : Int) then (if 0 ≤ a then (impl_Sum.l0 k b (((Go.bits .xor .u32 c ((bt b a) % 4294967296)) * 16777619) % 4294967296) (wrap64 (a + 1))) else (none)) else (some (wrap64 (c)))
def impl_Sum.f (k : Nat) (a : ByteArray) : Option (Int) := impl_Sum.l0 k a 2166136261 0
theorem impl_Sum.calls (k : Nat) (c : ByteArray) (r : Int) (w : World) (h : impl_Sum.f k c = some r) :
  Calls Tryz.prog 95 #[.string c] w fun e w' => e = .returned (.int .i64 r) ∧ Drawn0 w w' := by
 unfold impl_Sum.f at h
 have H := h; clear h
 have H' := M_ H
 clear H
 go_enter Tryz.func95, Tryz.ntmps95
 go_wp2
 go_loopg [3, 4] k (fun kq o p w' => ∃ (b : Int) (a : Int), o = .int .u32 b ∧ p = .int .i64 a ∧ Aside0 (impl_Sum.l0 kq c b a = some r) ∧ Aside0 (kq ≤ k) ∧ Drawn0 w w')
 case atStart => exact ⟨(2166136261), (0), rs_, rs_, H', ⟨Nat.le_refl _⟩, by repeat (first | exact Drawn0.refl _ | apply Drawn0.step)⟩
 case round =>
  clear H'
  obtain ⟨b, a, rfl, rfl, j, d, ⟨m1, rfl⟩⟩ := hrel
  cases gk with
  | zero => exact absurd j.1 (by simp [impl_Sum.l0])
  | succ q =>
   have H := j.1
   clear j
   simp only [impl_Sum.l0] at H
   replace H := ie_ H; rcases H with ⟨g, H⟩ | ⟨g, H⟩
   ·
    have i := decide_eq_true g
    clear g
    replace H := id_ H; obtain ⟨l, H⟩ := H
    have H' := M_ H
    clear H
    obtain ⟨m, n⟩ : 0 ≤ (a : Int) ∧ a < (c.size : Int) := pq_
    have s := bt_at c a
    replace m := eq_true m; replace n := eq_true n
    go_wp2
    go_roundg q
    case measure => have := d.1; omega
    case rel => exact ⟨(((Go.bits .xor .u32 b ((bt c a) % 4294967296)) * 16777619) % 4294967296), (wrap64 (a + 1)), rs_, rs_, H', ⟨by have := d.1; omega⟩, by repeat (first | exact Drawn0.refl _ | apply Drawn0.step)⟩
   have i : decide (a < (c.size : Int)) = false := decide_eq_false g
   clear g
   obtain rfl := Option.some.inj H
   go_wp2
   go_ret
   exact ⟨by first | rfl | (simp; done) | (simp [*]; done), by repeat (first | exact Drawn0.refl _ | apply Drawn0.step)⟩
def impl_PlainOk.l0 : Nat → ByteArray → Int → Option (Bool)
 | 0, _, _ => none
 | k + 1, b, a => if a < (b.size : Int) then (if 0 ≤ a then (if (bt b a) < 32 then (some false) else (if (bt b a) > 126 then (some false) else (if (bt b a) = 34 then (some false) else (if (bt b a) = 92 then (some false) else (impl_PlainOk.l0 k b (wrap64 (a + 1))))))) else (none)) else (some true)
def impl_PlainOk.f (k : Nat) (a : ByteArray) : Option (Bool) := if (a.size : Int) > 12 then (some false) else (impl_PlainOk.l0 k a 0)
theorem impl_PlainOk.calls (k : Nat) (b : ByteArray) (r : Bool) (w : World) (h : impl_PlainOk.f k b = some r) :
  Calls Tryz.prog 121 #[.string b] w fun e w' => e = .returned (.bool r) ∧ Drawn0 w w' := by
 unfold impl_PlainOk.f at h
 have H := h; clear h
 replace H := ie_ H; rcases H with ⟨l, H⟩ | ⟨l, H⟩
 ·
  have m : decide (12 < (b.size : Int)) = true := decide_eq_true l
  have n : decide (12 < b.size) = true := decide_eq_true (by omega)
  clear l
  obtain rfl := Option.some.inj H
  go_enter Tryz.func121, Tryz.ntmps121
  go_wp2
  go_ret
  exact ⟨by first | rfl | (simp; done) | (simp [*]; done), by repeat (first | exact Drawn0.refl _ | apply Drawn0.step)⟩
 have m : decide (12 < (b.size : Int)) = false := decide_eq_false l
 have n : decide (12 < b.size) = false := decide_eq_false (by omega)
 clear l
 have H' := M_ H
 clear H
 go_enter Tryz.func121, Tryz.ntmps121
 go_wp2
 go_loopg [3] k (fun kq D w' => ∃ (a : Int), D = .int .i64 a ∧ Aside0 (impl_PlainOk.l0 kq b a = some r) ∧ Aside0 (kq ≤ k) ∧ Drawn0 w w')
 case atStart => exact ⟨(0), rs_, H', ⟨Nat.le_refl _⟩, by repeat (first | exact Drawn0.refl _ | apply Drawn0.step)⟩
 case round =>
  clear H'
  obtain ⟨a, rfl, B, o, ⟨m1, rfl⟩⟩ := hrel
  cases gk with
  | zero => exact absurd B.1 (by simp [impl_PlainOk.l0])
  | succ E =>
   have H := B.1
   clear B
   simp only [impl_PlainOk.l0] at H
   replace H := ie_ H; rcases H with ⟨p, H⟩ | ⟨p, H⟩
   ·
    have q := decide_eq_true p
    clear p
    replace H := id_ H; obtain ⟨C, H⟩ := H
    replace H := ie_ H; rcases H with ⟨s, H⟩ | ⟨s, H⟩
    ·
     have t := decide_eq_true s
     clear s
     obtain rfl := Option.some.inj H
     obtain ⟨c, d⟩ : 0 ≤ (a : Int) ∧ a < (b.size : Int) := pq_
     have g := bt_at b a
     replace c := eq_true c; replace d := eq_true d
     go_wp2
     go_ret
     exact ⟨by first | rfl | (simp; done) | (simp [*]; done), by repeat (first | exact Drawn0.refl _ | apply Drawn0.step)⟩
    have t : decide ((bt b a) < 32) = false := decide_eq_false s
    clear s
    replace H := ie_ H; rcases H with ⟨u, H⟩ | ⟨u, H⟩
    ·
     have v : decide (126 < (bt b a)) = true := decide_eq_true u
     clear u
     obtain rfl := Option.some.inj H
     obtain ⟨c, d⟩ : 0 ≤ (a : Int) ∧ a < (b.size : Int) := pq_
     have g := bt_at b a
     replace c := eq_true c; replace d := eq_true d
     go_wp2
     go_ret
     exact ⟨by first | rfl | (simp; done) | (simp [*]; done), by repeat (first | exact Drawn0.refl _ | apply Drawn0.step)⟩
    have v : decide (126 < (bt b a)) = false := decide_eq_false u
    clear u
    replace H := ie_ H; rcases H with ⟨i, H⟩ | ⟨i, H⟩
    ·
     have x : ((bt b a) == 34) = true := beq_iff_eq.mpr i
     have y : ((bt b a) != 34) = false := bne_eq_false_iff_eq.mpr i
     clear i
     obtain rfl := Option.some.inj H
     obtain ⟨c, d⟩ : 0 ≤ (a : Int) ∧ a < (b.size : Int) := pq_
     have g := bt_at b a
     replace c := eq_true c; replace d := eq_true d
     go_wp2
     go_ret
     exact ⟨by first | rfl | (simp; done) | (simp [*]; done), by repeat (first | exact Drawn0.refl _ | apply Drawn0.step)⟩
    have x : ((bt b a) == 34) = false := beq_eq_false_iff_ne.mpr i
    have y : ((bt b a) != 34) = true := bne_iff_ne.mpr i
    replace H := ie_ H; rcases H with ⟨j, H⟩ | ⟨j, H⟩
    ·
     have z : ((bt b a) == 92) = true := beq_iff_eq.mpr j
     have A : ((bt b a) != 92) = false := bne_eq_false_iff_eq.mpr j
     clear j
     obtain rfl := Option.some.inj H
     obtain ⟨c, d⟩ : 0 ≤ (a : Int) ∧ a < (b.size : Int) := pq_
     have g := bt_at b a
     replace c := eq_true c; replace d := eq_true d
     go_wp2
     go_ret
     exact ⟨by first | rfl | (simp; done) | (simp [*]; done), by repeat (first | exact Drawn0.refl _ | apply Drawn0.step)⟩
    have z : ((bt b a) == 92) = false := beq_eq_false_iff_ne.mpr j
    have A : ((bt b a) != 92) = true := bne_iff_ne.mpr j
    have H' := M_ H
    clear H
    obtain ⟨c, d⟩ : 0 ≤ (a : Int) ∧ a < (b.size : Int) := pq_
    have g := bt_at b a
    replace c := eq_true c; replace d := eq_true d
    go_wp2
    go_roundg E
    case measure => have := o.1; omega
    case rel => exact ⟨(wrap64 (a + 1)), rs_, H', ⟨by have := o.1; omega⟩, by repeat (first | exact Drawn0.refl _ | apply Drawn0.step)⟩
   have q : decide (a < (b.size : Int)) = false := decide_eq_false p
   clear p
   obtain rfl := Option.some.inj H
   go_wp2
   go_ret
   exact ⟨by first | rfl | (simp; done) | (simp [*]; done), by repeat (first | exact Drawn0.refl _ | apply Drawn0.step)⟩
def impl_in.f (a : Int) (b : Int) (c : Int) : Option (Bool) := if a ≥ b then (some (decide (a ≤ c))) else (some false)
theorem impl_in.calls (c : Int) (d : Int) (g : Int) (r : Bool) (w : World) (h : impl_in.f c d g = some r) :
  Calls Tryz.prog 75 #[.int .i64 c, .int .i64 d, .int .i64 g] w fun e w' => e = .returned (.bool r) ∧ Drawn0 w w' := by
 unfold impl_in.f at h
 have H := h; clear h
 replace H := ie_ H; rcases H with ⟨a, H⟩ | ⟨a, H⟩
 ·
  have b : decide (d ≤ c) = true := decide_eq_true a
  clear a
  obtain rfl := Option.some.inj H
  go_enter Tryz.func75, Tryz.ntmps75
  go_wp2
  go_ret
  exact ⟨by first | rfl | (simp; done) | (simp [*]; done), by repeat (first | exact Drawn0.refl _ | apply Drawn0.step)⟩
 have b : decide (d ≤ c) = false := decide_eq_false a
 clear a
 obtain rfl := Option.some.inj H
 go_enter Tryz.func75, Tryz.ntmps75
 go_wp2
 go_ret
 exact ⟨by first | rfl | (simp; done) | (simp [*]; done), by repeat (first | exact Drawn0.refl _ | apply Drawn0.step)⟩
def impl_NameOk.l0 : Nat → ByteArray → Int → Option (Bool)
 | 0, _, _ => none
 | k + 1, b, a => if a < (b.size : Int) then (if 0 ≤ a then (if (bt b a) < 97 then (some false) else (if (bt b a) > 122 then (some false) else (impl_NameOk.l0 k b (wrap64 (a + 1))))) else (none)) else (some true)
def impl_NameOk.f (k : Nat) (b : ByteArray) : Option (Bool) := (impl_in.f (b.size : Int) 1 8).bind fun a => (if a = true then (impl_NameOk.l0 k b 0) else (some false))
theorem impl_NameOk.calls (k : Nat) (b : ByteArray) (r : Bool) (w : World) (h : impl_NameOk.f k b = some r) :
  Calls Tryz.prog 150 #[.string b] w fun e w' => e = .returned (.bool r) ∧ Drawn0 w w' := by
 unfold impl_NameOk.f at h
 have H := h; clear h
 replace H := bi_ H; obtain ⟨v, x, H⟩ := H
 replace H := ib_ H; rcases H with ⟨rfl, H⟩ | ⟨rfl, H⟩
 ·
  have H' := M_ H
  clear H
  go_enter Tryz.func150, Tryz.ntmps150
  go_wp2_with (first | ((with_reducible refine gate_callee (f := 75) rfl ?_); refine gl_ (some 6) Tryz.func75 #[.int .i64 (b.size : Int), .int .i64 1, .int .i64 8] ?_; (with_reducible refine (impl_in.calls (b.size : Int) 1 8 true _ x.1).mono ?_); rintro e w' ⟨rfl, ⟨z, rfl⟩⟩; refine ⟨_, rfl, ?_⟩))
  go_loopg [3] k (fun kq A w' => ∃ (a : Int), A = .int .i64 a ∧ Aside0 (impl_NameOk.l0 kq b a = some r) ∧ Aside0 (kq ≤ k) ∧ Drawn0 w w')
  case atStart => exact ⟨(0), rs_, H', ⟨Nat.le_refl _⟩, by repeat (first | exact Drawn0.refl _ | apply Drawn0.step)⟩
  case round =>
   clear H'
   obtain ⟨a, rfl, t, g, ⟨m1, rfl⟩⟩ := hrel
   cases gk with
   | zero => exact absurd t.1 (by simp [impl_NameOk.l0])
   | succ B =>
    have H := t.1
    clear t
    simp only [impl_NameOk.l0] at H
    replace H := ie_ H; rcases H with ⟨i, H⟩ | ⟨i, H⟩
    ·
     have j := decide_eq_true i
     clear i
     replace H := id_ H; obtain ⟨y, H⟩ := H
     replace H := ie_ H; rcases H with ⟨l, H⟩ | ⟨l, H⟩
     ·
      have m := decide_eq_true l
      clear l
      obtain rfl := Option.some.inj H
      obtain ⟨c, d⟩ : 0 ≤ (a : Int) ∧ a < (b.size : Int) := pq_
      have n := bt_at b a
      replace c := eq_true c; replace d := eq_true d
      go_wp2
      go_ret
      exact ⟨by first | rfl | (simp; done) | (simp [*]; done), by repeat (first | exact Drawn0.refl _ | apply Drawn0.step)⟩
     have m : decide ((bt b a) < 97) = false := decide_eq_false l
     clear l
     replace H := ie_ H; rcases H with ⟨o, H⟩ | ⟨o, H⟩
     ·
      have p : decide (122 < (bt b a)) = true := decide_eq_true o
      clear o
      obtain rfl := Option.some.inj H
      obtain ⟨c, d⟩ : 0 ≤ (a : Int) ∧ a < (b.size : Int) := pq_
      have n := bt_at b a
      replace c := eq_true c; replace d := eq_true d
      obtain ⟨q, s⟩ : 0 ≤ (a : Int) ∧ a < (b.size : Int) := pq_
      have u := bt_at b a
      replace q := eq_true q; replace s := eq_true s
      go_wp2
      go_ret
      exact ⟨by first | rfl | (simp; done) | (simp [*]; done), by repeat (first | exact Drawn0.refl _ | apply Drawn0.step)⟩
     have p : decide (122 < (bt b a)) = false := decide_eq_false o
     clear o
     have H' := M_ H
     clear H
     obtain ⟨c, d⟩ : 0 ≤ (a : Int) ∧ a < (b.size : Int) := pq_
     have n := bt_at b a
     replace c := eq_true c; replace d := eq_true d
     obtain ⟨q, s⟩ : 0 ≤ (a : Int) ∧ a < (b.size : Int) := pq_
     have u := bt_at b a
     replace q := eq_true q; replace s := eq_true s
     go_wp2
     go_roundg B
     case measure => have := g.1; omega
     case rel => exact ⟨(wrap64 (a + 1)), rs_, H', ⟨by have := g.1; omega⟩, by repeat (first | exact Drawn0.refl _ | apply Drawn0.step)⟩
    have j : decide (a < (b.size : Int)) = false := decide_eq_false i
    clear i
    obtain rfl := Option.some.inj H
    go_wp2
    go_ret
    exact ⟨by first | rfl | (simp; done) | (simp [*]; done), by repeat (first | exact Drawn0.refl _ | apply Drawn0.step)⟩
 obtain rfl := Option.some.inj H
 go_enter Tryz.func150, Tryz.ntmps150
 go_wp2_with (first | ((with_reducible refine gate_callee (f := 75) rfl ?_); refine gl_ (some 6) Tryz.func75 #[.int .i64 (b.size : Int), .int .i64 1, .int .i64 8] ?_; (with_reducible refine (impl_in.calls (b.size : Int) 1 8 false _ x.1).mono ?_); rintro e w' ⟨rfl, ⟨z, rfl⟩⟩; refine ⟨_, rfl, ?_⟩))
 go_ret
 exact ⟨by first | rfl | (simp; done) | (simp [*]; done), by repeat (first | exact Drawn0.refl _ | apply Drawn0.step)⟩
def impl_LabelOk.f (k : Nat) (a : ByteArray) (b : ByteArray) : Option (Bool) := (impl_NameOk.f k a).bind fun c => (if c = true then ((impl_PlainOk.f k b).bind fun d => (some d)) else (some false))
theorem impl_LabelOk.calls (k : Nat) (a : ByteArray) (b : ByteArray) (r : Bool) (w : World) (h : impl_LabelOk.f k a b = some r) :
  Calls Tryz.prog 132 #[.agg #[.string a, .string b]] w fun e w' => e = .returned (.bool r) ∧ Below w.heap.size w w' := by
 have hu99 := Tryz.underlying99
 have d := M_ (Below.refl w.heap.size w)
 unfold impl_LabelOk.f at h
 have H := h; clear h
 replace H := bi_ H; obtain ⟨g, q, H⟩ := H
 have AHz_ := M_ H
 clear H
 go_enter Tryz.func132, Tryz.ntmps132
 go_wp2_with (first | ((with_reducible refine gd_ 1 rfl ?_); refine bV_ 1 #[.string a, .string b] 99 ?_; intro j hg u c hb; have l := gq_ hg d; replace d := st_ d hb; clear hb hg; obtain ⟨m, n, o, p⟩ := bc2_ c.1) | (((with_reducible refine gate_callee (f := 150) rfl ?_); refine gl_ (some 5) Tryz.func150 #[.string a] ?_; (with_reducible refine (impl_NameOk.calls k a g _ q.1).mono ?_); rintro e w' ⟨rfl, ⟨s, rfl⟩⟩; refine ⟨_, rfl, ?_⟩); refine Aside0.out ?_))
 have H := AHz_.1
 clear AHz_
 replace H := ib_ H; rcases H with ⟨rfl, H⟩ | ⟨rfl, H⟩
 ·
  replace H := bi_ H; obtain ⟨i, t, H⟩ := H
  obtain rfl := Option.some.inj H
  refine ⟨?_⟩
  go_wp2_with (first | (go_at_call 121; (with_reducible refine (impl_PlainOk.calls k b i _ t.1).mono ?_); rintro e w' ⟨rfl, ⟨s, rfl⟩⟩))
  go_ret
  exact an_ (hs_ d.1)
 obtain rfl := Option.some.inj H
 refine ⟨?_⟩
 go_wp2
 go_ret
 exact an_ (hs_ d.1)
def impl_SetOk.l0 : Nat → List (S99) → List (S99) → Int → Int → Option (Bool)
 | 0, _, _, _, _ => none
 | k + 1, d, b, e, a => if a < e then (if 0 ≤ a then (if a < (b.length : Int) then (if a ≥ 4 then (some false) else ((impl_LabelOk.f k ((rd_T99 b a).f0) ((rd_T99 b a).f1)).bind fun c => (if c = true then (if a > 0 then (if 0 ≤ (wrap64 (a - 1)) then (if (wrap64 (a - 1)) < (d.length : Int) then (if ((Op.bytesLess (((rd_T99 d (wrap64 (a - 1))).f0).toList) (((rd_T99 b a).f0).toList)) = true) then (impl_SetOk.l0 k d b e (wrap64 (a + 1))) else (some false)) else (none)) else (none)) else (impl_SetOk.l0 k d b e (wrap64 (a + 1)))) else (some false)))) else (none)) else (none)) else (some true)
def impl_SetOk.f (k : Nat) (l0 : List (S99)) : Option (Bool) := impl_SetOk.l0 k l0 l0 (l0.length : Int) 0
def impl_SetOk.T4 : Bool × List (List Nat × List Nat) := (true, [([], []), ([0], [0]), ([1], [1]), ([2], [2]), ([3, 2, 2], [2, 3]), ([4, 2], [2, 4]), ([2, 5], [2, 5]), ([6, 4], [6]), ([7], [7]), ([8, 7], [7, 8]), ([9, 7, 7], [7, 9]), ([10], [10]), ([10], [10]), ([12, 10], [10, 12]), ([11, 13, 10], [10, 11, 13]), ([14, 10], [10, 14]), ([15, 10], [10, 15]), ([10], [10]), ([17, 10], [10, 17]), ([16, 18, 10], [10, 16, 18]), ([10, 19, 7], [7, 10, 19]), ([7, 20], [7, 20])])
def impl_SetOk.B4 : List Nat := [0, 1, 3, 7, 15, 31, 63, 127, 255, 511, 1023, 2047, 2047, 6143, 16383, 32767, 65535, 2047, 133119, 524287, 1048575, 2097151]
theorem impl_SetOk.tab4 : rtab .any (opsOf Tryz.f116 4) = impl_SetOk.T4 := by kernel_rfl
theorem impl_SetOk.bits4 : waitsOk impl_SetOk.T4.2 impl_SetOk.B4 = true := by kernel_rfl
theorem impl_SetOk.calls (k : Nat) (A0 : Option Addr) (c0 : Nat) (l0 : List (S99)) (r : Bool) (w : World) (I : Kd.C k99 w A0 l0.length l0) (J : l0.length ≤ c0) (h : impl_SetOk.f k l0 = some r) :
  Calls Tryz.prog 116 #[.slice A0 l0.length c0] w fun e w' => e = .returned (.bool r) ∧ Below w.heap.size w w' := by
 have hu99 := Tryz.underlying99
 have L := M_ I
 have na := M_ J
 clear I J
 have l := M_ (Below.refl w.heap.size w)
 unfold impl_SetOk.f at h
 have H := h; clear h
 have H' := M_ H
 clear H
 go_enter Tryz.func116, Tryz.ntmps116
 go_wp2
 go_loopg [7] k (fun kq v7 w' => ∃ (a : Int), v7 = .int .i64 a ∧ Aside0 (impl_SetOk.l0 kq l0 l0 (l0.length : Int) a = some r) ∧ Aside0 (kq ≤ k) ∧ Aside0 (Below w.heap.size w w'))
 case atStart => exact ⟨(0), rs_, H', ⟨Nat.le_refl _⟩, ⟨hs_ l.1⟩⟩
 case round =>
  clear H'
  obtain ⟨a, rfl, X, A, l⟩ := hrel
  cases gk with
  | zero => exact absurd X.1 (by simp [impl_SetOk.l0])
  | succ G =>
   have H := X.1
   clear X
   simp only [impl_SetOk.l0] at H
   replace H := ie_ H; rcases H with ⟨M, H⟩ | ⟨M, H⟩
   ·
    have N := decide_eq_true M
    clear M
    replace H := i2_ H; obtain ⟨da, ea, H⟩ := H
    have AHz_ := M_ H
    clear H
    obtain ⟨t, O, P, Q, fa, ga⟩ := au_T99 L.1 l a
    cases O
    go_wp2_with (first | (((with_reducible refine gd_ 4 rfl ?_); refine bV_ 4 #[.string (⟨#[]⟩ : ByteArray), .string (⟨#[]⟩ : ByteArray)] 99 ?_; intro g hg w6 b hb; have Y := gq_ hg l; replace l := st_ l hb; clear hb hg; obtain ⟨ia, ja, ka, la⟩ := bc2_ b.1); refine Aside0.out ?_))
    have H := AHz_.1
    clear AHz_
    replace H := ie_ H; rcases H with ⟨R, H⟩ | ⟨R, H⟩
    ·
     have T : decide (4 ≤ a) = true := decide_eq_true R
     clear R
     obtain rfl := Option.some.inj H
     refine ⟨?_⟩
     try go_wp2
     generalize hw_ : ((w6.setCell ⟨g, 0, none⟩ (.string ((rd_T99 l0 a).f0))).setCell ⟨g, 1, none⟩ (.string ((rd_T99 l0 a).f1))) = w8
     replace b := wp_ hw_ #[.string ((rd_T99 l0 a).f0), .string ((rd_T99 l0 a).f1)] b
     replace l := wb_ hw_ l
     clear hw_
     obtain ⟨b, l⟩ := y2_ b l
     refine start_ (n := 22) (S := fun w' => True) (ds := []) (b_ 0 22) (by kernel_rfl) rfl rfl trivial (fun d => ?_); refine with_tabW impl_SetOk.tab4 impl_SetOk.bits4 (fun c s => ?_)
     generalize w8.drew = w9 at b l d ⊢
     iterate 3 refine p_ c ?_
     iterate 3 refine v_ c ?_
     iterate 2 refine p_ c ?_
     iterate 13 refine v_ c ?_
     refine p_ c ?_
     refine done_ (done_of c.1 (by kernel_rfl)) ?_
     try go_wp2
     go_ret
     exact an_ (hs_ l.1)
    have T : decide (4 ≤ a) = false := decide_eq_false R
    clear R
    replace H := bi_ H; obtain ⟨ma, B, H⟩ := H
    have AHz_ := M_ H
    clear H
    refine ⟨?_⟩
    try go_wp2
    generalize hw_ : ((w6.setCell ⟨g, 0, none⟩ (.string ((rd_T99 l0 a).f0))).setCell ⟨g, 1, none⟩ (.string ((rd_T99 l0 a).f1))) = D
    replace b := wp_ hw_ #[.string ((rd_T99 l0 a).f0), .string ((rd_T99 l0 a).f1)] b
    replace l := wb_ hw_ l
    clear hw_
    obtain ⟨b, l⟩ := y2_ b l
    have H := AHz_.1
    clear AHz_
    replace H := ib_ H; rcases H with ⟨rfl, H⟩ | ⟨rfl, H⟩
    ·
     replace H := ie_ H; rcases H with ⟨v, H⟩ | ⟨v, H⟩
     ·
      have E : decide (0 < a) = true := decide_eq_true v
      clear v
      obtain ⟨i, q⟩ : ∃ j_ : Int, (wrap64 (a - 1)) = j_ := ⟨_, rfl⟩
      replace H : (if 0 ≤ (i) then (if (i) < (l0.length : Int) then (if ((Op.bytesLess (((rd_T99 l0 (i)).f0).toList) (((rd_T99 l0 a).f0).toList)) = true) then (impl_SetOk.l0 G l0 l0 (l0.length : Int) (wrap64 (a + 1))) else (some false)) else (none)) else (none)) = some r := by first | (rw [q] at H; exact H) | (simp only [q] at H ⊢; exact H)
      (try rw [q] at B)
      have W : (IntKind.i64.wrap (a - 1)) = i := (i64_w _).trans q
      replace H := i2_ H; obtain ⟨Z, aa, H⟩ := H
      have AHz_ := M_ H
      clear H
      obtain ⟨x, y⟩ : 0 ≤ ((i) : Int) ∧ (i) < (l0.length : Int) := pq_
      obtain ⟨F, U, j, m⟩ := at_T99 L.1 (i) x y
      have o := m
      have p := j
      obtain rfl : t = F := (by injection U)
      replace j := c2_ l j m; clear m; obtain ⟨j, m⟩ := j
      replace x := eq_true x; replace y := eq_true y
      refine start_ (n := 22) (S := fun w' => c_ w' g 0 (.string ((rd_T99 l0 a).f0)) ∧ c_ w' g 1 (.string ((rd_T99 l0 a).f1)) ∧ w'.cell? (t.add (((i)).toNat * 2)) = some (.string ((rd_T99 l0 (i)).f0)) ∧ d_ w' (t.add (((i)).toNat * 2)) 1 (.string ((rd_T99 l0 (i)).f1))) (ds := []) (b_ 0 22) (by kernel_rfl) rfl rfl ⟨bx_ b.1 0, bx_ b.1 1, ((l.1.cell (World.block_lt_of_cell? w _ p)).trans p), ((l.1.cell (World.block_lt_of_cell? w _ o)).trans o)⟩ (fun d => ?_); refine with_tabW impl_SetOk.tab4 impl_SetOk.bits4 (fun c s => ?_)
      generalize D.drew = qa at b l j m d ⊢
      iterate 3 refine p_ c ?_
      refine t0_ c s d ?_
      refine o1_ 4 (b_ 5 17) c (fun K V => ?_)
      refine gs_ Tryz.func132 #[.agg #[.string ((rd_T99 l0 a).f0), .string ((rd_T99 l0 a).f1)]] ?_
      with_reducible refine (impl_LabelOk.calls G ((rd_T99 l0 a).f0) ((rd_T99 l0 a).f1) true _ B.1).mono ?_
      rintro e ra ⟨rfl, hb⟩
      refine ⟨_, rfl, ?_⟩
      obtain ⟨b, l⟩ := u2_ hb b l
      (try clear hb)
      refine ho_ V ⟨bx_ b.1 0, bx_ b.1 1, ((l.1.cell (World.block_lt_of_cell? w _ p)).trans p), ((l.1.cell (World.block_lt_of_cell? w _ o)).trans o)⟩ (fun d => ?_)
      iterate 11 refine p_ c ?_
      refine qw_ 17 (m_ 22 196607) c ?_
      refine qt_ 16 (b_ 18 4) c s d ?_
      refine t0_ c s d ?_
      iterate 3 refine p_ c ?_
      have H := AHz_.1
      clear AHz_
      replace H := ie_ H; rcases H with ⟨z, H⟩ | ⟨z, H⟩
      ·
       have u : (Op.bytesLess (((rd_T99 l0 (i)).f0).toList) (((rd_T99 l0 a).f0).toList)) = true := z
       clear z
       have H' := M_ H
       clear H
       (try simp only [u])
       refine done_ (done_of c.1 (by kernel_rfl)) ?_
       try go_wp2
       go_roundg G
       case measure => have := A.1; omega
       case rel => exact ⟨(wrap64 (a + 1)), rs_, H', ⟨by have := A.1; omega⟩, ⟨hs_ l.1⟩⟩
      have u : (Op.bytesLess (((rd_T99 l0 (i)).f0).toList) (((rd_T99 l0 a).f0).toList)) = false := by simpa using z
      clear z
      obtain rfl := Option.some.inj H
      (try simp only [u])
      refine done_ (done_of c.1 (by kernel_rfl)) ?_
      try go_wp2
      go_ret
      exact ⟨by first | rfl | (simp [errW_none, errW_some] <;> rfl) | (simp only [← q]; first | rfl | (simp [errW_none, errW_some] <;> rfl)) | (simp [*, errW_none, errW_some] <;> rfl), hs_ l.1⟩
     have E : decide (0 < a) = false := decide_eq_false v
     clear v
     have H' := M_ H
     clear H
     refine start_ (n := 22) (S := fun w' => c_ w' g 0 (.string ((rd_T99 l0 a).f0)) ∧ c_ w' g 1 (.string ((rd_T99 l0 a).f1))) (ds := []) (b_ 0 22) (by kernel_rfl) rfl rfl (e2_ b.1) (fun d => ?_); refine with_tabW impl_SetOk.tab4 impl_SetOk.bits4 (fun c s => ?_)
     generalize D.drew = sa at b l d ⊢
     iterate 3 refine p_ c ?_
     refine t0_ c s d ?_
     refine o1_ 4 (b_ 5 17) c (fun K V => ?_)
     refine gs_ Tryz.func132 #[.agg #[.string ((rd_T99 l0 a).f0), .string ((rd_T99 l0 a).f1)]] ?_
     with_reducible refine (impl_LabelOk.calls G ((rd_T99 l0 a).f0) ((rd_T99 l0 a).f1) true _ B.1).mono ?_
     rintro e ta ⟨rfl, hb⟩
     refine ⟨_, rfl, ?_⟩
     obtain ⟨b, l⟩ := u2_ hb b l
     (try clear hb)
     refine ho_ V (e2_ b.1) (fun d => ?_)
     iterate 6 refine p_ c ?_
     iterate 9 refine v_ c ?_
     iterate 2 refine p_ c ?_
     refine done_ (done_of c.1 (by kernel_rfl)) ?_
     try go_wp2
     go_roundg G
     case measure => have := A.1; omega
     case rel => exact ⟨(wrap64 (a + 1)), rs_, H', ⟨by have := A.1; omega⟩, ⟨hs_ l.1⟩⟩
    obtain rfl := Option.some.inj H
    refine start_ (n := 22) (S := fun w' => c_ w' g 0 (.string ((rd_T99 l0 a).f0)) ∧ c_ w' g 1 (.string ((rd_T99 l0 a).f1))) (ds := []) (b_ 0 22) (by kernel_rfl) rfl rfl (e2_ b.1) (fun d => ?_); refine with_tabW impl_SetOk.tab4 impl_SetOk.bits4 (fun c s => ?_)
    generalize D.drew = ua at b l d ⊢
    iterate 3 refine p_ c ?_
    refine t0_ c s d ?_
    refine o1_ 4 (b_ 5 17) c (fun K V => ?_)
    refine gs_ Tryz.func132 #[.agg #[.string ((rd_T99 l0 a).f0), .string ((rd_T99 l0 a).f1)]] ?_
    with_reducible refine (impl_LabelOk.calls G ((rd_T99 l0 a).f0) ((rd_T99 l0 a).f1) false _ B.1).mono ?_
    rintro e va ⟨rfl, hb⟩
    refine ⟨_, rfl, ?_⟩
    obtain ⟨b, l⟩ := u2_ hb b l
    (try clear hb)
    refine ho_ V (e2_ b.1) (fun d => ?_)
    iterate 3 refine p_ c ?_
    iterate 13 refine v_ c ?_
    refine p_ c ?_
    refine done_ (done_of c.1 (by kernel_rfl)) ?_
    try go_wp2
    go_ret
    exact an_ (hs_ l.1)
   have N : decide (a < (l0.length : Int)) = false := decide_eq_false M
   clear M
   obtain rfl := Option.some.inj H
   go_wp2
   go_ret
   exact an_ (hs_ l.1)
end Go.Proofs.YtanfohlpkppeiaaGreat.Print
end
