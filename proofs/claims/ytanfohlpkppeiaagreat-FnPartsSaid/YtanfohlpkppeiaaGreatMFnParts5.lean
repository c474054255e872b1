import Derived.Test.YtanfohlpkppeiaaGreatMFnParts1
import Derived.Test.YtanfohlpkppeiaaGreatMFnParts2
import Derived.Test.YtanfohlpkppeiaaGreatMFnParts3
import Derived.Test.YtanfohlpkppeiaaGreatMFnParts4
section
namespace Go.Proofs.YtanfohlpkppeiaaGreat.Print
open Go.RowKit Go.Proofs.YtanfohlpkppeiaaGreatV.PrintWords Go.Proofs.YtanfohlpkppeiaaGreatV.PrintLast Go.Proofs.YtanfohlpkppeiaaGreatV.PrintMore
attribute [local go_sem] max2_int min2_int max_two min_two max_three min_three max_four min_four
set_option linter.unusedVariables false
set_option linter.unusedSimpArgs false
set_option maxHeartbeats 80000000
set_option maxRecDepth 100000
mutual
def laws_FnParts.j0 : Nat → Bool → Int → List (S29) → Int → Int → List (S80) → List (S99) → Int → Int → ByteArray → Int → Int → List (S80) → Int → Int → List (S80) → Int → Int → List (S80) → Option (Bool)
 | 0, _, _, _, _, _, _, _, _, _, _, _, _, _, _, _, _, _, _, _ => none
 | k + 1, z, x, y, r, e, s, b, g, h, i, t, j, u, l, m, n, o, p, q => (impl_FindIn.f k r e s b).bind fun c => ((impl_FindIn.f k t j u b).bind fun a => (if a.2.2.2.2 = true then (if (z == c.2.2.2.2) = true then (none) else (if j = (wrap64 (e + 1)) then (if c.2.2.2.2 = true then ((impl_Merge.f c.1 c.2.1 c.2.2.1 c.2.2.2.1 b g h i).bind fun d => ((impl_SameAlarm.f k a.1 a.2.1 a.2.2.1 a.2.2.2.1 d.1 d.2.1 d.2.2.1 d.2.2.2).bind fun v => (if v = true then (laws_FnParts.j1 k x y false l m n o p q) else (none)))) else ((impl_SameAlarm.f k a.1 a.2.1 a.2.2.1 a.2.2.2.1 b g h i).bind fun w => (laws_FnParts.j1 k x y (!w) l m n o p q))) else (none))) else (none)))
def laws_FnParts.j1 : Nat → Int → List (S29) → Bool → Int → Int → List (S80) → Int → Int → List (S80) → Option (Bool)
 | 0, _, _, _, _, _, _, _, _, _ => none
 | k + 1, j, l, i, d, e, g, a, b, c => if i = true then (none) else ((impl_AlarmsIn.f k a b c).bind fun h => (laws_FnParts.l0 k j l h 0 d e g a b c))
def laws_FnParts.l0 : Nat → Int → List (S29) → List (S29) → Int → Int → Int → List (S80) → Int → Int → List (S80) → Option (Bool)
 | 0, _, _, _, _, _, _, _, _, _, _ => none
 | k + 1, q, j, e, g, b, a, c, h, d, i => if g < (e.length : Int) then (if 0 ≤ g then ((impl_Over.f ((rd_T29 e g).f0) ((rd_T29 e g).f1) ((rd_T29 e g).f2) ((rd_T29 e g).f3) q).bind fun l => (if l = true then (none) else (laws_FnParts.l0 k q j e (wrap64 (g + 1)) b a c h d i))) else (none)) else ((impl_AlarmsIn.f k b a c).bind fun m => (if (wrap64 ((e.length : Int) + (j.length : Int))) = (m.length : Int) then (if ((d != a) == (decide ((j.length : Int) > 0))) = true then ((impl_AlarmsIn.f k b a c).bind fun n => ((spec_AlarmsIn.f k b a c).bind fun o => ((laws_sameList.f k n o).bind fun p => (some p)))) else (none)) else (none)))
end
def laws_FnParts.f (k : Nat) (w : List Int) : Option (Bool) := (laws_big.f w).bind fun n => (if n = true then (some true) else ((spec_DrawPutIn.f k w).bind fun a => ((impl_PutIn.f k a.1 a.2.1 a.2.2.1 a.2.2.2.1 a.2.2.2.2.1 a.2.2.2.2.2.1 a.2.2.2.2.2.2).bind fun e => ((spec_PutIn.f k a.1 a.2.1 a.2.2.1 a.2.2.2.1 a.2.2.2.2.1 a.2.2.2.2.2.1 a.2.2.2.2.2.2).bind fun l => ((spec_DrawFindIn.f k w).bind fun g => ((impl_FindIn.f k g.1 g.2.1 g.2.2.1 g.2.2.2).bind fun i => ((spec_FindIn.f k g.1 g.2.1 g.2.2.1 g.2.2.2).bind fun j => ((spec_DrawSweepIn.f k w).bind fun b => ((impl_SweepIn.f k b.1 b.2.1 b.2.2.1 b.2.2.2).bind fun h => ((spec_SweepIn.f k b.1 b.2.1 b.2.2.1 b.2.2.2).bind fun m => ((spec_DrawPartOk.f k w).bind fun d => ((spec_DrawSamePart.f k w).bind fun c => ((impl_SamePart.f k e.1 e.2.1 e.2.2.1 l.1 l.2.1 l.2.2.1).bind fun o => (if o = true then (if (e.2.2.2 != l.2.2.2) = true then (none) else (if (i.2.2.2.2 != j.2.2.2.2) = true then (none) else ((impl_SameAlarm.f k i.1 i.2.1 i.2.2.1 i.2.2.2.1 j.1 j.2.1 j.2.2.1 j.2.2.2.1).bind fun p => (if p = true then ((impl_SamePart.f k h.1 h.2.1 h.2.2.1 m.1 m.2.1 m.2.2.1).bind fun q => (if q = true then ((laws_sameList.f k h.2.2.2 m.2.2.2).bind fun r => (if r = true then ((impl_PartOk.f k d.1 d.2.1 d.2.2.1 d.2.2.2.1 d.2.2.2.2).bind fun s => ((spec_PartOk.f k d.1 d.2.1 d.2.2.1 d.2.2.2.1 d.2.2.2.2).bind fun t => (if (s != t) = true then (none) else ((impl_SamePart.f k c.1 c.2.1 c.2.2.1 c.2.2.2.1 c.2.2.2.2.1 c.2.2.2.2.2).bind fun u => ((spec_SamePart.f k c.1 c.2.1 c.2.2.1 c.2.2.2.1 c.2.2.2.2.1 c.2.2.2.2.2).bind fun v => (if (u != v) = true then (none) else (laws_FnParts.j0 k e.2.2.2 b.2.2.2 h.2.2.2 a.1 a.2.1 a.2.2.1 a.2.2.2.1 a.2.2.2.2.1 a.2.2.2.2.2.1 a.2.2.2.2.2.2 e.1 e.2.1 e.2.2.1 b.1 b.2.1 b.2.2.1 h.1 h.2.1 h.2.2.1))))))) else (none))) else (none))) else (none))))) else (none)))))))))))))))
def laws_FnParts.T14 : Bool × List (List Nat × List Nat) := (true, [([], []), ([], []), ([0, 1], [0, 1]), ([2], [2]), ([3, 2], [3]), ([4], [4]), ([4], [4]), ([5, 6, 4], [4, 5, 6]), ([4, 7], [4, 7]), ([8, 4], [8]), ([9], [9]), ([9], [9]), ([10, 11, 9], [9, 10, 11]), ([9, 12], [9, 12]), ([13, 9], [13]), ([14], [14]), ([14], [14]), ([15, 16, 14, 14], [14, 15, 16]), ([17, 14], [14, 17]), ([14, 18], [14, 18]), ([19, 17], [19]), ([20], [20]), ([20], [20]), ([21, 22, 20, 20], [20, 21, 22]), ([23, 20], [20, 23]), ([20, 24], [20, 24]), ([25, 23], [25]), ([26], [26]), ([26], [26]), ([27, 28, 26, 26], [26, 27, 28]), ([29, 26], [26, 29]), ([26, 30], [26, 30]), ([31, 29], [31]), ([32], [32]), ([32], [32]), ([32], [32]), ([33, 34, 35, 32, 32], [32, 33, 34, 35]), ([32], [32]), ([32], [32]), ([32], [32]), ([37, 38, 39, 36, 32], [32, 37, 38, 39]), ([36, 40, 32], [32, 36, 40]), ([32, 41], [32, 41]), ([42, 40], [42]), ([43], [43]), ([43], [43]), ([44, 45, 43, 43], [43, 44, 45]), ([43], [43]), ([43], [43]), ([47, 48, 46, 43], [43, 47, 48]), ([46, 49, 43], [43, 46, 49]), ([43, 50], [43, 50])])
def laws_FnParts.B14 : List Nat := [0, 0, 3, 7, 15, 31, 31, 127, 255, 511, 1023, 1023, 4095, 8191, 16383, 32767, 32767, 131071, 262143, 524287, 1048575, 2097151, 2097151, 8388607, 16777215, 33554431, 67108863, 134217727, 134217727, 536870911, 1073741823, 2147483647, 4294967295, 8589934591, 8589934591, 8589934591, 68719476735, 8589934591, 8589934591, 8589934591, 1099511627775, 2199023255551, 4398046511103, 8796093022207, 17592186044415, 17592186044415, 70368744177663, 17592186044415, 17592186044415, 562949953421311, 1125899906842623, 2251799813685247]
theorem laws_FnParts.tab14 : rtab .any (opsOf Tryz.f3 14) = laws_FnParts.T14 := by kernel_rfl
theorem laws_FnParts.bits14 : waitsOk laws_FnParts.T14.2 laws_FnParts.B14 = true := by kernel_rfl
def laws_FnParts.T18 : Bool × List (List Nat × List Nat) := (true, [([], []), ([0], [0]), ([1], [1]), ([2], [2]), ([2], [2]), ([3, 4, 2], [2, 3, 4]), ([2, 5], [2, 5]), ([6, 2], [6]), ([7], [7]), ([8, 7], [7, 8]), ([7], [7]), ([10, 7], [7, 10]), ([11, 7], [7, 11]), ([9, 12, 7], [7, 9, 12]), ([7, 13], [7, 13]), ([14, 7], [14]), ([15], [15]), ([16, 15, 15], [15, 16]), ([17], [17]), ([17], [17]), ([17], [17]), ([19, 20, 17, 17], [17, 19, 20]), ([18, 21, 21, 17], [17, 18, 21]), ([22, 17], [17, 22]), ([17, 23, 15], [15, 17, 23]), ([15, 24], [15, 24]), ([25, 22], [25]), ([26], [26]), ([27, 26], [26, 27]), ([28, 26, 26], [26, 28]), ([29], [29]), ([29], [29]), ([30, 31, 29, 29], [29, 30, 31]), ([32, 29], [29, 32]), ([29, 33, 26], [26, 29, 33]), ([26, 34], [26, 34])])
def laws_FnParts.B18 : List Nat := [0, 1, 3, 7, 7, 31, 63, 127, 255, 511, 255, 1279, 3327, 8191, 16383, 32767, 65535, 131071, 262143, 262143, 262143, 1835007, 4194303, 8388607, 16777215, 33554431, 67108863, 134217727, 268435455, 536870911, 1073741823, 1073741823, 4294967295, 8589934591, 17179869183, 34359738367]
theorem laws_FnParts.tab18 : rtab .any (opsOf Tryz.f3 18) = laws_FnParts.T18 := by kernel_rfl
theorem laws_FnParts.bits18 : waitsOk laws_FnParts.T18.2 laws_FnParts.B18 = true := by kernel_rfl
def laws_FnParts.T26 : Bool × List (List Nat × List Nat) := (true, [([], []), ([0], [0]), ([], []), ([2], [2]), ([1, 3], [1, 3]), ([], []), ([5], [5]), ([6], [6]), ([4, 7], [4, 7]), ([8, 6], [8]), ([9], [9]), ([10, 9], [9, 10]), ([9], [9]), ([12, 9], [9, 12]), ([11, 13, 9], [9, 11, 13]), ([9], [9]), ([15, 9], [9, 15]), ([16, 9], [9, 16]), ([14, 17, 9], [9, 14, 17]), ([9, 18], [9, 18]), ([19, 9], [19]), ([20], [20]), ([21, 20, 20], [20, 21]), ([20], [20]), ([23, 22, 20], [20, 23]), ([22, 24, 24, 20], [20, 22, 24]), ([20, 25], [20, 25]), ([26, 25, 0, 1, 2, 3, 4, 5, 6, 7, 8, 9, 10, 11, 12, 13, 14, 15, 16, 17, 18, 19, 20, 21, 22, 23, 24, 25, 26], [26])])
def laws_FnParts.B26 : List Nat := [0, 1, 0, 4, 15, 0, 32, 96, 255, 511, 1023, 2047, 1023, 5119, 16383, 1023, 33791, 99327, 262143, 524287, 1048575, 2097151, 4194303, 2097151, 16777215, 33554431, 67108863, 134217727]
theorem laws_FnParts.tab26 : rtab .any (opsOf Tryz.f3 26) = laws_FnParts.T26 := by kernel_rfl
theorem laws_FnParts.bits26 : waitsOk laws_FnParts.T26.2 laws_FnParts.B26 = true := by kernel_rfl
theorem laws_FnParts.calls (k : Nat) (A0 : Option Addr) (c0 : Nat) (l0 : List Int) (r : Bool) (w : World) (Vm : Kd.C (Kd.int .u8) w A0 l0.length l0) (Wm : l0.length ≤ c0) (h : laws_FnParts.f k l0 = some r) :
  Calls Tryz.prog 3 #[.slice A0 l0.length c0] w fun e w' => e = .returned (.bool r) ∧ Below w.heap.size w w' := by
 have hu26 := Tryz.underlying26
 have hu29 := Tryz.underlying29
 have pe := M_ Vm
 have qe := M_ Wm
 clear Vm Wm
 have HB := M_ (Below.refl w.heap.size w)
 unfold laws_FnParts.f at h
 have H := h; clear h
 replace H := bi_ H; obtain ⟨Ao, A2, H⟩ := H
 replace H := ib_ H; rcases H with ⟨rfl, H⟩ | ⟨rfl, H⟩
 ·
  obtain rfl := Option.some.inj H
  go_enter Tryz.func3, Tryz.ntmps3
  go_wp2_with (first | ((with_reducible refine gate_callee (f := 6) rfl ?_); refine gl_ (some 33) Tryz.func6 #[.slice A0 l0.length c0] ?_; (with_reducible refine (laws_big.calls _ _ l0 true _ ?_ ?_ A2.1).mono ?_); exact cp_ (pe.1); exact qe.1; rintro e w' ⟨rfl, ⟨nd, rfl⟩⟩; refine ⟨_, rfl, ?_⟩))
  go_ret
  exact an_ (hs_ HB.1)
 replace H := bi_ H; obtain ⟨⟨db, Va, Pa, Ea, kb, lb, mb⟩, A4, H⟩ := H; (try dsimp only at H)
 replace H := bi_ H; obtain ⟨⟨Db, qb, eb, Kb⟩, A5, H⟩ := H; (try dsimp only at H)
 replace H := bi_ H; obtain ⟨⟨yc, zc, Lb, Xc⟩, A6, H⟩ := H; (try dsimp only at H)
 replace H := bi_ H; obtain ⟨⟨ic, jc, rb, Ub⟩, A7, H⟩ := H; (try dsimp only at H)
 replace H := bi_ H; obtain ⟨⟨sb, kc, lc, mc, Yc⟩, A8, H⟩ := H; (try dsimp only at H)
 replace H := bi_ H; obtain ⟨⟨tb, nc, oc, pc, Zc⟩, A9, H⟩ := H; (try dsimp only at H)
 replace H := bi_ H; obtain ⟨⟨Wa, Qa, Ia, Vb⟩, Bo, H⟩ := H; (try dsimp only at H)
 replace H := bi_ H; obtain ⟨⟨ub, Za, Ua, ab⟩, Co, H⟩ := H; (try dsimp only at H)
 replace H := bi_ H; obtain ⟨⟨Ac, Bc, Mb, re⟩, Do, H⟩ := H; (try dsimp only at H)
 replace H := bi_ H; obtain ⟨⟨dc, ec, zb, rd, sd⟩, Eo, H⟩ := H; (try dsimp only at H)
 replace H := bi_ H; obtain ⟨⟨Ja, Ka, Fa, Wb, Xb, pb⟩, Fo, H⟩ := H; (try dsimp only at H)
 replace H := bi_ H; obtain ⟨Go, Ho, H⟩ := H
 replace H := in_ H; obtain ⟨rfl, H⟩ := H
 replace H := io_ H; obtain ⟨se, H⟩ := H
 have Io : (Kb != Xc) = false := by simpa using se
 (try (have Jo : (Kb ^^ Xc) = false := by simpa using se))
 (try (have Ko : (!(Kb == Xc)) = false := by simpa using se))
 (try (have Lo : decide (Kb = Xc) = true := by simpa using se))
 (try (have Mo : (Kb == Xc) = true := by simpa using se))
 clear se
 replace H := io_ H; obtain ⟨te, H⟩ := H
 have No : (Yc != Zc) = false := by simpa using te
 (try (have Oo : (Yc ^^ Zc) = false := by simpa using te))
 (try (have Po : (!(Yc == Zc)) = false := by simpa using te))
 (try (have Qo : decide (Yc = Zc) = true := by simpa using te))
 (try (have Ro : (Yc == Zc) = true := by simpa using te))
 clear te
 replace H := bi_ H; obtain ⟨So, To, H⟩ := H
 replace H := in_ H; obtain ⟨rfl, H⟩ := H
 replace H := bi_ H; obtain ⟨Uo, Vo, H⟩ := H
 replace H := in_ H; obtain ⟨rfl, H⟩ := H
 replace H := bi_ H; obtain ⟨Wo, Xo, H⟩ := H
 replace H := in_ H; obtain ⟨rfl, H⟩ := H
 replace H := bi_ H; obtain ⟨ad, Yo, H⟩ := H
 replace H := bi_ H; obtain ⟨bd, Zo, H⟩ := H
 replace H := io_ H; obtain ⟨ue, H⟩ := H
 have ap : (ad != bd) = false := by simpa using ue
 (try (have bp : (ad ^^ bd) = false := by simpa using ue))
 (try (have cp : (!(ad == bd)) = false := by simpa using ue))
 (try (have dp : decide (ad = bd) = true := by simpa using ue))
 (try (have ep : (ad == bd) = true := by simpa using ue))
 clear ue
 replace H := bi_ H; obtain ⟨cd, fp, H⟩ := H
 replace H := bi_ H; obtain ⟨dd, gp, H⟩ := H
 have Re := M_ H
 clear H
 go_enter Tryz.func3, Tryz.ntmps3
 try go_wp2_with (first | ((with_reducible refine gate_callee (f := 6) rfl ?_); refine gl_ (some 33) Tryz.func6 #[.slice A0 l0.length c0] ?_; (with_reducible refine (laws_big.calls _ _ l0 false _ ?_ ?_ A2.1).mono ?_); exact cp_ (pe.1); exact qe.1; rintro e w' ⟨rfl, ⟨nd, rfl⟩⟩; refine ⟨_, rfl, ?_⟩) | ((with_reducible refine gate_callee (f := 7) rfl ?_); refine gl_ (some 36) Tryz.func7 #[.slice A0 l0.length c0] ?_; (with_reducible refine (spec_DrawPutIn.calls k _ _ l0 db Va Pa Ea kb lb mb _ ?_ ?_ A4.1).mono ?_); exact cp_ (pe.1); exact qe.1; rintro e Sq ⟨hp, ip, rfl, Ba, Jc, hb⟩; refine ⟨_, rfl, ?_⟩; obtain ⟨Oa, Ee⟩ := Kd.S_name Ba; have F := sg_ Ee Ba HB; have G := rg_ Ee Jc HB; have n2_ := st_ HB hb; clear HB; have HB := n2_; clear n2_; (try clear hb Ba Jc)) | ((with_reducible refine gd_ 3 rfl ?_); refine bV_ 3 #[.int .i64 0, .int .i64 0, .slice none 0 0] 26 ?_; intro Na hg Tq j hb; obtain ⟨F, G⟩ := u2_ hb F G; have Hn := gq_ hg HB; replace HB := st_ HB hb; clear hb hg) | ((with_reducible refine gd_ 4 rfl ?_); refine bV_ 4 #[.slice none 0 0, .int .i64 0, .int .i64 0, .string (⟨#[]⟩ : ByteArray)] 29 ?_; intro u hg Uq a hb; replace F := se_ F hg hb; replace G := rb_ G hb; have In := gq_ hg HB; replace HB := st_ HB hb; obtain ⟨Kc, hf, j⟩ := nb_ j hg hb; clear hb hg; have Uk := n2_ Kc; obtain ⟨Vk, Wk, Xk, Yk, Zk, al⟩ := bc3_ j.1; obtain ⟨Sb, Gb, Xm⟩ := Kd.S_slice F.1; subst Xm; obtain ⟨yb, ob, Ym⟩ := Kd.R_slice G.1; subst Ym; obtain ⟨bl, cl, dl, el, fl, gl, hl, il⟩ := bc4_ a.1) | ((with_reducible refine gate_callee (f := 8) rfl ?_); refine gl_ (some 42) Tryz.func8 #[.agg #[.int .i64 db, .int .i64 Va, .slice Sb Pa.length Gb], .agg #[.slice yb Ea.length ob, .int .i64 kb, .int .i64 lb, .string mb]] ?_; (with_reducible refine (impl_PutIn.calls k db Va _ _ Pa _ _ Ea kb lb mb Db qb eb Kb _ ?side1 ?side2 ?side3 ?side4 A5.1).mono ?_); (case side1 => refine (Kd.S_reads' (e := 80) (base := w.heap.size) (ok := fun k_ => ((some k_ ≠ (.slice yb Ea.length ob : Value).ownBlock ∧ Oa ≤ k_) ∧ k_ ≠ u)) (n := Pa.length) (c := Gb) ?_).2.2; exact (by (with_reducible repeat (first | apply Kd.S_alloc | apply Kd.S_drewN | apply Kd.S_drew)); exact (Kd.S_mono (Kd.S_mono (sf_ u (Kd.S_far (p := ⟨Na, 2, none⟩) (Kd.S_far (p := ⟨Na, 1, none⟩) (Kd.S_far (p := ⟨Na, 0, none⟩) (Kd.S_mono (Kd.S_types F.1 j.1 (by decide)) (fun k_ hk => (⟨hk, hk.1.2⟩ : _ ∧ k_ ≠ u))) (fun _ hk => hk.1.2) (.int .i64 db)) (fun _ hk => hk.1.2) (.int .i64 Va)) (fun _ hk => hk.1.2) (.slice Sb Pa.length Gb)) (fun _ hk => hk.2)) (fun _ h_ => h_.1)) (fun _ h_ => h_.1)))); (case side2 => exact (Kd.S_reads' F.1).2.1); (case side3 => refine (Kd.R_reads' (e := 99) (base := w.heap.size) (ok := fun k_ => (True ∧ Oa ≤ k_)) (n := Ea.length) (c := ob) ?_).2.2; exact (by (with_reducible repeat (first | apply Kd.R_alloc | apply Kd.R_drewN | apply Kd.R_drew)); exact (Kd.R_mono (Kd.R_mono (rf_ u (Kd.R_far (p := ⟨Na, 2, none⟩) (Kd.R_far (p := ⟨Na, 1, none⟩) (Kd.R_far (p := ⟨Na, 0, none⟩) (Kd.R_types (Kd.R_types G.1 j.1 (by decide)) a.1 (by decide)) (fun _ hk => hk.1.2) (.int .i64 db)) (fun _ hk => hk.1.2) (.int .i64 Va)) (fun _ hk => hk.1.2) (.slice Sb Pa.length Gb)) (fun _ hk => hk.2)) (fun _ h_ => h_.1)) (fun _ h_ => h_.1)))); (case side4 => exact (Kd.R_reads' G.1).2.1); rintro e Vq ⟨jp, rfl, Ba, hb⟩; refine ⟨_, rfl, ?_⟩; obtain ⟨Ga, Bd⟩ := Kd.S_name Ba; replace F := su_ Bd (by (with_reducible repeat (first | apply Kd.S_alloc | apply Kd.S_drewN | apply Kd.S_drew)); exact (Kd.S_mono (Kd.S_mono (sf_ u (Kd.S_far (p := ⟨Na, 2, none⟩) (Kd.S_far (p := ⟨Na, 1, none⟩) (Kd.S_far (p := ⟨Na, 0, none⟩) (Kd.S_mono (Kd.S_types F.1 j.1 (by decide)) (fun k_ hk => (⟨hk, hk.1.2⟩ : _ ∧ k_ ≠ u))) (fun _ hk => hk.1.2) (.int .i64 db)) (fun _ hk => hk.1.2) (.int .i64 Va)) (fun _ hk => hk.1.2) (.slice Sb Pa.length Gb)) (fun _ hk => hk.2)) (fun _ h_ => h_.1)) (fun _ h_ => h_.1))) hb; replace G := ru_ Bd (by (with_reducible repeat (first | apply Kd.R_alloc | apply Kd.R_drewN | apply Kd.R_drew)); exact (Kd.R_mono (Kd.R_mono (rf_ u (Kd.R_far (p := ⟨Na, 2, none⟩) (Kd.R_far (p := ⟨Na, 1, none⟩) (Kd.R_far (p := ⟨Na, 0, none⟩) (Kd.R_types (Kd.R_types G.1 j.1 (by decide)) a.1 (by decide)) (fun _ hk => hk.1.2) (.int .i64 db)) (fun _ hk => hk.1.2) (.int .i64 Va)) (fun _ hk => hk.1.2) (.slice Sb Pa.length Gb)) (fun _ hk => hk.2)) (fun _ h_ => h_.1)) (fun _ h_ => h_.1))) hb; have N := M_ (Kd.S_lower (Kd.S_newB (Kd.S_gez Bd Ba) (bp_ a.1)) (below_size (hs_ HB.1))); replace j := by_ j #[.int .i64 db, .int .i64 Va, .slice Sb Pa.length Gb] hb; replace a := by_ a #[.slice yb Ea.length ob, .int .i64 kb, .int .i64 lb, .string mb] hb; replace HB := st_ HB hb; (try clear hb Ba); (try clear Vk Wk Xk Yk Zk al); (try clear bl cl dl el fl gl hl il); (try clear Uk)) | ((with_reducible refine gd_ 5 rfl ?_); refine bV_ 5 #[.int .i64 0, .int .i64 0, .slice none 0 0] 26 ?_; intro vb hg Wq i hb; obtain ⟨F, G, N⟩ := u3_ hb F G N; have Jn := gq_ hg HB; replace HB := st_ HB hb; obtain ⟨jf, Cd, j⟩ := nb_ j hg hb; obtain ⟨kf, Dd, a⟩ := nb_ a hg hb; clear hb hg; have jl := n2_ Cd; have kl := n2_ Dd; obtain ⟨ll, ml, nl, ol, pl, ql⟩ := bc3_ i.1; obtain ⟨xc, qc, Zm⟩ := Kd.S_slice N.1; subst Zm; obtain ⟨rl, sl, tl, ul, vl, wl⟩ := bc3_ j.1; obtain ⟨xl, yl, zl, Al, Bl, Cl, Dl, El⟩ := bc4_ a.1) | ((with_reducible refine gate_callee (f := 9) rfl ?_); refine gl_ (some 48) Tryz.func9 #[.agg #[.int .i64 db, .int .i64 Va, .slice Sb Pa.length Gb], .agg #[.slice yb Ea.length ob, .int .i64 kb, .int .i64 lb, .string mb]] ?_; (with_reducible refine (spec_PutIn.calls k db Va _ _ Pa _ _ Ea kb lb mb yc zc Lb Xc _ ?side1 ?side2 ?side3 ?side4 A6.1).mono ?_); (case side1 => refine (Kd.S_reads' (e := 80) (base := w.heap.size) (ok := fun k_ => (((some k_ ≠ (.slice yb Ea.length ob : Value).ownBlock ∧ Oa ≤ k_) ∧ k_ ≠ u) ∧ k_ < Ga)) (n := Pa.length) (c := Gb) ?_).2.2; exact (sy_ F.1 i.1)); (case side2 => exact (Kd.S_reads' F.1).2.1); (case side3 => refine (Kd.R_reads' (e := 99) (base := w.heap.size) (ok := fun k_ => ((True ∧ Oa ≤ k_) ∧ k_ < Ga)) (n := Ea.length) (c := ob) ?_).2.2; exact (ry_ G.1 i.1)); (case side4 => exact (Kd.R_reads' G.1).2.1); rintro e Xq ⟨kp, rfl, Ba, hb⟩; refine ⟨_, rfl, ?_⟩; obtain ⟨Ca, pd⟩ := Kd.S_name Ba; replace F := su_ pd (sy_ F.1 i.1) hb; replace G := ru_ pd (ry_ G.1 i.1) hb; replace N := su_ pd (sy_ N.1 i.1) hb; have T := M_ (Kd.S_lower (Kd.S_newB (Kd.S_gez pd Ba) (bq_ a.1)) (below_size (hs_ HB.1))); obtain ⟨j, a⟩ := u2_ hb j a; replace i := by_ i #[.int .i64 Db, .int .i64 qb, .slice xc eb.length qc] hb; replace HB := st_ HB hb; (try clear hb Ba); (try clear ll ml nl ol pl ql); (try clear rl sl tl ul vl wl); (try clear xl yl zl Al Bl Cl Dl El); (try clear jl kl)) | ((with_reducible refine gd_ 7 rfl ?_); refine bV_ 7 #[.int .i64 0, .int .i64 0, .slice none 0 0] 26 ?_; intro Lc hg Yq m hb; obtain ⟨F, G, N, T⟩ := u4_ hb F G N T; have Kn := gq_ hg HB; have Ln := gq_ hg HB; replace HB := st_ HB hb; obtain ⟨lf, mf, j⟩ := nb_ j hg hb; obtain ⟨nf, pf, a⟩ := nb_ a hg hb; obtain ⟨qf, rf, i⟩ := nb_ i hg hb; clear hb hg; obtain ⟨Fl, Gl, Hl, Il, Jl, Kl⟩ := bc3_ m.1; obtain ⟨td, ud, an⟩ := Kd.S_slice T.1; subst an) | ((with_reducible refine gate_callee (f := 10) rfl ?_); refine gl_ (some 53) Tryz.func10 #[.slice A0 l0.length c0] ?_; (with_reducible refine (spec_DrawFindIn.calls k _ _ l0 ic jc rb Ub _ ?_ ?_ A7.1).mono ?_); exact Kd.C_below pe.1 (hs_ HB.1); exact qe.1; rintro e Zq ⟨lp, mp, rfl, Ba, Jc, hb⟩; refine ⟨_, rfl, ?_⟩; obtain ⟨qa, tc⟩ := Kd.S_name Ba; replace F := su_ tc (sy_ F.1 m.1) hb; replace G := ru_ tc (ry_ G.1 m.1) hb; replace N := su_ tc (sy_ N.1 m.1) hb; replace T := su_ tc (sy_ T.1 m.1) hb; have U := M_ (Kd.S_lower (Kd.S_newB (Kd.S_gez tc Ba) (bq_ a.1)) (below_size (hs_ HB.1))); have V := rg_ tc Jc HB; obtain ⟨j, a, i⟩ := u3_ hb j a i; replace m := by_ m #[.int .i64 yc, .int .i64 zc, .slice td Lb.length ud] hb; replace HB := st_ HB hb; (try clear hb Ba Jc); (try clear Fl Gl Hl Il Jl Kl)) | ((with_reducible refine gd_ 9 rfl ?_); refine bV_ 9 #[.int .i64 0, .int .i64 0, .slice none 0 0] 26 ?_; intro Fe hg ar s hb; obtain ⟨F, G, N, T, U, V⟩ := u6_ hb F G N T U V; have Mn := gq_ hg HB; have Nn := gq_ hg HB; replace HB := st_ HB hb; obtain ⟨sf, tf, j⟩ := nb_ j hg hb; obtain ⟨uf, vf, a⟩ := nb_ a hg hb; obtain ⟨wf, xf, i⟩ := nb_ i hg hb; obtain ⟨yf, zf, m⟩ := nb_ m hg hb; clear hb hg; obtain ⟨Ll, Ml, Nl, Ol, Pl, Ql⟩ := bc3_ s.1; obtain ⟨vd, Mc, bn⟩ := Kd.S_slice U.1; subst bn; obtain ⟨Zd, wd, cn⟩ := Kd.R_slice V.1; subst cn) | ((with_reducible refine gate_callee (f := 11) rfl ?_); refine gl_ (some 59) Tryz.func11 #[.agg #[.int .i64 ic, .int .i64 jc, .slice vd rb.length Mc], .slice Zd Ub.length wd] ?_; (with_reducible refine (impl_FindIn.calls k ic jc _ _ rb _ _ Ub sb kc lc mc Yc _ ?side1 ?side2 ?side3 ?side4 A8.1).mono ?_); (case side1 => refine (Kd.S_reads' (e := 80) (base := w.heap.size) (ok := fun k_ => ((some k_ ≠ (.slice Zd Ub.length wd : Value).ownBlock ∧ qa ≤ k_) ∧ k_ ≠ u)) (n := rb.length) (c := Mc) ?_).2.2; exact (sy_ U.1 s.1)); (case side2 => exact (Kd.S_reads' U.1).2.1); (case side3 => refine (Kd.R_reads' (e := 99) (base := w.heap.size) (ok := fun k_ => (True ∧ qa ≤ k_)) (n := Ub.length) (c := wd) ?_).2.2; exact (ry_ V.1 s.1)); (case side4 => exact (Kd.R_reads' V.1).2.1); rintro e br ⟨np, rfl, Ba, hb⟩; refine ⟨_, rfl, ?_⟩; obtain ⟨na, fc⟩ := Kd.R_name Ba; replace F := su_ fc (sy_ F.1 s.1) hb; replace G := ru_ fc (ry_ G.1 s.1) hb; replace N := su_ fc (sy_ N.1 s.1) hb; replace T := su_ fc (sy_ T.1 s.1) hb; replace U := su_ fc (sy_ U.1 s.1) hb; replace V := ru_ fc (ry_ V.1 s.1) hb; have ca := rg_ fc Ba HB; obtain ⟨j, a, i, m⟩ := u4_ hb j a i m; replace s := by_ s #[.int .i64 ic, .int .i64 jc, .slice vd rb.length Mc] hb; replace HB := st_ HB hb; (try clear hb Ba); (try clear Ll Ml Nl Ol Pl Ql)) | ((with_reducible refine gd_ 11 rfl ?_); refine bV_ 11 #[.slice none 0 0, .int .i64 0, .int .i64 0, .string (⟨#[]⟩ : ByteArray)] 29 ?_; intro D hg cr b hb; replace F := se_ F hg hb; replace G := rb_ G hb; replace N := se_ N hg hb; replace T := se_ T hg hb; replace U := se_ U hg hb; obtain ⟨V, ca⟩ := u2_ hb V ca; have On := gq_ hg HB; have Pn := gq_ hg HB; replace HB := st_ HB hb; obtain ⟨Af, Bf, j⟩ := nb_ j hg hb; obtain ⟨Cf, Df, a⟩ := nb_ a hg hb; obtain ⟨Ef, Ff, i⟩ := nb_ i hg hb; obtain ⟨Gf, Hf, m⟩ := nb_ m hg hb; obtain ⟨If, Ed, s⟩ := nb_ s hg hb; clear hb hg; obtain ⟨Nc, Oc, dn⟩ := Kd.R_slice ca.1; subst dn; have Rl := n2_ Ed; obtain ⟨Sl, Tl, Ul, Vl, Wl, Xl, Yl, Zl⟩ := bc4_ b.1; obtain ⟨am, bm, cm, dm, em, fm⟩ := bc3_ s.1) | ((with_reducible refine gate_callee (f := 12) rfl ?_); refine gl_ (some 65) Tryz.func12 #[.agg #[.int .i64 ic, .int .i64 jc, .slice vd rb.length Mc], .slice Zd Ub.length wd] ?_; (with_reducible refine (spec_FindIn.calls k ic jc _ _ rb _ _ Ub tb nc oc pc Zc _ ?side1 ?side2 ?side3 ?side4 A9.1).mono ?_); (case side1 => refine (Kd.S_reads' (e := 80) (base := w.heap.size) (ok := fun k_ => ((((some k_ ≠ (.slice Zd Ub.length wd : Value).ownBlock ∧ qa ≤ k_) ∧ k_ ≠ u) ∧ k_ < na) ∧ k_ ≠ D)) (n := rb.length) (c := Mc) ?_).2.2; exact (sf_ D U.1 (fun _ hk => hk.2))); (case side2 => exact (Kd.S_reads' U.1).2.1); (case side3 => refine (Kd.R_reads' (e := 99) (base := w.heap.size) (ok := fun k_ => ((True ∧ qa ≤ k_) ∧ k_ < na)) (n := Ub.length) (c := wd) ?_).2.2; exact (ry_ V.1 b.1)); (case side4 => exact (Kd.R_reads' V.1).2.1); rintro e dr ⟨op, rfl, Ba, hb⟩; refine ⟨_, rfl, ?_⟩; obtain ⟨la, Tb⟩ := Kd.R_name Ba; replace F := su_ Tb (sf_ D F.1 (fun _ hk => hk.2)) hb; replace G := ru_ Tb (ry_ G.1 b.1) hb; replace N := su_ Tb (sf_ D N.1 (fun _ hk => hk.2)) hb; replace T := su_ Tb (sf_ D T.1 (fun _ hk => hk.2)) hb; replace U := su_ Tb (sf_ D U.1 (fun _ hk => hk.2)) hb; replace V := ru_ Tb (ry_ V.1 b.1) hb; replace ca := ru_ Tb (ry_ ca.1 b.1) hb; have ka := rg_ Tb Ba HB; obtain ⟨j, a, i, m, s⟩ := u5_ hb j a i m s; replace b := by_ b #[.slice Nc sb.length Oc, .int .i64 kc, .int .i64 lc, .string mc] hb; replace HB := st_ HB hb; (try clear hb Ba); (try clear Sl Tl Ul Vl Wl Xl Yl Zl); (try clear am bm cm dm em fm); (try clear Rl)) | ((with_reducible refine gd_ 13 rfl ?_); refine bV_ 13 #[.slice none 0 0, .int .i64 0, .int .i64 0, .string (⟨#[]⟩ : ByteArray)] 29 ?_; intro I hg er d hb; replace F := se_ F hg hb; replace G := rb_ G hb; replace N := se_ N hg hb; replace T := se_ T hg hb; replace U := se_ U hg hb; obtain ⟨V, ca, ka⟩ := u3_ hb V ca ka; have Qn := gq_ hg HB; have Rn := gq_ hg HB; replace HB := st_ HB hb; obtain ⟨Jf, Kf, j⟩ := nb_ j hg hb; obtain ⟨Lf, Mf, a⟩ := nb_ a hg hb; obtain ⟨Nf, Of, i⟩ := nb_ i hg hb; obtain ⟨Pf, Qf, m⟩ := nb_ m hg hb; obtain ⟨Rf, Sf, s⟩ := nb_ s hg hb; obtain ⟨Tf, Uf, b⟩ := nb_ b hg hb; clear hb hg; obtain ⟨Pc, Qc, en⟩ := Kd.R_slice ka.1; subst en; obtain ⟨gm, hm, im, jm, km, lm, mm, nm⟩ := bc4_ d.1) | ((with_reducible refine gate_callee (f := 13) rfl ?_); refine gl_ (some 70) Tryz.func13 #[.slice A0 l0.length c0] ?_; (with_reducible refine (spec_DrawSweepIn.calls k _ _ l0 Wa Qa Ia Vb _ ?_ ?_ Bo.1).mono ?_); exact Kd.C_below pe.1 (hs_ HB.1); exact qe.1; rintro e fr ⟨pp, rfl, Ba, hb⟩; refine ⟨_, rfl, ?_⟩; obtain ⟨W, Hb⟩ := Kd.S_name Ba; replace F := su_ Hb (sf_ I F.1 (fun _ hk => hk.2)) hb; replace G := ru_ Hb (ry_ G.1 d.1) hb; replace N := su_ Hb (sf_ I N.1 (fun _ hk => hk.2)) hb; replace T := su_ Hb (sf_ I T.1 (fun _ hk => hk.2)) hb; replace U := su_ Hb (sf_ I U.1 (fun _ hk => hk.2)) hb; replace V := ru_ Hb (ry_ V.1 d.1) hb; replace ca := ru_ Hb (ry_ ca.1 d.1) hb; replace ka := ru_ Hb (ry_ ka.1 d.1) hb; have ma := M_ (Kd.S_lower (Kd.S_newB (Kd.S_newB (Kd.S_newB (Kd.S_gez Hb Ba) (bq_ a.1)) (bq_ b.1)) (bp_ d.1)) (below_size (hs_ HB.1))); obtain ⟨j, a, i, m, s, b⟩ := u6_ hb j a i m s b; replace d := by_ d #[.slice Pc tb.length Qc, .int .i64 nc, .int .i64 oc, .string pc] hb; replace HB := st_ HB hb; (try clear hb Ba); (try clear gm hm im jm km lm mm nm)) | ((with_reducible refine gd_ 15 rfl ?_); refine bV_ 15 #[.int .i64 0, .int .i64 0, .slice none 0 0] 26 ?_; intro uc hg gr l hb; obtain ⟨F, G, N, T, U, V, ca, ka, ma⟩ := u9_ hb F G N T U V ca ka ma; have Sn := gq_ hg HB; have Tn := gq_ hg HB; replace HB := st_ HB hb; obtain ⟨Vf, Wf, j⟩ := nb_ j hg hb; obtain ⟨Xf, Yf, a⟩ := nb_ a hg hb; obtain ⟨Zf, ag, i⟩ := nb_ i hg hb; obtain ⟨bg, cg, m⟩ := nb_ m hg hb; obtain ⟨dg, eg, s⟩ := nb_ s hg hb; obtain ⟨fg, gg, b⟩ := nb_ b hg hb; obtain ⟨ig, jg, d⟩ := nb_ d hg hb; clear hb hg; obtain ⟨om, pm, qm, rm, sm, tm⟩ := bc3_ l.1; obtain ⟨ac, Nb, fn⟩ := Kd.S_slice ma.1; subst fn) | ((with_reducible refine gate_callee (f := 14) rfl ?_); refine gl_ (some 76) Tryz.func14 #[.agg #[.int .i64 Wa, .int .i64 Qa, .slice ac Ia.length Nb], .int .i64 Vb] ?_; (with_reducible refine (impl_SweepIn.calls k Wa Qa _ _ Ia Vb ub Za Ua ab _ ?side1 ?side2 Co.1).mono ?_); (case side1 => refine (Kd.S_reads' (e := 80) (base := w.heap.size) (ok := fun k_ => ((((True ∧ W ≤ k_) ∧ k_ ≠ u) ∧ k_ ≠ D) ∧ k_ ≠ I)) (n := Ia.length) (c := Nb) ?_).2.2; exact (sy_ ma.1 l.1)); (case side2 => exact (Kd.S_reads' ma.1).2.1); rintro e hr ⟨qp, um, rfl, Ba, Jc, hb⟩; refine ⟨_, rfl, ?_⟩; obtain ⟨J, wb⟩ := Kd.S_name Ba; replace F := su_ wb (sy_ F.1 l.1) hb; replace G := ru_ wb (ry_ G.1 l.1) hb; replace N := su_ wb (sy_ N.1 l.1) hb; replace T := su_ wb (sy_ T.1 l.1) hb; replace U := su_ wb (sy_ U.1 l.1) hb; replace V := ru_ wb (ry_ V.1 l.1) hb; replace ca := ru_ wb (ry_ ca.1 l.1) hb; replace ka := ru_ wb (ry_ ka.1 l.1) hb; replace ma := su_ wb (sy_ ma.1 l.1) hb; have oa := M_ (Kd.S_lower (Kd.S_newB (Kd.S_newB (Kd.S_newB (Kd.S_gez wb Ba) (bq_ a.1)) (bq_ b.1)) (bq_ d.1)) (below_size (hs_ HB.1))); have pa := M_ (Kd.S_lower (Kd.S_newB (Kd.S_newB (Kd.S_newB (Kd.S_gez wb Jc) (bq_ a.1)) (bq_ b.1)) (bq_ d.1)) (below_size (hs_ HB.1))); obtain ⟨j, a, i, m, s, b, d⟩ := u7_ hb j a i m s b d; replace l := by_ l #[.int .i64 Wa, .int .i64 Qa, .slice ac Ia.length Nb] hb; replace HB := st_ HB hb; (try clear hb Ba Jc); (try clear om pm qm rm sm tm)) | ((with_reducible refine gd_ 17 rfl ?_); refine bV_ 17 #[.int .i64 0, .int .i64 0, .slice none 0 0] 26 ?_; intro Ib hg ir g hb; obtain ⟨F, G, N, T, U, V, ca, ka, ma, oa⟩ := u10_ hb F G N T U V ca ka ma oa; replace pa := sb_ pa hb; have Un := gq_ hg HB; have Vn := gq_ hg HB; replace HB := st_ HB hb; obtain ⟨kg, lg, j⟩ := nb_ j hg hb; obtain ⟨mg, ng, a⟩ := nb_ a hg hb; obtain ⟨og, pg, i⟩ := nb_ i hg hb; obtain ⟨qg, rg, m⟩ := nb_ m hg hb; obtain ⟨sg, tg, s⟩ := nb_ s hg hb; obtain ⟨ug, vg, b⟩ := nb_ b hg hb; obtain ⟨wg, xg, d⟩ := nb_ d hg hb; obtain ⟨yg, Fd, l⟩ := nb_ l hg hb; clear hb hg; have zg := n2_ Fd; obtain ⟨Ag, Bg, Cg, Dg, Eg, Fg⟩ := bc3_ g.1; obtain ⟨Ob, Pb, vm⟩ := Kd.S_slice oa.1; subst vm; obtain ⟨Gg, Hg, Ig, Jg, Kg, Lg⟩ := bc3_ l.1) | ((with_reducible refine gate_callee (f := 15) rfl ?_); refine gl_ (some 82) Tryz.func15 #[.agg #[.int .i64 Wa, .int .i64 Qa, .slice ac Ia.length Nb], .int .i64 Vb] ?_; (with_reducible refine (spec_SweepIn.calls k Wa Qa _ _ Ia Vb Ac Bc Mb re _ ?side1 ?side2 Do.1).mono ?_); (case side1 => refine (Kd.S_reads' (e := 80) (base := w.heap.size) (ok := fun k_ => (((((True ∧ W ≤ k_) ∧ k_ ≠ u) ∧ k_ ≠ D) ∧ k_ ≠ I) ∧ k_ < J)) (n := Ia.length) (c := Nb) ?_).2.2; exact (sy_ ma.1 g.1)); (case side2 => exact (Kd.S_reads' ma.1).2.1); rintro e Op ⟨rp, wm, rfl, Ba, Jc, hb⟩; refine ⟨_, rfl, ?_⟩; obtain ⟨z, jb⟩ := Kd.S_name Ba; replace F := su_ jb (sy_ F.1 g.1) hb; replace G := ru_ jb (ry_ G.1 g.1) hb; replace N := su_ jb (sy_ N.1 g.1) hb; replace T := su_ jb (sy_ T.1 g.1) hb; replace U := su_ jb (sy_ U.1 g.1) hb; replace V := ru_ jb (ry_ V.1 g.1) hb; replace ca := ru_ jb (ry_ ca.1 g.1) hb; replace ka := ru_ jb (ry_ ka.1 g.1) hb; replace ma := su_ jb (sy_ ma.1 g.1) hb; replace oa := su_ jb (sy_ oa.1 g.1) hb; replace pa := su_ jb (sy_ pa.1 g.1) hb; have ra := M_ (Kd.S_lower (Kd.S_newB (Kd.S_newB (Kd.S_newB (Kd.S_gez jb Ba) (bq_ a.1)) (bq_ b.1)) (bq_ d.1)) (below_size (hs_ HB.1))); have ta := M_ (Kd.S_lower (Kd.S_newB (Kd.S_newB (Kd.S_newB (Kd.S_gez jb Jc) (bq_ a.1)) (bq_ b.1)) (bq_ d.1)) (below_size (hs_ HB.1))); obtain ⟨j, a, i, m, s, b, d, l⟩ := u8_ hb j a i m s b d l; replace g := by_ g #[.int .i64 ub, .int .i64 Za, .slice Ob Ua.length Pb] hb; replace HB := st_ HB hb; (try clear hb Ba Jc); (try clear Ag Bg Cg Dg Eg Fg); (try clear Gg Hg Ig Jg Kg Lg); (try clear zg)) | ((with_reducible refine gd_ 19 rfl ?_); refine bV_ 19 #[.int .i64 0, .int .i64 0, .slice none 0 0] 26 ?_; intro Rc hg Pp v hb; obtain ⟨F, G, N, T, U, V, ca, ka, ma, oa⟩ := u10_ hb F G N T U V ca ka ma oa; obtain ⟨pa, ra, ta⟩ := u3_ hb pa ra ta; have Wn := gq_ hg HB; have Xn := gq_ hg HB; replace HB := st_ HB hb; obtain ⟨Mg, Ng, j⟩ := nb_ j hg hb; obtain ⟨Og, Pg, a⟩ := nb_ a hg hb; obtain ⟨Qg, Rg, i⟩ := nb_ i hg hb; obtain ⟨Sg, Tg, m⟩ := nb_ m hg hb; obtain ⟨Ug, Vg, s⟩ := nb_ s hg hb; obtain ⟨Wg, Xg, b⟩ := nb_ b hg hb; obtain ⟨Yg, Zg, d⟩ := nb_ d hg hb; obtain ⟨ah, bh, l⟩ := nb_ l hg hb; obtain ⟨ch, dh, g⟩ := nb_ g hg hb; clear hb hg; obtain ⟨eh, fh, gh, hh, ih, jh⟩ := bc3_ v.1; obtain ⟨Cc, Dc, xm⟩ := Kd.S_slice ra.1; subst xm) | ((with_reducible refine gate_callee (f := 16) rfl ?_); refine gl_ (some 87) Tryz.func16 #[.slice A0 l0.length c0] ?_; (with_reducible refine (spec_DrawPartOk.calls k _ _ l0 dc ec zb rd sd _ ?_ ?_ Eo.1).mono ?_); exact Kd.C_below pe.1 (hs_ HB.1); exact qe.1; rintro e Qp ⟨sp, rfl, Ba, hb⟩; refine ⟨_, rfl, ?_⟩; obtain ⟨t, cb⟩ := Kd.S_name Ba; replace F := su_ cb (sy_ F.1 v.1) hb; replace G := ru_ cb (ry_ G.1 v.1) hb; replace N := su_ cb (sy_ N.1 v.1) hb; replace T := su_ cb (sy_ T.1 v.1) hb; replace U := su_ cb (sy_ U.1 v.1) hb; replace V := ru_ cb (ry_ V.1 v.1) hb; replace ca := ru_ cb (ry_ ca.1 v.1) hb; replace ka := ru_ cb (ry_ ka.1 v.1) hb; replace ma := su_ cb (sy_ ma.1 v.1) hb; replace oa := su_ cb (sy_ oa.1 v.1) hb; replace pa := su_ cb (sy_ pa.1 v.1) hb; replace ra := su_ cb (sy_ ra.1 v.1) hb; replace ta := su_ cb (sy_ ta.1 v.1) hb; have ua := M_ (Kd.S_lower (Kd.S_newB (Kd.S_newB (Kd.S_newB (Kd.S_gez cb Ba) (bq_ a.1)) (bq_ b.1)) (bq_ d.1)) (below_size (hs_ HB.1))); obtain ⟨j, a, i, m, s, b, d, l, g⟩ := u9_ hb j a i m s b d l g; replace v := by_ v #[.int .i64 Ac, .int .i64 Bc, .slice Cc Mb.length Dc] hb; replace HB := st_ HB hb; (try clear hb Ba); (try clear eh fh gh hh ih jh)) | ((with_reducible refine gd_ 21 rfl ?_); refine bV_ 21 #[.int .i64 0, .int .i64 0, .slice none 0 0] 26 ?_; intro Sc hg Rp x hb; obtain ⟨F, G, N, T, U, V, ca, ka, ma, oa⟩ := u10_ hb F G N T U V ca ka ma oa; obtain ⟨pa, ra, ta, ua⟩ := u4_ hb pa ra ta ua; have Yn := gq_ hg HB; have Zn := gq_ hg HB; replace HB := st_ HB hb; obtain ⟨kh, lh, j⟩ := nb_ j hg hb; obtain ⟨mh, nh, a⟩ := nb_ a hg hb; obtain ⟨oh, ph, i⟩ := nb_ i hg hb; obtain ⟨qh, rh, m⟩ := nb_ m hg hb; obtain ⟨sh, th, s⟩ := nb_ s hg hb; obtain ⟨uh, vh, b⟩ := nb_ b hg hb; obtain ⟨wh, xh, d⟩ := nb_ d hg hb; obtain ⟨yh, zh, l⟩ := nb_ l hg hb; obtain ⟨Ah, Bh, g⟩ := nb_ g hg hb; obtain ⟨Ch, Dh, v⟩ := nb_ v hg hb; clear hb hg; obtain ⟨Eh, Fh, Gh, Hh, Ih, Jh⟩ := bc3_ x.1; obtain ⟨rc, sc, ym⟩ := Kd.S_slice ua.1; subst ym) | ((with_reducible refine gate_callee (f := 17) rfl ?_); refine gl_ (some 93) Tryz.func17 #[.slice A0 l0.length c0] ?_; (with_reducible refine (spec_DrawSamePart.calls k _ _ l0 Ja Ka Fa Wb Xb pb _ ?_ ?_ Fo.1).mono ?_); exact Kd.C_below pe.1 (hs_ HB.1); exact qe.1; rintro e Sp ⟨tp, up, rfl, Ba, Jc, hb⟩; refine ⟨_, rfl, ?_⟩; obtain ⟨o, Sa⟩ := Kd.S_name Ba; replace F := su_ Sa (sy_ F.1 x.1) hb; replace G := ru_ Sa (ry_ G.1 x.1) hb; replace N := su_ Sa (sy_ N.1 x.1) hb; replace T := su_ Sa (sy_ T.1 x.1) hb; replace U := su_ Sa (sy_ U.1 x.1) hb; replace V := ru_ Sa (ry_ V.1 x.1) hb; replace ca := ru_ Sa (ry_ ca.1 x.1) hb; replace ka := ru_ Sa (ry_ ka.1 x.1) hb; replace ma := su_ Sa (sy_ ma.1 x.1) hb; replace oa := su_ Sa (sy_ oa.1 x.1) hb; replace pa := su_ Sa (sy_ pa.1 x.1) hb; replace ra := su_ Sa (sy_ ra.1 x.1) hb; replace ta := su_ Sa (sy_ ta.1 x.1) hb; replace ua := su_ Sa (sy_ ua.1 x.1) hb; have xa := M_ (Kd.S_lower (Kd.S_newB (Kd.S_newB (Kd.S_newB (Kd.S_gez Sa Ba) (bq_ a.1)) (bq_ b.1)) (bq_ d.1)) (below_size (hs_ HB.1))); have ya := M_ (Kd.S_lower (Kd.S_newB (Kd.S_newB (Kd.S_newB (Kd.S_gez Sa Jc) (bq_ a.1)) (bq_ b.1)) (bq_ d.1)) (below_size (hs_ HB.1))); obtain ⟨j, a, i, m, s, b, d, l, g, v⟩ := u10_ hb j a i m s b d l g v; replace x := by_ x #[.int .i64 dc, .int .i64 ec, .slice rc zb.length sc] hb; replace HB := st_ HB hb; (try clear hb Ba Jc); (try clear Eh Fh Gh Hh Ih Jh)) | ((with_reducible refine gd_ 24 rfl ?_); refine bV_ 24 #[.int .i64 0, .int .i64 0, .slice none 0 0] 26 ?_; intro aa hg Tp A hb; obtain ⟨F, G, N, T, U, V, ca, ka, ma, oa⟩ := u10_ hb F G N T U V ca ka ma oa; obtain ⟨pa, ra, ta, ua, xa, ya⟩ := u6_ hb pa ra ta ua xa ya; have ao := gq_ hg HB; have bo := gq_ hg HB; replace HB := st_ HB hb; obtain ⟨Gd, Hd, j⟩ := nb_ j hg hb; obtain ⟨Id, Jd, a⟩ := nb_ a hg hb; obtain ⟨Kh, Lh, i⟩ := nb_ i hg hb; obtain ⟨Mh, Nh, m⟩ := nb_ m hg hb; obtain ⟨Oh, Ph, s⟩ := nb_ s hg hb; obtain ⟨Qh, Rh, b⟩ := nb_ b hg hb; obtain ⟨Sh, Th, d⟩ := nb_ d hg hb; obtain ⟨Uh, Vh, l⟩ := nb_ l hg hb; obtain ⟨Wh, Xh, g⟩ := nb_ g hg hb; obtain ⟨Yh, Zh, v⟩ := nb_ v hg hb; obtain ⟨ai, bi, x⟩ := nb_ x hg hb; clear hb hg) | ((with_reducible refine gd_ 25 rfl ?_); refine bV_ 25 #[.int .i64 0, .int .i64 0, .slice none 0 0] 26 ?_; intro Ha hg gn E hb; obtain ⟨F, G, N, T, U, V, ca, ka, ma, oa⟩ := u10_ hb F G N T U V ca ka ma oa; obtain ⟨pa, ra, ta, ua, xa, ya⟩ := u6_ hb pa ra ta ua xa ya; have co := gq_ hg HB; have eo := gq_ hg HB; replace HB := st_ HB hb; obtain ⟨Ld, Md, j⟩ := nb_ j hg hb; obtain ⟨Nd, Od, a⟩ := nb_ a hg hb; obtain ⟨ci, di, i⟩ := nb_ i hg hb; obtain ⟨ei, fi, m⟩ := nb_ m hg hb; obtain ⟨gi, hi, s⟩ := nb_ s hg hb; obtain ⟨ii, ji, b⟩ := nb_ b hg hb; obtain ⟨ki, li, d⟩ := nb_ d hg hb; obtain ⟨mi, ni, l⟩ := nb_ l hg hb; obtain ⟨oi, pi, g⟩ := nb_ g hg hb; obtain ⟨qi, ri, v⟩ := nb_ v hg hb; obtain ⟨si, ti, x⟩ := nb_ x hg hb; obtain ⟨Pd, ui, A⟩ := nb_ A hg hb; clear hb hg; have vi := n2_ Hd; have wi := n2_ Jd; have xi := n2_ Pd; obtain ⟨yi, zi, Ai, Bi, Ci, Di⟩ := bc3_ A.1; obtain ⟨La, Ma, zm⟩ := Kd.S_slice xa.1; subst zm; have Ei := n2_ Md; have Fi := n2_ Od; obtain ⟨Gi, Hi, Ii, Ji, Ki, Li⟩ := bc3_ E.1; obtain ⟨Yb, Zb, Am⟩ := Kd.S_slice ya.1; subst Am))
 as_aux_lemma =>
 generalize hw_ : ((((((gn.setCell ⟨aa, 0, none⟩ (.int .i64 Ja)).setCell ⟨aa, 1, none⟩ (.int .i64 Ka)).setCell ⟨aa, 2, none⟩ (.slice La Fa.length Ma)).setCell ⟨Ha, 0, none⟩ (.int .i64 Wb)).setCell ⟨Ha, 1, none⟩ (.int .i64 Xb)).setCell ⟨Ha, 2, none⟩ (.slice Yb pb.length Zb)) = hn
 have ae := ws_ hw_ (Kd.S_mono (ok' := (fun k_ => some k_ ≠ (.slice yb Ea.length ob : Value).ownBlock ∧ Oa ≤ k_ ∧ k_ ≠ u ∧ k_ < Ga ∧ k_ < Ca ∧ k_ < qa ∧ k_ < na ∧ k_ ≠ D ∧ k_ < la ∧ k_ ≠ I ∧ k_ < W ∧ k_ < J ∧ k_ < z ∧ k_ < t ∧ k_ < o)) (sf_ Ha (Kd.S_far (p := ⟨aa, 2, none⟩) (Kd.S_far (p := ⟨aa, 1, none⟩) (Kd.S_far (p := ⟨aa, 0, none⟩) (Kd.S_types (Kd.S_types F.1 A.1 (by decide)) E.1 (by decide)) (fun _ hk => hk.1.2) (.int .i64 Ja)) (fun _ hk => hk.1.2) (.int .i64 Ka)) (fun _ hk => hk.1.2) (.slice La Fa.length Ma)) (fun _ hk => hk.2)) (fun _ hk => ⟨hk.1.1.1.1.1.1.1.1.1.1.1.1.1.1.1.1, ⟨hk.1.1.1.1.1.1.1.1.1.1.1.1.1.1.1.2, ⟨hk.1.1.1.1.1.1.1.1.1.1.1.1.1.1.2, ⟨hk.1.1.1.1.1.1.1.1.1.1.1.1.1.2, ⟨hk.1.1.1.1.1.1.1.1.1.1.1.1.2, ⟨hk.1.1.1.1.1.1.1.1.1.1.1.2, ⟨hk.1.1.1.1.1.1.1.1.1.1.2, ⟨hk.1.1.1.1.1.1.1.1.1.2, ⟨hk.1.1.1.1.1.1.1.1.2, ⟨hk.1.1.1.1.1.1.1.2, ⟨hk.1.1.1.1.1.1.2, ⟨hk.1.1.1.1.1.2, ⟨hk.1.1.1.1.2, ⟨hk.1.1.1.2, hk.1.1.2⟩⟩⟩⟩⟩⟩⟩⟩⟩⟩⟩⟩⟩⟩))
 have be := wr_ hw_ (Kd.R_mono (ok' := (fun k_ => Oa ≤ k_ ∧ k_ < Ga ∧ k_ < Ca ∧ k_ < qa ∧ k_ < na ∧ k_ < la ∧ k_ < W ∧ k_ < J ∧ k_ < z ∧ k_ < t ∧ k_ < o)) (rf_ Ha (Kd.R_far (p := ⟨aa, 2, none⟩) (Kd.R_far (p := ⟨aa, 1, none⟩) (Kd.R_far (p := ⟨aa, 0, none⟩) (Kd.R_types (Kd.R_types G.1 A.1 (by decide)) E.1 (by decide)) (fun _ hk => hk.1.2) (.int .i64 Ja)) (fun _ hk => hk.1.2) (.int .i64 Ka)) (fun _ hk => hk.1.2) (.slice La Fa.length Ma)) (fun _ hk => hk.2)) (fun _ hk => ⟨hk.1.1.1.1.1.1.1.1.1.1.1.1.2, ⟨hk.1.1.1.1.1.1.1.1.1.1.1.2, ⟨hk.1.1.1.1.1.1.1.1.1.1.2, ⟨hk.1.1.1.1.1.1.1.1.1.2, ⟨hk.1.1.1.1.1.1.1.1.2, ⟨hk.1.1.1.1.1.1.1.2, ⟨hk.1.1.1.1.1.1.2, ⟨hk.1.1.1.1.1.2, ⟨hk.1.1.1.1.2, ⟨hk.1.1.1.2, hk.1.1.2⟩⟩⟩⟩⟩⟩⟩⟩⟩⟩))
 have n2_ := ws_ hw_ (Kd.S_mono (ok' := (fun k_ => k_ ≠ u ∧ Ga ≤ k_ ∧ k_ < Ca ∧ k_ < qa ∧ k_ < na ∧ k_ ≠ D ∧ k_ < la ∧ k_ ≠ I ∧ k_ < W ∧ k_ < J ∧ k_ < z ∧ k_ < t ∧ k_ < o)) (sf_ Ha (Kd.S_far (p := ⟨aa, 2, none⟩) (Kd.S_far (p := ⟨aa, 1, none⟩) (Kd.S_far (p := ⟨aa, 0, none⟩) (Kd.S_types (Kd.S_types N.1 A.1 (by decide)) E.1 (by decide)) (fun _ hk => hk.1.2) (.int .i64 Ja)) (fun _ hk => hk.1.2) (.int .i64 Ka)) (fun _ hk => hk.1.2) (.slice La Fa.length Ma)) (fun _ hk => hk.2)) (fun _ hk => ⟨hk.1.1.1.1.1.1.1.1.1.1.1.1.1.2, ⟨hk.1.1.1.1.1.1.1.1.1.1.1.1.1.1.2, ⟨hk.1.1.1.1.1.1.1.1.1.1.1.1.2, ⟨hk.1.1.1.1.1.1.1.1.1.1.1.2, ⟨hk.1.1.1.1.1.1.1.1.1.1.2, ⟨hk.1.1.1.1.1.1.1.1.1.2, ⟨hk.1.1.1.1.1.1.1.1.2, ⟨hk.1.1.1.1.1.1.1.2, ⟨hk.1.1.1.1.1.1.2, ⟨hk.1.1.1.1.1.2, ⟨hk.1.1.1.1.2, ⟨hk.1.1.1.2, hk.1.1.2⟩⟩⟩⟩⟩⟩⟩⟩⟩⟩⟩⟩))
 have ce := ws_ hw_ (Kd.S_mono (ok' := (fun k_ => k_ ≠ u ∧ Ca ≤ k_ ∧ k_ < qa ∧ k_ < na ∧ k_ ≠ D ∧ k_ < la ∧ k_ ≠ I ∧ k_ < W ∧ k_ < J ∧ k_ < z ∧ k_ < t ∧ k_ < o)) (sf_ Ha (Kd.S_far (p := ⟨aa, 2, none⟩) (Kd.S_far (p := ⟨aa, 1, none⟩) (Kd.S_far (p := ⟨aa, 0, none⟩) (Kd.S_types (Kd.S_types T.1 A.1 (by decide)) E.1 (by decide)) (fun _ hk => hk.1.2) (.int .i64 Ja)) (fun _ hk => hk.1.2) (.int .i64 Ka)) (fun _ hk => hk.1.2) (.slice La Fa.length Ma)) (fun _ hk => hk.2)) (fun _ hk => ⟨hk.1.1.1.1.1.1.1.1.1.1.1.1.2, ⟨hk.1.1.1.1.1.1.1.1.1.1.1.1.1.2, ⟨hk.1.1.1.1.1.1.1.1.1.1.1.2, ⟨hk.1.1.1.1.1.1.1.1.1.1.2, ⟨hk.1.1.1.1.1.1.1.1.1.2, ⟨hk.1.1.1.1.1.1.1.1.2, ⟨hk.1.1.1.1.1.1.1.2, ⟨hk.1.1.1.1.1.1.2, ⟨hk.1.1.1.1.1.2, ⟨hk.1.1.1.1.2, ⟨hk.1.1.1.2, hk.1.1.2⟩⟩⟩⟩⟩⟩⟩⟩⟩⟩⟩))
 have de := ws_ hw_ (Kd.S_mono (ok' := (fun k_ => some k_ ≠ (.slice Zd Ub.length wd : Value).ownBlock ∧ k_ ≠ u ∧ qa ≤ k_ ∧ k_ < na ∧ k_ ≠ D ∧ k_ < la ∧ k_ ≠ I ∧ k_ < W ∧ k_ < J ∧ k_ < z ∧ k_ < t ∧ k_ < o)) (sf_ Ha (Kd.S_far (p := ⟨aa, 2, none⟩) (Kd.S_far (p := ⟨aa, 1, none⟩) (Kd.S_far (p := ⟨aa, 0, none⟩) (Kd.S_types (Kd.S_types U.1 A.1 (by decide)) E.1 (by decide)) (fun _ hk => hk.1.2) (.int .i64 Ja)) (fun _ hk => hk.1.2) (.int .i64 Ka)) (fun _ hk => hk.1.2) (.slice La Fa.length Ma)) (fun _ hk => hk.2)) (fun _ hk => ⟨hk.1.1.1.1.1.1.1.1.1.1.1.1.1, ⟨hk.1.1.1.1.1.1.1.1.1.1.1.2, ⟨hk.1.1.1.1.1.1.1.1.1.1.1.1.2, ⟨hk.1.1.1.1.1.1.1.1.1.1.2, ⟨hk.1.1.1.1.1.1.1.1.1.2, ⟨hk.1.1.1.1.1.1.1.1.2, ⟨hk.1.1.1.1.1.1.1.2, ⟨hk.1.1.1.1.1.1.2, ⟨hk.1.1.1.1.1.2, ⟨hk.1.1.1.1.2, ⟨hk.1.1.1.2, hk.1.1.2⟩⟩⟩⟩⟩⟩⟩⟩⟩⟩⟩))
 have ee := wr_ hw_ (Kd.R_mono (ok' := (fun k_ => qa ≤ k_ ∧ k_ < na ∧ k_ < la ∧ k_ < W ∧ k_ < J ∧ k_ < z ∧ k_ < t ∧ k_ < o)) (rf_ Ha (Kd.R_far (p := ⟨aa, 2, none⟩) (Kd.R_far (p := ⟨aa, 1, none⟩) (Kd.R_far (p := ⟨aa, 0, none⟩) (Kd.R_types (Kd.R_types V.1 A.1 (by decide)) E.1 (by decide)) (fun _ hk => hk.1.2) (.int .i64 Ja)) (fun _ hk => hk.1.2) (.int .i64 Ka)) (fun _ hk => hk.1.2) (.slice La Fa.length Ma)) (fun _ hk => hk.2)) (fun _ hk => ⟨hk.1.1.1.1.1.1.1.1.1.2, ⟨hk.1.1.1.1.1.1.1.1.2, ⟨hk.1.1.1.1.1.1.1.2, ⟨hk.1.1.1.1.1.1.2, ⟨hk.1.1.1.1.1.2, ⟨hk.1.1.1.1.2, ⟨hk.1.1.1.2, hk.1.1.2⟩⟩⟩⟩⟩⟩⟩))
 have fe := wr_ hw_ (Kd.R_mono (ok' := (fun k_ => na ≤ k_ ∧ k_ < la ∧ k_ < W ∧ k_ < J ∧ k_ < z ∧ k_ < t ∧ k_ < o)) (rf_ Ha (Kd.R_far (p := ⟨aa, 2, none⟩) (Kd.R_far (p := ⟨aa, 1, none⟩) (Kd.R_far (p := ⟨aa, 0, none⟩) (Kd.R_types (Kd.R_types ca.1 A.1 (by decide)) E.1 (by decide)) (fun _ hk => hk.1.2) (.int .i64 Ja)) (fun _ hk => hk.1.2) (.int .i64 Ka)) (fun _ hk => hk.1.2) (.slice La Fa.length Ma)) (fun _ hk => hk.2)) (fun _ hk => ⟨hk.1.1.1.1.1.1.1.1.2, ⟨hk.1.1.1.1.1.1.1.2, ⟨hk.1.1.1.1.1.1.2, ⟨hk.1.1.1.1.1.2, ⟨hk.1.1.1.1.2, ⟨hk.1.1.1.2, hk.1.1.2⟩⟩⟩⟩⟩⟩))
 have ge := wr_ hw_ (Kd.R_mono (ok' := (fun k_ => la ≤ k_ ∧ k_ < W ∧ k_ < J ∧ k_ < z ∧ k_ < t ∧ k_ < o)) (rf_ Ha (Kd.R_far (p := ⟨aa, 2, none⟩) (Kd.R_far (p := ⟨aa, 1, none⟩) (Kd.R_far (p := ⟨aa, 0, none⟩) (Kd.R_types (Kd.R_types ka.1 A.1 (by decide)) E.1 (by decide)) (fun _ hk => hk.1.2) (.int .i64 Ja)) (fun _ hk => hk.1.2) (.int .i64 Ka)) (fun _ hk => hk.1.2) (.slice La Fa.length Ma)) (fun _ hk => hk.2)) (fun _ hk => ⟨hk.1.1.1.1.1.1.1.2, ⟨hk.1.1.1.1.1.1.2, ⟨hk.1.1.1.1.1.2, ⟨hk.1.1.1.1.2, ⟨hk.1.1.1.2, hk.1.1.2⟩⟩⟩⟩⟩))
 have he := ws_ hw_ (Kd.S_mono (ok' := (fun k_ => k_ ≠ u ∧ k_ ≠ D ∧ k_ ≠ I ∧ W ≤ k_ ∧ k_ < J ∧ k_ < z ∧ k_ < t ∧ k_ < o)) (sf_ Ha (Kd.S_far (p := ⟨aa, 2, none⟩) (Kd.S_far (p := ⟨aa, 1, none⟩) (Kd.S_far (p := ⟨aa, 0, none⟩) (Kd.S_types (Kd.S_types ma.1 A.1 (by decide)) E.1 (by decide)) (fun _ hk => hk.1.2) (.int .i64 Ja)) (fun _ hk => hk.1.2) (.int .i64 Ka)) (fun _ hk => hk.1.2) (.slice La Fa.length Ma)) (fun _ hk => hk.2)) (fun _ hk => ⟨hk.1.1.1.1.1.1.1.1.2, ⟨hk.1.1.1.1.1.1.1.2, ⟨hk.1.1.1.1.1.1.2, ⟨hk.1.1.1.1.1.1.1.1.1.2, ⟨hk.1.1.1.1.1.2, ⟨hk.1.1.1.1.2, ⟨hk.1.1.1.2, hk.1.1.2⟩⟩⟩⟩⟩⟩⟩))
 have ie := ws_ hw_ (Kd.S_mono (ok' := (fun k_ => some k_ ≠ (um : Value).ownBlock ∧ k_ ≠ u ∧ k_ ≠ D ∧ k_ ≠ I ∧ J ≤ k_ ∧ k_ < z ∧ k_ < t ∧ k_ < o)) (sf_ Ha (Kd.S_far (p := ⟨aa, 2, none⟩) (Kd.S_far (p := ⟨aa, 1, none⟩) (Kd.S_far (p := ⟨aa, 0, none⟩) (Kd.S_types (Kd.S_types oa.1 A.1 (by decide)) E.1 (by decide)) (fun _ hk => hk.1.2) (.int .i64 Ja)) (fun _ hk => hk.1.2) (.int .i64 Ka)) (fun _ hk => hk.1.2) (.slice La Fa.length Ma)) (fun _ hk => hk.2)) (fun _ hk => ⟨hk.1.1.1.1.1.1.1.1.1, ⟨hk.1.1.1.1.1.1.1.2, ⟨hk.1.1.1.1.1.1.2, ⟨hk.1.1.1.1.1.2, ⟨hk.1.1.1.1.1.1.1.1.2, ⟨hk.1.1.1.1.2, ⟨hk.1.1.1.2, hk.1.1.2⟩⟩⟩⟩⟩⟩⟩))
 have gd := ws_ hw_ (Kd.S_mono (ok' := (fun k_ => k_ ≠ u ∧ k_ ≠ D ∧ k_ ≠ I ∧ J ≤ k_ ∧ k_ < z ∧ k_ < t ∧ k_ < o)) (sf_ Ha (Kd.S_far (p := ⟨aa, 2, none⟩) (Kd.S_far (p := ⟨aa, 1, none⟩) (Kd.S_far (p := ⟨aa, 0, none⟩) (Kd.S_types (Kd.S_types pa.1 A.1 (by decide)) E.1 (by decide)) (fun _ hk => hk.1.2) (.int .i64 Ja)) (fun _ hk => hk.1.2) (.int .i64 Ka)) (fun _ hk => hk.1.2) (.slice La Fa.length Ma)) (fun _ hk => hk.2)) (fun _ hk => ⟨hk.1.1.1.1.1.1.1.2, ⟨hk.1.1.1.1.1.1.2, ⟨hk.1.1.1.1.1.2, ⟨hk.1.1.1.1.1.1.1.1.2, ⟨hk.1.1.1.1.2, ⟨hk.1.1.1.2, hk.1.1.2⟩⟩⟩⟩⟩⟩))
 have hd := ws_ hw_ (Kd.S_mono (ok' := (fun k_ => some k_ ≠ (wm : Value).ownBlock ∧ k_ ≠ u ∧ k_ ≠ D ∧ k_ ≠ I ∧ z ≤ k_ ∧ k_ < t ∧ k_ < o)) (sf_ Ha (Kd.S_far (p := ⟨aa, 2, none⟩) (Kd.S_far (p := ⟨aa, 1, none⟩) (Kd.S_far (p := ⟨aa, 0, none⟩) (Kd.S_types (Kd.S_types ra.1 A.1 (by decide)) E.1 (by decide)) (fun _ hk => hk.1.2) (.int .i64 Ja)) (fun _ hk => hk.1.2) (.int .i64 Ka)) (fun _ hk => hk.1.2) (.slice La Fa.length Ma)) (fun _ hk => hk.2)) (fun _ hk => ⟨hk.1.1.1.1.1.1.1.1, ⟨hk.1.1.1.1.1.1.2, ⟨hk.1.1.1.1.1.2, ⟨hk.1.1.1.1.2, ⟨hk.1.1.1.1.1.1.1.2, ⟨hk.1.1.1.2, hk.1.1.2⟩⟩⟩⟩⟩⟩))
 have jd := ws_ hw_ (Kd.S_mono (ok' := (fun k_ => k_ ≠ u ∧ k_ ≠ D ∧ k_ ≠ I ∧ z ≤ k_ ∧ k_ < t ∧ k_ < o)) (sf_ Ha (Kd.S_far (p := ⟨aa, 2, none⟩) (Kd.S_far (p := ⟨aa, 1, none⟩) (Kd.S_far (p := ⟨aa, 0, none⟩) (Kd.S_types (Kd.S_types ta.1 A.1 (by decide)) E.1 (by decide)) (fun _ hk => hk.1.2) (.int .i64 Ja)) (fun _ hk => hk.1.2) (.int .i64 Ka)) (fun _ hk => hk.1.2) (.slice La Fa.length Ma)) (fun _ hk => hk.2)) (fun _ hk => ⟨hk.1.1.1.1.1.1.2, ⟨hk.1.1.1.1.1.2, ⟨hk.1.1.1.1.2, ⟨hk.1.1.1.1.1.1.1.2, ⟨hk.1.1.1.2, hk.1.1.2⟩⟩⟩⟩⟩))
 have kd := ws_ hw_ (Kd.S_mono (ok' := (fun k_ => k_ ≠ u ∧ k_ ≠ D ∧ k_ ≠ I ∧ t ≤ k_ ∧ k_ < o)) (sf_ Ha (Kd.S_far (p := ⟨aa, 2, none⟩) (Kd.S_far (p := ⟨aa, 1, none⟩) (Kd.S_far (p := ⟨aa, 0, none⟩) (Kd.S_types (Kd.S_types ua.1 A.1 (by decide)) E.1 (by decide)) (fun _ hk => hk.1.2) (.int .i64 Ja)) (fun _ hk => hk.1.2) (.int .i64 Ka)) (fun _ hk => hk.1.2) (.slice La Fa.length Ma)) (fun _ hk => hk.2)) (fun _ hk => ⟨hk.1.1.1.1.1.2, ⟨hk.1.1.1.1.2, ⟨hk.1.1.1.2, ⟨hk.1.1.1.1.1.1.2, hk.1.1.2⟩⟩⟩⟩))
 have ld := ws_ hw_ (Kd.S_mono (ok' := (fun k_ => some k_ ≠ (.slice Yb pb.length Zb : Value).ownBlock ∧ k_ ≠ u ∧ k_ ≠ D ∧ k_ ≠ I ∧ o ≤ k_)) (sf_ Ha (Kd.S_far (p := ⟨aa, 2, none⟩) (Kd.S_far (p := ⟨aa, 1, none⟩) (Kd.S_far (p := ⟨aa, 0, none⟩) (Kd.S_types (Kd.S_types xa.1 A.1 (by decide)) E.1 (by decide)) (fun _ hk => hk.1.2) (.int .i64 Ja)) (fun _ hk => hk.1.2) (.int .i64 Ka)) (fun _ hk => hk.1.2) (.slice La Fa.length Ma)) (fun _ hk => hk.2)) (fun _ hk => ⟨hk.1.1.1.1.1.1, ⟨hk.1.1.1.1.2, ⟨hk.1.1.1.2, ⟨hk.1.1.2, hk.1.1.1.1.1.2⟩⟩⟩⟩))
 have md := ws_ hw_ (Kd.S_mono (ok' := (fun k_ => some k_ ≠ (.slice La Fa.length Ma : Value).ownBlock ∧ k_ ≠ u ∧ k_ ≠ D ∧ k_ ≠ I ∧ o ≤ k_)) (sf_ Ha (Kd.S_far (p := ⟨aa, 2, none⟩) (Kd.S_far (p := ⟨aa, 1, none⟩) (Kd.S_far (p := ⟨aa, 0, none⟩) (Kd.S_types (Kd.S_types ya.1 A.1 (by decide)) E.1 (by decide)) (fun _ hk => hk.1.2) (.int .i64 Ja)) (fun _ hk => hk.1.2) (.int .i64 Ka)) (fun _ hk => hk.1.2) (.slice La Fa.length Ma)) (fun _ hk => hk.2)) (fun _ hk => ⟨hk.1.1.1.1.1.1, ⟨hk.1.1.1.1.2, ⟨hk.1.1.1.2, ⟨hk.1.1.2, hk.1.1.1.1.1.2⟩⟩⟩⟩))
 replace j := wq_ hw_ j
 replace a := wq_ hw_ a
 replace i := wq_ hw_ i
 replace m := wq_ hw_ m
 replace s := wq_ hw_ s
 replace b := wq_ hw_ b
 replace d := wq_ hw_ d
 replace l := wq_ hw_ l
 replace g := wq_ hw_ g
 replace v := wq_ hw_ v
 replace x := wq_ hw_ x
 replace A := wp_ hw_ #[.int .i64 Ja, .int .i64 Ka, .slice La Fa.length Ma] A
 replace E := wp_ hw_ #[.int .i64 Wb, .int .i64 Xb, .slice Yb pb.length Zb] E
 replace HB := wb_ hw_ HB
 clear hw_
 (try clear F G N T U V ca ka ma oa pa ra ta ua xa ya)
 have F := ae
 have G := be
 have N := n2_
 have T := ce
 have U := de
 have V := ee
 have ca := fe
 have ka := ge
 have ma := he
 have oa := ie
 have pa := gd
 have ra := hd
 have ta := jd
 have ua := kd
 have xa := ld
 have ya := md
 clear ae be n2_ ce de ee fe ge he ie gd hd jd kd ld md
 obtain ⟨F, G, N, T, U, V, ca, ka, ma, oa⟩ := y10_ F G N T U V ca ka ma oa
 obtain ⟨pa, ra, ta, ua, xa, ya, j, a, i, m⟩ := y10_ pa ra ta ua xa ya j a i m
 obtain ⟨s, b, d, l, g, v, x, A, E, HB⟩ := y10_ s b d l g v x A E HB
 refine start_ (n := 52) (S := fun w' => c_ w' vb 0 (.int .i64 Db) ∧ c_ w' vb 1 (.int .i64 qb) ∧ c_ w' vb 2 (.slice xc eb.length qc) ∧ c_ w' Lc 0 (.int .i64 yc) ∧ c_ w' Lc 1 (.int .i64 zc) ∧ c_ w' Lc 2 (.slice td Lb.length ud) ∧ c_ w' D 0 (.slice Nc sb.length Oc) ∧ c_ w' D 1 (.int .i64 kc) ∧ c_ w' D 2 (.int .i64 lc) ∧ c_ w' D 3 (.string mc) ∧ c_ w' I 0 (.slice Pc tb.length Qc) ∧ c_ w' I 1 (.int .i64 nc) ∧ c_ w' I 2 (.int .i64 oc) ∧ c_ w' I 3 (.string pc) ∧ c_ w' Ib 0 (.int .i64 ub) ∧ c_ w' Ib 1 (.int .i64 Za) ∧ c_ w' Ib 2 (.slice Ob Ua.length Pb) ∧ c_ w' Rc 0 (.int .i64 Ac) ∧ c_ w' Rc 1 (.int .i64 Bc) ∧ c_ w' Rc 2 (.slice Cc Mb.length Dc) ∧ c_ w' Sc 0 (.int .i64 dc) ∧ c_ w' Sc 1 (.int .i64 ec) ∧ c_ w' Sc 2 (.slice rc zb.length sc) ∧ c_ w' aa 0 (.int .i64 Ja) ∧ c_ w' aa 1 (.int .i64 Ka) ∧ c_ w' aa 2 (.slice La Fa.length Ma) ∧ c_ w' Ha 0 (.int .i64 Wb) ∧ c_ w' Ha 1 (.int .i64 Xb) ∧ c_ w' Ha 2 (.slice Yb pb.length Zb)) (ds := []) (b_ 0 52) (by kernel_rfl) rfl rfl (f3_ i.1 (f3_ m.1 (f4_ b.1 (f4_ d.1 (f3_ g.1 (f3_ v.1 (f3_ x.1 (f3_ A.1 (e3_ E.1))))))))) (fun wa => ?_); refine with_tabW laws_FnParts.tab14 laws_FnParts.bits14 (fun Aa Rb => ?_)
 generalize hn.drew = Up at F G N T U V ca ka ma oa pa ra ta ua xa ya j a i m s b d l g v x A E HB wa ⊢
 iterate 2 refine t0_ Aa Rb wa ?_
 refine o1_ 2 (b_ 3 49) Aa (fun K hK => ?_)
 refine gs_ Tryz.func18 #[.agg #[.int .i64 Db, .int .i64 qb, .slice xc eb.length qc], .agg #[.int .i64 yc, .int .i64 zc, .slice td Lb.length ud]] ?_
 with_reducible refine (impl_SamePart.calls k Db qb _ _ eb yc zc _ _ Lb true _ ?_ ?_ ?_ ?_ Ho.1).mono ?_
 exact cp_ ((Kd.S_reads' N.1).2.2)
 exact (Kd.S_reads' N.1).2.1
 exact cp_ ((Kd.S_reads' T.1).2.2)
 exact (Kd.S_reads' T.1).2.1
 rintro e Vp ⟨rfl, hb⟩
 refine ⟨_, rfl, ?_⟩
 obtain ⟨F, G, N, T, U, V, ca, ka, ma, oa⟩ := u10_ hb F G N T U V ca ka ma oa
 obtain ⟨pa, ra, ta, ua, xa, ya, j, a, i, m⟩ := u10_ hb pa ra ta ua xa ya j a i m
 obtain ⟨s, b, d, l, g, v, x, A, E, HB⟩ := u10_ hb s b d l g v x A E HB
 (try clear hb)
 refine ho_ hK (f3_ i.1 (f3_ m.1 (f4_ b.1 (f4_ d.1 (f3_ g.1 (f3_ v.1 (f3_ x.1 (f3_ A.1 (e3_ E.1))))))))) (fun wa => ?_)
 as_aux_lemma =>
 iterate 12 refine p_ Aa ?_
 iterate 2 refine t0_ Aa Rb wa ?_
 refine o1_ 17 (b_ 18 34) Aa (fun K hK => ?_)
 refine gs_ Tryz.func19 #[.agg #[.slice Nc sb.length Oc, .int .i64 kc, .int .i64 lc, .string mc], .agg #[.slice Pc tb.length Qc, .int .i64 nc, .int .i64 oc, .string pc]] ?_
 with_reducible refine (impl_SameAlarm.calls k _ _ sb kc lc mc _ _ tb nc oc pc true _ ?_ ?_ ?_ ?_ To.1).mono ?_
 exact cp_ ((Kd.R_reads' ca.1).2.2)
 exact (Kd.R_reads' ca.1).2.1
 exact cp_ ((Kd.R_reads' ka.1).2.2)
 exact (Kd.R_reads' ka.1).2.1
 rintro e Wp ⟨rfl, hb⟩
 refine ⟨_, rfl, ?_⟩
 obtain ⟨F, G, N, T, U, V, ca, ka, ma, oa⟩ := u10_ hb F G N T U V ca ka ma oa
 obtain ⟨pa, ra, ta, ua, xa, ya, j, a, i, m⟩ := u10_ hb pa ra ta ua xa ya j a i m
 obtain ⟨s, b, d, l, g, v, x, A, E, HB⟩ := u10_ hb s b d l g v x A E HB
 (try clear hb)
 refine ho_ hK (f3_ i.1 (f3_ m.1 (f4_ b.1 (f4_ d.1 (f3_ g.1 (f3_ v.1 (f3_ x.1 (f3_ A.1 (e3_ E.1))))))))) (fun wa => ?_)
 as_aux_lemma =>
 iterate 3 refine p_ Aa ?_
 iterate 2 refine t0_ Aa Rb wa ?_
 refine o1_ 23 (b_ 24 28) Aa (fun K hK => ?_)
 refine gs_ Tryz.func18 #[.agg #[.int .i64 ub, .int .i64 Za, .slice Ob Ua.length Pb], .agg #[.int .i64 Ac, .int .i64 Bc, .slice Cc Mb.length Dc]] ?_
 with_reducible refine (impl_SamePart.calls k ub Za _ _ Ua Ac Bc _ _ Mb true _ ?_ ?_ ?_ ?_ Vo.1).mono ?_
 exact cp_ ((Kd.S_reads' oa.1).2.2)
 exact (Kd.S_reads' oa.1).2.1
 exact cp_ ((Kd.S_reads' ra.1).2.2)
 exact (Kd.S_reads' ra.1).2.1
 rintro e Xp ⟨rfl, hb⟩
 refine ⟨_, rfl, ?_⟩
 obtain ⟨F, G, N, T, U, V, ca, ka, ma, oa⟩ := u10_ hb F G N T U V ca ka ma oa
 obtain ⟨pa, ra, ta, ua, xa, ya, j, a, i, m⟩ := u10_ hb pa ra ta ua xa ya j a i m
 obtain ⟨s, b, d, l, g, v, x, A, E, HB⟩ := u10_ hb s b d l g v x A E HB
 (try clear hb)
 obtain ⟨Qd, Rd, Se⟩ := Kd.S_slice pa.1
 (first | subst Se | (obtain ⟨rfl, rfl⟩ := si_ Se))
 obtain ⟨Bm, Cm, Te⟩ := Kd.S_slice ta.1
 (first | subst Te | (obtain ⟨rfl, rfl⟩ := si_ Te))
 refine ho_ hK (f3_ i.1 (f3_ m.1 (f4_ b.1 (f4_ d.1 (f3_ g.1 (f3_ v.1 (f3_ x.1 (f3_ A.1 (e3_ E.1))))))))) (fun wa => ?_)
 as_aux_lemma =>
 iterate 5 refine p_ Aa ?_
 refine o1_ 29 (b_ 30 22) Aa (fun K hK => ?_)
 refine gs_ Tryz.func20 #[.slice Qd ab.length Rd, .slice Bm re.length Cm] ?_
 with_reducible refine (laws_sameList.calls k _ _ ab _ _ re true _ ?_ ?_ ?_ ?_ Xo.1).mono ?_
 exact cp_ ((Kd.S_reads' pa.1).2.2)
 exact (Kd.S_reads' pa.1).2.1
 exact cp_ ((Kd.S_reads' ta.1).2.2)
 exact (Kd.S_reads' ta.1).2.1
 rintro e Yp ⟨rfl, hb⟩
 refine ⟨_, rfl, ?_⟩
 obtain ⟨F, G, N, T, U, V, ca, ka, ma, oa⟩ := u10_ hb F G N T U V ca ka ma oa
 obtain ⟨pa, ra, ta, ua, xa, ya, j, a, i, m⟩ := u10_ hb pa ra ta ua xa ya j a i m
 obtain ⟨s, b, d, l, g, v, x, A, E, HB⟩ := u10_ hb s b d l g v x A E HB
 (try clear hb)
 refine ho_ hK (f3_ i.1 (f3_ m.1 (f4_ b.1 (f4_ d.1 (f3_ g.1 (f3_ v.1 (f3_ x.1 (f3_ A.1 (e3_ E.1))))))))) (fun wa => ?_)
 as_aux_lemma =>
 iterate 3 refine p_ Aa ?_
 refine qw_ 34 (m_ 52 25769803775) Aa ?_
 refine qw_ 35 (m_ 52 60129542143) Aa ?_
 refine qw_ 38 (m_ 52 335007449087) Aa ?_
 refine qw_ 39 (m_ 52 884763262975) Aa ?_
 refine qt_ 33 (m_ 52 893353197567) Aa Rb wa ?_
 refine qt_ 37 (m_ 52 1030792151039) Aa Rb wa ?_
 refine o1_ 36 (b_ 40 12) Aa (fun K hK => ?_)
 refine gs_ Tryz.func21 #[.agg #[.int .i64 dc, .int .i64 ec, .slice rc zb.length sc], .int .i64 rd, .int .i64 sd] ?_
 with_reducible refine (impl_PartOk.calls k dc ec _ _ zb rd sd ad _ ?_ ?_ Yo.1).mono ?_
 exact cp_ ((Kd.S_reads' ua.1).2.2)
 exact (Kd.S_reads' ua.1).2.1
 rintro e Zp ⟨rfl, hb⟩
 refine ⟨_, rfl, ?_⟩
 obtain ⟨F, G, N, T, U, V, ca, ka, ma, oa⟩ := u10_ hb F G N T U V ca ka ma oa
 obtain ⟨pa, ra, ta, ua, xa, ya, j, a, i, m⟩ := u10_ hb pa ra ta ua xa ya j a i m
 obtain ⟨s, b, d, l, g, v, x, A, E, HB⟩ := u10_ hb s b d l g v x A E HB
 (try clear hb)
 refine ho_ hK (f3_ i.1 (f3_ m.1 (f4_ b.1 (f4_ d.1 (f3_ g.1 (f3_ v.1 (f3_ x.1 (f3_ A.1 (e3_ E.1))))))))) (fun wa => ?_)
 as_aux_lemma =>
 refine o1_ 40 (b_ 41 11) Aa (fun K hK => ?_)
 refine gs_ Tryz.func22 #[.agg #[.int .i64 dc, .int .i64 ec, .slice rc zb.length sc], .int .i64 rd, .int .i64 sd] ?_
 with_reducible refine (spec_PartOk.calls k dc ec _ _ zb rd sd bd _ ?_ ?_ Zo.1).mono ?_
 exact cp_ ((Kd.S_reads' ua.1).2.2)
 exact (Kd.S_reads' ua.1).2.1
 rintro e aq ⟨rfl, hb⟩
 refine ⟨_, rfl, ?_⟩
 obtain ⟨F, G, N, T, U, V, ca, ka, ma, oa⟩ := u10_ hb F G N T U V ca ka ma oa
 obtain ⟨pa, ra, ta, ua, xa, ya, j, a, i, m⟩ := u10_ hb pa ra ta ua xa ya j a i m
 obtain ⟨s, b, d, l, g, v, x, A, E, HB⟩ := u10_ hb s b d l g v x A E HB
 (try clear hb)
 refine ho_ hK (f3_ i.1 (f3_ m.1 (f4_ b.1 (f4_ d.1 (f3_ g.1 (f3_ v.1 (f3_ x.1 (f3_ A.1 (e3_ E.1))))))))) (fun wa => ?_)
 as_aux_lemma =>
 iterate 3 refine p_ Aa ?_
 iterate 2 refine t0_ Aa Rb wa ?_
 refine qt_ 47 (m_ 52 211106232532991) Aa Rb wa ?_
 refine qt_ 48 (m_ 52 492581209243647) Aa Rb wa ?_
 refine o1_ 46 (b_ 49 3) Aa (fun K hK => ?_)
 refine gs_ Tryz.func18 #[.agg #[.int .i64 Ja, .int .i64 Ka, .slice La Fa.length Ma], .agg #[.int .i64 Wb, .int .i64 Xb, .slice Yb pb.length Zb]] ?_
 with_reducible refine (impl_SamePart.calls k Ja Ka _ _ Fa Wb Xb _ _ pb cd _ ?_ ?_ ?_ ?_ fp.1).mono ?_
 exact cp_ ((Kd.S_reads' xa.1).2.2)
 exact (Kd.S_reads' xa.1).2.1
 exact cp_ ((Kd.S_reads' ya.1).2.2)
 exact (Kd.S_reads' ya.1).2.1
 rintro e bq ⟨rfl, hb⟩
 refine ⟨_, rfl, ?_⟩
 obtain ⟨F, G, N, T, U, V, ca, ka, ma, oa⟩ := u10_ hb F G N T U V ca ka ma oa
 obtain ⟨pa, ra, ta, ua, xa, ya, j, a, i, m⟩ := u10_ hb pa ra ta ua xa ya j a i m
 obtain ⟨s, b, d, l, g, v, x, A, E, HB⟩ := u10_ hb s b d l g v x A E HB
 (try clear hb)
 refine ho_ hK (f3_ i.1 (f3_ m.1 (f4_ b.1 (f4_ d.1 (f3_ g.1 (f3_ v.1 (f3_ x.1 (f3_ A.1 (e3_ E.1))))))))) (fun wa => ?_)
 as_aux_lemma =>
 refine o1_ 49 (b_ 50 2) Aa (fun K hK => ?_)
 refine gs_ Tryz.func23 #[.agg #[.int .i64 Ja, .int .i64 Ka, .slice La Fa.length Ma], .agg #[.int .i64 Wb, .int .i64 Xb, .slice Yb pb.length Zb]] ?_
 with_reducible refine (spec_SamePart.calls k Ja Ka _ _ Fa Wb Xb _ _ pb dd _ ?_ ?_ ?_ ?_ gp.1).mono ?_
 exact cp_ ((Kd.S_reads' xa.1).2.2)
 exact (Kd.S_reads' xa.1).2.1
 exact cp_ ((Kd.S_reads' ya.1).2.2)
 exact (Kd.S_reads' ya.1).2.1
 rintro e cq ⟨rfl, hb⟩
 refine ⟨_, rfl, ?_⟩
 obtain ⟨F, G, N, T, U, V, ca, ka, ma, oa⟩ := u10_ hb F G N T U V ca ka ma oa
 obtain ⟨pa, ra, ta, ua, xa, ya, j, a, i, m⟩ := u10_ hb pa ra ta ua xa ya j a i m
 obtain ⟨s, b, d, l, g, v, x, A, E, HB⟩ := u10_ hb s b d l g v x A E HB
 (try clear hb)
 refine ho_ hK (f3_ i.1 (f3_ m.1 (f4_ b.1 (f4_ d.1 (f3_ g.1 (f3_ v.1 (f3_ x.1 (f3_ A.1 (e3_ E.1))))))))) (fun wa => ?_)
 as_aux_lemma =>
 iterate 2 refine p_ Aa ?_
 refine done_ (done_of Aa.1 (by kernel_rfl)) ?_
 go_upto_if 147 with (fail)
 go_cut [] (fun wc => ∃ (kq : Nat), Aside0 (laws_FnParts.j0 kq Kb Vb ab db Va Pa Ea kb lb mb Db qb eb Wa Qa Ia ub Za Ua = some r) ∧ Aside0 (kq ≤ k) ∧ Aside0 (Kd.S k29 29 wc w.heap.size (fun k_ => k_ ≠ u ∧ k_ ≠ D ∧ k_ ≠ I ∧ J ≤ k_ ∧ k_ < z ∧ k_ < t ∧ k_ < o) (.slice Qd ab.length Rd) ab) ∧ Aside0 (Kd.S k80 80 wc w.heap.size (fun k_ => k_ ≠ u ∧ k_ ≠ D ∧ k_ ≠ I ∧ Oa ≤ k_ ∧ k_ < Ga ∧ k_ < Ca ∧ k_ < qa ∧ k_ < na ∧ k_ < la ∧ k_ < W ∧ k_ < J ∧ k_ < z ∧ k_ < t ∧ k_ < o) (.slice Sb Pa.length Gb) Pa) ∧ Aside0 (Kd.R k99 99 wc w.heap.size (fun k_ => Oa ≤ k_ ∧ k_ < Ga ∧ k_ < Ca ∧ k_ < qa ∧ k_ < na ∧ k_ < la ∧ k_ < W ∧ k_ < J ∧ k_ < z ∧ k_ < t ∧ k_ < o) (.slice yb Ea.length ob) Ea) ∧ Aside0 (Kd.S k80 80 wc w.heap.size (fun k_ => k_ ≠ u ∧ k_ ≠ D ∧ k_ ≠ I ∧ Ga ≤ k_ ∧ k_ < Ca ∧ k_ < qa ∧ k_ < na ∧ k_ < la ∧ k_ < W ∧ k_ < J ∧ k_ < z ∧ k_ < t ∧ k_ < o) (.slice xc eb.length qc) eb) ∧ Aside0 (Kd.S k80 80 wc w.heap.size (fun k_ => k_ ≠ u ∧ k_ ≠ D ∧ k_ ≠ I ∧ Ca ≤ k_ ∧ k_ < qa ∧ k_ < na ∧ k_ < la ∧ k_ < W ∧ k_ < J ∧ k_ < z ∧ k_ < t ∧ k_ < o) (.slice td Lb.length ud) Lb) ∧ Aside0 (Kd.S k80 80 wc w.heap.size (fun k_ => k_ ≠ u ∧ k_ ≠ D ∧ k_ ≠ I ∧ qa ≤ k_ ∧ k_ < na ∧ k_ < la ∧ k_ < W ∧ k_ < J ∧ k_ < z ∧ k_ < t ∧ k_ < o) (.slice vd rb.length Mc) rb) ∧ Aside0 (Kd.R k99 99 wc w.heap.size (fun k_ => na ≤ k_ ∧ k_ < la ∧ k_ < W ∧ k_ < J ∧ k_ < z ∧ k_ < t ∧ k_ < o) (.slice Nc sb.length Oc) sb) ∧ Aside0 (Kd.R k99 99 wc w.heap.size (fun k_ => la ≤ k_ ∧ k_ < W ∧ k_ < J ∧ k_ < z ∧ k_ < t ∧ k_ < o) (.slice Pc tb.length Qc) tb) ∧ Aside0 (Kd.S k80 80 wc w.heap.size (fun k_ => k_ ≠ u ∧ k_ ≠ D ∧ k_ ≠ I ∧ W ≤ k_ ∧ k_ < J ∧ k_ < z ∧ k_ < t ∧ k_ < o) (.slice ac Ia.length Nb) Ia) ∧ Aside0 (Kd.S k80 80 wc w.heap.size (fun k_ => k_ ≠ u ∧ k_ ≠ D ∧ k_ ≠ I ∧ J ≤ k_ ∧ k_ < z ∧ k_ < t ∧ k_ < o) (.slice Ob Ua.length Pb) Ua) ∧ Aside0 (Kd.S k80 80 wc w.heap.size (fun k_ => k_ ≠ u ∧ k_ ≠ D ∧ k_ ≠ I ∧ z ≤ k_ ∧ k_ < t ∧ k_ < o) (.slice Cc Mb.length Dc) Mb) ∧ Aside0 (Kd.S k80 80 wc w.heap.size (fun k_ => k_ ≠ u ∧ k_ ≠ D ∧ k_ ≠ I ∧ t ≤ k_ ∧ k_ < o) (.slice rc zb.length sc) zb) ∧ Aside0 (Kd.S k80 80 wc w.heap.size (fun k_ => k_ ≠ u ∧ k_ ≠ D ∧ k_ ≠ I ∧ o ≤ k_) (.slice La Fa.length Ma) Fa) ∧ Aside0 (Kd.S k80 80 wc w.heap.size (fun k_ => k_ ≠ u ∧ k_ ≠ D ∧ k_ ≠ I ∧ o ≤ k_) (.slice Yb pb.length Zb) pb) ∧ Aside0 (wc.heap[Na]? = some (.cells #[.int .i64 db, .int .i64 Va, (.slice Sb Pa.length Gb)] 26 (0, 0))) ∧ Aside0 (wc.heap[u]? = some (.cells #[(.slice yb Ea.length ob), .int .i64 kb, .int .i64 lb, .string mb] 29 (0, 0))) ∧ Aside0 (wc.heap[vb]? = some (.cells #[.int .i64 Db, .int .i64 qb, (.slice xc eb.length qc)] 26 (0, 0))) ∧ Aside0 (wc.heap[Lc]? = some (.cells #[.int .i64 yc, .int .i64 zc, (.slice td Lb.length ud)] 26 (0, 0))) ∧ Aside0 (wc.heap[Fe]? = some (.cells #[.int .i64 ic, .int .i64 jc, (.slice vd rb.length Mc)] 26 (0, 0))) ∧ Aside0 (wc.heap[D]? = some (.cells #[(.slice Nc sb.length Oc), .int .i64 kc, .int .i64 lc, .string mc] 29 (0, 0))) ∧ Aside0 (wc.heap[I]? = some (.cells #[(.slice Pc tb.length Qc), .int .i64 nc, .int .i64 oc, .string pc] 29 (0, 0))) ∧ Aside0 (wc.heap[uc]? = some (.cells #[.int .i64 Wa, .int .i64 Qa, (.slice ac Ia.length Nb)] 26 (0, 0))) ∧ Aside0 (wc.heap[Ib]? = some (.cells #[.int .i64 ub, .int .i64 Za, (.slice Ob Ua.length Pb)] 26 (0, 0))) ∧ Aside0 (wc.heap[Rc]? = some (.cells #[.int .i64 Ac, .int .i64 Bc, (.slice Cc Mb.length Dc)] 26 (0, 0))) ∧ Aside0 (wc.heap[Sc]? = some (.cells #[.int .i64 dc, .int .i64 ec, (.slice rc zb.length sc)] 26 (0, 0))) ∧ Aside0 (wc.heap[aa]? = some (.cells #[.int .i64 Ja, .int .i64 Ka, (.slice La Fa.length Ma)] 26 (0, 0))) ∧ Aside0 (wc.heap[Ha]? = some (.cells #[.int .i64 Wb, .int .i64 Xb, (.slice Yb pb.length Zb)] 26 (0, 0))) ∧ Aside0 (Below w.heap.size w wc))
 case first =>
  as_aux_lemma =>
  have H := Re.1
  clear Re
  replace H := ie_ H; rcases H with ⟨od, H⟩ | ⟨od, H⟩
  ·
   exact absurd H (by simp)
  have Sd : (cd != dd) = false := by simpa using od
  (try (have fo : (cd ^^ dd) = false := by simpa using od))
  (try (have Mi : (!(cd == dd)) = false := by simpa using od))
  (try (have Ni : decide (cd = dd) = true := by simpa using od))
  (try (have Oi : (cd == dd) = true := by simpa using od))
  clear od
  (first | rw [Sd] | rw [Mi] | (simp only [i64_w, i32_w]; rw [Sd]) | skip)
  have H' := M_ H
  clear H
  go_wp2
  go_meet
  case rel => exact ⟨_, H', ⟨by first | omega | exact Nat.le_refl _⟩, ⟨sp_ pa.1⟩, ⟨Kd.S_mono (sp_ F.1) (fun _ hk => ⟨hk.2.2.1, ⟨hk.2.2.2.2.2.2.2.1, ⟨hk.2.2.2.2.2.2.2.2.2.1, ⟨hk.2.1, ⟨hk.2.2.2.1, ⟨hk.2.2.2.2.1, ⟨hk.2.2.2.2.2.1, ⟨hk.2.2.2.2.2.2.1, ⟨hk.2.2.2.2.2.2.2.2.1, ⟨hk.2.2.2.2.2.2.2.2.2.2.1, ⟨hk.2.2.2.2.2.2.2.2.2.2.2.1, ⟨hk.2.2.2.2.2.2.2.2.2.2.2.2.1, ⟨hk.2.2.2.2.2.2.2.2.2.2.2.2.2.1, hk.2.2.2.2.2.2.2.2.2.2.2.2.2.2⟩⟩⟩⟩⟩⟩⟩⟩⟩⟩⟩⟩⟩)⟩, ⟨rp_ G.1⟩, ⟨Kd.S_mono (sp_ N.1) (fun _ hk => ⟨hk.1, ⟨hk.2.2.2.2.2.1, ⟨hk.2.2.2.2.2.2.2.1, ⟨hk.2.1, ⟨hk.2.2.1, ⟨hk.2.2.2.1, ⟨hk.2.2.2.2.1, ⟨hk.2.2.2.2.2.2.1, ⟨hk.2.2.2.2.2.2.2.2.1, ⟨hk.2.2.2.2.2.2.2.2.2.1, ⟨hk.2.2.2.2.2.2.2.2.2.2.1, ⟨hk.2.2.2.2.2.2.2.2.2.2.2.1, hk.2.2.2.2.2.2.2.2.2.2.2.2⟩⟩⟩⟩⟩⟩⟩⟩⟩⟩⟩⟩)⟩, ⟨Kd.S_mono (sp_ T.1) (fun _ hk => ⟨hk.1, ⟨hk.2.2.2.2.1, ⟨hk.2.2.2.2.2.2.1, ⟨hk.2.1, ⟨hk.2.2.1, ⟨hk.2.2.2.1, ⟨hk.2.2.2.2.2.1, ⟨hk.2.2.2.2.2.2.2.1, ⟨hk.2.2.2.2.2.2.2.2.1, ⟨hk.2.2.2.2.2.2.2.2.2.1, ⟨hk.2.2.2.2.2.2.2.2.2.2.1, hk.2.2.2.2.2.2.2.2.2.2.2⟩⟩⟩⟩⟩⟩⟩⟩⟩⟩⟩)⟩, ⟨Kd.S_mono (sp_ U.1) (fun _ hk => ⟨hk.2.1, ⟨hk.2.2.2.2.1, ⟨hk.2.2.2.2.2.2.1, ⟨hk.2.2.1, ⟨hk.2.2.2.1, ⟨hk.2.2.2.2.2.1, ⟨hk.2.2.2.2.2.2.2.1, ⟨hk.2.2.2.2.2.2.2.2.1, ⟨hk.2.2.2.2.2.2.2.2.2.1, ⟨hk.2.2.2.2.2.2.2.2.2.2.1, hk.2.2.2.2.2.2.2.2.2.2.2⟩⟩⟩⟩⟩⟩⟩⟩⟩⟩)⟩, ⟨rp_ ca.1⟩, ⟨rp_ ka.1⟩, ⟨sp_ ma.1⟩, ⟨Kd.S_mono (sp_ oa.1) (fun _ hk => ⟨hk.2.1, ⟨hk.2.2.1, ⟨hk.2.2.2.1, ⟨hk.2.2.2.2.1, ⟨hk.2.2.2.2.2.1, ⟨hk.2.2.2.2.2.2.1, hk.2.2.2.2.2.2.2⟩⟩⟩⟩⟩⟩)⟩, ⟨Kd.S_mono (sp_ ra.1) (fun _ hk => ⟨hk.2.1, ⟨hk.2.2.1, ⟨hk.2.2.2.1, ⟨hk.2.2.2.2.1, ⟨hk.2.2.2.2.2.1, hk.2.2.2.2.2.2⟩⟩⟩⟩⟩)⟩, ⟨sp_ ua.1⟩, ⟨Kd.S_mono (sp_ xa.1) (fun _ hk => ⟨hk.2.1, ⟨hk.2.2.1, ⟨hk.2.2.2.1, hk.2.2.2.2⟩⟩⟩)⟩, ⟨Kd.S_mono (sp_ ya.1) (fun _ hk => ⟨hk.2.1, ⟨hk.2.2.1, ⟨hk.2.2.2.1, hk.2.2.2.2⟩⟩⟩)⟩, ⟨bq_ j.1⟩, ⟨bq_ a.1⟩, ⟨bq_ i.1⟩, ⟨bq_ m.1⟩, ⟨bq_ s.1⟩, ⟨bq_ b.1⟩, ⟨bq_ d.1⟩, ⟨bq_ l.1⟩, ⟨bq_ g.1⟩, ⟨bq_ v.1⟩, ⟨bq_ x.1⟩, ⟨bq_ A.1⟩, ⟨bq_ E.1⟩, ⟨hs_ HB.1⟩⟩
 case rest =>
  as_aux_lemma =>
  clear Re
  try clear c1
  try clear c2
  try clear p2
  try clear se
  try clear te
  try clear jr
  try clear kr
  try clear lr
  try clear od
  try clear Sd
  try clear Ni
  try clear Oi
  obtain ⟨kq, HA, HJ29, sa, Y, y, Z, ea, fa, O, P, q, L, ga, ha, ia, ja, j, a, i, m, s, b, d, l, g, v, x, A, E, HB⟩ := hcut
  cases kq with
  | zero => exact absurd HA.1 (by simp [laws_FnParts.j0])
  | succ je =>
   as_aux_lemma =>
   have H := HA.1
   clear HA
   simp only [laws_FnParts.j0] at H
   replace H := bi_ H; obtain ⟨⟨Qb, Ec, Fc, Gc, xd⟩, jn, H⟩ := H; (try dsimp only at H)
   replace H := bi_ H; obtain ⟨⟨fb, Ab, Bb, Cb, Dm⟩, kn, H⟩ := H; (try dsimp only at H)
   have ve := M_ H
   clear H
   have Pi := n2_ Kc
   have Qi := n2_ Gd
   have Ri := n2_ Ld
   obtain ⟨Si, Ti, Ui, Vi, Wi, Xi⟩ := bc3_ j.1
   have Yi := n2_ Id
   have Zi := n2_ Nd
   obtain ⟨aj, bj, cj, dj, ej, fj, gj, hj⟩ := bc4_ a.1
   go_upto_region 18 with (first | ((with_reducible refine gate_callee (f := 11) rfl ?_); refine gl_ (some 152) Tryz.func11 #[.agg #[.int .i64 db, .int .i64 Va, .slice Sb Pa.length Gb], .slice yb Ea.length ob] ?_; (with_reducible refine (impl_FindIn.calls je db Va _ _ Pa _ _ Ea Qb Ec Fc Gc xd _ ?_ ?_ ?_ ?_ jn.1).mono ?_); exact cp_ ((Kd.S_reads' Y.1).2.2); exact (Kd.S_reads' Y.1).2.1; exact cp_ ((Kd.R_reads' y.1).2.2); exact (Kd.R_reads' y.1).2.1; rintro e fq ⟨wp, rfl, Ba, hb⟩; refine ⟨_, rfl, ?_⟩; obtain ⟨Q, Xa⟩ := Kd.R_name Ba; replace sa := su_ Xa (sp_ sa.1) hb; replace Y := su_ Xa (sp_ Y.1) hb; replace y := ru_ Xa (rp_ y.1) hb; replace Z := su_ Xa (sp_ Z.1) hb; replace ea := su_ Xa (sp_ ea.1) hb; replace fa := su_ Xa (sp_ fa.1) hb; replace O := ru_ Xa (rp_ O.1) hb; replace P := ru_ Xa (rp_ P.1) hb; replace q := su_ Xa (sp_ q.1) hb; replace L := su_ Xa (sp_ L.1) hb; replace ga := su_ Xa (sp_ ga.1) hb; replace ha := su_ Xa (sp_ ha.1) hb; replace ia := su_ Xa (sp_ ia.1) hb; replace ja := su_ Xa (sp_ ja.1) hb; have za := rg_ Xa Ba HB; obtain ⟨j, a, i, m, s, b, d, l, g, v⟩ := u10_ hb j a i m s b d l g v; obtain ⟨x, A, E, HB⟩ := u4_ hb x A E HB; (try clear hb Ba); (try clear yi zi Ai Bi Ci Di); (try clear Gi Hi Ii Ji Ki Li); (try clear Si Ti Ui Vi Wi Xi); (try clear aj bj cj dj ej fj gj hj); (try clear vi wi xi Ei Fi Pi Qi Ri Yi Zi)) | ((with_reducible refine gd_ 26 rfl ?_); refine bV_ 26 #[.slice none 0 0, .int .i64 0, .int .i64 0, .string (⟨#[]⟩ : ByteArray)] 29 ?_; intro ba hg gq da hb; replace sa := se_ sa hg hb; replace Y := se_ Y hg hb; replace y := rb_ y hb; replace Z := se_ Z hg hb; replace ea := se_ ea hg hb; replace fa := se_ fa hg hb; obtain ⟨O, P⟩ := u2_ hb O P; replace q := se_ q hg hb; replace L := se_ L hg hb; replace ga := se_ ga hg hb; replace ha := se_ ha hg hb; replace ia := se_ ia hg hb; replace ja := se_ ja hg hb; replace za := rb_ za hb; have ho := gq_ hg HB; have io := gq_ hg HB; replace HB := st_ HB hb; obtain ⟨ij, jj, j⟩ := nb_ j hg hb; obtain ⟨kj, Td, a⟩ := nb_ a hg hb; obtain ⟨lj, Ud, i⟩ := nb_ i hg hb; obtain ⟨mj, nj, m⟩ := nb_ m hg hb; obtain ⟨oj, pj, s⟩ := nb_ s hg hb; obtain ⟨qj, rj, b⟩ := nb_ b hg hb; obtain ⟨sj, tj, d⟩ := nb_ d hg hb; obtain ⟨uj, vj, l⟩ := nb_ l hg hb; obtain ⟨wj, xj, g⟩ := nb_ g hg hb; obtain ⟨yj, zj, v⟩ := nb_ v hg hb; obtain ⟨Aj, Bj, x⟩ := nb_ x hg hb; obtain ⟨Cj, Dj, A⟩ := nb_ A hg hb; obtain ⟨Ej, Fj, E⟩ := nb_ E hg hb; clear hb hg; obtain ⟨Hc, Ic, Em⟩ := Kd.R_slice za.1; subst Em; have Gj := n2_ Td; have Hj := n2_ Ud; obtain ⟨Ij, Jj, Kj, Lj, Mj, Nj, Oj, Pj⟩ := bc4_ da.1; obtain ⟨Qj, Rj, Sj, Tj, Uj, Vj⟩ := bc3_ i.1; obtain ⟨Wj, Xj, Yj, Zj, ak, bk, ck, dk⟩ := bc4_ a.1) | ((with_reducible refine gate_callee (f := 11) rfl ?_); refine gl_ (some 159) Tryz.func11 #[.agg #[.int .i64 Db, .int .i64 qb, .slice xc eb.length qc], .slice yb Ea.length ob] ?_; (with_reducible refine (impl_FindIn.calls je Db qb _ _ eb _ _ Ea fb Ab Bb Cb Dm _ ?side1 ?side2 ?side3 ?side4 kn.1).mono ?_); (case side1 => refine (Kd.S_reads' (e := 80) (base := w.heap.size) (ok := fun k_ => (((k_ ≠ u ∧ (k_ ≠ D ∧ (k_ ≠ I ∧ (Ga ≤ k_ ∧ (k_ < Ca ∧ (k_ < qa ∧ (k_ < na ∧ (k_ < la ∧ (k_ < W ∧ (k_ < J ∧ (k_ < z ∧ (k_ < t ∧ k_ < o)))))))))))) ∧ k_ < Q) ∧ k_ ≠ ba)) (n := eb.length) (c := qc) ?_).2.2; exact (sf_ ba Z.1 (fun _ hk => hk.2))); (case side2 => exact (Kd.S_reads' Z.1).2.1); (case side3 => refine (Kd.R_reads' (e := 99) (base := w.heap.size) (ok := fun k_ => ((Oa ≤ k_ ∧ (k_ < Ga ∧ (k_ < Ca ∧ (k_ < qa ∧ (k_ < na ∧ (k_ < la ∧ (k_ < W ∧ (k_ < J ∧ (k_ < z ∧ (k_ < t ∧ k_ < o)))))))))) ∧ k_ < Q)) (n := Ea.length) (c := ob) ?_).2.2; exact (ry_ y.1 da.1)); (case side4 => exact (Kd.R_reads' y.1).2.1); rintro e hq ⟨xp, rfl, Ba, hb⟩; refine ⟨_, rfl, ?_⟩; obtain ⟨M, Ta⟩ := Kd.R_name Ba; replace sa := su_ Ta (sf_ ba sa.1 (fun _ hk => hk.2)) hb; replace Y := su_ Ta (sf_ ba Y.1 (fun _ hk => hk.2)) hb; replace y := ru_ Ta (ry_ y.1 da.1) hb; replace Z := su_ Ta (sf_ ba Z.1 (fun _ hk => hk.2)) hb; replace ea := su_ Ta (sf_ ba ea.1 (fun _ hk => hk.2)) hb; replace fa := su_ Ta (sf_ ba fa.1 (fun _ hk => hk.2)) hb; replace O := ru_ Ta (ry_ O.1 da.1) hb; replace P := ru_ Ta (ry_ P.1 da.1) hb; replace q := su_ Ta (sf_ ba q.1 (fun _ hk => hk.2)) hb; replace L := su_ Ta (sf_ ba L.1 (fun _ hk => hk.2)) hb; replace ga := su_ Ta (sf_ ba ga.1 (fun _ hk => hk.2)) hb; replace ha := su_ Ta (sf_ ba ha.1 (fun _ hk => hk.2)) hb; replace ia := su_ Ta (sf_ ba ia.1 (fun _ hk => hk.2)) hb; replace ja := su_ Ta (sf_ ba ja.1 (fun _ hk => hk.2)) hb; replace za := ru_ Ta (ry_ za.1 da.1) hb; have Da := rg_ Ta Ba HB; obtain ⟨j, a, i, m, s, b, d, l, g, v⟩ := u10_ hb j a i m s b d l g v; obtain ⟨x, A, E⟩ := u3_ hb x A E; replace da := by_ da #[.slice Hc Qb.length Ic, .int .i64 Ec, .int .i64 Fc, .string Gc] hb; replace HB := st_ HB hb; (try clear hb Ba); (try clear Ij Jj Kj Lj Mj Nj Oj Pj); (try clear Qj Rj Sj Tj Uj Vj); (try clear Wj Xj Yj Zj ak bk ck dk); (try clear Gj Hj)) | ((with_reducible refine gd_ 28 rfl ?_); refine bV_ 28 #[.slice none 0 0, .int .i64 0, .int .i64 0, .string (⟨#[]⟩ : ByteArray)] 29 ?_; intro B hg Tk X hb; replace sa := se_ sa hg hb; replace Y := se_ Y hg hb; replace y := rb_ y hb; replace Z := se_ Z hg hb; replace ea := se_ ea hg hb; replace fa := se_ fa hg hb; obtain ⟨O, P⟩ := u2_ hb O P; replace q := se_ q hg hb; replace L := se_ L hg hb; replace ga := se_ ga hg hb; replace ha := se_ ha hg hb; replace ia := se_ ia hg hb; replace ja := se_ ja hg hb; obtain ⟨za, Da⟩ := u2_ hb za Da; have jo := gq_ hg HB; have ko := gq_ hg HB; replace HB := st_ HB hb; obtain ⟨ek, fk, j⟩ := nb_ j hg hb; obtain ⟨ik, jk, a⟩ := nb_ a hg hb; obtain ⟨kk, lk, i⟩ := nb_ i hg hb; obtain ⟨mk, nk, m⟩ := nb_ m hg hb; obtain ⟨pk, qk, s⟩ := nb_ s hg hb; obtain ⟨rk, sk, b⟩ := nb_ b hg hb; obtain ⟨tk, uk, d⟩ := nb_ d hg hb; obtain ⟨vk, wk, l⟩ := nb_ l hg hb; obtain ⟨Vd, Wd, g⟩ := nb_ g hg hb; obtain ⟨xk, yk, v⟩ := nb_ v hg hb; obtain ⟨zk, Ak, x⟩ := nb_ x hg hb; obtain ⟨Bk, Ck, A⟩ := nb_ A hg hb; obtain ⟨Dk, Ek, E⟩ := nb_ E hg hb; obtain ⟨Fk, Gk, da⟩ := nb_ da hg hb; clear hb hg; obtain ⟨Eb, Fb, Fm⟩ := Kd.R_slice Da.1; subst Fm; have Hk := n2_ Wd; obtain ⟨Ik, Jk, Kk, Lk, Mk, Nk, Ok, Pk⟩ := bc4_ X.1))
   (try simp only [Act.put, List.setIfInBounds_toArray, List.set_cons_zero, List.set_cons_succ])
   go_cut [197] (fun ln wc => ∃ (kq : Nat) (ed : Bool), ln = .bool ed ∧ Aside0 (laws_FnParts.j1 kq Vb ab ed Wa Qa Ia ub Za Ua = some r) ∧ Aside0 (kq ≤ je) ∧ Aside0 (Kd.S k29 29 wc w.heap.size (fun k_ => k_ ≠ u ∧ k_ ≠ D ∧ k_ ≠ I ∧ k_ ≠ ba ∧ k_ ≠ B ∧ J ≤ k_ ∧ k_ < z ∧ k_ < t ∧ k_ < o ∧ k_ < Q ∧ k_ < M) (.slice Qd ab.length Rd) ab) ∧ Aside0 (Kd.S k80 80 wc w.heap.size (fun k_ => k_ ≠ u ∧ k_ ≠ D ∧ k_ ≠ I ∧ k_ ≠ ba ∧ k_ ≠ B ∧ Oa ≤ k_ ∧ k_ < Ga ∧ k_ < Ca ∧ k_ < qa ∧ k_ < na ∧ k_ < la ∧ k_ < W ∧ k_ < J ∧ k_ < z ∧ k_ < t ∧ k_ < o ∧ k_ < Q ∧ k_ < M) (.slice Sb Pa.length Gb) Pa) ∧ Aside0 (Kd.R k99 99 wc w.heap.size (fun k_ => Oa ≤ k_ ∧ k_ < Ga ∧ k_ < Ca ∧ k_ < qa ∧ k_ < na ∧ k_ < la ∧ k_ < W ∧ k_ < J ∧ k_ < z ∧ k_ < t ∧ k_ < o ∧ k_ < Q ∧ k_ < M) (.slice yb Ea.length ob) Ea) ∧ Aside0 (Kd.S k80 80 wc w.heap.size (fun k_ => k_ ≠ u ∧ k_ ≠ D ∧ k_ ≠ I ∧ k_ ≠ ba ∧ k_ ≠ B ∧ Ga ≤ k_ ∧ k_ < Ca ∧ k_ < qa ∧ k_ < na ∧ k_ < la ∧ k_ < W ∧ k_ < J ∧ k_ < z ∧ k_ < t ∧ k_ < o ∧ k_ < Q ∧ k_ < M) (.slice xc eb.length qc) eb) ∧ Aside0 (Kd.S k80 80 wc w.heap.size (fun k_ => k_ ≠ u ∧ k_ ≠ D ∧ k_ ≠ I ∧ k_ ≠ ba ∧ k_ ≠ B ∧ Ca ≤ k_ ∧ k_ < qa ∧ k_ < na ∧ k_ < la ∧ k_ < W ∧ k_ < J ∧ k_ < z ∧ k_ < t ∧ k_ < o ∧ k_ < Q ∧ k_ < M) (.slice td Lb.length ud) Lb) ∧ Aside0 (Kd.S k80 80 wc w.heap.size (fun k_ => k_ ≠ u ∧ k_ ≠ D ∧ k_ ≠ I ∧ k_ ≠ ba ∧ k_ ≠ B ∧ qa ≤ k_ ∧ k_ < na ∧ k_ < la ∧ k_ < W ∧ k_ < J ∧ k_ < z ∧ k_ < t ∧ k_ < o ∧ k_ < Q ∧ k_ < M) (.slice vd rb.length Mc) rb) ∧ Aside0 (Kd.R k99 99 wc w.heap.size (fun k_ => na ≤ k_ ∧ k_ < la ∧ k_ < W ∧ k_ < J ∧ k_ < z ∧ k_ < t ∧ k_ < o ∧ k_ < Q ∧ k_ < M) (.slice Nc sb.length Oc) sb) ∧ Aside0 (Kd.R k99 99 wc w.heap.size (fun k_ => la ≤ k_ ∧ k_ < W ∧ k_ < J ∧ k_ < z ∧ k_ < t ∧ k_ < o ∧ k_ < Q ∧ k_ < M) (.slice Pc tb.length Qc) tb) ∧ Aside0 (Kd.S k80 80 wc w.heap.size (fun k_ => k_ ≠ u ∧ k_ ≠ D ∧ k_ ≠ I ∧ k_ ≠ ba ∧ k_ ≠ B ∧ W ≤ k_ ∧ k_ < J ∧ k_ < z ∧ k_ < t ∧ k_ < o ∧ k_ < Q ∧ k_ < M) (.slice ac Ia.length Nb) Ia) ∧ Aside0 (Kd.S k80 80 wc w.heap.size (fun k_ => k_ ≠ u ∧ k_ ≠ D ∧ k_ ≠ I ∧ k_ ≠ ba ∧ k_ ≠ B ∧ J ≤ k_ ∧ k_ < z ∧ k_ < t ∧ k_ < o ∧ k_ < Q ∧ k_ < M) (.slice Ob Ua.length Pb) Ua) ∧ Aside0 (Kd.S k80 80 wc w.heap.size (fun k_ => k_ ≠ u ∧ k_ ≠ D ∧ k_ ≠ I ∧ k_ ≠ ba ∧ k_ ≠ B ∧ z ≤ k_ ∧ k_ < t ∧ k_ < o ∧ k_ < Q ∧ k_ < M) (.slice Cc Mb.length Dc) Mb) ∧ Aside0 (Kd.S k80 80 wc w.heap.size (fun k_ => k_ ≠ u ∧ k_ ≠ D ∧ k_ ≠ I ∧ k_ ≠ ba ∧ k_ ≠ B ∧ t ≤ k_ ∧ k_ < o ∧ k_ < Q ∧ k_ < M) (.slice rc zb.length sc) zb) ∧ Aside0 (Kd.S k80 80 wc w.heap.size (fun k_ => k_ ≠ u ∧ k_ ≠ D ∧ k_ ≠ I ∧ k_ ≠ ba ∧ k_ ≠ B ∧ o ≤ k_ ∧ k_ < Q ∧ k_ < M) (.slice La Fa.length Ma) Fa) ∧ Aside0 (Kd.S k80 80 wc w.heap.size (fun k_ => k_ ≠ u ∧ k_ ≠ D ∧ k_ ≠ I ∧ k_ ≠ ba ∧ k_ ≠ B ∧ o ≤ k_ ∧ k_ < Q ∧ k_ < M) (.slice Yb pb.length Zb) pb) ∧ Aside0 (Kd.R k99 99 wc w.heap.size (fun k_ => Q ≤ k_ ∧ k_ < M) (.slice Hc Qb.length Ic) Qb) ∧ Aside0 (Kd.R k99 99 wc w.heap.size (fun k_ => M ≤ k_) (.slice Eb fb.length Fb) fb) ∧ Aside0 (wc.heap[Na]? = some (.cells #[.int .i64 db, .int .i64 Va, (.slice Sb Pa.length Gb)] 26 (0, 0))) ∧ Aside0 (wc.heap[u]? = some (.cells #[(.slice yb Ea.length ob), .int .i64 kb, .int .i64 lb, .string mb] 29 (0, 0))) ∧ Aside0 (wc.heap[vb]? = some (.cells #[.int .i64 Db, .int .i64 qb, (.slice xc eb.length qc)] 26 (0, 0))) ∧ Aside0 (wc.heap[Lc]? = some (.cells #[.int .i64 yc, .int .i64 zc, (.slice td Lb.length ud)] 26 (0, 0))) ∧ Aside0 (wc.heap[Fe]? = some (.cells #[.int .i64 ic, .int .i64 jc, (.slice vd rb.length Mc)] 26 (0, 0))) ∧ Aside0 (wc.heap[D]? = some (.cells #[(.slice Nc sb.length Oc), .int .i64 kc, .int .i64 lc, .string mc] 29 (0, 0))) ∧ Aside0 (wc.heap[I]? = some (.cells #[(.slice Pc tb.length Qc), .int .i64 nc, .int .i64 oc, .string pc] 29 (0, 0))) ∧ Aside0 (wc.heap[uc]? = some (.cells #[.int .i64 Wa, .int .i64 Qa, (.slice ac Ia.length Nb)] 26 (0, 0))) ∧ Aside0 (wc.heap[Ib]? = some (.cells #[.int .i64 ub, .int .i64 Za, (.slice Ob Ua.length Pb)] 26 (0, 0))) ∧ Aside0 (wc.heap[Rc]? = some (.cells #[.int .i64 Ac, .int .i64 Bc, (.slice Cc Mb.length Dc)] 26 (0, 0))) ∧ Aside0 (wc.heap[Sc]? = some (.cells #[.int .i64 dc, .int .i64 ec, (.slice rc zb.length sc)] 26 (0, 0))) ∧ Aside0 (wc.heap[aa]? = some (.cells #[.int .i64 Ja, .int .i64 Ka, (.slice La Fa.length Ma)] 26 (0, 0))) ∧ Aside0 (wc.heap[Ha]? = some (.cells #[.int .i64 Wb, .int .i64 Xb, (.slice Yb pb.length Zb)] 26 (0, 0))) ∧ Aside0 (wc.heap[ba]? = some (.cells #[(.slice Hc Qb.length Ic), .int .i64 Ec, .int .i64 Fc, .string Gc] 29 (0, 0))) ∧ Aside0 (wc.heap[B]? = some (.cells #[(.slice Eb fb.length Fb), .int .i64 Ab, .int .i64 Bb, .string Cb] 29 (0, 0))) ∧ Aside0 (Below w.heap.size w wc))
   case first =>
    as_aux_lemma =>
    have H := ve.1
    clear ve
    replace H := in_ H; obtain ⟨rfl, H⟩ := H
    replace H := io_ H; obtain ⟨ke, H⟩ := H
    have Ge : (Kb == xd) = false := by simpa using ke
    (try (have lo : decide (Kb = xd) = false := by simpa using ke))
    (try (have mo : (Kb == xd) = false := by simpa using ke))
    (try (have oo : ¬ (Kb = xd) := by simpa using ke))
    clear ke
    (first | rw [Ge] | rw [po] | (simp only [i64_w, i32_w]; rw [Ge]) | skip)
    replace H := in_ H; obtain ⟨le, H⟩ := H
    have He : (qb == (wrap64 (Va + 1))) = true := beq_iff_eq.mpr le
    have Ie : (qb != (wrap64 (Va + 1))) = false := bne_eq_false_iff_eq.mpr le
    clear le
    replace H := ib_ H; rcases H with ⟨rfl, H⟩ | ⟨rfl, H⟩
    ·
     as_aux_lemma =>
     replace H := bi_ H; obtain ⟨⟨we, xe, ye, ze⟩, mn, H⟩ := H; (try dsimp only at H)
     replace H := bi_ H; obtain ⟨yp, nn, H⟩ := H
     replace H := in_ H; obtain ⟨rfl, H⟩ := H
     have H' := M_ H
     clear H
     try go_wp2
     generalize hw_ : ((((Tk.setCell ⟨B, 0, none⟩ (.slice Eb fb.length Fb)).setCell ⟨B, 1, none⟩ (.int .i64 Ab)).setCell ⟨B, 2, none⟩ (.int .i64 Bb)).setCell ⟨B, 3, none⟩ (.string Cb)) = pn
     have ae := ws_ hw_ (Kd.S_mono (ok' := (fun k_ => k_ ≠ u ∧ k_ ≠ D ∧ k_ ≠ I ∧ J ≤ k_ ∧ k_ < z ∧ k_ < t ∧ k_ < o ∧ k_ < Q ∧ k_ ≠ ba ∧ k_ < M ∧ k_ ≠ B)) (sf_ B sa.1 (fun _ hk => hk.2)) (fun _ hk => ⟨hk.1.1.1.1.1, ⟨hk.1.1.1.1.2.1, ⟨hk.1.1.1.1.2.2.1, ⟨hk.1.1.1.1.2.2.2.1, ⟨hk.1.1.1.1.2.2.2.2.1, ⟨hk.1.1.1.1.2.2.2.2.2.1, ⟨hk.1.1.1.1.2.2.2.2.2.2, ⟨hk.1.1.1.2, ⟨hk.1.1.2, ⟨hk.1.2, hk.2⟩⟩⟩⟩⟩⟩⟩⟩⟩⟩))
     have be := ws_ hw_ (Kd.S_mono (ok' := (fun k_ => k_ ≠ u ∧ k_ ≠ D ∧ k_ ≠ I ∧ Oa ≤ k_ ∧ k_ < Ga ∧ k_ < Ca ∧ k_ < qa ∧ k_ < na ∧ k_ < la ∧ k_ < W ∧ k_ < J ∧ k_ < z ∧ k_ < t ∧ k_ < o ∧ k_ < Q ∧ k_ ≠ ba ∧ k_ < M ∧ k_ ≠ B)) (sf_ B Y.1 (fun _ hk => hk.2)) (fun _ hk => ⟨hk.1.1.1.1.1, ⟨hk.1.1.1.1.2.1, ⟨hk.1.1.1.1.2.2.1, ⟨hk.1.1.1.1.2.2.2.1, ⟨hk.1.1.1.1.2.2.2.2.1, ⟨hk.1.1.1.1.2.2.2.2.2.1, ⟨hk.1.1.1.1.2.2.2.2.2.2.1, ⟨hk.1.1.1.1.2.2.2.2.2.2.2.1, ⟨hk.1.1.1.1.2.2.2.2.2.2.2.2.1, ⟨hk.1.1.1.1.2.2.2.2.2.2.2.2.2.1, ⟨hk.1.1.1.1.2.2.2.2.2.2.2.2.2.2.1, ⟨hk.1.1.1.1.2.2.2.2.2.2.2.2.2.2.2.1, ⟨hk.1.1.1.1.2.2.2.2.2.2.2.2.2.2.2.2.1, ⟨hk.1.1.1.1.2.2.2.2.2.2.2.2.2.2.2.2.2, ⟨hk.1.1.1.2, ⟨hk.1.1.2, ⟨hk.1.2, hk.2⟩⟩⟩⟩⟩⟩⟩⟩⟩⟩⟩⟩⟩⟩⟩⟩⟩))
     have n2_ := wr_ hw_ (Kd.R_mono (ok' := (fun k_ => Oa ≤ k_ ∧ k_ < Ga ∧ k_ < Ca ∧ k_ < qa ∧ k_ < na ∧ k_ < la ∧ k_ < W ∧ k_ < J ∧ k_ < z ∧ k_ < t ∧ k_ < o ∧ k_ < Q ∧ k_ < M)) (ry_ y.1 X.1) (fun _ hk => ⟨hk.1.1.1, ⟨hk.1.1.2.1, ⟨hk.1.1.2.2.1, ⟨hk.1.1.2.2.2.1, ⟨hk.1.1.2.2.2.2.1, ⟨hk.1.1.2.2.2.2.2.1, ⟨hk.1.1.2.2.2.2.2.2.1, ⟨hk.1.1.2.2.2.2.2.2.2.1, ⟨hk.1.1.2.2.2.2.2.2.2.2.1, ⟨hk.1.1.2.2.2.2.2.2.2.2.2.1, ⟨hk.1.1.2.2.2.2.2.2.2.2.2.2, ⟨hk.1.2, hk.2⟩⟩⟩⟩⟩⟩⟩⟩⟩⟩⟩⟩))
     have ce := ws_ hw_ (Kd.S_mono (ok' := (fun k_ => k_ ≠ u ∧ k_ ≠ D ∧ k_ ≠ I ∧ Ga ≤ k_ ∧ k_ < Ca ∧ k_ < qa ∧ k_ < na ∧ k_ < la ∧ k_ < W ∧ k_ < J ∧ k_ < z ∧ k_ < t ∧ k_ < o ∧ k_ < Q ∧ k_ ≠ ba ∧ k_ < M ∧ k_ ≠ B)) (sf_ B Z.1 (fun _ hk => hk.2)) (fun _ hk => ⟨hk.1.1.1.1.1, ⟨hk.1.1.1.1.2.1, ⟨hk.1.1.1.1.2.2.1, ⟨hk.1.1.1.1.2.2.2.1, ⟨hk.1.1.1.1.2.2.2.2.1, ⟨hk.1.1.1.1.2.2.2.2.2.1, ⟨hk.1.1.1.1.2.2.2.2.2.2.1, ⟨hk.1.1.1.1.2.2.2.2.2.2.2.1, ⟨hk.1.1.1.1.2.2.2.2.2.2.2.2.1, ⟨hk.1.1.1.1.2.2.2.2.2.2.2.2.2.1, ⟨hk.1.1.1.1.2.2.2.2.2.2.2.2.2.2.1, ⟨hk.1.1.1.1.2.2.2.2.2.2.2.2.2.2.2.1, ⟨hk.1.1.1.1.2.2.2.2.2.2.2.2.2.2.2.2, ⟨hk.1.1.1.2, ⟨hk.1.1.2, ⟨hk.1.2, hk.2⟩⟩⟩⟩⟩⟩⟩⟩⟩⟩⟩⟩⟩⟩⟩⟩))
     have de := ws_ hw_ (Kd.S_mono (ok' := (fun k_ => k_ ≠ u ∧ k_ ≠ D ∧ k_ ≠ I ∧ Ca ≤ k_ ∧ k_ < qa ∧ k_ < na ∧ k_ < la ∧ k_ < W ∧ k_ < J ∧ k_ < z ∧ k_ < t ∧ k_ < o ∧ k_ < Q ∧ k_ ≠ ba ∧ k_ < M ∧ k_ ≠ B)) (sf_ B ea.1 (fun _ hk => hk.2)) (fun _ hk => ⟨hk.1.1.1.1.1, ⟨hk.1.1.1.1.2.1, ⟨hk.1.1.1.1.2.2.1, ⟨hk.1.1.1.1.2.2.2.1, ⟨hk.1.1.1.1.2.2.2.2.1, ⟨hk.1.1.1.1.2.2.2.2.2.1, ⟨hk.1.1.1.1.2.2.2.2.2.2.1, ⟨hk.1.1.1.1.2.2.2.2.2.2.2.1, ⟨hk.1.1.1.1.2.2.2.2.2.2.2.2.1, ⟨hk.1.1.1.1.2.2.2.2.2.2.2.2.2.1, ⟨hk.1.1.1.1.2.2.2.2.2.2.2.2.2.2.1, ⟨hk.1.1.1.1.2.2.2.2.2.2.2.2.2.2.2, ⟨hk.1.1.1.2, ⟨hk.1.1.2, ⟨hk.1.2, hk.2⟩⟩⟩⟩⟩⟩⟩⟩⟩⟩⟩⟩⟩⟩⟩))
     have ee := ws_ hw_ (Kd.S_mono (ok' := (fun k_ => k_ ≠ u ∧ k_ ≠ D ∧ k_ ≠ I ∧ qa ≤ k_ ∧ k_ < na ∧ k_ < la ∧ k_ < W ∧ k_ < J ∧ k_ < z ∧ k_ < t ∧ k_ < o ∧ k_ < Q ∧ k_ ≠ ba ∧ k_ < M ∧ k_ ≠ B)) (sf_ B fa.1 (fun _ hk => hk.2)) (fun _ hk => ⟨hk.1.1.1.1.1, ⟨hk.1.1.1.1.2.1, ⟨hk.1.1.1.1.2.2.1, ⟨hk.1.1.1.1.2.2.2.1, ⟨hk.1.1.1.1.2.2.2.2.1, ⟨hk.1.1.1.1.2.2.2.2.2.1, ⟨hk.1.1.1.1.2.2.2.2.2.2.1, ⟨hk.1.1.1.1.2.2.2.2.2.2.2.1, ⟨hk.1.1.1.1.2.2.2.2.2.2.2.2.1, ⟨hk.1.1.1.1.2.2.2.2.2.2.2.2.2.1, ⟨hk.1.1.1.1.2.2.2.2.2.2.2.2.2.2, ⟨hk.1.1.1.2, ⟨hk.1.1.2, ⟨hk.1.2, hk.2⟩⟩⟩⟩⟩⟩⟩⟩⟩⟩⟩⟩⟩⟩))
     have fe := wr_ hw_ (Kd.R_mono (ok' := (fun k_ => na ≤ k_ ∧ k_ < la ∧ k_ < W ∧ k_ < J ∧ k_ < z ∧ k_ < t ∧ k_ < o ∧ k_ < Q ∧ k_ < M)) (ry_ O.1 X.1) (fun _ hk => ⟨hk.1.1.1, ⟨hk.1.1.2.1, ⟨hk.1.1.2.2.1, ⟨hk.1.1.2.2.2.1, ⟨hk.1.1.2.2.2.2.1, ⟨hk.1.1.2.2.2.2.2.1, ⟨hk.1.1.2.2.2.2.2.2, ⟨hk.1.2, hk.2⟩⟩⟩⟩⟩⟩⟩⟩))
     have ge := wr_ hw_ (Kd.R_mono (ok' := (fun k_ => la ≤ k_ ∧ k_ < W ∧ k_ < J ∧ k_ < z ∧ k_ < t ∧ k_ < o ∧ k_ < Q ∧ k_ < M)) (ry_ P.1 X.1) (fun _ hk => ⟨hk.1.1.1, ⟨hk.1.1.2.1, ⟨hk.1.1.2.2.1, ⟨hk.1.1.2.2.2.1, ⟨hk.1.1.2.2.2.2.1, ⟨hk.1.1.2.2.2.2.2, ⟨hk.1.2, hk.2⟩⟩⟩⟩⟩⟩⟩))
     have he := ws_ hw_ (Kd.S_mono (ok' := (fun k_ => k_ ≠ u ∧ k_ ≠ D ∧ k_ ≠ I ∧ W ≤ k_ ∧ k_ < J ∧ k_ < z ∧ k_ < t ∧ k_ < o ∧ k_ < Q ∧ k_ ≠ ba ∧ k_ < M ∧ k_ ≠ B)) (sf_ B q.1 (fun _ hk => hk.2)) (fun _ hk => ⟨hk.1.1.1.1.1, ⟨hk.1.1.1.1.2.1, ⟨hk.1.1.1.1.2.2.1, ⟨hk.1.1.1.1.2.2.2.1, ⟨hk.1.1.1.1.2.2.2.2.1, ⟨hk.1.1.1.1.2.2.2.2.2.1, ⟨hk.1.1.1.1.2.2.2.2.2.2.1, ⟨hk.1.1.1.1.2.2.2.2.2.2.2, ⟨hk.1.1.1.2, ⟨hk.1.1.2, ⟨hk.1.2, hk.2⟩⟩⟩⟩⟩⟩⟩⟩⟩⟩⟩))
     have ie := ws_ hw_ (Kd.S_mono (ok' := (fun k_ => k_ ≠ u ∧ k_ ≠ D ∧ k_ ≠ I ∧ J ≤ k_ ∧ k_ < z ∧ k_ < t ∧ k_ < o ∧ k_ < Q ∧ k_ ≠ ba ∧ k_ < M ∧ k_ ≠ B)) (sf_ B L.1 (fun _ hk => hk.2)) (fun _ hk => ⟨hk.1.1.1.1.1, ⟨hk.1.1.1.1.2.1, ⟨hk.1.1.1.1.2.2.1, ⟨hk.1.1.1.1.2.2.2.1, ⟨hk.1.1.1.1.2.2.2.2.1, ⟨hk.1.1.1.1.2.2.2.2.2.1, ⟨hk.1.1.1.1.2.2.2.2.2.2, ⟨hk.1.1.1.2, ⟨hk.1.1.2, ⟨hk.1.2, hk.2⟩⟩⟩⟩⟩⟩⟩⟩⟩⟩))
     have gd := ws_ hw_ (Kd.S_mono (ok' := (fun k_ => k_ ≠ u ∧ k_ ≠ D ∧ k_ ≠ I ∧ z ≤ k_ ∧ k_ < t ∧ k_ < o ∧ k_ < Q ∧ k_ ≠ ba ∧ k_ < M ∧ k_ ≠ B)) (sf_ B ga.1 (fun _ hk => hk.2)) (fun _ hk => ⟨hk.1.1.1.1.1, ⟨hk.1.1.1.1.2.1, ⟨hk.1.1.1.1.2.2.1, ⟨hk.1.1.1.1.2.2.2.1, ⟨hk.1.1.1.1.2.2.2.2.1, ⟨hk.1.1.1.1.2.2.2.2.2, ⟨hk.1.1.1.2, ⟨hk.1.1.2, ⟨hk.1.2, hk.2⟩⟩⟩⟩⟩⟩⟩⟩⟩))
     have hd := ws_ hw_ (Kd.S_mono (ok' := (fun k_ => k_ ≠ u ∧ k_ ≠ D ∧ k_ ≠ I ∧ t ≤ k_ ∧ k_ < o ∧ k_ < Q ∧ k_ ≠ ba ∧ k_ < M ∧ k_ ≠ B)) (sf_ B ha.1 (fun _ hk => hk.2)) (fun _ hk => ⟨hk.1.1.1.1.1, ⟨hk.1.1.1.1.2.1, ⟨hk.1.1.1.1.2.2.1, ⟨hk.1.1.1.1.2.2.2.1, ⟨hk.1.1.1.1.2.2.2.2, ⟨hk.1.1.1.2, ⟨hk.1.1.2, ⟨hk.1.2, hk.2⟩⟩⟩⟩⟩⟩⟩⟩))
     have jd := ws_ hw_ (Kd.S_mono (ok' := (fun k_ => k_ ≠ u ∧ k_ ≠ D ∧ k_ ≠ I ∧ o ≤ k_ ∧ k_ < Q ∧ k_ ≠ ba ∧ k_ < M ∧ k_ ≠ B)) (sf_ B ia.1 (fun _ hk => hk.2)) (fun _ hk => ⟨hk.1.1.1.1.1, ⟨hk.1.1.1.1.2.1, ⟨hk.1.1.1.1.2.2.1, ⟨hk.1.1.1.1.2.2.2, ⟨hk.1.1.1.2, ⟨hk.1.1.2, ⟨hk.1.2, hk.2⟩⟩⟩⟩⟩⟩⟩))
     have kd := ws_ hw_ (Kd.S_mono (ok' := (fun k_ => k_ ≠ u ∧ k_ ≠ D ∧ k_ ≠ I ∧ o ≤ k_ ∧ k_ < Q ∧ k_ ≠ ba ∧ k_ < M ∧ k_ ≠ B)) (sf_ B ja.1 (fun _ hk => hk.2)) (fun _ hk => ⟨hk.1.1.1.1.1, ⟨hk.1.1.1.1.2.1, ⟨hk.1.1.1.1.2.2.1, ⟨hk.1.1.1.1.2.2.2, ⟨hk.1.1.1.2, ⟨hk.1.1.2, ⟨hk.1.2, hk.2⟩⟩⟩⟩⟩⟩⟩))
     have ld := wr_ hw_ (Kd.R_mono (ok' := (fun k_ => Q ≤ k_ ∧ k_ < M)) (ry_ za.1 X.1) (fun _ hk => ⟨hk.1.2, hk.2⟩))
     have md := wr_ hw_ (Kd.R_mono (ok' := (fun k_ => M ≤ k_)) (ry_ Da.1 X.1) (fun _ hk => hk.2))
     replace j := wq_ hw_ j
     replace a := wq_ hw_ a
     replace i := wq_ hw_ i
     replace m := wq_ hw_ m
     replace s := wq_ hw_ s
     replace b := wq_ hw_ b
     replace d := wq_ hw_ d
     replace l := wq_ hw_ l
     replace g := wq_ hw_ g
     replace v := wq_ hw_ v
     replace x := wq_ hw_ x
     replace A := wq_ hw_ A
     replace E := wq_ hw_ E
     replace da := wq_ hw_ da
     replace X := wp_ hw_ #[.slice Eb fb.length Fb, .int .i64 Ab, .int .i64 Bb, .string Cb] X
     replace HB := wb_ hw_ HB
     clear hw_
     (try clear sa Y y Z ea fa O P q L ga ha ia ja za Da)
     have sa := ae
     have Y := be
     have y := n2_
     have Z := ce
     have ea := de
     have fa := ee
     have O := fe
     have P := ge
     have q := he
     have L := ie
     have ga := gd
     have ha := hd
     have ia := jd
     have ja := kd
     have za := ld
     have Da := md
     clear ae be n2_ ce de ee fe ge he ie gd hd jd kd ld md
     obtain ⟨sa, Y, y, Z, ea, fa, O, P, q, L⟩ := y10_ sa Y y Z ea fa O P q L
     obtain ⟨ga, ha, ia, ja, za, Da, j, a, i, m⟩ := y10_ ga ha ia ja za Da j a i m
     obtain ⟨s, b, d, l, g, v, x, A, E, da⟩ := y10_ s b d l g v x A E da
     obtain ⟨X, HB⟩ := y2_ X HB
     refine start_ (n := 36) (S := fun w' => c_ w' vb 0 (.int .i64 Db) ∧ c_ w' vb 1 (.int .i64 qb) ∧ c_ w' vb 2 (.slice xc eb.length qc) ∧ c_ w' Na 0 (.int .i64 db) ∧ c_ w' Na 1 (.int .i64 Va) ∧ c_ w' Na 2 (.slice Sb Pa.length Gb) ∧ c_ w' B 0 (.slice Eb fb.length Fb) ∧ c_ w' B 1 (.int .i64 Ab) ∧ c_ w' B 2 (.int .i64 Bb) ∧ c_ w' B 3 (.string Cb) ∧ c_ w' ba 0 (.slice Hc Qb.length Ic) ∧ c_ w' ba 1 (.int .i64 Ec) ∧ c_ w' ba 2 (.int .i64 Fc) ∧ c_ w' ba 3 (.string Gc) ∧ c_ w' u 0 (.slice yb Ea.length ob) ∧ c_ w' u 1 (.int .i64 kb) ∧ c_ w' u 2 (.int .i64 lb) ∧ c_ w' u 3 (.string mb)) (ds := []) (b_ 0 36) (by kernel_rfl) rfl rfl (f3_ i.1 (f3_ j.1 (f4_ X.1 (f4_ da.1 (e4_ a.1))))) (fun wa => ?_); refine with_tabW laws_FnParts.tab18 laws_FnParts.bits18 (fun Aa Rb => ?_)
     generalize pn.drew = iq at sa Y y Z ea fa O P q L ga ha ia ja za Da j a i m s b d l g v x A E da X HB wa ⊢
     iterate 9 refine p_ Aa ?_
     refine qw_ 10 (m_ 36 1535) Aa ?_
     refine qt_ 9 (b_ 11 25) Aa Rb wa ?_
     refine t0_ Aa Rb wa ?_
     iterate 6 refine p_ Aa ?_
     iterate 3 refine t0_ Aa Rb wa ?_
     refine o1_ 21 (b_ 22 14) Aa (fun K hK => ?_)
     refine gs_ Tryz.func24 #[.agg #[.slice Hc Qb.length Ic, .int .i64 Ec, .int .i64 Fc, .string Gc], .agg #[.slice yb Ea.length ob, .int .i64 kb, .int .i64 lb, .string mb]] ?_
     with_reducible refine (impl_Merge.calls _ _ Qb Ec Fc Gc _ _ Ea kb lb mb we xe ye ze _ ?_ ?_ ?_ ?_ mn.1).mono ?_
     exact cp_ ((Kd.R_reads' za.1).2.2)
     exact (Kd.R_reads' za.1).2.1
     exact cp_ ((Kd.R_reads' y.1).2.2)
     exact (Kd.R_reads' y.1).2.1
     rintro e jq ⟨zp, rfl, Ba, hb⟩
     refine ⟨_, rfl, ?_⟩
     obtain ⟨qn, Ra⟩ := Kd.R_name Ba
     replace sa := su_ Ra (sp_ sa.1) hb
     replace Y := su_ Ra (sp_ Y.1) hb
     replace y := ru_ Ra (rp_ y.1) hb
     replace Z := su_ Ra (sp_ Z.1) hb
     replace ea := su_ Ra (sp_ ea.1) hb
     replace fa := su_ Ra (sp_ fa.1) hb
     replace O := ru_ Ra (rp_ O.1) hb
     replace P := ru_ Ra (rp_ P.1) hb
     replace q := su_ Ra (sp_ q.1) hb
     replace L := su_ Ra (sp_ L.1) hb
     replace ga := su_ Ra (sp_ ga.1) hb
     replace ha := su_ Ra (sp_ ha.1) hb
     replace ia := su_ Ra (sp_ ia.1) hb
     replace ja := su_ Ra (sp_ ja.1) hb
     replace za := ru_ Ra (rp_ za.1) hb
     replace Da := ru_ Ra (rp_ Da.1) hb
     have Uc := rg_ Ra Ba HB
     obtain ⟨j, a, i, m, s, b, d, l, g, v⟩ := u10_ hb j a i m s b d l g v
     obtain ⟨x, A, E, da, X, HB⟩ := u6_ hb x A E da X HB
     (try clear hb Ba)
     obtain ⟨Gm, Hm, Ve⟩ := Kd.R_slice Uc.1
     (first | subst Ve | (obtain ⟨rfl, rfl⟩ := si_ Ve))
     refine ho_ hK (f3_ i.1 (f3_ j.1 (f4_ X.1 (f4_ da.1 (e4_ a.1))))) (fun wa => ?_)
     as_aux_lemma =>
     refine o1_ 22 (b_ 23 13) Aa (fun K hK => ?_)
     refine gs_ Tryz.func19 #[.agg #[.slice Eb fb.length Fb, .int .i64 Ab, .int .i64 Bb, .string Cb], .agg #[.slice Gm we.length Hm, .int .i64 xe, .int .i64 ye, .string ze]] ?_
     with_reducible refine (impl_SameAlarm.calls je _ _ fb Ab Bb Cb _ _ we xe ye ze true _ ?_ ?_ ?_ ?_ nn.1).mono ?_
     exact cp_ ((Kd.R_reads' Da.1).2.2)
     exact (Kd.R_reads' Da.1).2.1
     exact cp_ ((Kd.R_reads' Uc.1).2.2)
     exact (Kd.R_reads' Uc.1).2.1
     rintro e lq ⟨rfl, hb⟩
     refine ⟨_, rfl, ?_⟩
     obtain ⟨sa, Y, y, Z, ea, fa, O, P, q, L⟩ := u10_ hb sa Y y Z ea fa O P q L
     obtain ⟨ga, ha, ia, ja, za, Da, Uc, j, a, i⟩ := u10_ hb ga ha ia ja za Da Uc j a i
     obtain ⟨m, s, b, d, l, g, v, x, A, E⟩ := u10_ hb m s b d l g v x A E
     obtain ⟨da, X, HB⟩ := u3_ hb da X HB
     (try clear hb)
     refine ho_ hK (f3_ i.1 (f3_ j.1 (f4_ X.1 (f4_ da.1 (e4_ a.1))))) (fun wa => ?_)
     iterate 7 refine p_ Aa ?_
     iterate 4 refine v_ Aa ?_
     iterate 2 refine p_ Aa ?_
     refine done_ (done_of Aa.1 (by kernel_rfl)) ?_
     try go_wp2
     go_meet
     case rel => exact ⟨_, (false), rs_, H', ⟨by have := HJ29.1; first | omega | exact Nat.le_refl _⟩, ⟨Kd.S_mono (sp_ sa.1) (fun _ hk => ⟨hk.1.1, ⟨hk.1.2.1, ⟨hk.1.2.2.1, ⟨hk.1.2.2.2.2.2.2.2.2.1, ⟨hk.1.2.2.2.2.2.2.2.2.2.2, ⟨hk.1.2.2.2.1, ⟨hk.1.2.2.2.2.1, ⟨hk.1.2.2.2.2.2.1, ⟨hk.1.2.2.2.2.2.2.1, ⟨hk.1.2.2.2.2.2.2.2.1, hk.1.2.2.2.2.2.2.2.2.2.1⟩⟩⟩⟩⟩⟩⟩⟩⟩⟩)⟩, ⟨Kd.S_mono (sp_ Y.1) (fun _ hk => ⟨hk.1.1, ⟨hk.1.2.1, ⟨hk.1.2.2.1, ⟨hk.1.2.2.2.2.2.2.2.2.2.2.2.2.2.2.2.1, ⟨hk.1.2.2.2.2.2.2.2.2.2.2.2.2.2.2.2.2.2, ⟨hk.1.2.2.2.1, ⟨hk.1.2.2.2.2.1, ⟨hk.1.2.2.2.2.2.1, ⟨hk.1.2.2.2.2.2.2.1, ⟨hk.1.2.2.2.2.2.2.2.1, ⟨hk.1.2.2.2.2.2.2.2.2.1, ⟨hk.1.2.2.2.2.2.2.2.2.2.1, ⟨hk.1.2.2.2.2.2.2.2.2.2.2.1, ⟨hk.1.2.2.2.2.2.2.2.2.2.2.2.1, ⟨hk.1.2.2.2.2.2.2.2.2.2.2.2.2.1, ⟨hk.1.2.2.2.2.2.2.2.2.2.2.2.2.2.1, ⟨hk.1.2.2.2.2.2.2.2.2.2.2.2.2.2.2.1, hk.1.2.2.2.2.2.2.2.2.2.2.2.2.2.2.2.2.1⟩⟩⟩⟩⟩⟩⟩⟩⟩⟩⟩⟩⟩⟩⟩⟩⟩)⟩, ⟨Kd.R_mono (rp_ y.1) (fun _ hk => ⟨hk.1.1, ⟨hk.1.2.1, ⟨hk.1.2.2.1, ⟨hk.1.2.2.2.1, ⟨hk.1.2.2.2.2.1, ⟨hk.1.2.2.2.2.2.1, ⟨hk.1.2.2.2.2.2.2.1, ⟨hk.1.2.2.2.2.2.2.2.1, ⟨hk.1.2.2.2.2.2.2.2.2.1, ⟨hk.1.2.2.2.2.2.2.2.2.2.1, ⟨hk.1.2.2.2.2.2.2.2.2.2.2.1, ⟨hk.1.2.2.2.2.2.2.2.2.2.2.2.1, hk.1.2.2.2.2.2.2.2.2.2.2.2.2⟩⟩⟩⟩⟩⟩⟩⟩⟩⟩⟩⟩)⟩, ⟨Kd.S_mono (sp_ Z.1) (fun _ hk => ⟨hk.1.1, ⟨hk.1.2.1, ⟨hk.1.2.2.1, ⟨hk.1.2.2.2.2.2.2.2.2.2.2.2.2.2.2.1, ⟨hk.1.2.2.2.2.2.2.2.2.2.2.2.2.2.2.2.2, ⟨hk.1.2.2.2.1, ⟨hk.1.2.2.2.2.1, ⟨hk.1.2.2.2.2.2.1, ⟨hk.1.2.2.2.2.2.2.1, ⟨hk.1.2.2.2.2.2.2.2.1, ⟨hk.1.2.2.2.2.2.2.2.2.1, ⟨hk.1.2.2.2.2.2.2.2.2.2.1, ⟨hk.1.2.2.2.2.2.2.2.2.2.2.1, ⟨hk.1.2.2.2.2.2.2.2.2.2.2.2.1, ⟨hk.1.2.2.2.2.2.2.2.2.2.2.2.2.1, ⟨hk.1.2.2.2.2.2.2.2.2.2.2.2.2.2.1, hk.1.2.2.2.2.2.2.2.2.2.2.2.2.2.2.2.1⟩⟩⟩⟩⟩⟩⟩⟩⟩⟩⟩⟩⟩⟩⟩⟩)⟩, ⟨Kd.S_mono (sp_ ea.1) (fun _ hk => ⟨hk.1.1, ⟨hk.1.2.1, ⟨hk.1.2.2.1, ⟨hk.1.2.2.2.2.2.2.2.2.2.2.2.2.2.1, ⟨hk.1.2.2.2.2.2.2.2.2.2.2.2.2.2.2.2, ⟨hk.1.2.2.2.1, ⟨hk.1.2.2.2.2.1, ⟨hk.1.2.2.2.2.2.1, ⟨hk.1.2.2.2.2.2.2.1, ⟨hk.1.2.2.2.2.2.2.2.1, ⟨hk.1.2.2.2.2.2.2.2.2.1, ⟨hk.1.2.2.2.2.2.2.2.2.2.1, ⟨hk.1.2.2.2.2.2.2.2.2.2.2.1, ⟨hk.1.2.2.2.2.2.2.2.2.2.2.2.1, ⟨hk.1.2.2.2.2.2.2.2.2.2.2.2.2.1, hk.1.2.2.2.2.2.2.2.2.2.2.2.2.2.2.1⟩⟩⟩⟩⟩⟩⟩⟩⟩⟩⟩⟩⟩⟩⟩)⟩, ⟨Kd.S_mono (sp_ fa.1) (fun _ hk => ⟨hk.1.1, ⟨hk.1.2.1, ⟨hk.1.2.2.1, ⟨hk.1.2.2.2.2.2.2.2.2.2.2.2.2.1, ⟨hk.1.2.2.2.2.2.2.2.2.2.2.2.2.2.2, ⟨hk.1.2.2.2.1, ⟨hk.1.2.2.2.2.1, ⟨hk.1.2.2.2.2.2.1, ⟨hk.1.2.2.2.2.2.2.1, ⟨hk.1.2.2.2.2.2.2.2.1, ⟨hk.1.2.2.2.2.2.2.2.2.1, ⟨hk.1.2.2.2.2.2.2.2.2.2.1, ⟨hk.1.2.2.2.2.2.2.2.2.2.2.1, ⟨hk.1.2.2.2.2.2.2.2.2.2.2.2.1, hk.1.2.2.2.2.2.2.2.2.2.2.2.2.2.1⟩⟩⟩⟩⟩⟩⟩⟩⟩⟩⟩⟩⟩⟩)⟩, ⟨Kd.R_mono (rp_ O.1) (fun _ hk => ⟨hk.1.1, ⟨hk.1.2.1, ⟨hk.1.2.2.1, ⟨hk.1.2.2.2.1, ⟨hk.1.2.2.2.2.1, ⟨hk.1.2.2.2.2.2.1, ⟨hk.1.2.2.2.2.2.2.1, ⟨hk.1.2.2.2.2.2.2.2.1, hk.1.2.2.2.2.2.2.2.2⟩⟩⟩⟩⟩⟩⟩⟩)⟩, ⟨Kd.R_mono (rp_ P.1) (fun _ hk => ⟨hk.1.1, ⟨hk.1.2.1, ⟨hk.1.2.2.1, ⟨hk.1.2.2.2.1, ⟨hk.1.2.2.2.2.1, ⟨hk.1.2.2.2.2.2.1, ⟨hk.1.2.2.2.2.2.2.1, hk.1.2.2.2.2.2.2.2⟩⟩⟩⟩⟩⟩⟩)⟩, ⟨Kd.S_mono (sp_ q.1) (fun _ hk => ⟨hk.1.1, ⟨hk.1.2.1, ⟨hk.1.2.2.1, ⟨hk.1.2.2.2.2.2.2.2.2.2.1, ⟨hk.1.2.2.2.2.2.2.2.2.2.2.2, ⟨hk.1.2.2.2.1, ⟨hk.1.2.2.2.2.1, ⟨hk.1.2.2.2.2.2.1, ⟨hk.1.2.2.2.2.2.2.1, ⟨hk.1.2.2.2.2.2.2.2.1, ⟨hk.1.2.2.2.2.2.2.2.2.1, hk.1.2.2.2.2.2.2.2.2.2.2.1⟩⟩⟩⟩⟩⟩⟩⟩⟩⟩⟩)⟩, ⟨Kd.S_mono (sp_ L.1) (fun _ hk => ⟨hk.1.1, ⟨hk.1.2.1, ⟨hk.1.2.2.1, ⟨hk.1.2.2.2.2.2.2.2.2.1, ⟨hk.1.2.2.2.2.2.2.2.2.2.2, ⟨hk.1.2.2.2.1, ⟨hk.1.2.2.2.2.1, ⟨hk.1.2.2.2.2.2.1, ⟨hk.1.2.2.2.2.2.2.1, ⟨hk.1.2.2.2.2.2.2.2.1, hk.1.2.2.2.2.2.2.2.2.2.1⟩⟩⟩⟩⟩⟩⟩⟩⟩⟩)⟩, ⟨Kd.S_mono (sp_ ga.1) (fun _ hk => ⟨hk.1.1, ⟨hk.1.2.1, ⟨hk.1.2.2.1, ⟨hk.1.2.2.2.2.2.2.2.1, ⟨hk.1.2.2.2.2.2.2.2.2.2, ⟨hk.1.2.2.2.1, ⟨hk.1.2.2.2.2.1, ⟨hk.1.2.2.2.2.2.1, ⟨hk.1.2.2.2.2.2.2.1, hk.1.2.2.2.2.2.2.2.2.1⟩⟩⟩⟩⟩⟩⟩⟩⟩)⟩, ⟨Kd.S_mono (sp_ ha.1) (fun _ hk => ⟨hk.1.1, ⟨hk.1.2.1, ⟨hk.1.2.2.1, ⟨hk.1.2.2.2.2.2.2.1, ⟨hk.1.2.2.2.2.2.2.2.2, ⟨hk.1.2.2.2.1, ⟨hk.1.2.2.2.2.1, ⟨hk.1.2.2.2.2.2.1, hk.1.2.2.2.2.2.2.2.1⟩⟩⟩⟩⟩⟩⟩⟩)⟩, ⟨Kd.S_mono (sp_ ia.1) (fun _ hk => ⟨hk.1.1, ⟨hk.1.2.1, ⟨hk.1.2.2.1, ⟨hk.1.2.2.2.2.2.1, ⟨hk.1.2.2.2.2.2.2.2, ⟨hk.1.2.2.2.1, ⟨hk.1.2.2.2.2.1, hk.1.2.2.2.2.2.2.1⟩⟩⟩⟩⟩⟩⟩)⟩, ⟨Kd.S_mono (sp_ ja.1) (fun _ hk => ⟨hk.1.1, ⟨hk.1.2.1, ⟨hk.1.2.2.1, ⟨hk.1.2.2.2.2.2.1, ⟨hk.1.2.2.2.2.2.2.2, ⟨hk.1.2.2.2.1, ⟨hk.1.2.2.2.2.1, hk.1.2.2.2.2.2.2.1⟩⟩⟩⟩⟩⟩⟩)⟩, ⟨Kd.R_mono (rp_ za.1) (fun _ hk => ⟨hk.1.1, hk.1.2⟩)⟩, ⟨Kd.R_mono (rp_ Da.1) (fun _ hk => hk.1)⟩, ⟨bq_ j.1⟩, ⟨bq_ a.1⟩, ⟨bq_ i.1⟩, ⟨bq_ m.1⟩, ⟨bq_ s.1⟩, ⟨bq_ b.1⟩, ⟨bq_ d.1⟩, ⟨bq_ l.1⟩, ⟨bq_ g.1⟩, ⟨bq_ v.1⟩, ⟨bq_ x.1⟩, ⟨bq_ A.1⟩, ⟨bq_ E.1⟩, ⟨bq_ da.1⟩, ⟨bq_ X.1⟩, ⟨hs_ HB.1⟩⟩
    replace H := bi_ H; obtain ⟨We, rn, H⟩ := H
    have H' := M_ H
    clear H
    try go_wp2
    generalize hw_ : ((((Tk.setCell ⟨B, 0, none⟩ (.slice Eb fb.length Fb)).setCell ⟨B, 1, none⟩ (.int .i64 Ab)).setCell ⟨B, 2, none⟩ (.int .i64 Bb)).setCell ⟨B, 3, none⟩ (.string Cb)) = sn
    have ae := ws_ hw_ (Kd.S_mono (ok' := (fun k_ => k_ ≠ u ∧ k_ ≠ D ∧ k_ ≠ I ∧ J ≤ k_ ∧ k_ < z ∧ k_ < t ∧ k_ < o ∧ k_ < Q ∧ k_ ≠ ba ∧ k_ < M ∧ k_ ≠ B)) (sf_ B sa.1 (fun _ hk => hk.2)) (fun _ hk => ⟨hk.1.1.1.1.1, ⟨hk.1.1.1.1.2.1, ⟨hk.1.1.1.1.2.2.1, ⟨hk.1.1.1.1.2.2.2.1, ⟨hk.1.1.1.1.2.2.2.2.1, ⟨hk.1.1.1.1.2.2.2.2.2.1, ⟨hk.1.1.1.1.2.2.2.2.2.2, ⟨hk.1.1.1.2, ⟨hk.1.1.2, ⟨hk.1.2, hk.2⟩⟩⟩⟩⟩⟩⟩⟩⟩⟩))
    have be := ws_ hw_ (Kd.S_mono (ok' := (fun k_ => k_ ≠ u ∧ k_ ≠ D ∧ k_ ≠ I ∧ Oa ≤ k_ ∧ k_ < Ga ∧ k_ < Ca ∧ k_ < qa ∧ k_ < na ∧ k_ < la ∧ k_ < W ∧ k_ < J ∧ k_ < z ∧ k_ < t ∧ k_ < o ∧ k_ < Q ∧ k_ ≠ ba ∧ k_ < M ∧ k_ ≠ B)) (sf_ B Y.1 (fun _ hk => hk.2)) (fun _ hk => ⟨hk.1.1.1.1.1, ⟨hk.1.1.1.1.2.1, ⟨hk.1.1.1.1.2.2.1, ⟨hk.1.1.1.1.2.2.2.1, ⟨hk.1.1.1.1.2.2.2.2.1, ⟨hk.1.1.1.1.2.2.2.2.2.1, ⟨hk.1.1.1.1.2.2.2.2.2.2.1, ⟨hk.1.1.1.1.2.2.2.2.2.2.2.1, ⟨hk.1.1.1.1.2.2.2.2.2.2.2.2.1, ⟨hk.1.1.1.1.2.2.2.2.2.2.2.2.2.1, ⟨hk.1.1.1.1.2.2.2.2.2.2.2.2.2.2.1, ⟨hk.1.1.1.1.2.2.2.2.2.2.2.2.2.2.2.1, ⟨hk.1.1.1.1.2.2.2.2.2.2.2.2.2.2.2.2.1, ⟨hk.1.1.1.1.2.2.2.2.2.2.2.2.2.2.2.2.2, ⟨hk.1.1.1.2, ⟨hk.1.1.2, ⟨hk.1.2, hk.2⟩⟩⟩⟩⟩⟩⟩⟩⟩⟩⟩⟩⟩⟩⟩⟩⟩))
    have n2_ := wr_ hw_ (Kd.R_mono (ok' := (fun k_ => Oa ≤ k_ ∧ k_ < Ga ∧ k_ < Ca ∧ k_ < qa ∧ k_ < na ∧ k_ < la ∧ k_ < W ∧ k_ < J ∧ k_ < z ∧ k_ < t ∧ k_ < o ∧ k_ < Q ∧ k_ < M)) (ry_ y.1 X.1) (fun _ hk => ⟨hk.1.1.1, ⟨hk.1.1.2.1, ⟨hk.1.1.2.2.1, ⟨hk.1.1.2.2.2.1, ⟨hk.1.1.2.2.2.2.1, ⟨hk.1.1.2.2.2.2.2.1, ⟨hk.1.1.2.2.2.2.2.2.1, ⟨hk.1.1.2.2.2.2.2.2.2.1, ⟨hk.1.1.2.2.2.2.2.2.2.2.1, ⟨hk.1.1.2.2.2.2.2.2.2.2.2.1, ⟨hk.1.1.2.2.2.2.2.2.2.2.2.2, ⟨hk.1.2, hk.2⟩⟩⟩⟩⟩⟩⟩⟩⟩⟩⟩⟩))
    have ce := ws_ hw_ (Kd.S_mono (ok' := (fun k_ => k_ ≠ u ∧ k_ ≠ D ∧ k_ ≠ I ∧ Ga ≤ k_ ∧ k_ < Ca ∧ k_ < qa ∧ k_ < na ∧ k_ < la ∧ k_ < W ∧ k_ < J ∧ k_ < z ∧ k_ < t ∧ k_ < o ∧ k_ < Q ∧ k_ ≠ ba ∧ k_ < M ∧ k_ ≠ B)) (sf_ B Z.1 (fun _ hk => hk.2)) (fun _ hk => ⟨hk.1.1.1.1.1, ⟨hk.1.1.1.1.2.1, ⟨hk.1.1.1.1.2.2.1, ⟨hk.1.1.1.1.2.2.2.1, ⟨hk.1.1.1.1.2.2.2.2.1, ⟨hk.1.1.1.1.2.2.2.2.2.1, ⟨hk.1.1.1.1.2.2.2.2.2.2.1, ⟨hk.1.1.1.1.2.2.2.2.2.2.2.1, ⟨hk.1.1.1.1.2.2.2.2.2.2.2.2.1, ⟨hk.1.1.1.1.2.2.2.2.2.2.2.2.2.1, ⟨hk.1.1.1.1.2.2.2.2.2.2.2.2.2.2.1, ⟨hk.1.1.1.1.2.2.2.2.2.2.2.2.2.2.2.1, ⟨hk.1.1.1.1.2.2.2.2.2.2.2.2.2.2.2.2, ⟨hk.1.1.1.2, ⟨hk.1.1.2, ⟨hk.1.2, hk.2⟩⟩⟩⟩⟩⟩⟩⟩⟩⟩⟩⟩⟩⟩⟩⟩))
    have de := ws_ hw_ (Kd.S_mono (ok' := (fun k_ => k_ ≠ u ∧ k_ ≠ D ∧ k_ ≠ I ∧ Ca ≤ k_ ∧ k_ < qa ∧ k_ < na ∧ k_ < la ∧ k_ < W ∧ k_ < J ∧ k_ < z ∧ k_ < t ∧ k_ < o ∧ k_ < Q ∧ k_ ≠ ba ∧ k_ < M ∧ k_ ≠ B)) (sf_ B ea.1 (fun _ hk => hk.2)) (fun _ hk => ⟨hk.1.1.1.1.1, ⟨hk.1.1.1.1.2.1, ⟨hk.1.1.1.1.2.2.1, ⟨hk.1.1.1.1.2.2.2.1, ⟨hk.1.1.1.1.2.2.2.2.1, ⟨hk.1.1.1.1.2.2.2.2.2.1, ⟨hk.1.1.1.1.2.2.2.2.2.2.1, ⟨hk.1.1.1.1.2.2.2.2.2.2.2.1, ⟨hk.1.1.1.1.2.2.2.2.2.2.2.2.1, ⟨hk.1.1.1.1.2.2.2.2.2.2.2.2.2.1, ⟨hk.1.1.1.1.2.2.2.2.2.2.2.2.2.2.1, ⟨hk.1.1.1.1.2.2.2.2.2.2.2.2.2.2.2, ⟨hk.1.1.1.2, ⟨hk.1.1.2, ⟨hk.1.2, hk.2⟩⟩⟩⟩⟩⟩⟩⟩⟩⟩⟩⟩⟩⟩⟩))
    have ee := ws_ hw_ (Kd.S_mono (ok' := (fun k_ => k_ ≠ u ∧ k_ ≠ D ∧ k_ ≠ I ∧ qa ≤ k_ ∧ k_ < na ∧ k_ < la ∧ k_ < W ∧ k_ < J ∧ k_ < z ∧ k_ < t ∧ k_ < o ∧ k_ < Q ∧ k_ ≠ ba ∧ k_ < M ∧ k_ ≠ B)) (sf_ B fa.1 (fun _ hk => hk.2)) (fun _ hk => ⟨hk.1.1.1.1.1, ⟨hk.1.1.1.1.2.1, ⟨hk.1.1.1.1.2.2.1, ⟨hk.1.1.1.1.2.2.2.1, ⟨hk.1.1.1.1.2.2.2.2.1, ⟨hk.1.1.1.1.2.2.2.2.2.1, ⟨hk.1.1.1.1.2.2.2.2.2.2.1, ⟨hk.1.1.1.1.2.2.2.2.2.2.2.1, ⟨hk.1.1.1.1.2.2.2.2.2.2.2.2.1, ⟨hk.1.1.1.1.2.2.2.2.2.2.2.2.2.1, ⟨hk.1.1.1.1.2.2.2.2.2.2.2.2.2.2, ⟨hk.1.1.1.2, ⟨hk.1.1.2, ⟨hk.1.2, hk.2⟩⟩⟩⟩⟩⟩⟩⟩⟩⟩⟩⟩⟩⟩))
    have fe := wr_ hw_ (Kd.R_mono (ok' := (fun k_ => na ≤ k_ ∧ k_ < la ∧ k_ < W ∧ k_ < J ∧ k_ < z ∧ k_ < t ∧ k_ < o ∧ k_ < Q ∧ k_ < M)) (ry_ O.1 X.1) (fun _ hk => ⟨hk.1.1.1, ⟨hk.1.1.2.1, ⟨hk.1.1.2.2.1, ⟨hk.1.1.2.2.2.1, ⟨hk.1.1.2.2.2.2.1, ⟨hk.1.1.2.2.2.2.2.1, ⟨hk.1.1.2.2.2.2.2.2, ⟨hk.1.2, hk.2⟩⟩⟩⟩⟩⟩⟩⟩))
    have ge := wr_ hw_ (Kd.R_mono (ok' := (fun k_ => la ≤ k_ ∧ k_ < W ∧ k_ < J ∧ k_ < z ∧ k_ < t ∧ k_ < o ∧ k_ < Q ∧ k_ < M)) (ry_ P.1 X.1) (fun _ hk => ⟨hk.1.1.1, ⟨hk.1.1.2.1, ⟨hk.1.1.2.2.1, ⟨hk.1.1.2.2.2.1, ⟨hk.1.1.2.2.2.2.1, ⟨hk.1.1.2.2.2.2.2, ⟨hk.1.2, hk.2⟩⟩⟩⟩⟩⟩⟩))
    have he := ws_ hw_ (Kd.S_mono (ok' := (fun k_ => k_ ≠ u ∧ k_ ≠ D ∧ k_ ≠ I ∧ W ≤ k_ ∧ k_ < J ∧ k_ < z ∧ k_ < t ∧ k_ < o ∧ k_ < Q ∧ k_ ≠ ba ∧ k_ < M ∧ k_ ≠ B)) (sf_ B q.1 (fun _ hk => hk.2)) (fun _ hk => ⟨hk.1.1.1.1.1, ⟨hk.1.1.1.1.2.1, ⟨hk.1.1.1.1.2.2.1, ⟨hk.1.1.1.1.2.2.2.1, ⟨hk.1.1.1.1.2.2.2.2.1, ⟨hk.1.1.1.1.2.2.2.2.2.1, ⟨hk.1.1.1.1.2.2.2.2.2.2.1, ⟨hk.1.1.1.1.2.2.2.2.2.2.2, ⟨hk.1.1.1.2, ⟨hk.1.1.2, ⟨hk.1.2, hk.2⟩⟩⟩⟩⟩⟩⟩⟩⟩⟩⟩))
    have ie := ws_ hw_ (Kd.S_mono (ok' := (fun k_ => k_ ≠ u ∧ k_ ≠ D ∧ k_ ≠ I ∧ J ≤ k_ ∧ k_ < z ∧ k_ < t ∧ k_ < o ∧ k_ < Q ∧ k_ ≠ ba ∧ k_ < M ∧ k_ ≠ B)) (sf_ B L.1 (fun _ hk => hk.2)) (fun _ hk => ⟨hk.1.1.1.1.1, ⟨hk.1.1.1.1.2.1, ⟨hk.1.1.1.1.2.2.1, ⟨hk.1.1.1.1.2.2.2.1, ⟨hk.1.1.1.1.2.2.2.2.1, ⟨hk.1.1.1.1.2.2.2.2.2.1, ⟨hk.1.1.1.1.2.2.2.2.2.2, ⟨hk.1.1.1.2, ⟨hk.1.1.2, ⟨hk.1.2, hk.2⟩⟩⟩⟩⟩⟩⟩⟩⟩⟩))
    have gd := ws_ hw_ (Kd.S_mono (ok' := (fun k_ => k_ ≠ u ∧ k_ ≠ D ∧ k_ ≠ I ∧ z ≤ k_ ∧ k_ < t ∧ k_ < o ∧ k_ < Q ∧ k_ ≠ ba ∧ k_ < M ∧ k_ ≠ B)) (sf_ B ga.1 (fun _ hk => hk.2)) (fun _ hk => ⟨hk.1.1.1.1.1, ⟨hk.1.1.1.1.2.1, ⟨hk.1.1.1.1.2.2.1, ⟨hk.1.1.1.1.2.2.2.1, ⟨hk.1.1.1.1.2.2.2.2.1, ⟨hk.1.1.1.1.2.2.2.2.2, ⟨hk.1.1.1.2, ⟨hk.1.1.2, ⟨hk.1.2, hk.2⟩⟩⟩⟩⟩⟩⟩⟩⟩))
    have hd := ws_ hw_ (Kd.S_mono (ok' := (fun k_ => k_ ≠ u ∧ k_ ≠ D ∧ k_ ≠ I ∧ t ≤ k_ ∧ k_ < o ∧ k_ < Q ∧ k_ ≠ ba ∧ k_ < M ∧ k_ ≠ B)) (sf_ B ha.1 (fun _ hk => hk.2)) (fun _ hk => ⟨hk.1.1.1.1.1, ⟨hk.1.1.1.1.2.1, ⟨hk.1.1.1.1.2.2.1, ⟨hk.1.1.1.1.2.2.2.1, ⟨hk.1.1.1.1.2.2.2.2, ⟨hk.1.1.1.2, ⟨hk.1.1.2, ⟨hk.1.2, hk.2⟩⟩⟩⟩⟩⟩⟩⟩))
    have jd := ws_ hw_ (Kd.S_mono (ok' := (fun k_ => k_ ≠ u ∧ k_ ≠ D ∧ k_ ≠ I ∧ o ≤ k_ ∧ k_ < Q ∧ k_ ≠ ba ∧ k_ < M ∧ k_ ≠ B)) (sf_ B ia.1 (fun _ hk => hk.2)) (fun _ hk => ⟨hk.1.1.1.1.1, ⟨hk.1.1.1.1.2.1, ⟨hk.1.1.1.1.2.2.1, ⟨hk.1.1.1.1.2.2.2, ⟨hk.1.1.1.2, ⟨hk.1.1.2, ⟨hk.1.2, hk.2⟩⟩⟩⟩⟩⟩⟩))
    have kd := ws_ hw_ (Kd.S_mono (ok' := (fun k_ => k_ ≠ u ∧ k_ ≠ D ∧ k_ ≠ I ∧ o ≤ k_ ∧ k_ < Q ∧ k_ ≠ ba ∧ k_ < M ∧ k_ ≠ B)) (sf_ B ja.1 (fun _ hk => hk.2)) (fun _ hk => ⟨hk.1.1.1.1.1, ⟨hk.1.1.1.1.2.1, ⟨hk.1.1.1.1.2.2.1, ⟨hk.1.1.1.1.2.2.2, ⟨hk.1.1.1.2, ⟨hk.1.1.2, ⟨hk.1.2, hk.2⟩⟩⟩⟩⟩⟩⟩))
    have ld := wr_ hw_ (Kd.R_mono (ok' := (fun k_ => Q ≤ k_ ∧ k_ < M)) (ry_ za.1 X.1) (fun _ hk => ⟨hk.1.2, hk.2⟩))
    have md := wr_ hw_ (Kd.R_mono (ok' := (fun k_ => M ≤ k_)) (ry_ Da.1 X.1) (fun _ hk => hk.2))
    replace j := wq_ hw_ j
    replace a := wq_ hw_ a
    replace i := wq_ hw_ i
    replace m := wq_ hw_ m
    replace s := wq_ hw_ s
    replace b := wq_ hw_ b
    replace d := wq_ hw_ d
    replace l := wq_ hw_ l
    replace g := wq_ hw_ g
    replace v := wq_ hw_ v
    replace x := wq_ hw_ x
    replace A := wq_ hw_ A
    replace E := wq_ hw_ E
    replace da := wq_ hw_ da
    replace X := wp_ hw_ #[.slice Eb fb.length Fb, .int .i64 Ab, .int .i64 Bb, .string Cb] X
    replace HB := wb_ hw_ HB
    clear hw_
    (try clear sa Y y Z ea fa O P q L ga ha ia ja za Da)
    have sa := ae
    have Y := be
    have y := n2_
    have Z := ce
    have ea := de
    have fa := ee
    have O := fe
    have P := ge
    have q := he
    have L := ie
    have ga := gd
    have ha := hd
    have ia := jd
    have ja := kd
    have za := ld
    have Da := md
    clear ae be n2_ ce de ee fe ge he ie gd hd jd kd ld md
    obtain ⟨sa, Y, y, Z, ea, fa, O, P, q, L⟩ := y10_ sa Y y Z ea fa O P q L
    obtain ⟨ga, ha, ia, ja, za, Da, j, a, i, m⟩ := y10_ ga ha ia ja za Da j a i m
    obtain ⟨s, b, d, l, g, v, x, A, E, da⟩ := y10_ s b d l g v x A E da
    obtain ⟨X, HB⟩ := y2_ X HB
    refine start_ (n := 36) (S := fun w' => c_ w' vb 0 (.int .i64 Db) ∧ c_ w' vb 1 (.int .i64 qb) ∧ c_ w' vb 2 (.slice xc eb.length qc) ∧ c_ w' Na 0 (.int .i64 db) ∧ c_ w' Na 1 (.int .i64 Va) ∧ c_ w' Na 2 (.slice Sb Pa.length Gb) ∧ c_ w' B 0 (.slice Eb fb.length Fb) ∧ c_ w' B 1 (.int .i64 Ab) ∧ c_ w' B 2 (.int .i64 Bb) ∧ c_ w' B 3 (.string Cb) ∧ c_ w' u 0 (.slice yb Ea.length ob) ∧ c_ w' u 1 (.int .i64 kb) ∧ c_ w' u 2 (.int .i64 lb) ∧ c_ w' u 3 (.string mb)) (ds := []) (b_ 0 36) (by kernel_rfl) rfl rfl (f3_ i.1 (f3_ j.1 (f4_ X.1 (e4_ a.1)))) (fun wa => ?_); refine with_tabW laws_FnParts.tab18 laws_FnParts.bits18 (fun Aa Rb => ?_)
    generalize sn.drew = mq at sa Y y Z ea fa O P q L ga ha ia ja za Da j a i m s b d l g v x A E da X HB wa ⊢
    iterate 9 refine p_ Aa ?_
    refine qw_ 10 (m_ 36 1535) Aa ?_
    refine qt_ 9 (b_ 11 25) Aa Rb wa ?_
    refine t0_ Aa Rb wa ?_
    iterate 6 refine p_ Aa ?_
    iterate 6 refine v_ Aa ?_
    iterate 6 refine p_ Aa ?_
    iterate 2 refine t0_ Aa Rb wa ?_
    refine o1_ 32 (b_ 33 3) Aa (fun K hK => ?_)
    refine gs_ Tryz.func19 #[.agg #[.slice Eb fb.length Fb, .int .i64 Ab, .int .i64 Bb, .string Cb], .agg #[.slice yb Ea.length ob, .int .i64 kb, .int .i64 lb, .string mb]] ?_
    with_reducible refine (impl_SameAlarm.calls je _ _ fb Ab Bb Cb _ _ Ea kb lb mb We _ ?_ ?_ ?_ ?_ rn.1).mono ?_
    exact cp_ ((Kd.R_reads' Da.1).2.2)
    exact (Kd.R_reads' Da.1).2.1
    exact cp_ ((Kd.R_reads' y.1).2.2)
    exact (Kd.R_reads' y.1).2.1
    rintro e nq ⟨rfl, hb⟩
    refine ⟨_, rfl, ?_⟩
    obtain ⟨sa, Y, y, Z, ea, fa, O, P, q, L⟩ := u10_ hb sa Y y Z ea fa O P q L
    obtain ⟨ga, ha, ia, ja, za, Da, j, a, i, m⟩ := u10_ hb ga ha ia ja za Da j a i m
    obtain ⟨s, b, d, l, g, v, x, A, E, da⟩ := u10_ hb s b d l g v x A E da
    obtain ⟨X, HB⟩ := u2_ hb X HB
    (try clear hb)
    refine ho_ hK (f3_ i.1 (f3_ j.1 (f4_ X.1 (e4_ a.1)))) (fun wa => ?_)
    iterate 3 refine p_ Aa ?_
    refine done_ (done_of Aa.1 (by kernel_rfl)) ?_
    try go_wp2
    go_meet
    case rel => exact ⟨_, (!We), rs_, H', ⟨by have := HJ29.1; first | omega | exact Nat.le_refl _⟩, ⟨Kd.S_mono (sp_ sa.1) (fun _ hk => ⟨hk.1, ⟨hk.2.1, ⟨hk.2.2.1, ⟨hk.2.2.2.2.2.2.2.2.1, ⟨hk.2.2.2.2.2.2.2.2.2.2, ⟨hk.2.2.2.1, ⟨hk.2.2.2.2.1, ⟨hk.2.2.2.2.2.1, ⟨hk.2.2.2.2.2.2.1, ⟨hk.2.2.2.2.2.2.2.1, hk.2.2.2.2.2.2.2.2.2.1⟩⟩⟩⟩⟩⟩⟩⟩⟩⟩)⟩, ⟨Kd.S_mono (sp_ Y.1) (fun _ hk => ⟨hk.1, ⟨hk.2.1, ⟨hk.2.2.1, ⟨hk.2.2.2.2.2.2.2.2.2.2.2.2.2.2.2.1, ⟨hk.2.2.2.2.2.2.2.2.2.2.2.2.2.2.2.2.2, ⟨hk.2.2.2.1, ⟨hk.2.2.2.2.1, ⟨hk.2.2.2.2.2.1, ⟨hk.2.2.2.2.2.2.1, ⟨hk.2.2.2.2.2.2.2.1, ⟨hk.2.2.2.2.2.2.2.2.1, ⟨hk.2.2.2.2.2.2.2.2.2.1, ⟨hk.2.2.2.2.2.2.2.2.2.2.1, ⟨hk.2.2.2.2.2.2.2.2.2.2.2.1, ⟨hk.2.2.2.2.2.2.2.2.2.2.2.2.1, ⟨hk.2.2.2.2.2.2.2.2.2.2.2.2.2.1, ⟨hk.2.2.2.2.2.2.2.2.2.2.2.2.2.2.1, hk.2.2.2.2.2.2.2.2.2.2.2.2.2.2.2.2.1⟩⟩⟩⟩⟩⟩⟩⟩⟩⟩⟩⟩⟩⟩⟩⟩⟩)⟩, ⟨rp_ y.1⟩, ⟨Kd.S_mono (sp_ Z.1) (fun _ hk => ⟨hk.1, ⟨hk.2.1, ⟨hk.2.2.1, ⟨hk.2.2.2.2.2.2.2.2.2.2.2.2.2.2.1, ⟨hk.2.2.2.2.2.2.2.2.2.2.2.2.2.2.2.2, ⟨hk.2.2.2.1, ⟨hk.2.2.2.2.1, ⟨hk.2.2.2.2.2.1, ⟨hk.2.2.2.2.2.2.1, ⟨hk.2.2.2.2.2.2.2.1, ⟨hk.2.2.2.2.2.2.2.2.1, ⟨hk.2.2.2.2.2.2.2.2.2.1, ⟨hk.2.2.2.2.2.2.2.2.2.2.1, ⟨hk.2.2.2.2.2.2.2.2.2.2.2.1, ⟨hk.2.2.2.2.2.2.2.2.2.2.2.2.1, ⟨hk.2.2.2.2.2.2.2.2.2.2.2.2.2.1, hk.2.2.2.2.2.2.2.2.2.2.2.2.2.2.2.1⟩⟩⟩⟩⟩⟩⟩⟩⟩⟩⟩⟩⟩⟩⟩⟩)⟩, ⟨Kd.S_mono (sp_ ea.1) (fun _ hk => ⟨hk.1, ⟨hk.2.1, ⟨hk.2.2.1, ⟨hk.2.2.2.2.2.2.2.2.2.2.2.2.2.1, ⟨hk.2.2.2.2.2.2.2.2.2.2.2.2.2.2.2, ⟨hk.2.2.2.1, ⟨hk.2.2.2.2.1, ⟨hk.2.2.2.2.2.1, ⟨hk.2.2.2.2.2.2.1, ⟨hk.2.2.2.2.2.2.2.1, ⟨hk.2.2.2.2.2.2.2.2.1, ⟨hk.2.2.2.2.2.2.2.2.2.1, ⟨hk.2.2.2.2.2.2.2.2.2.2.1, ⟨hk.2.2.2.2.2.2.2.2.2.2.2.1, ⟨hk.2.2.2.2.2.2.2.2.2.2.2.2.1, hk.2.2.2.2.2.2.2.2.2.2.2.2.2.2.1⟩⟩⟩⟩⟩⟩⟩⟩⟩⟩⟩⟩⟩⟩⟩)⟩, ⟨Kd.S_mono (sp_ fa.1) (fun _ hk => ⟨hk.1, ⟨hk.2.1, ⟨hk.2.2.1, ⟨hk.2.2.2.2.2.2.2.2.2.2.2.2.1, ⟨hk.2.2.2.2.2.2.2.2.2.2.2.2.2.2, ⟨hk.2.2.2.1, ⟨hk.2.2.2.2.1, ⟨hk.2.2.2.2.2.1, ⟨hk.2.2.2.2.2.2.1, ⟨hk.2.2.2.2.2.2.2.1, ⟨hk.2.2.2.2.2.2.2.2.1, ⟨hk.2.2.2.2.2.2.2.2.2.1, ⟨hk.2.2.2.2.2.2.2.2.2.2.1, ⟨hk.2.2.2.2.2.2.2.2.2.2.2.1, hk.2.2.2.2.2.2.2.2.2.2.2.2.2.1⟩⟩⟩⟩⟩⟩⟩⟩⟩⟩⟩⟩⟩⟩)⟩, ⟨rp_ O.1⟩, ⟨rp_ P.1⟩, ⟨Kd.S_mono (sp_ q.1) (fun _ hk => ⟨hk.1, ⟨hk.2.1, ⟨hk.2.2.1, ⟨hk.2.2.2.2.2.2.2.2.2.1, ⟨hk.2.2.2.2.2.2.2.2.2.2.2, ⟨hk.2.2.2.1, ⟨hk.2.2.2.2.1, ⟨hk.2.2.2.2.2.1, ⟨hk.2.2.2.2.2.2.1, ⟨hk.2.2.2.2.2.2.2.1, ⟨hk.2.2.2.2.2.2.2.2.1, hk.2.2.2.2.2.2.2.2.2.2.1⟩⟩⟩⟩⟩⟩⟩⟩⟩⟩⟩)⟩, ⟨Kd.S_mono (sp_ L.1) (fun _ hk => ⟨hk.1, ⟨hk.2.1, ⟨hk.2.2.1, ⟨hk.2.2.2.2.2.2.2.2.1, ⟨hk.2.2.2.2.2.2.2.2.2.2, ⟨hk.2.2.2.1, ⟨hk.2.2.2.2.1, ⟨hk.2.2.2.2.2.1, ⟨hk.2.2.2.2.2.2.1, ⟨hk.2.2.2.2.2.2.2.1, hk.2.2.2.2.2.2.2.2.2.1⟩⟩⟩⟩⟩⟩⟩⟩⟩⟩)⟩, ⟨Kd.S_mono (sp_ ga.1) (fun _ hk => ⟨hk.1, ⟨hk.2.1, ⟨hk.2.2.1, ⟨hk.2.2.2.2.2.2.2.1, ⟨hk.2.2.2.2.2.2.2.2.2, ⟨hk.2.2.2.1, ⟨hk.2.2.2.2.1, ⟨hk.2.2.2.2.2.1, ⟨hk.2.2.2.2.2.2.1, hk.2.2.2.2.2.2.2.2.1⟩⟩⟩⟩⟩⟩⟩⟩⟩)⟩, ⟨Kd.S_mono (sp_ ha.1) (fun _ hk => ⟨hk.1, ⟨hk.2.1, ⟨hk.2.2.1, ⟨hk.2.2.2.2.2.2.1, ⟨hk.2.2.2.2.2.2.2.2, ⟨hk.2.2.2.1, ⟨hk.2.2.2.2.1, ⟨hk.2.2.2.2.2.1, hk.2.2.2.2.2.2.2.1⟩⟩⟩⟩⟩⟩⟩⟩)⟩, ⟨Kd.S_mono (sp_ ia.1) (fun _ hk => ⟨hk.1, ⟨hk.2.1, ⟨hk.2.2.1, ⟨hk.2.2.2.2.2.1, ⟨hk.2.2.2.2.2.2.2, ⟨hk.2.2.2.1, ⟨hk.2.2.2.2.1, hk.2.2.2.2.2.2.1⟩⟩⟩⟩⟩⟩⟩)⟩, ⟨Kd.S_mono (sp_ ja.1) (fun _ hk => ⟨hk.1, ⟨hk.2.1, ⟨hk.2.2.1, ⟨hk.2.2.2.2.2.1, ⟨hk.2.2.2.2.2.2.2, ⟨hk.2.2.2.1, ⟨hk.2.2.2.2.1, hk.2.2.2.2.2.2.1⟩⟩⟩⟩⟩⟩⟩)⟩, ⟨rp_ za.1⟩, ⟨rp_ Da.1⟩, ⟨bq_ j.1⟩, ⟨bq_ a.1⟩, ⟨bq_ i.1⟩, ⟨bq_ m.1⟩, ⟨bq_ s.1⟩, ⟨bq_ b.1⟩, ⟨bq_ d.1⟩, ⟨bq_ l.1⟩, ⟨bq_ g.1⟩, ⟨bq_ v.1⟩, ⟨bq_ x.1⟩, ⟨bq_ A.1⟩, ⟨bq_ E.1⟩, ⟨bq_ da.1⟩, ⟨bq_ X.1⟩, ⟨hs_ HB.1⟩⟩
   case rest =>
    as_aux_lemma =>
    clear ve
    try clear c1
    try clear c2
    try clear p2
    try clear p6
    try clear Ap
    try clear Bp
    try clear tn
    try clear un
    try clear le
    try clear He
    try clear Ie
    try clear vn
    obtain ⟨kq, ed, rfl, HA, HJ178, sa, Y, y, Z, ea, fa, O, P, q, L, ga, ha, ia, ja, gb, ib, j, a, i, m, s, b, d, l, g, v, x, A, E, da, X, HB⟩ := hcut
    cases kq with
    | zero => exact absurd HA.1 (by simp [laws_FnParts.j1])
    | succ Ae =>
     as_aux_lemma =>
     have H := HA.1
     clear HA
     simp only [laws_FnParts.j1] at H
     replace H := if_ H; obtain ⟨rfl, H⟩ := H
     replace H := bi_ H; obtain ⟨nb, wn, H⟩ := H
     have H' := M_ H
     clear H
     have Qk := n2_ Vd
     obtain ⟨Je, Ke, Le, Me, Ne, Oe⟩ := bc3_ g.1
     go_wp2_with (first | ((with_reducible refine gate_callee (f := 25) rfl ?_); refine gl_ (some 199) Tryz.func25 #[.agg #[.int .i64 ub, .int .i64 Za, .slice Ob Ua.length Pb]] ?_; (with_reducible refine (impl_AlarmsIn.calls Ae ub Za _ _ Ua nb _ ?_ ?_ wn.1).mono ?_); exact cp_ ((Kd.S_reads' L.1).2.2); exact (Kd.S_reads' L.1).2.1; rintro e pq ⟨Im, rfl, Ba, hb⟩; refine ⟨_, rfl, ?_⟩; obtain ⟨xb, Jb⟩ := Kd.S_name Ba; replace sa := su_ Jb (sp_ sa.1) hb; replace y := ru_ Jb (rp_ y.1) hb; replace O := ru_ Jb (rp_ O.1) hb; replace P := ru_ Jb (rp_ P.1) hb; replace q := su_ Jb (sp_ q.1) hb; replace L := su_ Jb (sp_ L.1) hb; replace gb := ru_ Jb (rp_ gb.1) hb; replace ib := ru_ Jb (rp_ ib.1) hb; have Rk := M_ (Kd.S_lower (Kd.S_newB (Kd.S_newB (Kd.S_newB (Kd.S_newB (Kd.S_newB (Kd.S_gez Jb Ba) (pb_ a.1)) (pb_ b.1)) (pb_ d.1)) (pb_ da.1)) (pb_ X.1)) (below_size (hs_ HB.1))); obtain ⟨a, b, d, l, g, da, X, HB⟩ := u8_ hb a b d l g da X HB; (try clear hb Ba); (try clear Ik Jk Kk Lk Mk Nk Ok Pk); (try clear Je Ke Le Me Ne Oe); (try clear Hk Qk)))
     as_aux_lemma =>
     go_loopg [31] Ae (fun kq Cp w' => ∃ (bb : Int), Cp = .int .i64 bb ∧ Aside0 (laws_FnParts.l0 kq Vb ab nb bb Wa Qa Ia ub Za Ua = some r) ∧ Aside0 (kq ≤ Ae) ∧ Aside0 (Kd.S k29 29 w' w.heap.size (fun k_ => k_ ≠ u ∧ k_ ≠ D ∧ k_ ≠ I ∧ k_ ≠ ba ∧ k_ ≠ B ∧ J ≤ k_ ∧ k_ < z ∧ k_ < t ∧ k_ < o ∧ k_ < Q ∧ k_ < M ∧ k_ < xb) (.slice Qd ab.length Rd) ab) ∧ Aside0 (Kd.S k29 29 w' w.heap.size (fun k_ => k_ ≠ u ∧ k_ ≠ D ∧ k_ ≠ I ∧ k_ ≠ ba ∧ k_ ≠ B ∧ xb ≤ k_) Im nb) ∧ Aside0 (Kd.R k99 99 w' w.heap.size (fun k_ => Oa ≤ k_ ∧ k_ < Ga ∧ k_ < Ca ∧ k_ < qa ∧ k_ < na ∧ k_ < la ∧ k_ < W ∧ k_ < J ∧ k_ < z ∧ k_ < t ∧ k_ < o ∧ k_ < Q ∧ k_ < M ∧ k_ < xb) (.slice yb Ea.length ob) Ea) ∧ Aside0 (Kd.R k99 99 w' w.heap.size (fun k_ => na ≤ k_ ∧ k_ < la ∧ k_ < W ∧ k_ < J ∧ k_ < z ∧ k_ < t ∧ k_ < o ∧ k_ < Q ∧ k_ < M ∧ k_ < xb) (.slice Nc sb.length Oc) sb) ∧ Aside0 (Kd.R k99 99 w' w.heap.size (fun k_ => la ≤ k_ ∧ k_ < W ∧ k_ < J ∧ k_ < z ∧ k_ < t ∧ k_ < o ∧ k_ < Q ∧ k_ < M ∧ k_ < xb) (.slice Pc tb.length Qc) tb) ∧ Aside0 (Kd.S k80 80 w' w.heap.size (fun k_ => k_ ≠ u ∧ k_ ≠ D ∧ k_ ≠ I ∧ k_ ≠ ba ∧ k_ ≠ B ∧ W ≤ k_ ∧ k_ < J ∧ k_ < z ∧ k_ < t ∧ k_ < o ∧ k_ < Q ∧ k_ < M ∧ k_ < xb) (.slice ac Ia.length Nb) Ia) ∧ Aside0 (Kd.S k80 80 w' w.heap.size (fun k_ => k_ ≠ u ∧ k_ ≠ D ∧ k_ ≠ I ∧ k_ ≠ ba ∧ k_ ≠ B ∧ J ≤ k_ ∧ k_ < z ∧ k_ < t ∧ k_ < o ∧ k_ < Q ∧ k_ < M ∧ k_ < xb) (.slice Ob Ua.length Pb) Ua) ∧ Aside0 (Kd.R k99 99 w' w.heap.size (fun k_ => Q ≤ k_ ∧ k_ < M ∧ k_ < xb) (.slice Hc Qb.length Ic) Qb) ∧ Aside0 (Kd.R k99 99 w' w.heap.size (fun k_ => M ≤ k_ ∧ k_ < xb) (.slice Eb fb.length Fb) fb) ∧ Aside0 (w'.heap[u]? = some (.cells #[(.slice yb Ea.length ob), .int .i64 kb, .int .i64 lb, .string mb] 29 (0, 0))) ∧ Aside0 (w'.heap[D]? = some (.cells #[(.slice Nc sb.length Oc), .int .i64 kc, .int .i64 lc, .string mc] 29 (0, 0))) ∧ Aside0 (w'.heap[I]? = some (.cells #[(.slice Pc tb.length Qc), .int .i64 nc, .int .i64 oc, .string pc] 29 (0, 0))) ∧ Aside0 (w'.heap[uc]? = some (.cells #[.int .i64 Wa, .int .i64 Qa, (.slice ac Ia.length Nb)] 26 (0, 0))) ∧ Aside0 (w'.heap[Ib]? = some (.cells #[.int .i64 ub, .int .i64 Za, (.slice Ob Ua.length Pb)] 26 (0, 0))) ∧ Aside0 (w'.heap[ba]? = some (.cells #[(.slice Hc Qb.length Ic), .int .i64 Ec, .int .i64 Fc, .string Gc] 29 (0, 0))) ∧ Aside0 (w'.heap[B]? = some (.cells #[(.slice Eb fb.length Fb), .int .i64 Ab, .int .i64 Bb, .string Cb] 29 (0, 0))) ∧ Aside0 (Below w.heap.size w w'))
     case atStart => exact ⟨(0), rs_, H', ⟨Nat.le_refl _⟩, ⟨Kd.S_mono (sp_ sa.1) (fun _ hk => ⟨hk.1.1, ⟨hk.1.2.1, ⟨hk.1.2.2.1, ⟨hk.1.2.2.2.1, ⟨hk.1.2.2.2.2.1, ⟨hk.1.2.2.2.2.2.1, ⟨hk.1.2.2.2.2.2.2.1, ⟨hk.1.2.2.2.2.2.2.2.1, ⟨hk.1.2.2.2.2.2.2.2.2.1, ⟨hk.1.2.2.2.2.2.2.2.2.2.1, ⟨hk.1.2.2.2.2.2.2.2.2.2.2, hk.2⟩⟩⟩⟩⟩⟩⟩⟩⟩⟩⟩)⟩, ⟨Kd.S_mono (sp_ Rk.1) (fun _ hk => ⟨hk.1.1.1.1.2, ⟨hk.1.1.1.2, ⟨hk.1.1.2, ⟨hk.1.2, ⟨hk.2, hk.1.1.1.1.1.2⟩⟩⟩⟩⟩)⟩, ⟨Kd.R_mono (rp_ y.1) (fun _ hk => ⟨hk.1.1, ⟨hk.1.2.1, ⟨hk.1.2.2.1, ⟨hk.1.2.2.2.1, ⟨hk.1.2.2.2.2.1, ⟨hk.1.2.2.2.2.2.1, ⟨hk.1.2.2.2.2.2.2.1, ⟨hk.1.2.2.2.2.2.2.2.1, ⟨hk.1.2.2.2.2.2.2.2.2.1, ⟨hk.1.2.2.2.2.2.2.2.2.2.1, ⟨hk.1.2.2.2.2.2.2.2.2.2.2.1, ⟨hk.1.2.2.2.2.2.2.2.2.2.2.2.1, ⟨hk.1.2.2.2.2.2.2.2.2.2.2.2.2, hk.2⟩⟩⟩⟩⟩⟩⟩⟩⟩⟩⟩⟩⟩)⟩, ⟨Kd.R_mono (rp_ O.1) (fun _ hk => ⟨hk.1.1, ⟨hk.1.2.1, ⟨hk.1.2.2.1, ⟨hk.1.2.2.2.1, ⟨hk.1.2.2.2.2.1, ⟨hk.1.2.2.2.2.2.1, ⟨hk.1.2.2.2.2.2.2.1, ⟨hk.1.2.2.2.2.2.2.2.1, ⟨hk.1.2.2.2.2.2.2.2.2, hk.2⟩⟩⟩⟩⟩⟩⟩⟩⟩)⟩, ⟨Kd.R_mono (rp_ P.1) (fun _ hk => ⟨hk.1.1, ⟨hk.1.2.1, ⟨hk.1.2.2.1, ⟨hk.1.2.2.2.1, ⟨hk.1.2.2.2.2.1, ⟨hk.1.2.2.2.2.2.1, ⟨hk.1.2.2.2.2.2.2.1, ⟨hk.1.2.2.2.2.2.2.2, hk.2⟩⟩⟩⟩⟩⟩⟩⟩)⟩, ⟨Kd.S_mono (sp_ q.1) (fun _ hk => ⟨hk.1.1, ⟨hk.1.2.1, ⟨hk.1.2.2.1, ⟨hk.1.2.2.2.1, ⟨hk.1.2.2.2.2.1, ⟨hk.1.2.2.2.2.2.1, ⟨hk.1.2.2.2.2.2.2.1, ⟨hk.1.2.2.2.2.2.2.2.1, ⟨hk.1.2.2.2.2.2.2.2.2.1, ⟨hk.1.2.2.2.2.2.2.2.2.2.1, ⟨hk.1.2.2.2.2.2.2.2.2.2.2.1, ⟨hk.1.2.2.2.2.2.2.2.2.2.2.2, hk.2⟩⟩⟩⟩⟩⟩⟩⟩⟩⟩⟩⟩)⟩, ⟨Kd.S_mono (sp_ L.1) (fun _ hk => ⟨hk.1.1, ⟨hk.1.2.1, ⟨hk.1.2.2.1, ⟨hk.1.2.2.2.1, ⟨hk.1.2.2.2.2.1, ⟨hk.1.2.2.2.2.2.1, ⟨hk.1.2.2.2.2.2.2.1, ⟨hk.1.2.2.2.2.2.2.2.1, ⟨hk.1.2.2.2.2.2.2.2.2.1, ⟨hk.1.2.2.2.2.2.2.2.2.2.1, ⟨hk.1.2.2.2.2.2.2.2.2.2.2, hk.2⟩⟩⟩⟩⟩⟩⟩⟩⟩⟩⟩)⟩, ⟨Kd.R_mono (rp_ gb.1) (fun _ hk => ⟨hk.1.1, ⟨hk.1.2, hk.2⟩⟩)⟩, ⟨rp_ ib.1⟩, ⟨bq_ a.1⟩, ⟨bq_ b.1⟩, ⟨bq_ d.1⟩, ⟨bq_ l.1⟩, ⟨bq_ g.1⟩, ⟨bq_ da.1⟩, ⟨bq_ X.1⟩, ⟨hs_ HB.1⟩⟩
     case round =>
      as_aux_lemma =>
      clear H'
      try clear c1
      try clear c2
      try clear p2
      try clear p6
      try clear Ap
      try clear Bp
      try clear mr
      try clear ue
      try clear nr
      try clear tn
      try clear un
      try clear le
      try clear He
      try clear Ie
      try clear vn
      try clear qq
      try clear rq
      try clear sq
      try clear tq
      try clear uq
      try clear vq
      try clear wq
      try clear xq
      try clear yq
      try clear zq
      try clear Aq
      try clear Bq
      try clear Cq
      try clear Dq
      try clear Eq
      try clear Je Ke Le Me Ne Oe
      try clear p2
      try clear p6
      try clear tn
      obtain ⟨bb, rfl, HA, xn, sa, Ya, y, O, P, q, L, gb, ib, a, b, d, l, g, da, X, HB⟩ := hrel
      cases gk with
      | zero => exact absurd HA.1 (by simp [laws_FnParts.l0])
      | succ k3 =>
       as_aux_lemma =>
       have H := HA.1
       clear HA
       simp only [laws_FnParts.l0] at H
       replace H := ie_ H; rcases H with ⟨me, H⟩ | ⟨me, H⟩
       ·
        as_aux_lemma =>
        have Sk := decide_eq_true me
        clear me
        replace H := id_ H; obtain ⟨qo, H⟩ := H
        replace H := bi_ H; obtain ⟨Dp, zn, H⟩ := H
        replace H := if_ H; obtain ⟨rfl, H⟩ := H
        have H' := M_ H
        clear H
        obtain ⟨Ep, Fp, Jm⟩ := Kd.S_slice Ya.1
        subst Jm
        obtain ⟨Xd, Yd⟩ : 0 ≤ (bb : Int) ∧ bb < (nb.length : Int) := pq_
        obtain ⟨ro, Xe, Ye, Km, Pe, Rm, Sm, Tm, yd, zd⟩ := at_T29 (Kd.S_reads' Ya.1).2.2 bb Xd Yd
        cases Km
        obtain ⟨so, Ze, af, ne⟩ := Kd.S_get Ya.1 z29 bb Xd (by first | exact Yd | exact of_decide_eq_true (by with_reducible assumption) | (have e_ := (Kd.S_reads' Ya.1).1; omega))
        obtain ⟨Um, rfl, fd⟩ := k29_openM af
        have bc := ne 0 _ rfl
        rw [Nat.add_zero] at bc
        replace bc := Option.some.inj (bc.symm.trans Pe)
        rw [bc] at fd
        have Ad := M_ (show Kd.R k99 99 _ _ _ _ ((rd_T29 nb bb).f0) from fd)
        clear bc fd ne Ze
        have cc := M_ zd
        have Qe := M_ yd
        clear zd yd
        replace Xd := eq_true Xd; replace Yd := eq_true Yd
        go_wp2_with (first | ((with_reducible refine gate_callee (f := 26) rfl ?_); refine gl_ (some 211) Tryz.func26 #[.agg #[.slice Xe ((rd_T29 nb bb).f0).length Ye, .int .i64 ((rd_T29 nb bb).f1), .int .i64 ((rd_T29 nb bb).f2), .string ((rd_T29 nb bb).f3)], .int .i64 Vb] ?_; (with_reducible refine (impl_Over.calls _ _ ((rd_T29 nb bb).f0) ((rd_T29 nb bb).f1) ((rd_T29 nb bb).f2) ((rd_T29 nb bb).f3) Vb false _ ?side1 ?side2 zn.1).mono ?_); (case side1 => repeat (first | exact (by repeat (first | (with_reducible exact cc.1) | (with_reducible first | refine ca_ ?_ _ | refine cn_ ?_ _ | refine cd_ ?_) | exact cc.1)) | (with_reducible first | refine ca_ ?_ _ | refine cn_ ?_ _ | refine cd_ ?_))); (case side2 => exact Qe.1); rintro e Fq ⟨rfl, hb⟩; refine ⟨_, rfl, ?_⟩; obtain ⟨sa, Ya, y, O, P, q, L, gb, ib, Ad⟩ := u10_ hb sa Ya y O P q L gb ib Ad; obtain ⟨a, b, d, l, g, da, X⟩ := u7_ hb a b d l g da X; replace cc := M_ (Kd.C_below (by repeat (first | (with_reducible exact cc.1) | (with_reducible first | refine ca_ ?_ _ | refine cn_ ?_ _ | refine cd_ ?_) | exact cc.1)) hb); replace HB := st_ HB hb; (try clear hb)))
        go_roundg k3
        case measure => have := HJ29.1; have := HJ178.1; have := xn.1; omega
        case rel => exact ⟨(wrap64 (bb + 1)), rs_, H', ⟨by have := HJ29.1; have := HJ178.1; have := xn.1; omega⟩, ⟨sp_ sa.1⟩, ⟨sp_ Ya.1⟩, ⟨rp_ y.1⟩, ⟨rp_ O.1⟩, ⟨rp_ P.1⟩, ⟨sp_ q.1⟩, ⟨sp_ L.1⟩, ⟨rp_ gb.1⟩, ⟨rp_ ib.1⟩, ⟨bq_ a.1⟩, ⟨bq_ b.1⟩, ⟨bq_ d.1⟩, ⟨bq_ l.1⟩, ⟨bq_ g.1⟩, ⟨bq_ da.1⟩, ⟨bq_ X.1⟩, ⟨hs_ HB.1⟩⟩
       have Sk : decide (bb < (nb.length : Int)) = false := decide_eq_false me
       clear me
       replace H := bi_ H; obtain ⟨Be, An, H⟩ := H
       replace H := in_ H; obtain ⟨bf, H⟩ := H
       have uo : ((wrap64 ((nb.length : Int) + (ab.length : Int))) == (Be.length : Int)) = true := beq_iff_eq.mpr bf
       have vo : ((wrap64 ((nb.length : Int) + (ab.length : Int))) != (Be.length : Int)) = false := bne_eq_false_iff_eq.mpr bf
       clear bf
       replace H := in_ H; obtain ⟨oe, H⟩ := H
       have wo : ((Za != Qa) == (decide ((ab.length : Int) > 0))) = true := oe
       (try (have xo : decide ((Za != Qa) = (decide ((ab.length : Int) > 0))) = true := by simpa using oe))
       (try (have yo : (Za != Qa) = decide (0 < ab.length) := by simpa using oe))
       (try (have zo : ((Za != Qa) == (decide ((ab.length : Int) > 0))) = true := by simpa using oe))
       clear oe
       replace H := bi_ H; obtain ⟨Ce, Bn, H⟩ := H
       replace H := bi_ H; obtain ⟨De, Cn, H⟩ := H
       replace H := bi_ H; obtain ⟨Lm, Dn, H⟩ := H
       obtain rfl := Option.some.inj H
       obtain ⟨Gp, Hp, Mm⟩ := Kd.S_slice Ya.1
       subst Mm
       try go_wp2
       obtain ⟨sa, Ya, q, a, b, d, l, g, da, X⟩ := y10_ sa Ya q a b d l g da X
       replace HB := db_ HB
       refine start_ (n := 28) (S := fun w' => c_ w' uc 0 (.int .i64 Wa) ∧ c_ w' uc 1 (.int .i64 Qa) ∧ c_ w' uc 2 (.slice ac Ia.length Nb) ∧ c_ w' Ib 0 (.int .i64 ub) ∧ c_ w' Ib 1 (.int .i64 Za) ∧ c_ w' Ib 2 (.slice Ob Ua.length Pb)) (ds := []) (b_ 0 28) (by kernel_rfl) rfl rfl (f3_ l.1 (e3_ g.1)) (fun wa => ?_); refine with_tabW laws_FnParts.tab26 laws_FnParts.bits26 (fun Aa Rb => ?_)
       generalize wr.drew = Gq at sa Ya q a b d l g da X HB wa ⊢
       iterate 5 refine p_ Aa ?_
       refine t0_ Aa Rb wa ?_
       refine o1_ 6 (b_ 7 21) Aa (fun K hK => ?_)
       refine gs_ Tryz.func25 #[.agg #[.int .i64 Wa, .int .i64 Qa, .slice ac Ia.length Nb]] ?_
       with_reducible refine (impl_AlarmsIn.calls k3 Wa Qa _ _ Ia Be _ ?_ ?_ An.1).mono ?_
       exact cp_ ((Kd.S_reads' q.1).2.2)
       exact (Kd.S_reads' q.1).2.1
       rintro e Hq ⟨Ip, rfl, Ba, hb⟩
       refine ⟨_, rfl, ?_⟩
       obtain ⟨En, qd⟩ := Kd.S_name Ba
       replace sa := su_ qd (sp_ sa.1) hb
       replace Ya := su_ qd (sp_ Ya.1) hb
       replace q := su_ qd (sp_ q.1) hb
       have gc := M_ (Kd.S_lower (Kd.S_newB (Kd.S_newB (Kd.S_newB (Kd.S_newB (Kd.S_newB (Kd.S_gez qd Ba) (pb_ a.1)) (pb_ b.1)) (pb_ d.1)) (pb_ da.1)) (pb_ X.1)) (below_size (hs_ HB.1)))
       obtain ⟨a, b, d, l, g, da, X, HB⟩ := u8_ hb a b d l g da X HB
       (try clear hb Ba)
       obtain ⟨Jp, Kp, cf⟩ := Kd.S_slice gc.1
       (first | subst cf | (obtain ⟨rfl, rfl⟩ := si_ cf))
       refine ho_ hK (f3_ l.1 (e3_ g.1)) (fun wa => ?_)
       as_aux_lemma =>
       iterate 4 refine p_ Aa ?_
       refine qw_ 12 (m_ 28 6143) Aa ?_
       refine qw_ 15 (m_ 28 38911) Aa ?_
       refine qw_ 16 (m_ 28 104447) Aa ?_
       refine qw_ 17 (m_ 28 235519) Aa ?_
       refine qt_ 11 (m_ 28 237567) Aa Rb wa ?_
       refine qt_ 13 (m_ 28 245759) Aa Rb wa ?_
       refine qw_ 14 (b_ 18 10) Aa ?_
       iterate 3 refine p_ Aa ?_
       refine t0_ Aa Rb wa ?_
       refine qt_ 23 (m_ 28 12582911) Aa Rb wa ?_
       refine o1_ 22 (b_ 24 4) Aa (fun K hK => ?_)
       refine gs_ Tryz.func25 #[.agg #[.int .i64 Wa, .int .i64 Qa, .slice ac Ia.length Nb]] ?_
       with_reducible refine (impl_AlarmsIn.calls k3 Wa Qa _ _ Ia Ce _ ?_ ?_ Bn.1).mono ?_
       exact cp_ ((Kd.S_reads' q.1).2.2)
       exact (Kd.S_reads' q.1).2.1
       rintro e Iq ⟨Lp, rfl, Ba, hb⟩
       refine ⟨_, rfl, ?_⟩
       obtain ⟨Fn, Vc⟩ := Kd.S_name Ba
       replace sa := su_ Vc (sp_ sa.1) hb
       replace Ya := su_ Vc (sp_ Ya.1) hb
       replace q := su_ Vc (sp_ q.1) hb
       replace gc := su_ Vc (sp_ gc.1) hb
       have hc := M_ (Kd.S_lower (Kd.S_newB (Kd.S_newB (Kd.S_newB (Kd.S_newB (Kd.S_newB (Kd.S_gez Vc Ba) (pb_ a.1)) (pb_ b.1)) (pb_ d.1)) (pb_ da.1)) (pb_ X.1)) (below_size (hs_ HB.1)))
       obtain ⟨a, b, d, l, g, da, X, HB⟩ := u8_ hb a b d l g da X HB
       (try clear hb Ba)
       refine ho_ hK (f3_ l.1 (e3_ g.1)) (fun wa => ?_)
       as_aux_lemma =>
       refine o1_ 24 (b_ 25 3) Aa (fun K hK => ?_)
       refine gs_ Tryz.func27 #[.agg #[.int .i64 Wa, .int .i64 Qa, .slice ac Ia.length Nb]] ?_
       with_reducible refine (spec_AlarmsIn.calls k3 Wa Qa _ _ Ia De _ ?_ ?_ Cn.1).mono ?_
       exact cp_ ((Kd.S_reads' q.1).2.2)
       exact (Kd.S_reads' q.1).2.1
       rintro e Jq ⟨Mp, rfl, Ba, hb⟩
       refine ⟨_, rfl, ?_⟩
       obtain ⟨Gn, vc⟩ := Kd.S_name Ba
       replace sa := su_ vc (sp_ sa.1) hb
       replace Ya := su_ vc (sp_ Ya.1) hb
       replace q := su_ vc (sp_ q.1) hb
       replace gc := su_ vc (sp_ gc.1) hb
       replace hc := su_ vc (sp_ hc.1) hb
       have Wc := M_ (Kd.S_lower (Kd.S_newB (Kd.S_newB (Kd.S_newB (Kd.S_newB (Kd.S_newB (Kd.S_gez vc Ba) (pb_ a.1)) (pb_ b.1)) (pb_ d.1)) (pb_ da.1)) (pb_ X.1)) (below_size (hs_ HB.1)))
       obtain ⟨a, b, d, l, g, da, X, HB⟩ := u8_ hb a b d l g da X HB
       (try clear hb Ba)
       obtain ⟨Nm, Om, df⟩ := Kd.S_slice hc.1
       (first | subst df | (obtain ⟨rfl, rfl⟩ := si_ df))
       obtain ⟨Pm, Qm, ef⟩ := Kd.S_slice Wc.1
       (first | subst ef | (obtain ⟨rfl, rfl⟩ := si_ ef))
       refine ho_ hK (f3_ l.1 (e3_ g.1)) (fun wa => ?_)
       as_aux_lemma =>
       refine o1_ 25 (b_ 26 2) Aa (fun K hK => ?_)
       refine gs_ Tryz.func20 #[.slice Nm Ce.length Om, .slice Pm De.length Qm] ?_
       with_reducible refine (laws_sameList.calls k3 _ _ Ce _ _ De Lm _ ?_ ?_ ?_ ?_ Dn.1).mono ?_
       exact cp_ ((Kd.S_reads' hc.1).2.2)
       exact (Kd.S_reads' hc.1).2.1
       exact cp_ ((Kd.S_reads' Wc.1).2.2)
       exact (Kd.S_reads' Wc.1).2.1
       rintro e Kq ⟨rfl, hb⟩
       refine ⟨_, rfl, ?_⟩
       obtain ⟨sa, Ya, q, gc, hc, Wc, a, b, d, l⟩ := u10_ hb sa Ya q gc hc Wc a b d l
       obtain ⟨g, da, X, HB⟩ := u4_ hb g da X HB
       (try clear hb)
       refine ho_ hK (f3_ l.1 (e3_ g.1)) (fun wa => ?_)
       iterate 2 refine p_ Aa ?_
       refine done_ (done_of Aa.1 (by kernel_rfl)) ?_
       try go_wp2
       go_ret
       exact an_ (hs_ HB.1)
/-- THE ONE PURE STATEMENT of laws_FnParts: yours. -/
def laws_FnParts.Pure : Prop := ∀ (l0 : List Int), l0.length ≤ maxLen → l0.length * 1 ≤ 140737488351232 → (∀ x ∈ l0, (Lit.int .u8 x).wf = true) → ∃ k, laws_FnParts.f k l0 = some true
theorem laws_FnParts.walk (P : laws_FnParts.Pure) (a : Option Addr) (len0 cap0 : Nat) (z0 : List Int) (w : World) (j : (a = none ∧ len0 = 0 ∧ cap0 = 0 ∧ z0 = []) ∨ ∃ x, a = some x ∧ len0 ≤ cap0 ∧ cap0 ≤ maxLen ∧ z0.length = cap0 ∧ (∀ i, i < z0.length → w.cell? (x.add i) = some (.int .u8 (z0.getD i 0))) ∧ ∀ n ∈ z0, (Lit.int .u8 n).wf = true) (l : len0 * 1 ≤ 140737488351232) :
  Calls Tryz.prog 3 #[.slice a len0 cap0] w fun e w' => e = .returned (.bool true) ∧ Below w.heap.size w w' := by
 obtain ⟨g, rfl, b, hm0, c, f⟩ := ReadsInt.ofRowC j
 obtain ⟨k, h⟩ := P g hm0 l c
 refine (laws_FnParts.calls k _ _ g true w (Kd.C_of_reads (d := (0 : Int)) (h1 := fun _ => rfl) b) f h).mono ?_
 rintro e w' ⟨rfl, hd⟩
 exact ⟨rfl, hd⟩
end Go.Proofs.YtanfohlpkppeiaaGreat.Print
end
section
namespace Go.Proofs.YtanfohlpkppeiaaGreat.Print
open Go.RowKit Go.Proofs.YtanfohlpkppeiaaGreatV.PrintWords Go.Proofs.YtanfohlpkppeiaaGreatV.PrintLast Go.Proofs.YtanfohlpkppeiaaGreatV.PrintMore
set_option linter.unusedVariables false
set_option linter.unusedSimpArgs false
theorem wrap_id {x : Int} (h1 : -9223372036854775808 ≤ x) (h2 : x ≤ 9223372036854775807) : wrap64 x = x := by unfold wrap64; omega
theorem wrap_up (n : Nat) (h : n < 9223372036854775807) : wrap64 ((n : Int) + 1) = ((n + 1 : Nat) : Int) := by unfold wrap64; omega
theorem lt_mid {α : Type} (pre suf : List α) (y : α) : (pre.length : Int) < ((pre ++ y :: suf).length : Int) := by simp only [List.length_append, List.length_cons]; omega
theorem not_lt_end {α : Type} (pre : List α) : ¬ ((pre.length : Int) < ((pre ++ []).length : Int)) := by simp
theorem nn (n : Nat) : (0 : Int) ≤ (n : Int) := by omega
theorem mid_assoc {α : Type} (pre suf : List α) (y : α) : pre ++ y :: suf = (pre ++ [y]) ++ suf := by simp
/-- A loop that goes on or stops with an answer. -/
def scan {ρ : Type} (step : Nat → Option ρ) (fin : ρ) : Nat → Nat → ρ
  | 0, _ => fin
  | d + 1, i => match step i with
    | some r => r
    | none => scan step fin d (i + 1)
/-- What one round does. -/
def goOn {ρ : Type} (o : Option ρ) (next : Option ρ) : Option ρ := match o with
  | some r => some r
  | none => next
theorem scan_ev2 {ρ : Type} {F : Nat → Int → Option ρ} {n : Nat} {step : Nat → Option ρ} {fin : ρ} (hend : ∃ K, ∀ k, K ≤ k → F (k + 1) (n : Int) = some fin)
    (hstep : ∀ i, i < n → ∃ K, ∀ k, K ≤ k → F (k + 1) (i : Int) = goOn (step i) (F k ((i + 1 : Nat) : Int))) : ∀ d i, d + i = n → Ev (fun k => F k (i : Int)) (scan step fin d i)
  | 0, i, h => by
    obtain rfl : i = n := by omega
    obtain ⟨K, hK⟩ := hend
    refine ⟨K + 1, fun k hk => ?_⟩
    obtain ⟨m, rfl⟩ : ∃ m, k = m + 1 := ⟨k - 1, by omega⟩
    exact hK m (by omega)
  | d + 1, i, h => by
    obtain ⟨K, hK⟩ := hstep i (by omega)
    unfold scan
    cases hs : step i with
    | some r =>
      refine ⟨K + 1, fun k hk => ?_⟩
      obtain ⟨m, rfl⟩ : ∃ m, k = m + 1 := ⟨k - 1, by omega⟩
      have := hK m (by omega)
      rw [hs] at this
      exact this
    | none =>
      obtain ⟨K', hK'⟩ := scan_ev2 hend hstep d (i + 1) (by omega)
      refine ⟨max K K' + 1, fun k hk => ?_⟩
      obtain ⟨m, rfl⟩ : ∃ m, k = m + 1 := ⟨k - 1, by omega⟩
      have := hK m (by omega)
      rw [hs] at this
      exact this.trans (hK' m (by omega))
theorem scan_ev {ρ : Type} {F : Nat → Int → Option ρ} {n : Nat} {step : Nat → Option ρ} {fin : ρ} (hend : ∀ k, F (k + 1) (n : Int) = some fin)
    (hstep : ∀ i, i < n → ∃ K, ∀ k, K ≤ k → F (k + 1) (i : Int) = goOn (step i) (F k ((i + 1 : Nat) : Int))) : ∀ d i, d + i = n → Ev (fun k => F k (i : Int)) (scan step fin d i) := scan_ev2 ⟨0, fun k _ => hend k⟩ hstep
theorem scan_congr {ρ : Type} {s s' : Nat → Option ρ} {f : ρ} : ∀ d i, (∀ j, i ≤ j → j < i + d → s j = s' j) → scan s f d i = scan s' f d i
  | 0, _, _ => rfl
  | d + 1, i, h => by
    unfold scan
    rw [h i (Nat.le_refl _) (by omega)]
    cases s' i with
    | some r => rfl
    | none => exact scan_congr d (i + 1) (fun j h1 h2 => h j (by omega) (by omega))
/-- Two lists of one length, element by element. -/
theorem scan_same {α β : Type} [DecidableEq β] (f : α → β) (z : α) : ∀ (a b pa pb : List α), a.length = b.length → pa.length = pb.length →
    scan (fun i => if f ((pa ++ a).getD i z) = f ((pb ++ b).getD i z) then none else some false) true a.length pa.length = decide (a.map f = b.map f)
  | [], [], pa, pb, _, _ => by simp [scan]
  | [], _ :: _, _, _, h, _ => by simp at h
  | _ :: _, [], _, _, h, _ => by simp at h
  | x :: a, y :: b, pa, pb, h, h2 => by
    have ih := scan_same f z a b (pa ++ [x]) (pb ++ [y]) (by simpa using h) (by simp [h2])
    simp only [List.append_assoc, List.singleton_append, List.length_append, List.length_singleton] at ih
    simp only [List.length_cons, scan]
    rw [show (pa ++ x :: a).getD pa.length z = x by simp, show (pb ++ y :: b).getD pa.length z = y by rw [h2]; simp]
    by_cases he : f x = f y
    · simp only [if_pos he]; rw [ih]; simp [he]
    · simp [he]
theorem scan_same0 {α β : Type} [DecidableEq β] (f : α → β) (z : α) (a b : List α) (h : a.length = b.length) : scan (fun i => if f (a.getD i z) = f (b.getD i z) then none else some false) true a.length 0 = decide (a.map f = b.map f) := scan_same f z a b [] [] h rfl
/-- The place of the first that is so, or -1. -/
def place {α : Type} (p : α → Bool) : List α → Nat → Int
  | [], _ => -1
  | x :: l, i => if p x = true then (i : Int) else place p l (i + 1)
theorem scan_place {α : Type} (p : α → Bool) (z : α) : ∀ (suf pre : List α), scan (fun i => if p ((pre ++ suf).getD i z) = true then some (i : Int) else none) (-1) suf.length pre.length = place p suf pre.length
  | [], pre => by simp [scan, place]
  | y :: suf, pre => by
    have ih := scan_place p z suf (pre ++ [y])
    simp only [List.append_assoc, List.singleton_append, List.length_append, List.length_singleton] at ih
    simp only [List.length_cons, scan, place]
    rw [show (pre ++ y :: suf).getD pre.length z = y by simp]
    by_cases hp : p y = true
    · simp [hp]
    · simp only [if_neg hp]; exact ih
theorem scan_place0 {α : Type} (p : α → Bool) (z : α) (l : List α) : scan (fun i => if p (l.getD i z) = true then some (i : Int) else none) (-1) l.length 0 = place p l 0 := scan_place p z l []
theorem getD_eq {α : Type} (l : List α) (i : Nat) (z : α) (h : i < l.length) : l.getD i z = l[i] := by simp [List.getD_eq_getElem?_getD, List.getElem?_eq_getElem h]
theorem getD_mem {α : Type} (l : List α) (i : Nat) (z : α) (h : i < l.length) : l.getD i z ∈ l := by rw [getD_eq l i z h]; exact List.getElem_mem h
def WiLabel (x : S99) : Prop := x.f0.size ≤ 4000000 ∧ x.f1.size ≤ 4000000
def WiAlarm (x : S29) : Prop := (x.f0.length ≤ 4000000 ∧ ∀ y ∈ x.f0, WiLabel y) ∧ True ∧ True ∧ x.f3.size ≤ 4000000
theorem and_top (x : Int) (m : Nat) (hm : m < 9223372036854775808) : 0 ≤ Go.bits .and .i64 x (m : Int) ∧ Go.bits .and .i64 x (m : Int) ≤ m := by
  have h1 : (BitVec.ofInt 64 x &&& BitVec.ofInt 64 (m : Int)).toNat ≤ m := by
    rw [BitVec.toNat_and]
    refine Nat.le_trans Nat.and_le_right ?_
    rw [BitVec.ofInt_natCast, BitVec.toNat_ofNat]
    exact Nat.mod_le _ _
  have h2 : Go.bits .and .i64 x (m : Int) = ((BitVec.ofInt 64 x &&& BitVec.ofInt 64 (m : Int)).toNat : Int) := by
    show IntKind.i64.wrap ((BitVec.ofInt 64 x &&& BitVec.ofInt 64 (m : Int)).toNat : Int) = _
    rw [IntKind.wrap_i64]
    omega
  rw [h2]; omega
theorem dNew_l0 (l : List Int) (hl : l.length ≤ 1048576) : ∀ (n i : Nat) (h : Int), l.length ≤ i + n → ∃ s, Ev (fun k => spec_l1New.l0 k l h (i : Int)) (l, 0, s)
  | 0, i, h, hn => ⟨h, 1, fun k hk => by
    obtain ⟨k, rfl⟩ : ∃ m, k = m + 1 := ⟨k - 1, by omega⟩
    simp only [spec_l1New.l0]; rw [if_neg (by omega)]⟩
  | n + 1, i, h, hn => by
    by_cases c : (i : Int) < (l.length : Int)
    · by_cases c2 : (i : Int) < 4000
      · obtain ⟨s, K, g⟩ := dNew_l0 l hl n (i + 1) (Go.bits .and .i64 (wrap64 ((wrap64 ((wrap64 (h * 137)) + (wrap64 (rd l (i : Int))))) + 11)) 1073741823) (by omega)
        refine ⟨s, K + 1, fun k hk => ?_⟩
        obtain ⟨k, rfl⟩ : ∃ m, k = m + 1 := ⟨k - 1, by omega⟩
        have e := g k (by omega)
        simp only at e
        simp only [spec_l1New.l0]
        rw [if_pos c, if_pos c2, if_pos (by omega), wrap_up i (by omega), e]
      · refine ⟨h, 1, fun k hk => ?_⟩
        obtain ⟨k, rfl⟩ : ∃ m, k = m + 1 := ⟨k - 1, by omega⟩
        simp only [spec_l1New.l0]; rw [if_pos c, if_neg c2]
    · refine ⟨h, 1, fun k hk => ?_⟩
      obtain ⟨k, rfl⟩ : ∃ m, k = m + 1 := ⟨k - 1, by omega⟩
      simp only [spec_l1New.l0]; rw [if_neg c]
theorem dNew (l : List Int) (hl : l.length ≤ 1048576) : ∃ s, Ev (fun k => spec_l1New.f k l) (l, 0, s) := by
  obtain ⟨s, g⟩ := dNew_l0 l hl l.length 0 (wrap64 (140873 + (l.length : Int))) (by omega)
  exact ⟨s, g⟩
section
variable (l : List Int) (hl : l.length ≤ 1048576)
include hl
theorem dByte (p s : Int) (hp : 0 ≤ p) : ∃ v p' s', spec_l1Byte.f l p s = some (v, p', s') ∧ 0 ≤ p' ∧ 0 ≤ v ∧ v < 256 := by
  unfold spec_l1Byte.f
  have a1 := fun x => and_top x 255 (by decide)
  by_cases c : p < (l.length : Int)
  · rw [if_pos c, if_pos hp]
    refine ⟨_, _, _, rfl, by rw [wrap_id (by omega) (by omega)]; omega, (a1 _).1, by have := (a1 (wrap64 ((Go.bits .and .i64 (Go.bits .xor .i64 ((wrap64 ((wrap64 (s * 6364136223846793005)) + 1442695040888963407)) / 8589934592) ((wrap64 ((wrap64 (s * 6364136223846793005)) + 1442695040888963407)) / 140737488355328)) 255) + (wrap64 (rd l p))))).2; exact Int.lt_of_le_of_lt this (by decide)⟩
  · rw [if_neg c]
    exact ⟨_, _, _, rfl, hp, (a1 _).1, Int.lt_of_le_of_lt (a1 _).2 (by decide)⟩
theorem dBelow (p s a : Int) (hp : 0 ≤ p) (h0 : 0 < a) (h1 : a ≤ 256) : ∃ v p' s', spec_l1Below.f l p s a = some (v, p', s') ∧ 0 ≤ p' ∧ 0 ≤ v ∧ v < a := by
  obtain ⟨v, p', s', e, q, v0, _⟩ := dByte l hl p s hp
  refine ⟨Int.tmod v a, p', s', ?_, q, Int.tmod_nonneg _ v0, Int.tmod_lt_of_pos _ h0⟩
  simp only [spec_l1Below.f]
  rw [if_neg (by omega), if_pos h1, e, Option.bind_some, if_neg (by omega)]
theorem dOnce (p s a : Int) (hp : 0 ≤ p) (h0 : 0 < a) (h1 : a ≤ 256) : ∃ v p' s', spec_l1Once.f l p s a = some (v, p', s') ∧ 0 ≤ p' := by
  obtain ⟨v, p', s', e, q, _, _⟩ := dBelow l hl p s a hp h0 h1
  exact ⟨v == 0, p', s', by simp only [spec_l1Once.f, e, Option.bind_some], q⟩
end
section
variable (l : List Int) (hl : l.length ≤ 1048576)
include hl
theorem dStr (p s : Int) (m : List ByteArray) (hp : 0 ≤ p) (h0 : 0 < m.length) (h1 : m.length ≤ 256) : ∃ v p' s', spec_l1Str.f l p s m = some (v, p', s') ∧ 0 ≤ p' ∧ v ∈ m := by
  obtain ⟨v, p', s', e, q, v0, v1⟩ := dBelow l hl p s (m.length : Int) hp (by omega) (by omega)
  refine ⟨rdOf ByteArray.empty m v, p', s', ?_, q, ?_⟩
  · simp only [spec_l1Str.f, e, Option.bind_some]
    rw [if_pos v0, if_pos v1]
  · show m.getD v.toNat _ ∈ m
    exact getD_mem m v.toNat _ (by omega)
theorem dInt (p s : Int) (m : List Int) (hp : 0 ≤ p) (h0 : 0 < m.length) (h1 : m.length ≤ 256) : ∃ v p' s', spec_l1Int.f l p s m = some (v, p', s') ∧ 0 ≤ p' ∧ v ∈ m := by
  obtain ⟨v, p', s', e, q, v0, v1⟩ := dBelow l hl p s (m.length : Int) hp (by omega) (by omega)
  refine ⟨rd m v, p', s', ?_, q, ?_⟩
  · simp only [spec_l1Int.f, e, Option.bind_some]
    rw [if_pos v0, if_pos v1]
  · show m.getD v.toNat _ ∈ m
    exact getD_mem m v.toNat _ (by omega)
/-- A short list of labels. -/
def ShortL (n : Nat) (x : List S99) : Prop := x.length ≤ n ∧ ∀ y ∈ x, WiLabel y
theorem dLabels_l0 (m : List ByteArray) (hm : ∀ v ∈ m, v.size ≤ 4000000) (hm2 : m.length ≤ 100) : ∀ (n i : Nat) (x : List S99) (p s : Int), 0 ≤ p → m.length ≤ i + n → x.length + n ≤ 100 → (∀ y ∈ x, WiLabel y) →
    ∃ r p' s', Ev (fun k => spec_l2Draw.l0 k x m (m.length : Int) (i : Int) l p s) (r, p', s') ∧ 0 ≤ p' ∧ ShortL (x.length + n) r ∧ x.length ≤ r.length
  | 0, i, x, p, s, hp, hi, hx, hw => ⟨x, p, s, ⟨1, fun k hk => by
    obtain ⟨k, rfl⟩ : ∃ j, k = j + 1 := ⟨k - 1, by omega⟩
    simp only [spec_l2Draw.l0]; rw [if_neg (by omega)]⟩, hp, ⟨by omega, hw⟩, Nat.le_refl _⟩
  | n + 1, i, x, p, s, hp, hi, hx, hw => by
    by_cases c : (i : Int) < (m.length : Int)
    · obtain ⟨v, p1, s1, e1, q1⟩ := dOnce l hl p s 4 hp (by decide) (by decide)
      cases v with
      | true =>
        obtain ⟨u, p2, s2, e2, q2, u2⟩ := dStr l hl p1 s1 [(⟨#[49]⟩ : ByteArray), (⟨#[50]⟩ : ByteArray)] q1 (by decide) (by decide)
        obtain ⟨r, p', s', ⟨K, g⟩, q, w, w2⟩ := dLabels_l0 m hm hm2 n (i + 1) (x ++ [(⟨rdOf ByteArray.empty m (i : Int), u⟩ : S99)]) p2 s2 q2 (by omega) (by simp only [List.length_append, List.length_singleton]; omega) (fun y hy => by
          rcases List.mem_append.1 hy with h | h
          · exact hw y h
          · rw [List.mem_singleton.1 h]
            refine ⟨hm _ ?_, ?_⟩
            · show m.getD (i : Int).toNat _ ∈ m
              exact getD_mem m _ _ (by omega)
            · exact (show ∀ v ∈ [(⟨#[49]⟩ : ByteArray), (⟨#[50]⟩ : ByteArray)], v.size ≤ 4000000 by decide) u u2)
        refine ⟨r, p', s', ⟨K + 1, fun k hk => ?_⟩, q, ⟨by have := w.1; simp only [List.length_append, List.length_singleton] at this; omega, w.2⟩, by simp only [List.length_append, List.length_singleton] at w2; omega⟩
        obtain ⟨k, rfl⟩ : ∃ j, k = j + 1 := ⟨k - 1, by omega⟩
        have e := g k (by omega)
        simp only at e
        simp only [spec_l2Draw.l0]
        rw [if_pos c, if_pos (by omega), if_pos c, e1]
        simp only [Option.bind_some, if_true]
        rw [e2]
        simp only [Option.bind_some]
        rw [if_pos (by omega), wrap_up i (by omega), e]
      | false =>
        obtain ⟨r, p', s', ⟨K, g⟩, q, w, w2⟩ := dLabels_l0 m hm hm2 n (i + 1) x p1 s1 q1 (by omega) (by omega) hw
        refine ⟨r, p', s', ⟨K + 1, fun k hk => ?_⟩, q, ⟨by have := w.1; omega, w.2⟩, w2⟩
        obtain ⟨k, rfl⟩ : ∃ j, k = j + 1 := ⟨k - 1, by omega⟩
        have e := g k (by omega)
        simp only at e
        simp only [spec_l2Draw.l0]
        rw [if_pos c, if_pos (by omega), if_pos c, e1]
        simp only [Option.bind_some, Bool.false_eq_true, if_false]
        rw [wrap_up i (by omega), e]
    · refine ⟨x, p, s, ⟨1, fun k hk => ?_⟩, hp, ⟨by omega, hw⟩, Nat.le_refl _⟩
      obtain ⟨k, rfl⟩ : ∃ j, k = j + 1 := ⟨k - 1, by omega⟩
      simp only [spec_l2Draw.l0]; rw [if_neg c]
theorem dLabels (p s : Int) (hp : 0 ≤ p) : ∃ r p' s', Ev (fun k => spec_l2Draw.f k l p s) (r, p', s') ∧ 0 ≤ p' ∧ ShortL 4 r ∧ 1 ≤ r.length := by
  obtain ⟨u, p1, s1, e1, q1, u1⟩ := dStr l hl p s [(⟨#[97]⟩ : ByteArray), (⟨#[98]⟩ : ByteArray), (⟨#[99]⟩ : ByteArray)] hp (by decide) (by decide)
  have hu := (show ∀ v ∈ [(⟨#[97]⟩ : ByteArray), (⟨#[98]⟩ : ByteArray), (⟨#[99]⟩ : ByteArray)], v.size ≤ 4000000 by decide) u u1
  obtain ⟨r, p', s', ⟨K, g⟩, q, w, w2⟩ := dLabels_l0 l hl [(⟨#[104, 111, 115, 116]⟩ : ByteArray), (⟨#[115, 101, 118]⟩ : ByteArray), (⟨#[122, 111, 110, 101]⟩ : ByteArray)] (by decide) (by decide) 3 0 [(⟨(⟨#[97, 112, 112]⟩ : ByteArray), u⟩ : S99)] p1 s1 q1 (by decide) (by simp only [List.length_singleton]; omega) (fun y hy => by
    rw [List.mem_singleton.1 hy]; exact ⟨(show (⟨#[97, 112, 112]⟩ : ByteArray).size ≤ 4000000 by decide), hu⟩)
  refine ⟨r, p', s', ⟨K, fun k hk => ?_⟩, q, w, w2⟩
  have e := g k hk
  simp only at e
  simp only [spec_l2Draw.f, e1, Option.bind_some]
  exact e
theorem dPlain (p s : Int) (hp : 0 ≤ p) : ∃ v p' s', spec_l1Plain.f l p s = some (v, p', s') ∧ 0 ≤ p' ∧ v.size ≤ 4000000 := by
  obtain ⟨u, p1, s1, e1, q1, u1⟩ := dStr l hl p s [(⟨#[97]⟩ : ByteArray), (⟨#[98]⟩ : ByteArray), (⟨#[120, 32, 121]⟩ : ByteArray), (⟨#[]⟩ : ByteArray), (⟨#[99, 114, 105, 116]⟩ : ByteArray), (⟨#[125, 45]⟩ : ByteArray)] hp (by decide) (by decide)
  refine ⟨u, p1, s1, by simp only [spec_l1Plain.f, e1, Option.bind_some], q1, ?_⟩
  exact (show ∀ v ∈ [(⟨#[97]⟩ : ByteArray), (⟨#[98]⟩ : ByteArray), (⟨#[120, 32, 121]⟩ : ByteArray), (⟨#[]⟩ : ByteArray), (⟨#[99, 114, 105, 116]⟩ : ByteArray), (⟨#[125, 45]⟩ : ByteArray)], v.size ≤ 4000000 by decide) u u1
/-- A drawn alarm. -/
def ShortA (a : S29) : Prop := a.f0.length ≤ 100 ∧ WiAlarm a
omit hl in
theorem shortA_mk {n : Nat} {r : List S99} (b c : Int) {t : ByteArray} (h : ShortL n r) (hn : n ≤ 100) (ht : t.size ≤ 4000000) : ShortA ⟨r, b, c, t⟩ :=
  ⟨Nat.le_trans h.1 hn, ⟨⟨Nat.le_trans h.1 (Nat.le_trans hn (by decide)), h.2⟩, trivial, trivial, ht⟩⟩
theorem dAlarm (p s : Int) (hp : 0 ≤ p) : ∃ (a : S29) (p' s' : Int), Ev (fun k => spec_l4Draw.f k l p s) (a.f0, a.f1, a.f2, a.f3, p', s') ∧ 0 ≤ p' ∧ ShortL 4 a.f0 ∧ 1 ≤ a.f0.length ∧ a.f3.size ≤ 4000000 := by
  obtain ⟨r, p1, s1, ⟨K, g⟩, q1, w, w2⟩ := dLabels l hl p s hp
  obtain ⟨b, p2, s2, e2, q2, _, _⟩ := dBelow l hl p1 s1 8 q1 (by decide) (by decide)
  obtain ⟨t, p3, s3, e3, q3, ht⟩ := dPlain l hl p2 s2 q2
  obtain ⟨c, p4, s4, e4, q4, _⟩ := dInt l hl p3 s3 [0, 2, 5, 20, 60] q3 (by decide) (by decide)
  refine ⟨⟨r, b, wrap64 (b + c), t⟩, p4, s4, ⟨K, fun k hk => ?_⟩, q4, w, w2, ht⟩
  have e := g k hk
  simp only at e
  simp only [spec_l4Draw.f, e, Option.bind_some, e2, e3, e4]
theorem dAnyPlain (p s : Int) (hp : 0 ≤ p) : ∃ v p' s', spec_l1AnyPlain.f l p s = some (v, p', s') ∧ 0 ≤ p' ∧ v.size ≤ 4000000 := by
  obtain ⟨v, p1, s1, e1, q1⟩ := dOnce l hl p s 2 hp (by decide) (by decide)
  cases v with
  | true =>
    obtain ⟨u, p2, s2, e2, q2, u2⟩ := dPlain l hl p1 s1 q1
    exact ⟨u, p2, s2, by simp only [spec_l1AnyPlain.f, e1, Option.bind_some, if_true, e2], q2, u2⟩
  | false =>
    obtain ⟨u, p2, s2, e2, q2, u2⟩ := dStr l hl p1 s1 [(⟨#[34]⟩ : ByteArray), (⟨#[92]⟩ : ByteArray), (⟨#[127]⟩ : ByteArray), (⟨#[31]⟩ : ByteArray), (⟨#[116, 119, 101, 108, 118, 101, 32, 98, 121, 116, 101, 115]⟩ : ByteArray), (⟨#[116, 104, 105, 114, 116, 101, 101, 110, 98, 121, 116, 101, 115]⟩ : ByteArray), (⟨#[126]⟩ : ByteArray), (⟨#[125]⟩ : ByteArray), (⟨#[44, 32, 98, 61]⟩ : ByteArray), (⟨#[125, 32, 49, 45, 50]⟩ : ByteArray)] q1 (by decide) (by decide)
    refine ⟨u, p2, s2, by simp only [spec_l1AnyPlain.f, e1, Option.bind_some, Bool.false_eq_true, if_false, e2], q2, ?_⟩
    exact (show ∀ v ∈ [(⟨#[34]⟩ : ByteArray), (⟨#[92]⟩ : ByteArray), (⟨#[127]⟩ : ByteArray), (⟨#[31]⟩ : ByteArray), (⟨#[116, 119, 101, 108, 118, 101, 32, 98, 121, 116, 101, 115]⟩ : ByteArray), (⟨#[116, 104, 105, 114, 116, 101, 101, 110, 98, 121, 116, 101, 115]⟩ : ByteArray), (⟨#[126]⟩ : ByteArray), (⟨#[125]⟩ : ByteArray), (⟨#[44, 32, 98, 61]⟩ : ByteArray), (⟨#[125, 32, 49, 45, 50]⟩ : ByteArray)], v.size ≤ 4000000 by decide) u u2
theorem dNames (p s : Int) (hp : 0 ≤ p) : ∃ v p' s', spec_l1Names.f l p s = some (v, p', s') ∧ 0 ≤ p' ∧ v.size ≤ 4000000 := by
  obtain ⟨u, p1, s1, e1, q1, u1⟩ := dStr l hl p s [(⟨#[97, 112, 112]⟩ : ByteArray), (⟨#[104, 111, 115, 116]⟩ : ByteArray), (⟨#[115, 101, 118]⟩ : ByteArray), (⟨#[122, 111, 110, 101]⟩ : ByteArray)] hp (by decide) (by decide)
  refine ⟨u, p1, s1, by simp only [spec_l1Names.f, e1, Option.bind_some], q1, ?_⟩
  exact (show ∀ v ∈ [(⟨#[97, 112, 112]⟩ : ByteArray), (⟨#[104, 111, 115, 116]⟩ : ByteArray), (⟨#[115, 101, 118]⟩ : ByteArray), (⟨#[122, 111, 110, 101]⟩ : ByteArray)], v.size ≤ 4000000 by decide) u u1
theorem dAnyName (p s : Int) (hp : 0 ≤ p) : ∃ v p' s', spec_l1AnyName.f l p s = some (v, p', s') ∧ 0 ≤ p' ∧ v.size ≤ 4000000 := by
  obtain ⟨v, p1, s1, e1, q1⟩ := dOnce l hl p s 2 hp (by decide) (by decide)
  cases v with
  | true =>
    obtain ⟨u, p2, s2, e2, q2, u2⟩ := dNames l hl p1 s1 q1
    exact ⟨u, p2, s2, by simp only [spec_l1AnyName.f, e1, Option.bind_some, if_true, e2], q2, u2⟩
  | false =>
    obtain ⟨u, p2, s2, e2, q2, u2⟩ := dStr l hl p1 s1 [(⟨#[]⟩ : ByteArray), (⟨#[65]⟩ : ByteArray), (⟨#[110, 105, 110, 101, 99, 104, 97, 114, 115]⟩ : ByteArray), (⟨#[101, 105, 103, 104, 116, 97, 98, 99]⟩ : ByteArray), (⟨#[97, 32, 98]⟩ : ByteArray), (⟨#[97, 49]⟩ : ByteArray)] q1 (by decide) (by decide)
    refine ⟨u, p2, s2, by simp only [spec_l1AnyName.f, e1, Option.bind_some, Bool.false_eq_true, if_false, e2], q2, ?_⟩
    exact (show ∀ v ∈ [(⟨#[]⟩ : ByteArray), (⟨#[65]⟩ : ByteArray), (⟨#[110, 105, 110, 101, 99, 104, 97, 114, 115]⟩ : ByteArray), (⟨#[101, 105, 103, 104, 116, 97, 98, 99]⟩ : ByteArray), (⟨#[97, 32, 98]⟩ : ByteArray), (⟨#[97, 49]⟩ : ByteArray)], v.size ≤ 4000000 by decide) u u2
omit hl in
theorem shortL_add {n m : Nat} {a b : List S99} (ha : ShortL n a) (hb : ShortL m b) : ShortL (n + m) (a ++ b) :=
  ⟨by have := ha.1; have := hb.1; simp only [List.length_append]; omega, fun y hy => (List.mem_append.1 hy).elim (ha.2 y) (hb.2 y)⟩
omit hl in
theorem shortL_one (y : S99) (h : WiLabel y) : ShortL 1 [y] := ⟨Nat.le_refl _, fun z hz => by rw [List.mem_singleton.1 hz]; exact h⟩
omit hl in
theorem shortL_up {n m : Nat} {a : List S99} (h : ShortL n a) (hm : n ≤ m) : ShortL m a := ⟨Nat.le_trans h.1 hm, h.2⟩
theorem dAnyLabels (p s : Int) (hp : 0 ≤ p) : ∃ r p' s', Ev (fun k => spec_l2Any.f k l p s) (r, p', s') ∧ 0 ≤ p' ∧ ShortL 8 r := by
  obtain ⟨r, p1, s1, ⟨K, g⟩, q1, w, w2⟩ := dLabels l hl p s hp
  obtain ⟨b, p2, s2, e2, q2, _, _⟩ := dBelow l hl p1 s1 10 q1 (by decide) (by decide)
  have lr := w.1
  have l0 : (0 : Int) < (r.length : Int) := by omega
  have m0 : WiLabel (rd_T99 r 0) := w.2 _ (getD_mem r 0 _ (by omega))
  by_cases c0 : b = 0
  · obtain ⟨t, p3, s3, e3, q3, ht⟩ := dAnyName l hl p2 s2 q2
    obtain ⟨u, p4, s4, e4, q4, hu⟩ := dAnyPlain l hl p3 s3 q3
    refine ⟨r ++ [(⟨t, u⟩ : S99)], p4, s4, ⟨K, fun k hk => ?_⟩, q4, shortL_up (shortL_add w (shortL_one _ ⟨ht, hu⟩)) (by decide)⟩
    have e := g k hk
    simp only at e
    simp only [spec_l2Any.f, e, Option.bind_some, e2, if_pos c0, e3, e4]
    rw [if_pos (by omega)]
  by_cases c1 : b = 1
  · refine ⟨[(⟨(⟨#[122, 122]⟩ : ByteArray), (⟨#[49]⟩ : ByteArray)⟩ : S99)] ++ r, p2, s2, ⟨K, fun k hk => ?_⟩, q2, shortL_up (shortL_add (shortL_one _ (by constructor <;> decide)) w) (by decide)⟩
    have e := g k hk
    simp only at e
    simp only [spec_l2Any.f, e, Option.bind_some, e2, if_neg c0, if_pos c1]
    rw [if_pos (by simp only [List.length_singleton]; omega)]
  by_cases c2 : b = 2
  · refine ⟨r ++ [(⟨(rd_T99 r 0).f0, (rd_T99 r 0).f1⟩ : S99)], p2, s2, ⟨K, fun k hk => ?_⟩, q2, shortL_up (shortL_add w (shortL_one _ m0)) (by decide)⟩
    have e := g k hk
    simp only at e
    simp only [spec_l2Any.f, e, Option.bind_some, e2, if_neg c0, if_neg c1, if_pos c2]
    rw [if_pos l0, if_pos (by omega)]
  by_cases c3 : b = 3
  · refine ⟨r ++ [(⟨(⟨#[122, 117]⟩ : ByteArray), (⟨#[]⟩ : ByteArray)⟩ : S99), (⟨(⟨#[122, 118]⟩ : ByteArray), (⟨#[]⟩ : ByteArray)⟩ : S99), (⟨(⟨#[122, 119]⟩ : ByteArray), (⟨#[]⟩ : ByteArray)⟩ : S99), (⟨(⟨#[122, 120]⟩ : ByteArray), (⟨#[]⟩ : ByteArray)⟩ : S99)], p2, s2, ⟨K, fun k hk => ?_⟩, q2, shortL_add (m := 4) w ⟨Nat.le_refl 4, fun y hy => ?_⟩⟩
    · have e := g k hk
      simp only at e
      simp only [spec_l2Any.f, e, Option.bind_some, e2, if_neg c0, if_neg c1, if_neg c2, if_pos c3]
      rw [if_pos (by simp only [List.length_cons, List.length_nil]; omega)]
    · simp only [List.mem_cons, List.not_mem_nil, or_false] at hy
      rcases hy with rfl | rfl | rfl | rfl <;> (constructor <;> decide)
  by_cases c4 : b = 4
  · obtain ⟨u, p4, s4, e4, q4, hu⟩ := dAnyPlain l hl p2 s2 q2
    refine ⟨r.set (0 : Int).toNat (⟨(rd_T99 r 0).f0, u⟩ : S99), p4, s4, ⟨K, fun k hk => ?_⟩, q4, ⟨by rw [List.length_set]; omega, fun y hy => ?_⟩⟩
    · have e := g k hk
      simp only at e
      simp only [spec_l2Any.f, e, Option.bind_some, e2, if_neg c0, if_neg c1, if_neg c2, if_neg c3, if_pos c4, e4]
      rw [if_pos l0]
    · rcases List.mem_or_eq_of_mem_set hy with h | h
      · exact w.2 y h
      · rw [h]; exact ⟨m0.1, hu⟩
  by_cases c5 : b = 5
  · refine ⟨[], p2, s2, ⟨K, fun k hk => ?_⟩, q2, ⟨Nat.zero_le _, fun y hy => by simp at hy⟩⟩
    have e := g k hk
    simp only at e
    simp only [spec_l2Any.f, e, Option.bind_some, e2, if_neg c0, if_neg c1, if_neg c2, if_neg c3, if_neg c4, if_pos c5]
  · refine ⟨r, p2, s2, ⟨K, fun k hk => ?_⟩, q2, shortL_up w (by decide)⟩
    have e := g k hk
    simp only at e
    simp only [spec_l2Any.f, e, Option.bind_some, e2, if_neg c0, if_neg c1, if_neg c2, if_neg c3, if_neg c4, if_neg c5]
theorem dRaw (p s : Int) (hp : 0 ≤ p) : ∃ v p' s', spec_l1Raw.f l p s = some (v, p', s') ∧ 0 ≤ p' := by
  obtain ⟨v, p1, s1, e1, q1⟩ := dOnce l hl p s 2 hp (by decide) (by decide)
  cases v with
  | true =>
    obtain ⟨u, p2, s2, e2, q2, _⟩ := dInt l hl p1 s1 [(-1), 0, 1, 2, 255, 256, 65535, 2147483647, 2147483648, 4294967295, 4294967296, (-2147483648), 9223372036854775807, (-9223372036854775808)] q1 (by decide) (by decide)
    exact ⟨u, p2, s2, by simp only [spec_l1Raw.f, e1, Option.bind_some, if_true, spec_l1Odd.f, e2], q2⟩
  | false =>
    obtain ⟨u, p2, s2, e2, q2, _⟩ := dInt l hl p1 s1 [(-1), 0, 1, 3, 99999, 100000] q1 (by decide) (by decide)
    exact ⟨u, p2, s2, by simp only [spec_l1Raw.f, e1, Option.bind_some, Bool.false_eq_true, if_false, e2], q2⟩
theorem dAnyAlarm (p s : Int) (hp : 0 ≤ p) : ∃ (a : S29) (p' s' : Int), Ev (fun k => spec_l4Any.f k l p s) (a.f0, a.f1, a.f2, a.f3, p', s') ∧ 0 ≤ p' ∧ ShortA a := by
  obtain ⟨a, p1, s1, ⟨K, g⟩, q1, w, w2, ht⟩ := dAlarm l hl p s hp
  obtain ⟨b, p2, s2, e2, q2, _, _⟩ := dBelow l hl p1 s1 12 q1 (by decide) (by decide)
  by_cases c0 : b = 0
  · obtain ⟨r, p3, s3, ⟨K3, g3⟩, q3, w3⟩ := dAnyLabels l hl p2 s2 q2
    refine ⟨⟨r, a.f1, a.f2, a.f3⟩, p3, s3, ⟨K + K3, fun k hk => ?_⟩, q3, shortA_mk _ _ w3 (by decide) ht⟩
    have e := g k (by omega)
    have e3 := g3 k (by omega)
    simp only at e e3
    simp only [spec_l4Any.f, e, Option.bind_some, e2, if_pos c0, e3]
  by_cases c1 : b = 1
  · obtain ⟨u, p3, s3, e3, q3, _⟩ := dInt l hl p2 s2 [(-1), 99999, 100000] q2 (by decide) (by decide)
    refine ⟨⟨a.f0, u, a.f2, a.f3⟩, p3, s3, ⟨K, fun k hk => ?_⟩, q3, shortA_mk _ _ w (by decide) ht⟩
    have e := g k (by omega)
    simp only at e
    simp only [spec_l4Any.f, e, Option.bind_some, e2, if_neg c0, if_pos c1, e3]
  by_cases c2 : b = 2
  · obtain ⟨u, p3, s3, e3, q3⟩ := dRaw l hl p2 s2 q2
    refine ⟨⟨a.f0, a.f1, u, a.f3⟩, p3, s3, ⟨K, fun k hk => ?_⟩, q3, shortA_mk _ _ w (by decide) ht⟩
    have e := g k (by omega)
    simp only at e
    simp only [spec_l4Any.f, e, Option.bind_some, e2, if_neg c0, if_neg c1, if_pos c2, e3]
  by_cases c3 : b = 3
  · obtain ⟨u, p3, s3, e3, q3, hu⟩ := dAnyPlain l hl p2 s2 q2
    refine ⟨⟨a.f0, a.f1, a.f2, u⟩, p3, s3, ⟨K, fun k hk => ?_⟩, q3, shortA_mk _ _ w (by decide) hu⟩
    have e := g k (by omega)
    simp only at e
    simp only [spec_l4Any.f, e, Option.bind_some, e2, if_neg c0, if_neg c1, if_neg c2, if_pos c3, e3]
  · refine ⟨a, p2, s2, ⟨K, fun k hk => ?_⟩, q2, shortA_mk _ _ w (by decide) ht⟩
    have e := g k (by omega)
    simp only at e
    simp only [spec_l4Any.f, e, Option.bind_some, e2, if_neg c0, if_neg c1, if_neg c2, if_neg c3]
end
def WiChain (x : S80) : Prop := True ∧ (x.f1.length ≤ 4000000 ∧ ∀ y ∈ x.f1, WiAlarm y)
def WiPart (x : S26) : Prop := True ∧ True ∧ (x.f2.length ≤ 4000000 ∧ ∀ y ∈ x.f2, WiChain y)
theorem rdnLabel (l : List S99) (i : Nat) : rd_T99 l (i : Int) = l.getD i z99 := by unfold rd_T99; simp
theorem rdnAlarm (l : List S29) (i : Nat) : rd_T29 l (i : Int) = l.getD i z29 := by unfold rd_T29; simp
/-- A label as two lists of bytes; an alarm as what it holds. -/
def lab (x : S99) : List UInt8 × List UInt8 := (x.f0.toList, x.f1.toList)
def sameSet (a b : List S99) : Bool := decide (a.map lab = b.map lab)
theorem map_ne_of_length {α β : Type} {f : α → β} {a b : List α} (h : ¬ a.length = b.length) : ¬ (a.map f = b.map f) := fun e => h (by simpa using congrArg List.length e)
theorem labNe (x y : S99) : ((!(x.f0.toList == y.f0.toList) || (!(x.f1.toList == y.f1.toList))) = true) ↔ ¬ lab x = lab y := by
  unfold lab
  simp only [Prod.mk.injEq, Bool.or_eq_true, Bool.not_eq_true', beq_eq_false_iff_ne]
  constructor
  · rintro (h | h) ⟨h1, h2⟩
    · exact h h1
    · exact h h2
  · intro h
    by_cases h1 : x.f0.toList = y.f0.toList
    · exact .inr fun h2 => h ⟨h1, h2⟩
    · exact .inl h1
theorem implSameSet_ev (a b : List S99) (h : a.length < 4611686018427387904) : Ev (fun k => impl_SameSet.f k a b) (sameSet a b) := by
  unfold impl_SameSet.f sameSet
  by_cases hl : a.length = b.length
  · simp only [if_pos (show (a.length : Int) = (b.length : Int) by omega)]
    rw [← scan_same0 lab z99 a b hl]
    refine scan_ev (F := fun k i => impl_SameSet.l0 k a b (a.length : Int) i) (n := a.length) (fun k => ?_) (fun i hi => ⟨0, fun k _ => ?_⟩) a.length 0 (by omega)
    · simp only [impl_SameSet.l0]; rw [if_neg (by omega)]
    · simp only [impl_SameSet.l0]
      rw [if_pos (by omega), if_pos (by omega), if_pos (by omega), if_pos (by omega), rdnLabel, rdnLabel, wrap_up i (by omega)]
      by_cases hc : lab (a.getD i z99) = lab (b.getD i z99)
      · rw [if_neg (fun e => (labNe _ _).1 e hc), if_pos hc]; rfl
      · rw [if_pos ((labNe _ _).2 hc), if_neg hc]; rfl
  · simp only [if_neg (show ¬ (a.length : Int) = (b.length : Int) by omega), decide_eq_false (map_ne_of_length hl)]
    exact Ev.now _
theorem specSameSet_ev (a b : List S99) (h : a.length < 4611686018427387904) : Ev (fun k => spec_SameSet.f k a b) (sameSet a b) := by
  unfold spec_SameSet.f sameSet
  by_cases hl : a.length = b.length
  · simp only [if_pos (show (a.length : Int) = (b.length : Int) by omega)]
    rw [← scan_same0 lab z99 a b hl]
    refine scan_ev (F := fun k i => spec_SameSet.l0 k a b i) (n := a.length) (fun k => ?_) (fun i hi => ⟨0, fun k _ => ?_⟩) a.length 0 (by omega)
    · simp only [spec_SameSet.l0]; rw [if_neg (by omega)]
    · simp only [spec_SameSet.l0]
      rw [if_pos (by omega), if_pos (by omega), if_pos (by omega), rdnLabel, rdnLabel, wrap_up i (by omega)]
      by_cases hc : lab (a.getD i z99) = lab (b.getD i z99)
      · rw [if_neg (fun e => (labNe _ _).1 e hc), if_pos hc]; rfl
      · rw [if_pos ((labNe _ _).2 hc), if_neg hc]; rfl
  · simp only [if_neg (show ¬ (a.length : Int) = (b.length : Int) by omega), decide_eq_false (map_ne_of_length hl)]
    exact Ev.now _
theorem place_ge {α : Type} (p : α → Bool) : ∀ (l : List α) (i : Nat), (0 ≤ place p l i) ↔ l.any p = true
  | [], i => by simp [place]
  | x :: l, i => by
    unfold place
    by_cases h : p x = true
    · rw [if_pos h]; simp [h]
    · rw [if_neg h, place_ge p l (i + 1)]; simp [h]
theorem place_lo {α : Type} (p : α → Bool) : ∀ (l : List α) (i : Nat), -1 ≤ place p l i
  | [], i => by simp [place]
  | x :: l, i => by
    unfold place
    split
    · omega
    · exact place_lo p l (i + 1)
def labelsAt (l : List S29) (s : List S99) : Int := place (fun a => sameSet a.f0 s) l 0
theorem implLabelsAt_ev (l : List S29) (s : List S99) (h : l.length ≤ 4000000 ∧ ∀ y ∈ l, WiAlarm y) : Ev (fun k => impl_labelsAt.f k l s) (labelsAt l s) := by
  have h1 := h.1
  unfold impl_labelsAt.f labelsAt
  rw [← scan_place0 (fun a : S29 => sameSet a.f0 s) z29 l]
  refine scan_ev (F := fun k i => impl_labelsAt.l0 k s l (l.length : Int) i) (n := l.length) (fun k => ?_) (fun i hi => ?_) l.length 0 (by omega)
  · simp only [impl_labelsAt.l0]; rw [if_neg (by omega)]
  · have hw := (h.2 _ (getD_mem l i z29 hi)).1.1
    obtain ⟨K, g⟩ := implSameSet_ev (l.getD i z29).f0 s (by omega)
    refine ⟨K, fun k hk => ?_⟩
    have e := g k hk
    simp only at e
    simp only [impl_labelsAt.l0]
    rw [if_pos (by omega), if_pos (by omega), if_pos (by omega), rdnAlarm, e, Option.bind_some, wrap_up i (by omega)]
    cases sameSet (l.getD i z29).f0 s <;> simp [goOn]
theorem rdmidLabeli (pre suf : List S99) (y : S99) : rd_T99 (pre ++ y :: suf) (pre.length : Int) = y := by unfold rd_T99; simp
theorem inEq (a b c : Int) : impl_in.f a b c = some (decide (b ≤ a) && decide (a ≤ c)) := by
  unfold impl_in.f
  by_cases h : a ≥ b
  · rw [if_pos h]; simp [show b ≤ a from h]
  · rw [if_neg h]; simp [show ¬ b ≤ a from h]
theorem l1InEq (a b c : Int) : spec_l1In.f a b c = some (decide (b ≤ a) && decide (a ≤ c)) := by
  unfold spec_l1In.f
  by_cases h : a ≥ b
  · rw [if_pos h]; simp [show b ≤ a from h]
  · rw [if_neg h]; simp [show ¬ b ≤ a from h]
/-- Each byte of a name. -/
def nameStep {ρ : Type} (no : ρ) (s : ByteArray) (i : Nat) : Option ρ := if (bt s (i : Int)) < 97 then some no else if (bt s (i : Int)) > 122 then some no else none
def nameOk (s : ByteArray) : Bool := (decide (1 ≤ (s.size : Int)) && decide ((s.size : Int) ≤ 8)) && scan (nameStep false s) true s.size 0
/-- Where nothing stops a loop but with 'false', its end may wait. -/
theorem scan_end {step : Nat → Option Bool} (h : ∀ i r, step i = some r → r = false) (e : Bool) : ∀ d i, scan step e d i = (e && scan step true d i)
  | 0, i => by simp [scan]
  | d + 1, i => by
    unfold scan
    cases hs : step i with
    | some r => rw [h i r hs]; simp
    | none => exact scan_end h e d (i + 1)
theorem nameStep_false (s : ByteArray) (i : Nat) (r : Bool) (h : nameStep false s i = some r) : r = false := by
  unfold nameStep at h
  split at h
  · injection h with h; exact h.symm
  · split at h
    · injection h with h; exact h.symm
    · cases h
theorem implNameOk_ev (s : ByteArray) (h : s.size < 4611686018427387904) : Ev (fun k => impl_NameOk.f k s) (nameOk s) := by
  unfold impl_NameOk.f nameOk
  simp only [inEq, Option.bind_some]
  cases hc : (decide (1 ≤ (s.size : Int)) && decide ((s.size : Int) ≤ 8)) with
  | false => simp only [Bool.false_eq_true, if_false, Bool.false_and]; exact Ev.now _
  | true =>
    simp only [if_true, Bool.true_and]
    refine scan_ev (F := fun k i => impl_NameOk.l0 k s i) (n := s.size) (fun k => ?_) (fun i hi => ⟨0, fun k _ => ?_⟩) s.size 0 (by omega)
    · simp only [impl_NameOk.l0]; rw [if_neg (by omega)]
    · simp only [impl_NameOk.l0, nameStep]
      rw [if_pos (by omega), if_pos (by omega), wrap_up i (by omega)]
      split
      · rfl
      · split <;> rfl
theorem specNameOk_ev (s : ByteArray) (h : s.size < 4611686018427387904) : Ev (fun k => spec_NameOk.f k s) (nameOk s) := by
  unfold spec_NameOk.f nameOk
  rw [← scan_end (nameStep_false s)]
  refine scan_ev (F := fun k i => spec_NameOk.l0 k s i) (n := s.size) (fun k => ?_) (fun i hi => ⟨0, fun k _ => ?_⟩) s.size 0 (by omega)
  · simp only [spec_NameOk.l0]; rw [if_neg (by omega), l1InEq]; rfl
  · simp only [spec_NameOk.l0, nameStep]
    rw [if_pos (by omega), if_pos (by omega), wrap_up i (by omega)]
    split
    · rfl
    · split <;> rfl
/-- Each byte of a plain text. -/
def plainStep {ρ : Type} (no : ρ) (s : ByteArray) (i : Nat) : Option ρ := if (bt s (i : Int)) < 32 then some no else if (bt s (i : Int)) > 126 then some no else if (bt s (i : Int)) = 34 then some no else if (bt s (i : Int)) = 92 then some no else none
def plainOk (s : ByteArray) : Bool := decide ((s.size : Int) ≤ 12) && scan (plainStep false s) true s.size 0
theorem plainStep_false (s : ByteArray) (i : Nat) (r : Bool) (h : plainStep false s i = some r) : r = false := by
  unfold plainStep at h
  repeat (split at h; (injection h with h; exact h.symm))
  cases h
theorem implPlainOk_ev (s : ByteArray) (h : s.size < 4611686018427387904) : Ev (fun k => impl_PlainOk.f k s) (plainOk s) := by
  unfold impl_PlainOk.f plainOk
  by_cases hc : (s.size : Int) > 12
  · simp only [if_pos hc, decide_eq_false (show ¬ (s.size : Int) ≤ 12 by omega), Bool.false_and]; exact Ev.now _
  · simp only [if_neg hc, decide_eq_true (show (s.size : Int) ≤ 12 by omega), Bool.true_and]
    refine scan_ev (F := fun k i => impl_PlainOk.l0 k s i) (n := s.size) (fun k => ?_) (fun i hi => ⟨0, fun k _ => ?_⟩) s.size 0 (by omega)
    · simp only [impl_PlainOk.l0]; rw [if_neg (by omega)]
    · simp only [impl_PlainOk.l0, plainStep]
      rw [if_pos (by omega), if_pos (by omega), wrap_up i (by omega)]
      repeat (split; rfl)
      rfl
theorem specPlainOk_ev (s : ByteArray) (h : s.size < 4611686018427387904) : Ev (fun k => spec_PlainOk.f k s) (plainOk s) := by
  unfold spec_PlainOk.f plainOk
  rw [← scan_end (plainStep_false s)]
  refine scan_ev (F := fun k i => spec_PlainOk.l0 k s i) (n := s.size) (fun k => ?_) (fun i hi => ⟨0, fun k _ => ?_⟩) s.size 0 (by omega)
  · simp only [spec_PlainOk.l0]; rw [if_neg (by omega)]
  · simp only [spec_PlainOk.l0, plainStep]
    rw [if_pos (by omega), if_pos (by omega), wrap_up i (by omega)]
    repeat (split; rfl)
    rfl
def labelOk (x : S99) : Bool := nameOk x.f0 && plainOk x.f1
theorem implLabelOk_ev (x : S99) (h : WiLabel x) : Ev (fun k => impl_LabelOk.f k x.f0 x.f1) (labelOk x) := by
  have h1 := h.1
  have h2 := h.2
  obtain ⟨K1, g1⟩ := implNameOk_ev x.f0 (by omega)
  obtain ⟨K2, g2⟩ := implPlainOk_ev x.f1 (by omega)
  refine ⟨K1 + K2, fun k hk => ?_⟩
  have e1 := g1 k (by omega)
  have e2 := g2 k (by omega)
  simp only at e1 e2
  simp only [impl_LabelOk.f, e1, e2, Option.bind_some, labelOk]
  cases nameOk x.f0 <;> simp
theorem specLabelOk_ev (x : S99) (h : WiLabel x) : Ev (fun k => spec_LabelOk.f k x.f0 x.f1) (labelOk x) := by
  have h1 := h.1
  have h2 := h.2
  obtain ⟨K1, g1⟩ := specNameOk_ev x.f0 (by omega)
  obtain ⟨K2, g2⟩ := specPlainOk_ev x.f1 (by omega)
  refine ⟨K1 + K2, fun k hk => ?_⟩
  have e1 := g1 k (by omega)
  have e2 := g2 k (by omega)
  simp only at e1 e2
  simp only [spec_LabelOk.f, e1, e2, Option.bind_some, labelOk]
  cases nameOk x.f0 <;> simp
/-- Is label i right, behind the one before it? -/
def setBit (l : List S99) (i : Nat) : Bool := labelOk (l.getD i z99) && (decide (i = 0) || Op.bytesLess (l.getD (i - 1) z99).f0.toList (l.getD i z99).f0.toList)
def setStep (l : List S99) (i : Nat) : Option Bool := if setBit l i = true then none else some false
def setOk (l : List S99) : Bool := decide ((l.length : Int) ≤ 4) && scan (setStep l) true l.length 0
theorem setStep_false (l : List S99) (i : Nat) (r : Bool) (h : setStep l i = some r) : r = false := by
  unfold setStep at h
  split at h
  · cases h
  · injection h with h; exact h.symm
theorem scan_stop {step : Nat → Option Bool} (hf : ∀ i r, step i = some r → r = false) : ∀ d i j, i ≤ j → j < i + d → step j = some false → scan step true d i = false
  | 0, i, j, h1, h2, _ => by omega
  | d + 1, i, j, h1, h2, h3 => by
    unfold scan
    cases hs : step i with
    | some r => exact hf i r hs
    | none =>
      by_cases e : i = j
      · subst e; rw [hs] at h3; cases h3
      · exact scan_stop hf d (i + 1) j (by omega) (by omega) h3
theorem sub1 (i : Nat) (h : 0 < i) (hi : i < 4611686018427387904) : wrap64 ((i : Int) - 1) = ((i - 1 : Nat) : Int) := by rw [wrap_id (by omega) (by omega)]; omega
theorem implSetOk_ev (l : List S99) (h : l.length ≤ 4000000 ∧ ∀ y ∈ l, WiLabel y) : Ev (fun k => impl_SetOk.f k l) (setOk l) := by
  have h1 := h.1
  have hx : setOk l = scan (fun i => if 4 ≤ i then some false else setStep l i) true l.length 0 := by
    unfold setOk
    by_cases h4 : l.length ≤ 4
    · rw [decide_eq_true (show (l.length : Int) ≤ 4 by omega), Bool.true_and]
      exact scan_congr _ _ (fun j _ hj => by rw [if_neg (by omega)])
    · rw [decide_eq_false (show ¬ (l.length : Int) ≤ 4 by omega), Bool.false_and]
      exact (scan_stop (step := fun i => if 4 ≤ i then some false else setStep l i) (fun i r hr => by
        by_cases hi : 4 ≤ i
        · simp only [if_pos hi] at hr; injection hr with hr; exact hr.symm
        · simp only [if_neg hi] at hr; exact setStep_false l i r hr) l.length 0 4 (by omega) (by omega) (by simp)).symm
  rw [hx]
  unfold impl_SetOk.f
  refine scan_ev (F := fun k i => impl_SetOk.l0 k l l (l.length : Int) i) (n := l.length) (fun k => ?_) (fun i hi => ?_) l.length 0 (by omega)
  · simp only [impl_SetOk.l0]; rw [if_neg (by omega)]
  · obtain ⟨K, g⟩ := implLabelOk_ev (l.getD i z99) (h.2 _ (getD_mem l i _ hi))
    refine ⟨K, fun k hk => ?_⟩
    have e := g k hk
    simp only at e
    simp only [impl_SetOk.l0]
    rw [if_pos (by omega), if_pos (by omega), if_pos (by omega)]
    by_cases h4 : 4 ≤ i
    · rw [if_pos (by omega), if_pos h4]; rfl
    · rw [if_neg (by omega), if_neg h4, rdnLabel, e, Option.bind_some, wrap_up i (by omega)]
      unfold setStep setBit
      cases hl : labelOk (l.getD i z99) with
      | false => simp [goOn]
      | true =>
        by_cases h0 : i = 0
        · subst h0; simp [goOn]
        · rw [if_pos rfl, if_pos (by omega), sub1 i (by omega) (by omega), if_pos (by omega), if_pos (by omega), rdnLabel, decide_eq_false h0]
          cases Op.bytesLess (l.getD (i - 1) z99).f0.toList (l.getD i z99).f0.toList <;> simp [goOn]
theorem specSetOk_ev (l : List S99) (h : l.length ≤ 4000000 ∧ ∀ y ∈ l, WiLabel y) : Ev (fun k => spec_SetOk.f k l) (setOk l) := by
  have h1 := h.1
  unfold spec_SetOk.f setOk
  rw [← scan_end (setStep_false l)]
  refine scan_ev (F := fun k i => spec_SetOk.l0 k l i) (n := l.length) (fun k => ?_) (fun i hi => ?_) l.length 0 (by omega)
  · simp only [spec_SetOk.l0]; rw [if_neg (by omega)]
  · obtain ⟨K, g⟩ := specLabelOk_ev (l.getD i z99) (h.2 _ (getD_mem l i _ hi))
    refine ⟨K, fun k hk => ?_⟩
    have e := g k hk
    simp only at e
    simp only [spec_SetOk.l0, spec_Less.f]
    rw [if_pos (by omega), if_pos (by omega), rdnLabel, e, Option.bind_some, wrap_up i (by omega)]
    unfold setStep setBit
    cases hl : labelOk (l.getD i z99) with
    | false => simp [goOn]
    | true =>
      by_cases h0 : i = 0
      · subst h0; simp [goOn]
      · rw [if_pos rfl, if_pos (by omega), sub1 i (by omega) (by omega), if_pos (by omega), if_pos (by omega), rdnLabel, decide_eq_false h0]
        cases Op.bytesLess (l.getD (i - 1) z99).f0.toList (l.getD i z99).f0.toList <;> simp [goOn]
def alarmOk (x : S29) : Bool := setOk x.f0 && (decide ((x.f0.length : Int) > 0) && ((decide (0 ≤ x.f1) && decide (x.f1 ≤ 99999)) && ((decide (x.f1 ≤ x.f2) && decide (x.f2 ≤ 99999)) && plainOk x.f3)))
theorem implAlarmOk_ev (x : S29) (h : WiAlarm x) : Ev (fun k => impl_AlarmOk.f k x.f0 x.f1 x.f2 x.f3) (alarmOk x) := by
  have h3 := h.2.2.2
  obtain ⟨K1, g1⟩ := implSetOk_ev x.f0 h.1
  obtain ⟨K2, g2⟩ := implPlainOk_ev x.f3 (by omega)
  refine ⟨K1 + K2, fun k hk => ?_⟩
  have e1 := g1 k (by omega)
  have e2 := g2 k (by omega)
  simp only at e1 e2
  simp only [impl_AlarmOk.f, e1, e2, Option.bind_some, alarmOk, inEq]
  by_cases hl : (x.f0.length : Int) > 0
  · rw [if_pos hl, decide_eq_true hl]
    cases setOk x.f0 <;> cases (decide (0 ≤ x.f1) && decide (x.f1 ≤ 99999)) <;> cases (decide (x.f1 ≤ x.f2) && decide (x.f2 ≤ 99999)) <;> simp
  · rw [if_neg hl, decide_eq_false hl]
    cases setOk x.f0 <;> simp
theorem specAlarmOk_ev (x : S29) (h : WiAlarm x) : Ev (fun k => spec_AlarmOk.f k x.f0 x.f1 x.f2 x.f3) (alarmOk x) := by
  have h3 := h.2.2.2
  obtain ⟨K1, g1⟩ := specSetOk_ev x.f0 h.1
  obtain ⟨K2, g2⟩ := specPlainOk_ev x.f3 (by omega)
  refine ⟨K1 + K2, fun k hk => ?_⟩
  have e1 := g1 k (by omega)
  have e2 := g2 k (by omega)
  simp only at e1 e2
  simp only [spec_AlarmOk.f, e1, e2, Option.bind_some, alarmOk, l1InEq]
  by_cases hl : (x.f0.length : Int) > 0
  · rw [if_pos hl, decide_eq_true hl]
    cases setOk x.f0 <;> cases (decide (0 ≤ x.f1) && decide (x.f1 ≤ 99999)) <;> cases (decide (x.f1 ≤ x.f2) && decide (x.f2 ≤ 99999)) <;> simp
  · rw [if_neg hl, decide_eq_false hl]
    cases setOk x.f0 <;> simp
def labL (x : S99) : List UInt8 := x.f0.data.toList ++ [61, 34] ++ x.f1.data.toList ++ [34]
def setTail : Bool → List S99 → List UInt8
  | _, [] => []
  | first, x :: r => (if first then [] else [44, 32]) ++ labL x ++ setTail false r
def setText (l : List S99) : ByteArray := if setOk l = true then ⟨([123] ++ setTail true l ++ [125]).toArray⟩ else ⟨#[]⟩
theorem ba_ext {a b : ByteArray} (h : a.data.toList = b.data.toList) : a = b := by
  cases a; cases b
  simp only at h
  rw [Array.toList_inj.1 h]
theorem ba_app (a b : ByteArray) : (a ++ b).data.toList = a.data.toList ++ b.data.toList := by simp [ByteArray.data_append]
theorem ba_len (a : ByteArray) : a.size = a.data.toList.length := rfl
theorem ba_szapp (a b : ByteArray) : (a ++ b).size = a.size + b.size := by rw [ba_len, ba_app, List.length_append, ← ba_len, ← ba_len]
theorem setOk_len (l : List S99) (h : setOk l = true) : l.length ≤ 4 := by
  unfold setOk at h
  rw [Bool.and_eq_true] at h
  have := of_decide_eq_true h.1
  omega
theorem sz2 : (⟨#[44, 32]⟩ : ByteArray).size = 2 := rfl
theorem sz2' : (⟨#[61, 34]⟩ : ByteArray).size = 2 := rfl
theorem sz1 : (⟨#[34]⟩ : ByteArray).size = 1 := rfl
theorem sz1a : (⟨#[123]⟩ : ByteArray).size = 1 := rfl
theorem specText_go : ∀ (suf pre : List S99) (acc : ByteArray), pre.length + suf.length ≤ 4 → (∀ y ∈ suf, WiLabel y) → acc.size ≤ 1 + pre.length * 10000000 →
    Ev (fun k => spec_SetText.l0 k (pre ++ suf) acc (pre.length : Int)) ⟨(acc.data.toList ++ setTail (decide (pre.length = 0)) suf ++ [125]).toArray⟩
  | [], pre, acc, h1, h2, h3 => by
    refine ⟨1, fun k hk => ?_⟩
    obtain ⟨m, rfl⟩ : ∃ m, k = m + 1 := ⟨k - 1, by omega⟩
    simp only [spec_SetText.l0]
    rw [if_neg (not_lt_end pre), if_pos (by simp only [List.length_nil] at h1; omega)]
    refine congrArg some (ba_ext ?_)
    rw [ba_app]
    simp [setTail]
  | y :: suf, pre, acc, h1, h2, h3 => by
    simp only [List.length_cons] at h1
    have hy := h2 y List.mem_cons_self
    have hy0 := hy.1
    have hy1 := hy.2
    have ih := fun a ha => specText_go suf (pre ++ [y]) a (by simp only [List.length_append, List.length_singleton]; omega) (fun z hz => h2 z (List.mem_cons_of_mem _ hz)) ha
    simp only [List.append_assoc, List.singleton_append, List.length_append, List.length_singleton] at ih
    by_cases hp : pre.length = 0
    · obtain ⟨K, hK⟩ := ih ((((acc ++ y.f0) ++ (⟨#[61, 34]⟩ : ByteArray)) ++ y.f1) ++ (⟨#[34]⟩ : ByteArray)) (by simp only [ba_szapp, sz2', sz1]; omega)
      refine ⟨K + 1, fun k hk => ?_⟩
      obtain ⟨m, rfl⟩ : ∃ m, k = m + 1 := ⟨k - 1, by omega⟩
      have e := hK m (by omega)
      simp only at e
      simp only [spec_SetText.l0, rdmidLabeli]
      rw [if_pos (lt_mid pre suf y), if_neg (by omega), if_pos (by omega), if_pos (by omega), if_pos (by simp only [ba_szapp]; omega), if_pos (by simp only [ba_szapp, sz2']; omega), if_pos (by simp only [ba_szapp, sz2']; omega), wrap_up pre.length (by omega), e]
      refine congrArg some (ba_ext ?_)
      simp only [ba_app, setTail, labL, hp, decide_true, if_true, List.nil_append, List.append_assoc]
      simp [setTail]
    · obtain ⟨K, hK⟩ := ih (((((acc ++ (⟨#[44, 32]⟩ : ByteArray)) ++ y.f0) ++ (⟨#[61, 34]⟩ : ByteArray)) ++ y.f1) ++ (⟨#[34]⟩ : ByteArray)) (by simp only [ba_szapp, sz2', sz2, sz1]; omega)
      refine ⟨K + 1, fun k hk => ?_⟩
      obtain ⟨m, rfl⟩ : ∃ m, k = m + 1 := ⟨k - 1, by omega⟩
      have e := hK m (by omega)
      simp only at e
      simp only [spec_SetText.l0, rdmidLabeli]
      rw [if_pos (lt_mid pre suf y), if_pos (by omega), if_pos (by omega), if_pos (by omega), if_pos (by simp only [ba_szapp, sz2]; omega), if_pos (by simp only [ba_szapp, sz2]; omega), if_pos (by simp only [ba_szapp, sz2, sz2']; omega), if_pos (by simp only [ba_szapp, sz2, sz2']; omega), wrap_up pre.length (by omega), e]
      refine congrArg some (ba_ext ?_)
      simp only [ba_app, setTail, labL, decide_eq_false hp, if_false, List.append_assoc]
      simp [setTail]
theorem specSetText_ev (l : List S99) (h : l.length ≤ 4000000 ∧ ∀ y ∈ l, WiLabel y) : Ev (fun k => spec_SetText.f k l) (setText l) := by
  obtain ⟨K, hK⟩ := specSetOk_ev l h
  by_cases ho : setOk l = true
  · have hl := setOk_len l ho
    obtain ⟨K', hK'⟩ := specText_go l [] (⟨#[123]⟩ : ByteArray) (by simp; omega) h.2 (by simp [sz1a])
    refine ⟨K + K', fun k hk => ?_⟩
    have e := hK k (by omega)
    have e' := hK' k (by omega)
    simp only at e
    simp only [List.nil_append, List.length_nil] at e'
    simp only [spec_SetText.f, e, Option.bind_some, ho, if_true, setText]
    exact e'
  · refine ⟨K, fun k hk => ?_⟩
    have e := hK k hk
    simp only at e
    simp [spec_SetText.f, e, ho, setText]
/-- The parts, each a text. -/
def partB (x : S99) : ByteArray := ((x.f0 ++ (⟨#[61, 34]⟩ : ByteArray)) ++ x.f1) ++ (⟨#[34]⟩ : ByteArray)
theorem partB_l (x : S99) : (partB x).data.toList = labL x := by simp [partB, labL, ba_app]
theorem tail_join : ∀ l : List S99, Lib.joinTail [44, 32] ((l.map partB).map (·.data.toList)) = setTail false l
  | [] => rfl
  | x :: r => by
    have ih := tail_join r
    unfold Lib.joinTail at ih ⊢
    simp only [List.map_cons, List.flatten_cons, setTail, ih, partB_l]
    simp
theorem all_join (l : List S99) : Lib.join ((l.map partB).map (·.data.toList)) [44, 32] = setTail true l := by
  cases l with
  | nil => rfl
  | cons x r =>
    have := tail_join r
    simp only [List.map_cons, Lib.join_cons, setTail, this, partB_l]
    simp
theorem setTail_len : ∀ (b : Bool) (l : List S99), (∀ y ∈ l, WiLabel y) → (setTail b l).length ≤ l.length * 10000000
  | _, [], _ => by simp [setTail]
  | b, x :: r, h => by
    have ih := setTail_len false r (fun y hy => h y (List.mem_cons_of_mem _ hy))
    have h0 := h x List.mem_cons_self
    have h1 := h0.1
    have h2 := h0.2
    have e1 : x.f0.data.toList.length = x.f0.size := rfl
    have e2 : x.f1.data.toList.length = x.f1.size := rfl
    cases b
    · simp only [setTail, labL, List.length_append, List.length_cons, List.length_nil, e1, e2, Bool.false_eq_true, if_false]; omega
    · simp only [setTail, labL, List.length_append, List.length_cons, List.length_nil, e1, e2, if_true]; omega
theorem implText_go (l : List S99) (hl : l.length ≤ 4) (hw : ∀ y ∈ l, WiLabel y) : ∀ (suf pre : List S99), pre ++ suf = l →
    Ev (fun k => impl_SetText.l0 k (pre.map partB) l (l.length : Int) (pre.length : Int)) ⟨([123] ++ setTail true l ++ [125]).toArray⟩
  | [], pre, h => by
    refine ⟨1, fun k hk => ?_⟩
    obtain ⟨m, rfl⟩ : ∃ m, k = m + 1 := ⟨k - 1, by omega⟩
    rw [List.append_nil] at h
    subst h
    have hj := all_join pre
    have ht := setTail_len true pre hw
    have hs : strings_Join.f (pre.map partB) (⟨#[44, 32]⟩ : ByteArray) = some ⟨(setTail true pre).toArray⟩ := by
      unfold strings_Join.f
      rw [show (⟨#[44, 32]⟩ : ByteArray).data.toList = [44, 32] from rfl, hj, List.length_map, if_pos ⟨by omega, by omega⟩]
    have hz : (⟨(setTail true pre).toArray⟩ : ByteArray).size = (setTail true pre).length := by simp [ByteArray.size]
    simp only [impl_SetText.l0]
    rw [if_neg (by omega), hs, Option.bind_some, if_pos (by rw [hz]; omega), if_pos (by rw [ba_szapp, hz, sz1a]; omega)]
    refine congrArg some (ba_ext ?_)
    simp [ba_app]
  | y :: suf, pre, h => by
    obtain ⟨K, hK⟩ := implText_go l hl hw suf (pre ++ [y]) (by rw [← h]; simp)
    have hy := hw y (by rw [← h]; simp)
    have hy0 := hy.1
    have hy1 := hy.2
    have hlen : pre.length < l.length := by rw [← h]; simp
    refine ⟨K + 1, fun k hk => ?_⟩
    obtain ⟨m, rfl⟩ : ∃ m, k = m + 1 := ⟨k - 1, by omega⟩
    have e := hK m (by omega)
    simp only [List.map_append, List.map_cons, List.map_nil, List.length_append, List.length_singleton] at e
    have hr : rd_T99 l (pre.length : Int) = y := by rw [← h]; exact rdmidLabeli pre suf y
    simp only [impl_SetText.l0, hr]
    rw [if_pos (by omega), if_pos (by omega), if_pos (by omega), if_pos (by omega), if_pos (by simp only [ba_szapp, sz2']; omega), if_pos (by simp only [ba_szapp, sz2']; omega), if_pos (by rw [List.length_map]; omega), wrap_up pre.length (by omega)]
    exact e
theorem implSetText_ev (l : List S99) (h : l.length ≤ 4000000 ∧ ∀ y ∈ l, WiLabel y) : Ev (fun k => impl_SetText.f k l) (setText l) := by
  obtain ⟨K, hK⟩ := implSetOk_ev l h
  by_cases ho : setOk l = true
  · have hl := setOk_len l ho
    obtain ⟨K', hK'⟩ := implText_go l hl h.2 l [] rfl
    refine ⟨K + K', fun k hk => ?_⟩
    have e := hK k (by omega)
    have e' := hK' k (by omega)
    simp only at e
    simp only [List.map_nil, List.length_nil] at e'
    simp only [impl_SetText.f, e, Option.bind_some, ho, if_true, setText]
    exact e'
  · refine ⟨K, fun k hk => ?_⟩
    have e := hK k hk
    simp only at e
    simp [impl_SetText.f, e, ho, setText]
theorem setText_sz (l : List S99) (h : l.length ≤ 4000000 ∧ ∀ y ∈ l, WiLabel y) : (setText l).size < 4611686018427387904 := by
  unfold setText
  split
  · have := setTail_len true l h.2
    have h1 := h.1
    rw [ba_len]
    simp only [List.length_append, List.length_singleton]
    omega
  · simp [ByteArray.size]
/-- A sum's step. -/
def sumStep (n b : Int) : Int := ((Go.bits .xor .u32 n b) * 16777619) % 4294967296
def sumGo (s : ByteArray) : Nat → Nat → Int → Int
  | 0, _, n => n
  | d + 1, i, n => sumGo s d (i + 1) (sumStep n (bt s (i : Int)))
theorem xor_nat (k : IntKind) (j : Nat) (hj : j ≤ k.bits) (hk : ∀ n : Int, 0 ≤ n → n < 2 ^ j → k.wrap n = n) (a b : Nat) (ha : a < 2 ^ j) (hb : b < 2 ^ j) :
    Go.bits .xor k a b = ((a ^^^ b : Nat) : Int) := by
  have hp : 2 ^ j ≤ 2 ^ k.bits := Nat.pow_le_pow_right (by decide) hj
  have ha' : a % 2 ^ k.bits = a := Nat.mod_eq_of_lt (Nat.lt_of_lt_of_le ha hp)
  have hb' : b % 2 ^ k.bits = b := Nat.mod_eq_of_lt (Nat.lt_of_lt_of_le hb hp)
  have cast : ∀ n : Nat, n < 2 ^ j → ((n : Nat) : Int) < 2 ^ j := fun n h => by exact_mod_cast h
  simp only [Go.bits, BitVec.ofInt_natCast, BitVec.toNat_xor, BitVec.toNat_ofNat, ha', hb']
  exact hk _ (Int.natCast_nonneg _) (cast _ (Nat.xor_lt_two_pow ha hb))
theorem xor_both (n b : Int) (h0 : 0 ≤ n) (h1 : n < 4294967296) (h2 : 0 ≤ b) (h3 : b ≤ 255) : ∃ X : Nat, X < 4294967296 ∧ Go.bits .xor .u32 n b = (X : Int) ∧ Go.bits .xor .i64 n b = (X : Int) := by
  obtain ⟨a, rfl⟩ := Int.eq_ofNat_of_zero_le h0
  obtain ⟨c, rfl⟩ := Int.eq_ofNat_of_zero_le h2
  have ha : a < 2 ^ 32 := by omega
  have hc : c < 2 ^ 32 := by omega
  refine ⟨a ^^^ c, Nat.xor_lt_two_pow ha hc, ?_, ?_⟩
  · exact xor_nat .u32 32 (by decide) (fun n h h' => by rw [IntKind.wrap_u32]; omega) a c ha hc
  · exact xor_nat .i64 32 (by decide) (fun n h h' => by rw [IntKind.wrap_i64]; omega) a c ha hc
theorem sumStep_range (n b : Int) : 0 ≤ sumStep n b ∧ sumStep n b < 4294967296 := by unfold sumStep; omega
theorem step_spec (n b : Int) (h0 : 0 ≤ n) (h1 : n < 4294967296) (h2 : 0 ≤ b) (h3 : b ≤ 255) :
    Go.bits .and .i64 (wrap64 ((Go.bits .xor .i64 n (wrap64 b)) * 16777619)) 4294967295 = sumStep n b := by
  obtain ⟨X, hX, e1, e2⟩ := xor_both n b h0 h1 h2 h3
  unfold sumStep
  rw [wrap_id (x := b) (by omega) (by omega), e1, e2, wrap_id (by omega) (by omega)]
  exact bits_mask .i64 62 (by decide) (fun n h h' => by rw [IntKind.wrap_i64]; omega) 32 (by decide) _ (by omega) (by omega)
theorem step_impl (n b : Int) (h2 : 0 ≤ b) (h3 : b ≤ 255) : ((Go.bits .xor .u32 n (b % 4294967296)) * 16777619) % 4294967296 = sumStep n b := by
  rw [Int.emod_eq_of_lt h2 (by omega)]; rfl
theorem implSum_go (s : ByteArray) (h : s.size < 4611686018427387904) : ∀ d i n, d + i = s.size → 0 ≤ n → n < 4294967296 → Ev (fun k => impl_Sum.l0 k s n (i : Int)) (sumGo s d i n)
  | 0, i, n, hd, h0, h1 => by
    refine ⟨1, fun k hk => ?_⟩
    obtain ⟨m, rfl⟩ : ∃ m, k = m + 1 := ⟨k - 1, by omega⟩
    simp only [impl_Sum.l0, sumGo]
    rw [if_neg (by omega), wrap_id (by omega) (by omega)]
  | d + 1, i, n, hd, h0, h1 => by
    have hr := sumStep_range n (bt s (i : Int))
    obtain ⟨K, hK⟩ := implSum_go s h d (i + 1) (sumStep n (bt s (i : Int))) (by omega) hr.1 hr.2
    refine ⟨K + 1, fun k hk => ?_⟩
    obtain ⟨m, rfl⟩ : ∃ m, k = m + 1 := ⟨k - 1, by omega⟩
    have e := hK m (by omega)
    have hb := bt_range s (i : Int)
    simp only [impl_Sum.l0, sumGo]
    rw [if_pos (by omega), if_pos (by omega), step_impl n _ hb.1 hb.2, wrap_up i (by omega)]
    exact e
theorem specSum_go (s : ByteArray) (h : s.size < 4611686018427387904) : ∀ d i n, d + i = s.size → 0 ≤ n → n < 4294967296 → Ev (fun k => spec_Sum.l0 k s n (i : Int)) (sumGo s d i n)
  | 0, i, n, hd, h0, h1 => by
    refine ⟨1, fun k hk => ?_⟩
    obtain ⟨m, rfl⟩ : ∃ m, k = m + 1 := ⟨k - 1, by omega⟩
    simp only [spec_Sum.l0, sumGo]
    rw [if_neg (by omega)]
  | d + 1, i, n, hd, h0, h1 => by
    have hr := sumStep_range n (bt s (i : Int))
    obtain ⟨K, hK⟩ := specSum_go s h d (i + 1) (sumStep n (bt s (i : Int))) (by omega) hr.1 hr.2
    refine ⟨K + 1, fun k hk => ?_⟩
    obtain ⟨m, rfl⟩ : ∃ m, k = m + 1 := ⟨k - 1, by omega⟩
    have e := hK m (by omega)
    have hb := bt_range s (i : Int)
    simp only [spec_Sum.l0, sumGo]
    rw [if_pos (by omega), if_pos (by omega), step_spec n _ h0 h1 hb.1 hb.2, wrap_up i (by omega)]
    exact e
def sumOf (s : ByteArray) : Int := sumGo s s.size 0 2166136261
def fingerOf (l : List S99) : Int := Int.tmod (Go.bits .xor .i64 (sumOf (setText l)) (sumOf (setText l) / 65536)) 32
theorem implFinger_ev (l : List S99) (h : l.length ≤ 4000000 ∧ ∀ y ∈ l, WiLabel y) : Ev (fun k => impl_Finger.f k l) (fingerOf l) := by
  obtain ⟨K, g⟩ := implSetText_ev l h
  obtain ⟨K', g'⟩ := implSum_go (setText l) (setText_sz l h) (setText l).size 0 2166136261 (by omega) (by omega) (by omega)
  refine ⟨K + K', fun k hk => ?_⟩
  have e := g k (by omega)
  have e' := g' k (by omega)
  simp only at e e'
  simp only [impl_Finger.f, impl_Sum.f, e, Option.bind_some, show ((0 : Nat) : Int) = 0 from rfl] at e' ⊢
  rw [e', Option.bind_some]; rfl
theorem specFinger_ev (l : List S99) (h : l.length ≤ 4000000 ∧ ∀ y ∈ l, WiLabel y) : Ev (fun k => spec_Finger.f k l) (fingerOf l) := by
  obtain ⟨K, g⟩ := specSetText_ev l h
  obtain ⟨K', g'⟩ := specSum_go (setText l) (setText_sz l h) (setText l).size 0 2166136261 (by omega) (by omega) (by omega)
  refine ⟨K + K', fun k hk => ?_⟩
  have e := g k (by omega)
  have e' := g' k (by omega)
  simp only at e e'
  simp only [spec_Finger.f, spec_Sum.f, e, Option.bind_some, show ((0 : Nat) : Int) = 0 from rfl] at e' ⊢
  rw [e', Option.bind_some]; rfl
def partOf (a n : Int) : Int := if n < 1 then 0 else if a < 0 then 0 else Int.tmod a n
theorem implPartOf_is (a n : Int) : impl_PartOf.f a n = some (partOf a n) := by
  unfold impl_PartOf.f partOf
  by_cases h : n < 1
  · simp [h]
  · by_cases h2 : a < 0
    · simp [h, h2]
    · simp only [if_neg h, if_neg h2]; rw [if_neg (by omega)]
theorem specPartOf_is (a n : Int) : spec_PartOf.f a n = some (partOf a n) := by
  unfold spec_PartOf.f partOf
  by_cases h : n < 1
  · simp [h]
  · by_cases h2 : a < 0
    · simp [h, h2]
    · simp only [if_neg h, if_neg h2]; rw [if_neg (by omega)]
theorem specL4Copy_ev (x : S29) (h : x.f0.length ≤ 5000000) : spec_l4Copy.f x.f0 x.f1 x.f2 x.f3 = some (x.f0, x.f1, x.f2, x.f3) := by
  simp only [spec_l4Copy.f, Option.bind_some, List.nil_append, List.length_nil]
  exact if_pos (by omega)
theorem implCopySet_ev (l : List S99) (h : l.length ≤ 5000000) : impl_copySet.f l = some l := by
  simp only [impl_copySet.f, List.nil_append, List.length_nil]
  exact if_pos (by omega)
theorem implCopyAlarm_ev (x : S29) (h : x.f0.length ≤ 5000000) : impl_copyAlarm.f x.f0 x.f1 x.f2 x.f3 = some (x.f0, x.f1, x.f2, x.f3) := by
  simp only [impl_copyAlarm.f, implCopySet_ev x.f0 h, Option.bind_some]
theorem rdnChainF (l : List S80) (i : Nat) : rd_T80 l (i : Int) = l.getD i z80 := by unfold rd_T80; simp
theorem place_lt {α : Type} (p : α → Bool) : ∀ (l : List α) (i : Nat), place p l i < (i : Int) + l.length ∨ place p l i = -1
  | [], i => .inr rfl
  | x :: l, i => by
    unfold place
    split
    · left; simp only [List.length_cons]; omega
    · rcases place_lt p l (i + 1) with h | h
      · left; simp only [List.length_cons]; omega
      · exact .inr h
def chainAt (l : List S80) (f : Int) : Int := place (fun c => decide (c.f0 = f)) l 0
theorem implChainOf_ev (p : S26) (f : Int) (h : p.f2.length ≤ 4000001) : Ev (fun k => impl_chainOf.f k p.f0 p.f1 p.f2 f) (chainAt p.f2 f) := by
  unfold impl_chainOf.f chainAt
  rw [← scan_place0 (fun c : S80 => decide (c.f0 = f)) z80 p.f2]
  refine scan_ev (F := fun k i => impl_chainOf.l0 k f p.f2 (p.f2.length : Int) i) (n := p.f2.length) (fun k => ?_) (fun i hi => ?_) p.f2.length 0 (by omega)
  · simp only [impl_chainOf.l0]; rw [if_neg (by omega)]
  · refine ⟨0, fun k _ => ?_⟩
    simp only [impl_chainOf.l0]
    rw [if_pos (by omega), if_pos (by omega), if_pos (by omega), rdnChainF, wrap_up i (by omega)]
    by_cases c : (p.f2.getD i z80).f0 = f
    · rw [if_pos c]; simp only [decide_eq_true c, if_true, goOn]
    · rw [if_neg c]; simp only [decide_eq_false c, Bool.false_eq_true, if_false, goOn]
theorem specL7At_ev (p : S26) (f : Int) (h : p.f2.length ≤ 4000001) : Ev (fun k => spec_l7At.f k p.f0 p.f1 p.f2 f) (chainAt p.f2 f) := by
  unfold spec_l7At.f chainAt
  rw [← scan_place0 (fun c : S80 => decide (c.f0 = f)) z80 p.f2]
  refine scan_ev (F := fun k i => spec_l7At.l0 k f i p.f0 p.f1 p.f2) (n := p.f2.length) (fun k => ?_) (fun i hi => ?_) p.f2.length 0 (by omega)
  · simp only [spec_l7At.l0]; rw [if_neg (by omega)]
  · refine ⟨0, fun k _ => ?_⟩
    simp only [spec_l7At.l0]
    rw [if_pos (by omega), if_pos (by omega), rdnChainF, wrap_up i (by omega)]
    by_cases c : (p.f2.getD i z80).f0 = f
    · rw [if_pos c]; simp only [decide_eq_true c, if_true, goOn]
    · rw [if_neg c]; simp only [decide_eq_false c, Bool.false_eq_true, if_false, goOn]
theorem implInChain_ev (c : S80) (s : List S99) (h : c.f1.length ≤ 4000000 ∧ ∀ y ∈ c.f1, WiAlarm y) : Ev (fun k => impl_InChain.f k c.f0 c.f1 s) (labelsAt c.f1 s) := by
  obtain ⟨K, g⟩ := implLabelsAt_ev c.f1 s h
  exact ⟨K, fun k hk => by simp only [impl_InChain.f, g k hk, Option.bind_some]⟩
theorem specInChain_ev (c : S80) (s : List S99) (h : c.f1.length ≤ 4000000 ∧ ∀ y ∈ c.f1, WiAlarm y) : Ev (fun k => spec_InChain.f k c.f0 c.f1 s) (labelsAt c.f1 s) := by
  have h1 := h.1
  unfold spec_InChain.f labelsAt
  rw [← scan_place0 (fun a : S29 => sameSet a.f0 s) z29 c.f1]
  refine scan_ev (F := fun k i => spec_InChain.l0 k s i c.f0 c.f1) (n := c.f1.length) (fun k => ?_) (fun i hi => ?_) c.f1.length 0 (by omega)
  · simp only [spec_InChain.l0]; rw [if_neg (by omega)]
  · have hw := (h.2 _ (getD_mem c.f1 i z29 hi)).1.1
    obtain ⟨K, g⟩ := specSameSet_ev (c.f1.getD i z29).f0 s (by omega)
    refine ⟨K, fun k hk => ?_⟩
    have e := g k hk
    simp only at e
    simp only [spec_InChain.l0]
    rw [if_pos (by omega), if_pos (by omega), rdnAlarm, e, Option.bind_some, wrap_up i (by omega)]
    cases sameSet (c.f1.getD i z29).f0 s <;> simp [goOn]
def findIn (p : S26) (s : List S99) : S29 × Bool :=
  let i := chainAt p.f2 (fingerOf s)
  if i < 0 then (z29, false) else
    let c := p.f2.getD i.toNat z80
    let k := labelsAt c.f1 s
    if k < 0 then (z29, false) else (c.f1.getD k.toNat z29, true)
theorem implFindIn_ev (p : S26) (s : List S99) (h : WiPart p) (hs : s.length ≤ 4000000 ∧ ∀ y ∈ s, WiLabel y) :
    Ev (fun k => impl_FindIn.f k p.f0 p.f1 p.f2 s) ((findIn p s).1.f0, (findIn p s).1.f1, (findIn p s).1.f2, (findIn p s).1.f3, (findIn p s).2) := by
  obtain ⟨K1, g1⟩ := implFinger_ev s hs
  obtain ⟨K2, g2⟩ := implChainOf_ev p (fingerOf s) (by have := h.2.2.1; omega)
  have hb := place_lt (fun c : S80 => decide (c.f0 = fingerOf s)) p.f2 0
  have hl := place_lo (fun c : S80 => decide (c.f0 = fingerOf s)) p.f2 0
  generalize hi : chainAt p.f2 (fingerOf s) = i at g2
  rw [show place (fun c : S80 => decide (c.f0 = fingerOf s)) p.f2 0 = i from hi] at hb hl
  by_cases c : i < 0
  · refine ⟨K1 + K2, fun k hk => ?_⟩
    have e1 := g1 k (by omega)
    have e2 := g2 k (by omega)
    simp only at e1 e2
    simp [impl_FindIn.f, e1, e2, c, findIn, hi, z29]
  · have hil : i.toNat < p.f2.length := by rcases hb with hb | hb <;> omega
    have hm := h.2.2.2 _ (getD_mem p.f2 i.toNat z80 hil)
    have hrd : rd_T80 p.f2 i = p.f2.getD i.toNat z80 := rfl
    generalize hc : p.f2.getD i.toNat z80 = ch at hm hrd
    obtain ⟨K3, g3⟩ := implInChain_ev ch s hm.2
    have hb2 := place_lt (fun a : S29 => sameSet a.f0 s) ch.f1 0
    have hl2 := place_lo (fun a : S29 => sameSet a.f0 s) ch.f1 0
    generalize hj : labelsAt ch.f1 s = j at g3
    rw [show place (fun a : S29 => sameSet a.f0 s) ch.f1 0 = j from hj] at hb2 hl2
    refine ⟨K1 + K2 + K3, fun k hk => ?_⟩
    have e1 := g1 k (by omega)
    have e2 := g2 k (by omega)
    have e3 := g3 k (by omega)
    simp only at e1 e2 e3
    by_cases c2 : j < 0
    · simp only [impl_FindIn.f, e1, e2, Option.bind_some, if_neg c, findIn, hi, hc]
      rw [if_pos (by omega), if_pos (by omega), hrd, e3, hj]
      simp only [Option.bind_some, if_pos c2]
      rfl
    · have hjl : j.toNat < ch.f1.length := by rcases hb2 with hb2 | hb2 <;> omega
      have hw := hm.2.2 _ (getD_mem ch.f1 j.toNat z29 hjl)
      have hrd2 : rd_T29 ch.f1 j = ch.f1.getD j.toNat z29 := rfl
      simp only [impl_FindIn.f, e1, e2, Option.bind_some, if_neg c, findIn, hi, hc]
      rw [if_pos (by omega), if_pos (by omega), hrd, e3, hj]
      simp only [Option.bind_some, if_neg c2]
      rw [if_pos (by omega), if_pos (by omega), hrd2, implCopyAlarm_ev _ (Nat.le_trans hw.1.1 (by decide))]
      rfl
theorem specFindIn_ev (p : S26) (s : List S99) (h : WiPart p) (hs : s.length ≤ 4000000 ∧ ∀ y ∈ s, WiLabel y) :
    Ev (fun k => spec_FindIn.f k p.f0 p.f1 p.f2 s) ((findIn p s).1.f0, (findIn p s).1.f1, (findIn p s).1.f2, (findIn p s).1.f3, (findIn p s).2) := by
  obtain ⟨K1, g1⟩ := specFinger_ev s hs
  obtain ⟨K2, g2⟩ := specL7At_ev p (fingerOf s) (by have := h.2.2.1; omega)
  have hb := place_lt (fun c : S80 => decide (c.f0 = fingerOf s)) p.f2 0
  have hl := place_lo (fun c : S80 => decide (c.f0 = fingerOf s)) p.f2 0
  generalize hi : chainAt p.f2 (fingerOf s) = i at g2
  rw [show place (fun c : S80 => decide (c.f0 = fingerOf s)) p.f2 0 = i from hi] at hb hl
  by_cases c : i < 0
  · refine ⟨K1 + K2, fun k hk => ?_⟩
    have e1 := g1 k (by omega)
    have e2 := g2 k (by omega)
    simp only at e1 e2
    simp [spec_FindIn.f, e1, e2, c, findIn, hi, z29]
  · have hil : i.toNat < p.f2.length := by rcases hb with hb | hb <;> omega
    have hm := h.2.2.2 _ (getD_mem p.f2 i.toNat z80 hil)
    have hrd : rd_T80 p.f2 i = p.f2.getD i.toNat z80 := rfl
    generalize hc : p.f2.getD i.toNat z80 = ch at hm hrd
    obtain ⟨K3, g3⟩ := specInChain_ev ch s hm.2
    have hb2 := place_lt (fun a : S29 => sameSet a.f0 s) ch.f1 0
    have hl2 := place_lo (fun a : S29 => sameSet a.f0 s) ch.f1 0
    generalize hj : labelsAt ch.f1 s = j at g3
    rw [show place (fun a : S29 => sameSet a.f0 s) ch.f1 0 = j from hj] at hb2 hl2
    refine ⟨K1 + K2 + K3, fun k hk => ?_⟩
    have e1 := g1 k (by omega)
    have e2 := g2 k (by omega)
    have e3 := g3 k (by omega)
    simp only at e1 e2 e3
    by_cases c2 : j < 0
    · simp only [spec_FindIn.f, e1, e2, Option.bind_some, if_neg c, findIn, hi, hc]
      rw [if_pos (by omega), if_pos (by omega), hrd, e3, hj]
      simp only [Option.bind_some, if_pos c2]
      rfl
    · have hjl : j.toNat < ch.f1.length := by rcases hb2 with hb2 | hb2 <;> omega
      have hw := hm.2.2 _ (getD_mem ch.f1 j.toNat z29 hjl)
      have hrd2 : rd_T29 ch.f1 j = ch.f1.getD j.toNat z29 := rfl
      simp only [spec_FindIn.f, e1, e2, Option.bind_some, if_neg c, findIn, hi, hc]
      rw [if_pos (by omega), if_pos (by omega), hrd, e3, hj]
      simp only [Option.bind_some, if_neg c2]
      rw [if_pos (by omega), if_pos (by omega), hrd2, specL4Copy_ev _ (Nat.le_trans hw.1.1 (by decide))]
      rfl
theorem Wi_zAlarm' : WiAlarm z29 := ⟨⟨by simp [z29], fun y hy => by simp [z29] at hy⟩, trivial, trivial, by show (⟨#[]⟩ : ByteArray).size ≤ 4000000; decide⟩
theorem findIn_wi {p : S26} {s : List S99} (h : WiPart p) : WiAlarm (findIn p s).1 := by
  unfold findIn
  simp only []
  split
  · exact Wi_zAlarm'
  · split
    · exact Wi_zAlarm'
    · rename_i c c2
      have hb := place_lt (fun c : S80 => decide (c.f0 = fingerOf s)) p.f2 0
      have hb2 := place_lt (fun a : S29 => sameSet a.f0 s) (p.f2.getD (chainAt p.f2 (fingerOf s)).toNat z80).f1 0
      have e1 : chainAt p.f2 (fingerOf s) = place (fun c : S80 => decide (c.f0 = fingerOf s)) p.f2 0 := rfl
      have e2 : labelsAt (p.f2.getD (chainAt p.f2 (fingerOf s)).toNat z80).f1 s = place (fun a : S29 => sameSet a.f0 s) (p.f2.getD (chainAt p.f2 (fingerOf s)).toNat z80).f1 0 := rfl
      have hil : (chainAt p.f2 (fingerOf s)).toNat < p.f2.length := by rcases hb with hb | hb <;> omega
      have hm := h.2.2.2 _ (getD_mem p.f2 (chainAt p.f2 (fingerOf s)).toNat z80 hil)
      exact hm.2.2 _ (getD_mem _ _ z29 (by rcases hb2 with hb2 | hb2 <;> omega))
theorem rdmmChain (pre suf : List S80) (y : S80) : rd_T80 (pre ++ y :: suf) (pre.length : Int) = y := by unfold rd_T80; simp
theorem rdmmAlarm (pre suf : List S29) (y : S29) : rd_T29 (pre ++ y :: suf) (pre.length : Int) = y := by unfold rd_T29; simp
theorem specL4All_l0 : ∀ (suf pre : List S29), (pre ++ suf).length ≤ 5000000 → (∀ y ∈ suf, y.f0.length ≤ 5000000) → Ev (fun k => spec_l4All.l0 k (pre ++ suf) pre (pre.length : Int)) (pre ++ suf)
  | [], pre, h, hW => by
    refine Ev.step (f := fun _ => some (pre ++ [])) (fun k => ?_) (Ev.now _)
    simp only [spec_l4All.l0]
    rw [if_neg (not_lt_end pre), List.append_nil]
  | y :: suf, pre, h, hW => by
    have ih := specL4All_l0 suf (pre ++ [y]) (by simpa using h) (fun z hz => hW z (List.mem_cons_of_mem _ hz))
    have hp : pre.length < 5000000 := by simp at h; omega
    refine Ev.step (f := fun k => spec_l4All.l0 k ((pre ++ [y]) ++ suf) (pre ++ [y]) ((pre ++ [y]).length : Int)) (fun k => ?_) (by rw [mid_assoc pre suf y]; exact ih)
    simp only [spec_l4All.l0]
    rw [if_pos (lt_mid pre suf y)]
    simp only [nn, if_true, rdmmAlarm, specL4Copy_ev y (hW y List.mem_cons_self), Option.bind_some, wrap_up pre.length (by omega)]
    rw [if_pos (by omega)]
    congr 1
    · simp
    · simp
theorem specL4All_ev (l : List S29) (h : l.length ≤ 5000000) (hW : ∀ y ∈ l, y.f0.length ≤ 5000000) : Ev (fun k => spec_l4All.f k l) l :=
  Ev.congr (fun k => by unfold spec_l4All.f; rfl) (specL4All_l0 l [] (by simpa using h) hW)
theorem implCopyAlarms_l0 : ∀ (suf pre : List S29), (pre ++ suf).length ≤ 5000000 → (∀ y ∈ suf, y.f0.length ≤ 5000000) → Ev (fun k => impl_copyAlarms.l0 k pre (pre ++ suf) ((pre ++ suf).length : Int) (pre.length : Int)) (pre ++ suf)
  | [], pre, h, hW => by
    refine Ev.step (f := fun _ => some (pre ++ [])) (fun k => ?_) (Ev.now _)
    simp only [impl_copyAlarms.l0]
    rw [if_neg (by simp), List.append_nil]
  | y :: suf, pre, h, hW => by
    have ih := implCopyAlarms_l0 suf (pre ++ [y]) (by simpa using h) (fun z hz => hW z (List.mem_cons_of_mem _ hz))
    have hp : pre.length < 5000000 := by simp at h; omega
    refine Ev.step (f := fun k => impl_copyAlarms.l0 k (pre ++ [y]) ((pre ++ [y]) ++ suf) (((pre ++ [y]) ++ suf).length : Int) ((pre ++ [y]).length : Int)) (fun k => ?_) (by rw [mid_assoc pre suf y]; exact ih)
    simp only [impl_copyAlarms.l0]
    rw [if_pos (lt_mid pre suf y)]
    simp only [nn, if_true, rdmmAlarm, implCopyAlarm_ev y (hW y List.mem_cons_self), Option.bind_some, wrap_up pre.length (by omega)]
    rw [if_pos (lt_mid pre suf y), if_pos (by omega)]
    congr 1
    · simp
    · simp
    · simp
theorem implCopyAlarms_ev (l : List S29) (h : l.length ≤ 5000000) (hW : ∀ y ∈ l, y.f0.length ≤ 5000000) : Ev (fun k => impl_copyAlarms.f k l) l :=
  Ev.congr (fun k => by unfold impl_copyAlarms.f; rfl) (implCopyAlarms_l0 l [] (by simpa using h) hW)
def mergeA (a b : S29) : S29 := if a.f1 ≤ b.f2 then (if b.f1 ≤ a.f2 then ⟨b.f0, mn a.f1 b.f1, b.f2, b.f3⟩ else b) else b
theorem least_mn (x y : Int) : spec_Least.f x y = some (mn x y) := by unfold spec_Least.f mn; split <;> rfl
theorem implMerge_ev (a b : S29) (h : b.f0.length ≤ 5000000) : impl_Merge.f a.f0 a.f1 a.f2 a.f3 b.f0 b.f1 b.f2 b.f3 = some ((mergeA a b).f0, (mergeA a b).f1, (mergeA a b).f2, (mergeA a b).f3) := by
  simp only [impl_Merge.f, impl_Touch.f, implCopyAlarm_ev b h, Option.bind_some, mergeA]
  by_cases c : a.f1 ≤ b.f2
  · by_cases c2 : b.f1 ≤ a.f2
    · simp [c, c2]
    · simp [c, c2]
  · simp [c]
theorem specMerge_ev (a b : S29) (h : b.f0.length ≤ 5000000) : spec_Merge.f a.f0 a.f1 a.f2 a.f3 b.f0 b.f1 b.f2 b.f3 = some ((mergeA a b).f0, (mergeA a b).f1, (mergeA a b).f2, (mergeA a b).f3) := by
  simp only [spec_Merge.f, spec_Touch.f, specL4Copy_ev b h, Option.bind_some, mergeA, least_mn]
  by_cases c : a.f1 ≤ b.f2
  · by_cases c2 : b.f1 ≤ a.f2
    · simp [c, c2]
    · simp [c, c2]
  · simp [c]
theorem mergeA_f0 (a b : S29) : (mergeA a b).f0 = b.f0 := by unfold mergeA; split <;> (try split) <;> rfl
theorem mergeA_wi {a b : S29} (h : WiAlarm b) : WiAlarm (mergeA a b) := by
  unfold mergeA
  split
  · split
    · exact ⟨h.1, trivial, trivial, h.2.2.2⟩
    · exact h
  · exact h
theorem labelsAt_end (l : List S29) (s : List S99) (h : labelsAt l s ≥ 0) : labelsAt l s < (l.length : Int) := by
  have := place_lt (fun a : S29 => sameSet a.f0 s) l 0
  unfold labelsAt at *
  omega
theorem chainAt_end (l : List S80) (f : Int) (h : chainAt l f ≥ 0) : chainAt l f < (l.length : Int) := by
  have := place_lt (fun c : S80 => decide (c.f0 = f)) l 0
  unfold chainAt at *
  omega
/-- An alarm put into a chain: in place of the one of its labels, or behind all. -/
def putChain (c : S80) (a : S29) : S80 × Bool :=
  if labelsAt c.f1 a.f0 ≥ 0 then (⟨c.f0, c.f1.set (labelsAt c.f1 a.f0).toNat (mergeA (c.f1.getD (labelsAt c.f1 a.f0).toNat z29) a)⟩, false) else (⟨c.f0, c.f1 ++ [a]⟩, true)
theorem okC {l : List S29} (h : l.length ≤ 4000000 ∧ ∀ y ∈ l, WiAlarm y) : l.length ≤ 5000000 ∧ ∀ y ∈ l, y.f0.length ≤ 5000000 := ⟨by omega, fun y hy => Nat.le_trans (h.2 y hy).1.1 (by decide)⟩
theorem implPutChain_ev (c : S80) (a : S29) (h : WiChain c) (ha : WiAlarm a) : Ev (fun k => impl_PutChain.f k c.f0 c.f1 a.f0 a.f1 a.f2 a.f3) ((putChain c a).1.f0, (putChain c a).1.f1, (putChain c a).2) := by
  obtain ⟨K1, g1⟩ := implCopyAlarms_ev c.f1 (okC h.2).1 (okC h.2).2
  obtain ⟨K2, g2⟩ := implInChain_ev c a.f0 h.2
  have ho : a.f0.length ≤ 5000000 := Nat.le_trans ha.1.1 (by decide)
  have hlt := labelsAt_end c.f1 a.f0
  have hl := h.2.1
  refine ⟨K1 + K2, fun k hk => ?_⟩
  have e1 := g1 k (by omega)
  have e2 := g2 k (by omega)
  simp only at e1 e2
  simp only [impl_PutChain.f, impl_copyChain.f, e1, Option.bind_some, e2]
  unfold putChain
  by_cases c0 : labelsAt c.f1 a.f0 ≥ 0
  · rw [if_pos c0, if_pos c0, if_pos (hlt c0)]
    unfold rd_T29
    rw [implMerge_ev _ a ho]
    simp only [Option.bind_some]
    rw [if_pos (hlt c0), if_pos c0]
  · rw [if_neg c0, implCopyAlarm_ev a ho]
    simp only [Option.bind_some]
    rw [if_pos (by omega), if_neg c0]
theorem specPutChain_ev (c : S80) (a : S29) (h : WiChain c) (ha : WiAlarm a) : Ev (fun k => spec_PutChain.f k c.f0 c.f1 a.f0 a.f1 a.f2 a.f3) ((putChain c a).1.f0, (putChain c a).1.f1, (putChain c a).2) := by
  obtain ⟨K1, g1⟩ := specL4All_ev c.f1 (okC h.2).1 (okC h.2).2
  obtain ⟨K2, g2⟩ := specInChain_ev c a.f0 h.2
  have ho : a.f0.length ≤ 5000000 := Nat.le_trans ha.1.1 (by decide)
  have hlt := labelsAt_end c.f1 a.f0
  have hl := h.2.1
  refine ⟨K1 + K2, fun k hk => ?_⟩
  have e1 := g1 k (by omega)
  have e2 := g2 k (by omega)
  simp only at e1 e2
  simp only [spec_PutChain.f, spec_l6Copy.f, e1, Option.bind_some, e2]
  unfold putChain
  by_cases c0 : labelsAt c.f1 a.f0 ≥ 0
  · rw [if_neg (by omega), if_pos c0, if_pos (hlt c0)]
    unfold rd_T29
    rw [specMerge_ev _ a ho]
    simp only [Option.bind_some]
    rw [if_pos (hlt c0), if_pos c0]
  · rw [if_pos (by omega), specL4Copy_ev a ho]
    simp only [Option.bind_some]
    rw [if_pos (by omega), if_neg c0]
theorem implCopyPart_l0 (o0 o1 : Int) : ∀ (suf pre acc : List S80), (pre ++ suf).length ≤ 5000000 → acc.length = pre.length → (∀ y ∈ suf, WiChain y) →
    Ev (fun k => impl_copyPart.l0 k (pre ++ suf) ((pre ++ suf).length : Int) (pre.length : Int) o0 o1 acc) (o0, o1, acc ++ suf)
  | [], pre, acc, h, hl, hW => by
    refine Ev.step (f := fun _ => some (o0, o1, acc ++ ([] : List S80))) (fun k => ?_) (Ev.now _)
    simp only [impl_copyPart.l0]
    rw [if_neg (by simp)]
    simp
  | y :: suf, pre, acc, h, hl, hW => by
    obtain ⟨K, g⟩ := implCopyPart_l0 o0 o1 suf (pre ++ [y]) (acc ++ [y]) (by simpa using h) (by simp [hl]) (fun z hz => hW z (List.mem_cons_of_mem _ hz))
    obtain ⟨K2, g2⟩ := implCopyAlarms_ev y.f1 (okC (hW y List.mem_cons_self).2).1 (okC (hW y List.mem_cons_self).2).2
    have hp : pre.length < 5000000 := by simp at h; omega
    refine ⟨K + K2 + 1, fun k hk => ?_⟩
    obtain ⟨k, rfl⟩ : ∃ m, k = m + 1 := ⟨k - 1, by omega⟩
    have e := g k (by omega)
    have e2 := g2 k (by omega)
    simp only at e e2
    rw [← mid_assoc pre suf y] at e
    simp only [impl_copyPart.l0, impl_copyChain.f]
    rw [if_pos (lt_mid pre suf y)]
    simp only [nn, if_true, rdmmChain, wrap_up pre.length (by omega)]
    rw [if_pos (lt_mid pre suf y), e2]
    simp only [Option.bind_some]
    rw [if_pos (by omega), show ((pre.length + 1 : Nat) : Int) = ((pre ++ [y]).length : Int) by simp, e]
    simp
theorem implCopyPart_ev (p : S26) (h : WiPart p) : Ev (fun k => impl_copyPart.f k p.f0 p.f1 p.f2) (p.f0, p.f1, p.f2) :=
  Ev.congr (fun k => by unfold impl_copyPart.f; rfl) (by simpa using implCopyPart_l0 p.f0 p.f1 p.f2 [] [] (by have := h.2.2.1; simp; omega) rfl h.2.2.2)
theorem specCopyPart_l0 (q0 q1 o0 o1 : Int) : ∀ (suf pre acc : List S80), (pre ++ suf).length ≤ 5000000 → acc.length = pre.length → (∀ y ∈ suf, WiChain y) →
    Ev (fun k => spec_l7Copy.l0 k (pre.length : Int) q0 q1 (pre ++ suf) o0 o1 acc) (o0, o1, acc ++ suf)
  | [], pre, acc, h, hl, hW => by
    refine Ev.step (f := fun _ => some (o0, o1, acc ++ ([] : List S80))) (fun k => ?_) (Ev.now _)
    simp only [spec_l7Copy.l0]
    rw [if_neg (not_lt_end pre)]
    simp
  | y :: suf, pre, acc, h, hl, hW => by
    obtain ⟨K, g⟩ := specCopyPart_l0 q0 q1 o0 o1 suf (pre ++ [y]) (acc ++ [y]) (by simpa using h) (by simp [hl]) (fun z hz => hW z (List.mem_cons_of_mem _ hz))
    obtain ⟨K2, g2⟩ := specL4All_ev y.f1 (okC (hW y List.mem_cons_self).2).1 (okC (hW y List.mem_cons_self).2).2
    have hp : pre.length < 5000000 := by simp at h; omega
    refine ⟨K + K2 + 1, fun k hk => ?_⟩
    obtain ⟨k, rfl⟩ : ∃ m, k = m + 1 := ⟨k - 1, by omega⟩
    have e := g k (by omega)
    have e2 := g2 k (by omega)
    simp only at e e2
    rw [← mid_assoc pre suf y] at e
    simp only [spec_l7Copy.l0, spec_l6Copy.f]
    rw [if_pos (lt_mid pre suf y)]
    simp only [nn, if_true, rdmmChain, wrap_up pre.length (by omega)]
    rw [e2]
    simp only [Option.bind_some]
    rw [if_pos (by omega), show ((pre.length + 1 : Nat) : Int) = ((pre ++ [y]).length : Int) by simp, e]
    simp
theorem specCopyPart_ev (p : S26) (h : WiPart p) : Ev (fun k => spec_l7Copy.f k p.f0 p.f1 p.f2) (p.f0, p.f1, p.f2) :=
  Ev.congr (fun k => by unfold spec_l7Copy.f; rfl) (by simpa using specCopyPart_l0 p.f0 p.f1 p.f0 p.f1 p.f2 [] [] (by have := h.2.2.1; simp; omega) rfl h.2.2.2)
/-- How many stand ahead of the first one that a question denies. -/
def firstNot {α : Type} (p : α → Bool) : List α → Nat
  | [] => 0
  | x :: l => if p x = true then firstNot p l + 1 else 0
theorem firstNot_le {α : Type} (p : α → Bool) : ∀ l : List α, firstNot p l ≤ l.length
  | [] => Nat.le_refl _
  | x :: l => by have := firstNot_le p l; unfold firstNot; rw [List.length_cons]; split <;> omega
theorem firstNot_congr {α : Type} (p q : α → Bool) : ∀ l : List α, (∀ x ∈ l, p x = q x) → firstNot p l = firstNot q l
  | [], _ => rfl
  | x :: l, h => by unfold firstNot; rw [h x List.mem_cons_self, firstNot_congr p q l (fun y hy => h y (List.mem_cons_of_mem _ hy))]
def insC (l : List S80) (f : Int) (a : S29) (i : Nat) : List S80 := ((([] : List S80) ++ l.take i) ++ [⟨f, [a]⟩]) ++ l.drop i
theorem insC_length (l : List S80) (f : Int) (a : S29) (i : Nat) : (insC l f a i).length = l.length + 1 := by
  unfold insC; simp only [List.length_append, List.length_take, List.length_drop, List.length_singleton, List.length_nil]; omega
theorem insC_mem {l : List S80} {f : Int} {a : S29} {i : Nat} {y : S80} (h : y ∈ insC l f a i) : y ∈ l ∨ y = ⟨f, [a]⟩ := by
  unfold insC at h
  rcases List.mem_append.1 h with h | h
  · rcases List.mem_append.1 h with h | h
    · rcases List.mem_append.1 h with h | h
      · simp at h
      · exact .inl (List.mem_of_mem_take h)
    · exact .inr (List.mem_singleton.1 h)
  · exact .inl (List.mem_of_mem_drop h)
theorem specPut_j1 (f : Int) (a : S29) (q0 q1 : Int) (ql : List S80) (o0 o1 : Int) (ha : a.f0.length ≤ 5000000) (l : List S80) (i : Nat) (hi : i ≤ l.length) (hl : l.length ≤ 5000000) (k : Nat) :
    spec_PutIn.j1 (k + 1) f (i : Int) false q0 q1 ql a.f0 a.f1 a.f2 a.f3 o0 o1 l = some (o0, o1, insC l f a i, true) := by
  simp only [spec_PutIn.j1]
  rw [if_neg (by decide)]
  simp only [specL4Copy_ev a ha, Option.bind_some, nn, if_true, Int.toNat_natCast]
  rw [if_pos (by omega), if_pos (by simp only [List.length_append, List.length_take, List.length_nil]; omega), if_pos (by simp only [List.length_append, List.length_take, List.length_nil]; omega), if_pos (by simp only [List.length_append, List.length_take, List.length_drop, List.length_nil, List.length_singleton]; omega)]
  rfl
theorem specPut_l0 (f : Int) (a : S29) (q0 q1 : Int) (o0 o1 : Int) (ha : a.f0.length ≤ 5000000) : ∀ (suf pre : List S80), (pre ++ suf).length ≤ 5000000 →
    Ev (fun k => spec_PutIn.l0 k f (pre.length : Int) q0 q1 (pre ++ suf) a.f0 a.f1 a.f2 a.f3 o0 o1 (pre ++ suf)) (o0, o1, insC (pre ++ suf) f a (pre.length + firstNot (fun c : S80 => decide (c.f0 < f)) suf), true)
  | [], pre, h => by
    refine ⟨2, fun k hk => ?_⟩
    obtain ⟨k, rfl⟩ : ∃ m, k = m + 2 := ⟨k - 2, by omega⟩
    simp only [spec_PutIn.l0]
    rw [if_neg (not_lt_end pre)]
    exact specPut_j1 f a q0 q1 (pre ++ []) o0 o1 ha (pre ++ []) pre.length (by simp) h k
  | y :: suf, pre, h => by
    have hl : pre.length < 5000000 := by simp at h; omega
    by_cases c : y.f0 < f
    · obtain ⟨K, g⟩ := specPut_l0 f a q0 q1 o0 o1 ha suf (pre ++ [y]) (by simpa using h)
      refine ⟨K + 2, fun k hk => ?_⟩
      obtain ⟨k, rfl⟩ : ∃ m, k = m + 2 := ⟨k - 2, by omega⟩
      have e := g k (by omega)
      simp only at e
      rw [← mid_assoc pre suf y] at e
      simp only [spec_PutIn.l0]
      rw [if_pos (lt_mid pre suf y)]
      simp only [nn, if_true, rdmmChain]
      rw [decide_eq_true c]
      simp only [spec_PutIn.j1, if_true, wrap_up pre.length (by omega)]
      rw [show ((pre.length + 1 : Nat) : Int) = ((pre ++ [y]).length : Int) by simp, e]
      simp only [firstNot, decide_eq_true c, if_true, List.length_append, List.length_singleton]
      rw [show pre.length + 1 + firstNot (fun c : S80 => decide (c.f0 < f)) suf = pre.length + (firstNot (fun c : S80 => decide (c.f0 < f)) suf + 1) by omega]
    · refine ⟨2, fun k hk => ?_⟩
      obtain ⟨k, rfl⟩ : ∃ m, k = m + 2 := ⟨k - 2, by omega⟩
      simp only [spec_PutIn.l0]
      rw [if_pos (lt_mid pre suf y)]
      simp only [nn, if_true, rdmmChain]
      rw [decide_eq_false c, specPut_j1 f a q0 q1 (pre ++ y :: suf) o0 o1 ha (pre ++ y :: suf) pre.length (by simp) h k]
      simp only [firstNot, decide_eq_false c, Bool.false_eq_true, if_false, Nat.add_zero]
theorem implPut_j1 (f : Int) (a : S29) (o0 o1 : Int) (ha : a.f0.length ≤ 5000000) (l : List S80) (i : Nat) (hi : i ≤ l.length) (hl : l.length ≤ 5000000) (k : Nat) :
    impl_PutIn.j1 (k + 1) f (i : Int) false a.f0 a.f1 a.f2 a.f3 o0 o1 l = some (o0, o1, insC l f a i, true) := by
  simp only [impl_PutIn.j1]
  rw [if_neg (by decide)]
  simp only [implCopyAlarm_ev a ha, Option.bind_some, nn, if_true, Int.toNat_natCast]
  rw [if_pos (by omega), if_pos (by simp only [List.length_append, List.length_take, List.length_nil]; omega), if_pos (by simp only [List.length_append, List.length_take, List.length_nil]; omega), if_pos (by simp only [List.length_append, List.length_take, List.length_drop, List.length_nil, List.length_singleton]; omega)]
  rfl
theorem implPut_l0 (f : Int) (a : S29) (o0 o1 : Int) (ha : a.f0.length ≤ 5000000) : ∀ (suf pre : List S80), (pre ++ suf).length ≤ 5000000 →
    Ev (fun k => impl_PutIn.l0 k f (pre.length : Int) a.f0 a.f1 a.f2 a.f3 o0 o1 (pre ++ suf)) (o0, o1, insC (pre ++ suf) f a (pre.length + firstNot (fun c : S80 => decide (c.f0 ≤ f)) suf), true)
  | [], pre, h => by
    refine ⟨2, fun k hk => ?_⟩
    obtain ⟨k, rfl⟩ : ∃ m, k = m + 2 := ⟨k - 2, by omega⟩
    simp only [impl_PutIn.l0]
    rw [if_neg (not_lt_end pre)]
    exact implPut_j1 f a  o0 o1 ha (pre ++ []) pre.length (by simp) h k
  | y :: suf, pre, h => by
    have hl : pre.length < 5000000 := by simp at h; omega
    by_cases c : y.f0 ≤ f
    · obtain ⟨K, g⟩ := implPut_l0 f a o0 o1 ha suf (pre ++ [y]) (by simpa using h)
      refine ⟨K + 2, fun k hk => ?_⟩
      obtain ⟨k, rfl⟩ : ∃ m, k = m + 2 := ⟨k - 2, by omega⟩
      have e := g k (by omega)
      simp only at e
      rw [← mid_assoc pre suf y] at e
      simp only [impl_PutIn.l0]
      rw [if_pos (lt_mid pre suf y)]
      simp only [nn, if_true, rdmmChain]
      rw [decide_eq_true c]
      simp only [impl_PutIn.j1, if_true, wrap_up pre.length (by omega)]
      rw [show ((pre.length + 1 : Nat) : Int) = ((pre ++ [y]).length : Int) by simp, e]
      simp only [firstNot, decide_eq_true c, if_true, List.length_append, List.length_singleton]
      rw [show pre.length + 1 + firstNot (fun c : S80 => decide (c.f0 ≤ f)) suf = pre.length + (firstNot (fun c : S80 => decide (c.f0 ≤ f)) suf + 1) by omega]
    · refine ⟨2, fun k hk => ?_⟩
      obtain ⟨k, rfl⟩ : ∃ m, k = m + 2 := ⟨k - 2, by omega⟩
      simp only [impl_PutIn.l0]
      rw [if_pos (lt_mid pre suf y)]
      simp only [nn, if_true, rdmmChain]
      rw [decide_eq_false c, implPut_j1 f a  o0 o1 ha (pre ++ y :: suf) pre.length (by simp) h k]
      simp only [firstNot, decide_eq_false c, Bool.false_eq_true, if_false, Nat.add_zero]
def putIn (p : S26) (a : S29) : S26 × Bool :=
  if chainAt p.f2 (fingerOf a.f0) ≥ 0 then (⟨p.f0, wrap64 (p.f1 + 1), p.f2.set (chainAt p.f2 (fingerOf a.f0)).toNat (putChain (p.f2.getD (chainAt p.f2 (fingerOf a.f0)).toNat z80) a).1⟩, (putChain (p.f2.getD (chainAt p.f2 (fingerOf a.f0)).toNat z80) a).2)
  else (⟨p.f0, wrap64 (p.f1 + 1), insC p.f2 (fingerOf a.f0) a (firstNot (fun c : S80 => decide (c.f0 < fingerOf a.f0)) p.f2)⟩, true)
theorem getD_wi {l : List S80} (h : ∀ y ∈ l, WiChain y) {i : Int} (h0 : 0 ≤ i) (h1 : i < (l.length : Int)) : WiChain (l.getD i.toNat z80) := h _ (getD_mem l i.toNat z80 (by omega))
theorem implPutIn_ev (p : S26) (a : S29) (h : WiPart p) (ha : WiAlarm a) : Ev (fun k => impl_PutIn.f k p.f0 p.f1 p.f2 a.f0 a.f1 a.f2 a.f3) ((putIn p a).1.f0, (putIn p a).1.f1, (putIn p a).1.f2, (putIn p a).2) := by
  have hl := h.2.2.1
  have ho : a.f0.length ≤ 5000000 := Nat.le_trans ha.1.1 (by decide)
  have hlt := chainAt_end p.f2 (fingerOf a.f0)
  obtain ⟨K1, g1⟩ := implCopyPart_ev p h
  obtain ⟨K2, g2⟩ := implFinger_ev a.f0 ha.1
  obtain ⟨K3, g3⟩ := implChainOf_ev p (fingerOf a.f0) (by omega)
  obtain ⟨K5, g5⟩ := implPut_l0 (fingerOf a.f0) a p.f0 (wrap64 (p.f1 + 1)) ho p.f2 [] (by simp; omega)
  by_cases c : chainAt p.f2 (fingerOf a.f0) ≥ 0
  · obtain ⟨K4, g4⟩ := implPutChain_ev (p.f2.getD (chainAt p.f2 (fingerOf a.f0)).toNat z80) a (getD_wi h.2.2.2 c (hlt c)) ha
    refine ⟨K1 + K2 + K3 + K4, fun k hk => ?_⟩
    have e1 := g1 k (by omega)
    have e2 := g2 k (by omega)
    have e3 := g3 k (by omega)
    have e4 := g4 k (by omega)
    simp only at e1 e2 e3 e4
    simp only [impl_PutIn.f, e1, Option.bind_some, e2, e3]
    rw [if_pos c, if_pos c, if_pos (hlt c)]
    unfold rd_T80
    rw [e4]
    simp only [Option.bind_some]
    rw [if_pos (hlt c)]
    unfold putIn
    rw [if_pos c]
  · refine ⟨K1 + K2 + K3 + K5, fun k hk => ?_⟩
    have e1 := g1 k (by omega)
    have e2 := g2 k (by omega)
    have e3 := g3 k (by omega)
    have e5 := g5 k (by omega)
    simp only [List.nil_append, List.length_nil] at e1 e2 e3 e5
    simp only [impl_PutIn.f, e1, Option.bind_some, e2, e3]
    rw [if_neg c]
    have hn : ∀ y ∈ p.f2, y.f0 ≠ fingerOf a.f0 := by
      intro y hy he
      refine c ((place_ge (fun c : S80 => decide (c.f0 = fingerOf a.f0)) p.f2 0).2 ?_)
      exact List.any_eq_true.2 ⟨y, hy, decide_eq_true he⟩
    have hc : firstNot (fun c : S80 => decide (c.f0 ≤ fingerOf a.f0)) p.f2 = firstNot (fun c : S80 => decide (c.f0 < fingerOf a.f0)) p.f2 :=
      firstNot_congr _ _ p.f2 (fun y hy => decide_eq_decide.2 ⟨fun h9 => by have := hn y hy; omega, fun h9 => by omega⟩)
    unfold putIn
    rw [if_neg c, ← hc]
    simpa using e5
theorem specPutIn_ev (p : S26) (a : S29) (h : WiPart p) (ha : WiAlarm a) : Ev (fun k => spec_PutIn.f k p.f0 p.f1 p.f2 a.f0 a.f1 a.f2 a.f3) ((putIn p a).1.f0, (putIn p a).1.f1, (putIn p a).1.f2, (putIn p a).2) := by
  have hl := h.2.2.1
  have ho : a.f0.length ≤ 5000000 := Nat.le_trans ha.1.1 (by decide)
  have hlt := chainAt_end p.f2 (fingerOf a.f0)
  obtain ⟨K1, g1⟩ := specCopyPart_ev p h
  obtain ⟨K2, g2⟩ := specFinger_ev a.f0 ha.1
  obtain ⟨K3, g3⟩ := specL7At_ev p (fingerOf a.f0) (by omega)
  obtain ⟨K5, g5⟩ := specPut_l0 (fingerOf a.f0) a p.f0 p.f1 p.f0 (wrap64 (p.f1 + 1)) ho p.f2 [] (by simp; omega)
  by_cases c : chainAt p.f2 (fingerOf a.f0) ≥ 0
  · obtain ⟨K4, g4⟩ := specPutChain_ev (p.f2.getD (chainAt p.f2 (fingerOf a.f0)).toNat z80) a (getD_wi h.2.2.2 c (hlt c)) ha
    refine ⟨K1 + K2 + K3 + K4, fun k hk => ?_⟩
    have e1 := g1 k (by omega)
    have e2 := g2 k (by omega)
    have e3 := g3 k (by omega)
    have e4 := g4 k (by omega)
    simp only at e1 e2 e3 e4
    simp only [spec_PutIn.f, e1, Option.bind_some, e2, e3]
    rw [if_pos c, if_pos c, if_pos (hlt c)]
    unfold rd_T80
    rw [e4]
    simp only [Option.bind_some]
    rw [if_pos (hlt c)]
    unfold putIn
    rw [if_pos c]
  · refine ⟨K1 + K2 + K3 + K5, fun k hk => ?_⟩
    have e1 := g1 k (by omega)
    have e2 := g2 k (by omega)
    have e3 := g3 k (by omega)
    have e5 := g5 k (by omega)
    simp only [List.nil_append, List.length_nil] at e1 e2 e3 e5
    simp only [spec_PutIn.f, e1, Option.bind_some, e2, e3]
    rw [if_neg c]
    unfold putIn
    rw [if_neg c]
    simpa using e5
theorem rdmidChaini (pre suf : List S80) (y : S80) : rd_T80 (pre ++ y :: suf) (pre.length : Int) = y := by unfold rd_T80; simp
def inC : List S80 → List S29
  | [] => []
  | c :: cs => c.f1 ++ inC cs
theorem specAlarmsIn_l0 (o0 o1 : Int) : ∀ (suf pre : List S80) (acc : List S29), (pre ++ suf).length ≤ 5000000 → acc.length + (inC suf).length ≤ 5000000 → (∀ c ∈ suf, ∀ y ∈ c.f1, y.f0.length ≤ 5000000) →
    Ev (fun k => spec_AlarmsIn.l0 k acc (pre.length : Int) o0 o1 (pre ++ suf)) (acc ++ inC suf)
  | [], pre, acc, h, ha, hW => by
    refine Ev.step (f := fun _ => some (acc ++ ([] : List S29))) (fun k => ?_) (Ev.now _)
    simp only [spec_AlarmsIn.l0]
    rw [if_neg (not_lt_end pre)]
    simp
  | y :: suf, pre, acc, h, ha, hW => by
    have hp : pre.length < 5000000 := by simp at h; omega
    have hl : acc.length + (y.f1.length + (inC suf).length) ≤ 5000000 := by simpa [inC] using ha
    obtain ⟨K, g⟩ := specAlarmsIn_l0 o0 o1 suf (pre ++ [y]) (acc ++ y.f1) (by simpa using h) (by simp; omega) (fun z hz => hW z (List.mem_cons_of_mem _ hz))
    obtain ⟨K1, g1⟩ := specL4All_ev y.f1 (by omega) (hW y List.mem_cons_self)
    refine ⟨K + K1 + 1, fun k hk => ?_⟩
    obtain ⟨k, rfl⟩ : ∃ m, k = m + 1 := ⟨k - 1, by omega⟩
    have G := g k (by omega)
    have G1 := g1 k (by omega)
    simp only at G G1
    simp only [spec_AlarmsIn.l0]
    rw [if_pos (lt_mid pre suf y), if_pos (nn _), rdmidChaini, G1, Option.bind_some, if_pos (by omega), wrap_up _ (by omega)]
    rw [show pre ++ y :: suf = (pre ++ [y]) ++ suf by simp, show ((pre.length + 1 : Nat) : Int) = ((pre ++ [y]).length : Int) by simp, G]
    simp [inC]
theorem implAlarmsIn_l0 : ∀ (suf pre : List S80) (acc : List S29), (pre ++ suf).length ≤ 5000000 → acc.length + (inC suf).length ≤ 5000000 → (∀ c ∈ suf, ∀ y ∈ c.f1, y.f0.length ≤ 5000000) →
    Ev (fun k => impl_AlarmsIn.l0 k acc (pre ++ suf) ((pre ++ suf).length : Int) (pre.length : Int)) (acc ++ inC suf)
  | [], pre, acc, h, ha, hW => by
    refine Ev.step (f := fun _ => some (acc ++ ([] : List S29))) (fun k => ?_) (Ev.now _)
    simp only [impl_AlarmsIn.l0]
    rw [if_neg (not_lt_end pre)]
    simp
  | y :: suf, pre, acc, h, ha, hW => by
    have hp : pre.length < 5000000 := by simp at h; omega
    have hl : acc.length + (y.f1.length + (inC suf).length) ≤ 5000000 := by simpa [inC] using ha
    obtain ⟨K, g⟩ := implAlarmsIn_l0 suf (pre ++ [y]) (acc ++ y.f1) (by simpa using h) (by simp; omega) (fun z hz => hW z (List.mem_cons_of_mem _ hz))
    obtain ⟨K1, g1⟩ := implCopyAlarms_ev y.f1 (by omega) (hW y List.mem_cons_self)
    refine ⟨K + K1 + 1, fun k hk => ?_⟩
    obtain ⟨k, rfl⟩ : ∃ m, k = m + 1 := ⟨k - 1, by omega⟩
    have G := g k (by omega)
    have G1 := g1 k (by omega)
    simp only at G G1
    simp only [impl_AlarmsIn.l0]
    rw [if_pos (lt_mid pre suf y), if_pos (nn _), if_pos (lt_mid pre suf y), rdmidChaini, G1, Option.bind_some, if_pos (by omega), wrap_up _ (by omega)]
    rw [show pre ++ y :: suf = (pre ++ [y]) ++ suf by simp, show ((pre.length + 1 : Nat) : Int) = ((pre ++ [y]).length : Int) by simp, G]
    simp [inC]
theorem specAlarmsIn_ev (p : S26) (h : p.f2.length ≤ 5000000) (hl : (inC p.f2).length ≤ 5000000) (hW : ∀ c ∈ p.f2, ∀ y ∈ c.f1, y.f0.length ≤ 5000000) : Ev (fun k => spec_AlarmsIn.f k p.f0 p.f1 p.f2) (inC p.f2) :=
  Ev.congr (fun k => by unfold spec_AlarmsIn.f; rfl) (specAlarmsIn_l0 p.f0 p.f1 p.f2 [] [] (by simpa using h) (by simpa using hl) hW)
theorem implAlarmsIn_ev (p : S26) (h : p.f2.length ≤ 5000000) (hl : (inC p.f2).length ≤ 5000000) (hW : ∀ c ∈ p.f2, ∀ y ∈ c.f1, y.f0.length ≤ 5000000) : Ev (fun k => impl_AlarmsIn.f k p.f0 p.f1 p.f2) (inC p.f2) :=
  Ev.congr (fun k => by unfold impl_AlarmsIn.f; rfl) (implAlarmsIn_l0 p.f2 [] [] (by simpa using h) (by simpa using hl) hW)
theorem inC_mem {y : S29} : ∀ {l : List S80}, y ∈ inC l → ∃ c ∈ l, y ∈ c.f1
  | [], h => by cases h
  | c :: l, h => by
    rcases List.mem_append.1 h with h | h
    · exact ⟨c, List.mem_cons_self, h⟩
    · obtain ⟨d, hd, hy⟩ := inC_mem h; exact ⟨d, List.mem_cons_of_mem _ hd, hy⟩
/-- A drawn chain, of so many alarms at most. -/
def ShortC (m : Nat) (c : S80) : Prop := c.f1.length ≤ m ∧ ∀ y ∈ c.f1, ShortA y
theorem shortC_up {m n : Nat} {c : S80} (h : ShortC m c) (hm : m ≤ n) : ShortC n c := ⟨Nat.le_trans h.1 hm, h.2⟩
theorem shortC_wi {m : Nat} {c : S80} (h : ShortC m c) (hm : m ≤ 1000) : WiChain c := ⟨trivial, Nat.le_trans h.1 (Nat.le_trans hm (by decide)), fun y hy => (h.2 y hy).2⟩
theorem mergeA_short {a b : S29} (h : ShortA b) : ShortA (mergeA a b) := ⟨by rw [mergeA_f0]; exact h.1, mergeA_wi h.2⟩
theorem putChain_short {m : Nat} {c : S80} {a : S29} (h : ShortC m c) (ha : ShortA a) : ShortC (m + 1) (putChain c a).1 := by
  unfold putChain
  split
  · refine ⟨by show (List.set _ _ _).length ≤ _; rw [List.length_set]; exact Nat.le_trans h.1 (Nat.le_succ _), fun y hy => ?_⟩
    rcases List.mem_or_eq_of_mem_set hy with hy | rfl
    · exact h.2 y hy
    · exact mergeA_short ha
  · refine ⟨by show (_ ++ [_]).length ≤ _; rw [List.length_append, List.length_singleton]; exact Nat.succ_le_succ h.1, fun y hy => ?_⟩
    rcases List.mem_append.1 hy with hy | hy
    · exact h.2 y hy
    · rw [List.mem_singleton.1 hy]; exact ha
theorem putChain_more (c : S80) (a : S29) : c.f1.length ≤ (putChain c a).1.f1.length ∧ 1 ≤ (putChain c a).1.f1.length ∧ (putChain c a).1.f0 = c.f0 := by
  have hlt := labelsAt_end c.f1 a.f0
  unfold putChain
  split
  · rename_i h
    have := hlt h
    refine ⟨by show _ ≤ (List.set _ _ _).length; rw [List.length_set]; exact Nat.le_refl _, by show _ ≤ (List.set _ _ _).length; rw [List.length_set]; omega, rfl⟩
  · refine ⟨by show _ ≤ (_ ++ [_]).length; rw [List.length_append]; omega, by show _ ≤ (_ ++ [_]).length; rw [List.length_append, List.length_singleton]; omega, rfl⟩
/-- A drawn part, of so many chains at most. -/
def ShortP (m : Nat) (p : S26) : Prop := (-1 ≤ p.f1 ∧ p.f1 ≤ m) ∧ p.f2.length ≤ m ∧ ∀ c ∈ p.f2, ShortC m c
theorem shortP_up {m n : Nat} {p : S26} (h : ShortP m p) (hm : m ≤ n) : ShortP n p := ⟨⟨h.1.1, by have := h.1.2; omega⟩, Nat.le_trans h.2.1 hm, fun c hc => shortC_up (h.2.2 c hc) hm⟩
theorem shortP_wi {m : Nat} {p : S26} (h : ShortP m p) (hm : m ≤ 1000) : WiPart p := ⟨trivial, trivial, Nat.le_trans h.2.1 (Nat.le_trans hm (by decide)), fun c hc => shortC_wi (h.2.2 c hc) hm⟩
theorem putIn_short {m : Nat} {p : S26} {a : S29} (hm : m ≤ 1000) (h : ShortP m p) (ha : ShortA a) : ShortP (m + 1) (putIn p a).1 := by
  have hlt := chainAt_end p.f2 (fingerOf a.f0)
  have h1 := h.1
  have hw : wrap64 (p.f1 + 1) = p.f1 + 1 := wrap_id (by omega) (by omega)
  unfold putIn
  by_cases c : chainAt p.f2 (fingerOf a.f0) ≥ 0
  · rw [if_pos c]
    refine ⟨⟨by show -1 ≤ wrap64 _; omega, by show wrap64 _ ≤ _; omega⟩, by show (List.set _ _ _).length ≤ _; rw [List.length_set]; exact Nat.le_trans h.2.1 (Nat.le_succ _), fun y hy => ?_⟩
    rcases List.mem_or_eq_of_mem_set hy with hy | rfl
    · exact shortC_up (h.2.2 y hy) (Nat.le_succ _)
    · exact putChain_short (h.2.2 _ (getD_mem p.f2 (chainAt p.f2 (fingerOf a.f0)).toNat z80 (by have := hlt c; omega))) ha
  · rw [if_neg c]
    refine ⟨⟨by show -1 ≤ wrap64 _; omega, by show wrap64 _ ≤ _; omega⟩, by show (insC _ _ _ _).length ≤ _; rw [insC_length]; exact Nat.succ_le_succ h.2.1, fun y hy => ?_⟩
    rcases insC_mem hy with hy | rfl
    · exact shortC_up (h.2.2 y hy) (Nat.le_succ _)
    · refine ⟨by show (1 : Nat) ≤ _; omega, fun z hz => ?_⟩
      rw [List.mem_singleton.1 hz]; exact ha
theorem inC_len {m : Nat} : ∀ {l : List S80}, (∀ c ∈ l, ShortC m c) → (inC l).length ≤ l.length * m
  | [], _ => by simp [inC]
  | c :: l, h => by
    have h1 := inC_len (fun x hx => h x (List.mem_cons_of_mem _ hx))
    have h2 := (h c List.mem_cons_self).1
    simp only [inC, List.length_append, List.length_cons, Nat.add_mul, Nat.one_mul]; omega
theorem inC_short {m : Nat} {l : List S80} (h : ∀ c ∈ l, ShortC m c) : ∀ y ∈ inC l, ShortA y := fun y hy => by
  obtain ⟨c, hc, hy⟩ := inC_mem hy; exact (h c hc).2 y hy
theorem shortP_in {m : Nat} {p : S26} (h : ShortP m p) (hm : m ≤ 1000) : (inC p.f2).length ≤ 1000000 ∧ ∀ y ∈ inC p.f2, ShortA y :=
  ⟨Nat.le_trans (inC_len h.2.2) (Nat.le_trans (Nat.mul_le_mul (Nat.le_trans h.2.1 hm) hm) (by decide)), inC_short h.2.2⟩
theorem shortP_a {m : Nat} {p : S26} (h : ShortP m p) : ∀ c ∈ p.f2, ∀ y ∈ c.f1, y.f0.length ≤ 5000000 := fun c hc y hy => Nat.le_trans ((h.2.2 c hc).2 y hy).1 (by decide)
theorem specIn_short {m : Nat} {p : S26} (h : ShortP m p) (hm : m ≤ 1000) : Ev (fun k => spec_AlarmsIn.f k p.f0 p.f1 p.f2) (inC p.f2) :=
  specAlarmsIn_ev p (Nat.le_trans h.2.1 (Nat.le_trans hm (by decide))) (Nat.le_trans (shortP_in h hm).1 (by decide)) (shortP_a h)
theorem implIn_short {m : Nat} {p : S26} (h : ShortP m p) (hm : m ≤ 1000) : Ev (fun k => impl_AlarmsIn.f k p.f0 p.f1 p.f2) (inC p.f2) :=
  implAlarmsIn_ev p (Nat.le_trans h.2.1 (Nat.le_trans hm (by decide))) (Nat.le_trans (shortP_in h hm).1 (by decide)) (shortP_a h)
section
variable (l : List Int) (hl : l.length ≤ 1048576)
include hl
theorem dBelowAny (p s a : Int) (hp : 0 ≤ p) (h0 : 0 < a) : ∃ v p' s', spec_l1Below.f l p s a = some (v, p', s') ∧ 0 ≤ p' ∧ 0 ≤ v ∧ v < a := by
  by_cases h1 : a ≤ 256
  · exact dBelow l hl p s a hp h0 h1
  · obtain ⟨v1, p1, s1, e1, q1, a1, b1⟩ := dByte l hl p s hp
    obtain ⟨v2, p2, s2, e2, q2, a2, b2⟩ := dByte l hl p1 s1 q1
    obtain ⟨v3, p3, s3, e3, q3, a3, b3⟩ := dByte l hl p2 s2 q2
    have w1 : wrap64 (v1 * 65536) = v1 * 65536 := wrap_id (by omega) (by omega)
    have w2 : wrap64 (v2 * 256) = v2 * 256 := wrap_id (by omega) (by omega)
    have w3 : wrap64 (v1 * 65536 + v2 * 256) = v1 * 65536 + v2 * 256 := wrap_id (by omega) (by omega)
    have w4 : wrap64 (v1 * 65536 + v2 * 256 + v3) = v1 * 65536 + v2 * 256 + v3 := wrap_id (by omega) (by omega)
    refine ⟨Int.tmod (v1 * 65536 + v2 * 256 + v3) a, p3, s3, ?_, q3, Int.tmod_nonneg _ (by omega), Int.tmod_lt_of_pos _ h0⟩
    simp only [spec_l1Below.f]
    rw [if_neg (by omega), if_neg h1, e1, Option.bind_some, e2, Option.bind_some, e3, Option.bind_some, if_neg (by omega), w1, w2, w3, w4]
theorem dChain_l0 : ∀ (n : Nat) (x : S29) (c : S80) (m : Nat) (p s : Int), 0 ≤ p → ShortA x → ShortC m c → m + n ≤ 100 →
    ∃ (r : S80) (p' s' : Int), Ev (fun k => spec_l6Draw.l0 k ((n : Int) - 1) l p s x.f0 x.f1 x.f2 x.f3 c.f0 c.f1) (r.f0, r.f1, p', s') ∧ 0 ≤ p' ∧ ShortC (m + n) r ∧ c.f1.length ≤ r.f1.length ∧ (0 < n → fingerOf x.f0 = c.f0 → 1 ≤ r.f1.length)
  | 0, x, c, m, p, s, hp, hx, hc, hn => ⟨c, p, s, ⟨1, fun k hk => by
    obtain ⟨k, rfl⟩ : ∃ j, k = j + 1 := ⟨k - 1, by omega⟩
    simp only [spec_l6Draw.l0]; rw [if_neg (by omega)]⟩, hp, hc, Nat.le_refl _, fun h => by omega⟩
  | n + 1, x, c, m, p, s, hp, hx, hc, hn => by
    obtain ⟨K0, g0⟩ := specFinger_ev x.f0 hx.2.1
    obtain ⟨x', p1, s1, ⟨K1, g1⟩, q1, w, w2, ht⟩ := dAlarm l hl p s hp
    have hx' : ShortA x' := shortA_mk _ _ w (by decide) ht
    have e5 : ((n + 1 : Nat) : Int) - 1 = (n : Int) := by omega
    have e6 : wrap64 ((n : Int) - 1) = (n : Int) - 1 := wrap_id (by omega) (by omega)
    by_cases cf : fingerOf x.f0 = c.f0
    · by_cases cl : (c.f1.length : Int) < 4
      · obtain ⟨K2, g2⟩ := specPutChain_ev c x (shortC_wi hc (by omega)) hx.2
        obtain ⟨m1, m2, m3⟩ := putChain_more c x
        obtain ⟨r, p', s', ⟨K, g⟩, q, hr, hr2, -⟩ := dChain_l0 n x' (putChain c x).1 (m + 1) p1 s1 q1 hx' (putChain_short hc hx) (by omega)
        refine ⟨r, p', s', ⟨K + K0 + K1 + K2 + 2, fun k hk => ?_⟩, q, by rwa [show m + (n + 1) = m + 1 + n by omega], by omega, fun _ _ => by omega⟩
        obtain ⟨k, rfl⟩ : ∃ j, k = j + 2 := ⟨k - 2, by omega⟩
        have e := g k (by omega)
        have e0 := g0 (k + 1) (by omega)
        have e1 := g1 k (by omega)
        have e2 := g2 k (by omega)
        simp only at e e0 e1 e2
        show spec_l6Draw.l0 (k + 1 + 1) _ _ _ _ _ _ _ _ _ _ = _
        rw [e5]
        unfold spec_l6Draw.l0
        rw [if_pos (by omega), e0, Option.bind_some, if_pos cf, decide_eq_true cl]
        unfold spec_l6Draw.j1
        rw [if_pos rfl, e2, Option.bind_some, e1, Option.bind_some, e6]
        exact e
      · obtain ⟨r, p', s', ⟨K, g⟩, q, hr, hr2, -⟩ := dChain_l0 n x' c m p1 s1 q1 hx' hc (by omega)
        refine ⟨r, p', s', ⟨K + K0 + K1 + 2, fun k hk => ?_⟩, q, shortC_up hr (by omega), hr2, fun _ _ => by omega⟩
        obtain ⟨k, rfl⟩ : ∃ j, k = j + 2 := ⟨k - 2, by omega⟩
        have e := g k (by omega)
        have e0 := g0 (k + 1) (by omega)
        have e1 := g1 k (by omega)
        simp only at e e0 e1
        show spec_l6Draw.l0 (k + 1 + 1) _ _ _ _ _ _ _ _ _ _ = _
        rw [e5]
        unfold spec_l6Draw.l0
        rw [if_pos (by omega), e0, Option.bind_some, if_pos cf, decide_eq_false cl]
        unfold spec_l6Draw.j1
        rw [if_neg (by decide), e1, Option.bind_some, e6]
        exact e
    · obtain ⟨r, p', s', ⟨K, g⟩, q, hr, hr2, -⟩ := dChain_l0 n x' c m p1 s1 q1 hx' hc (by omega)
      refine ⟨r, p', s', ⟨K + K0 + K1 + 2, fun k hk => ?_⟩, q, shortC_up hr (by omega), hr2, fun _ h => absurd h cf⟩
      obtain ⟨k, rfl⟩ : ∃ j, k = j + 2 := ⟨k - 2, by omega⟩
      have e := g k (by omega)
      have e0 := g0 (k + 1) (by omega)
      have e1 := g1 k (by omega)
      simp only at e e0 e1
      show spec_l6Draw.l0 (k + 1 + 1) _ _ _ _ _ _ _ _ _ _ = _
      rw [e5]
      unfold spec_l6Draw.l0
      rw [if_pos (by omega), e0, Option.bind_some, if_neg cf]
      unfold spec_l6Draw.j1
      rw [if_neg (by decide), e1, Option.bind_some, e6]
      exact e
theorem dChain (p s : Int) (hp : 0 ≤ p) : ∃ (r : S80) (p' s' : Int), Ev (fun k => spec_l6Draw.f k l p s) (r.f0, r.f1, p', s') ∧ 0 ≤ p' ∧ ShortC 30 r ∧ 1 ≤ r.f1.length := by
  obtain ⟨x, p1, s1, ⟨K1, g1⟩, q1, w, w2, ht⟩ := dAlarm l hl p s hp
  have hx : ShortA x := shortA_mk _ _ w (by decide) ht
  obtain ⟨K0, g0⟩ := specFinger_ev x.f0 hx.2.1
  obtain ⟨b, p2, s2, e2, q2, b0, b1⟩ := dBelow l hl p1 s1 30 q1 (by decide) (by decide)
  obtain ⟨n, rfl⟩ : ∃ n : Nat, b = ((n + 1 : Nat) : Int) - 1 := ⟨b.toNat, by omega⟩
  obtain ⟨r, p', s', ⟨K, g⟩, q, hr, -, hr2⟩ := dChain_l0 l hl (n + 1) x ⟨fingerOf x.f0, []⟩ 0 p2 s2 q2 hx ⟨by simp, fun y hy => by cases hy⟩ (by omega)
  refine ⟨r, p', s', ⟨K + K0 + K1, fun k hk => ?_⟩, q, shortC_up hr (by omega), hr2 (by omega) rfl⟩
  have e := g k (by omega)
  have e0 := g0 k (by omega)
  have e1 := g1 k (by omega)
  simp only at e e0 e1
  simp only [spec_l6Draw.f, e1, Option.bind_some, e0, e2]
  exact e
theorem dAnyChain (p s : Int) (hp : 0 ≤ p) : ∃ (r : S80) (p' s' : Int), Ev (fun k => spec_l6Any.f k l p s) (r.f0, r.f1, p', s') ∧ 0 ≤ p' ∧ ShortC 31 r := by
  obtain ⟨r, p1, s1, ⟨K, g⟩, q1, w, w1⟩ := dChain l hl p s hp
  obtain ⟨b, p2, s2, e2, q2, _, _⟩ := dBelow l hl p1 s1 8 q1 (by decide) (by decide)
  have lr := w.1
  by_cases c0 : b = 0
  · obtain ⟨v, p3, s3, e3, q3, _, _⟩ := dBelow l hl p2 s2 33 q2 (by decide) (by decide)
    refine ⟨⟨v, r.f1⟩, p3, s3, ⟨K, fun k hk => ?_⟩, q3, ⟨Nat.le_trans lr (by decide), w.2⟩⟩
    have e := g k hk
    simp only at e
    simp only [spec_l6Any.f, e, Option.bind_some, e2, if_pos c0, e3]
  by_cases c1 : b = 1
  · obtain ⟨a, p3, s3, ⟨K3, g3⟩, q3, ha⟩ := dAnyAlarm l hl p2 s2 q2
    refine ⟨⟨r.f0, r.f1 ++ [a]⟩, p3, s3, ⟨K + K3, fun k hk => ?_⟩, q3, ⟨by simp only [List.length_append, List.length_singleton]; omega, fun y hy => ?_⟩⟩
    · have e := g k (by omega)
      have e3 := g3 k (by omega)
      simp only at e e3
      simp only [spec_l6Any.f, e, Option.bind_some, e2, if_neg c0, if_pos c1, e3]
      rw [if_pos (by omega)]
    · rcases List.mem_append.1 hy with h | h
      · exact w.2 y h
      · rw [List.mem_singleton.1 h]; exact ha
  by_cases c2 : b = 2
  · have h0 := w.2 _ (getD_mem r.f1 0 z29 (by omega))
    have er : rd_T29 r.f1 0 = r.f1.getD 0 z29 := by unfold rd_T29; simp
    refine ⟨⟨r.f0, r.f1 ++ [r.f1.getD 0 z29]⟩, p2, s2, ⟨K, fun k hk => ?_⟩, q2, ⟨by simp only [List.length_append, List.length_singleton]; omega, fun y hy => ?_⟩⟩
    · have e := g k hk
      simp only at e
      simp only [spec_l6Any.f, e, Option.bind_some, e2, if_neg c0, if_neg c1, if_pos c2]
      rw [if_pos (by omega), er, specL4Copy_ev _ (Nat.le_trans h0.1 (by decide)), Option.bind_some, if_pos (by omega)]
    · rcases List.mem_append.1 hy with h | h
      · exact w.2 y h
      · rw [List.mem_singleton.1 h]; exact h0
  by_cases c3 : b = 3
  · refine ⟨⟨r.f0, []⟩, p2, s2, ⟨K, fun k hk => ?_⟩, q2, ⟨by simp, fun y hy => by cases hy⟩⟩
    have e := g k hk
    simp only at e
    simp only [spec_l6Any.f, e, Option.bind_some, e2, if_neg c0, if_neg c1, if_neg c2, if_pos c3]
  · refine ⟨r, p2, s2, ⟨K, fun k hk => ?_⟩, q2, shortC_up w (by decide)⟩
    have e := g k hk
    simp only at e
    simp only [spec_l6Any.f, e, Option.bind_some, e2, if_neg c0, if_neg c1, if_neg c2, if_neg c3]
theorem dPart_l0 (i N : Int) : ∀ (n : Nat) (t : S26) (m : Nat) (p s : Int), 0 ≤ p → ShortP m t → m + n ≤ 100 →
    ∃ (r : S26) (p' s' : Int), Ev (fun k => spec_l7Draw.l0 k i N (n : Int) l p s t.f0 t.f1 t.f2) (r.f0, r.f1, r.f2, p', s') ∧ 0 ≤ p' ∧ ShortP (m + n) r
  | 0, t, m, p, s, hp, ht, hn => ⟨t, p, s, ⟨1, fun k hk => by
    obtain ⟨k, rfl⟩ : ∃ j, k = j + 1 := ⟨k - 1, by omega⟩
    simp only [spec_l7Draw.l0]; rw [if_neg (by omega)]⟩, hp, ht⟩
  | n + 1, t, m, p, s, hp, ht, hn => by
    obtain ⟨x, p1, s1, ⟨K1, g1⟩, q1, w, w2, htx⟩ := dAlarm l hl p s hp
    have hx : ShortA x := shortA_mk _ _ w (by decide) htx
    obtain ⟨K0, g0⟩ := specFinger_ev x.f0 hx.2.1
    have e6 : wrap64 (((n + 1 : Nat) : Int) - 1) = (n : Int) := by rw [wrap_id (by omega) (by omega)]; omega
    by_cases cf : partOf (fingerOf x.f0) N = i
    · obtain ⟨K2, g2⟩ := specPutIn_ev t x (shortP_wi ht (by omega)) hx.2
      obtain ⟨r, p', s', ⟨K, g⟩, q, hr⟩ := dPart_l0 i N n (putIn t x).1 (m + 1) p1 s1 q1 (putIn_short (by omega) ht hx) (by omega)
      refine ⟨r, p', s', ⟨K + K0 + K1 + K2 + 1, fun k hk => ?_⟩, q, by rwa [show m + (n + 1) = m + 1 + n by omega]⟩
      obtain ⟨k, rfl⟩ : ∃ j, k = j + 1 := ⟨k - 1, by omega⟩
      have e := g k (by omega)
      have e0 := g0 k (by omega)
      have e1 := g1 k (by omega)
      have e2 := g2 k (by omega)
      simp only at e e0 e1 e2
      simp only [spec_l7Draw.l0]
      rw [if_pos (by omega), e1, Option.bind_some, e0, Option.bind_some, specPartOf_is, Option.bind_some, if_pos cf, e2, Option.bind_some, e6]
      exact e
    · obtain ⟨r, p', s', ⟨K, g⟩, q, hr⟩ := dPart_l0 i N n t m p1 s1 q1 ht (by omega)
      refine ⟨r, p', s', ⟨K + K0 + K1 + 1, fun k hk => ?_⟩, q, shortP_up hr (by omega)⟩
      obtain ⟨k, rfl⟩ : ∃ j, k = j + 1 := ⟨k - 1, by omega⟩
      have e := g k (by omega)
      have e0 := g0 k (by omega)
      have e1 := g1 k (by omega)
      simp only at e e0 e1
      simp only [spec_l7Draw.l0]
      rw [if_pos (by omega), e1, Option.bind_some, e0, Option.bind_some, specPartOf_is, Option.bind_some, if_neg cf, e6]
      exact e
theorem dPart (p s i N : Int) (hp : 0 ≤ p) : ∃ (r : S26) (p' s' : Int), Ev (fun k => spec_l7Draw.f k l p s i N) (r.f0, r.f1, r.f2, p', s') ∧ 0 ≤ p' ∧ ShortP 7 r := by
  obtain ⟨b, p2, s2, e2, q2, b0, b1⟩ := dBelow l hl p s 8 hp (by decide) (by decide)
  obtain ⟨n, rfl⟩ : ∃ n : Nat, b = (n : Int) := ⟨b.toNat, by omega⟩
  obtain ⟨r, p', s', ⟨K, g⟩, q, hr⟩ := dPart_l0 l hl i N n ⟨-1, 0, []⟩ 0 p2 s2 q2 ⟨⟨by show (-1 : Int) ≤ 0; decide, Int.le_refl _⟩, Nat.le_refl _, fun c hc => by cases hc⟩ (by omega)
  refine ⟨r, p', s', ⟨K, fun k hk => ?_⟩, q, shortP_up hr (by omega)⟩
  have e := g k hk
  simp only at e
  simp only [spec_l7Draw.f, e2, Option.bind_some]
  exact e
theorem dAnyPart (p s i N : Int) (hp : 0 ≤ p) : ∃ (r : S26) (p' s' : Int), Ev (fun k => spec_l7Any.f k l p s i N) (r.f0, r.f1, r.f2, p', s') ∧ 0 ≤ p' ∧ ShortP 40 r := by
  obtain ⟨r, p1, s1, ⟨K, g⟩, q1, w⟩ := dPart l hl p s i N hp
  obtain ⟨b, p2, s2, e2, q2, _, _⟩ := dBelow l hl p1 s1 12 q1 (by decide) (by decide)
  have w40 := shortP_up w (show 7 ≤ 40 by decide)
  have lr := w.2.1
  by_cases c0 : b = 0
  · obtain ⟨v, p3, s3, e3, q3, _⟩ := dInt l hl p2 s2 [-2, 4, 5] q2 (by decide) (by decide)
    refine ⟨⟨v, r.f1, r.f2⟩, p3, s3, ⟨K, fun k hk => ?_⟩, q3, w40⟩
    have e := g k hk
    simp only at e
    simp only [spec_l7Any.f, e, Option.bind_some, e2, if_pos c0, e3]
  by_cases c1 : b = 1
  · refine ⟨⟨r.f0, -1, r.f2⟩, p2, s2, ⟨K, fun k hk => ?_⟩, q2, ⟨⟨Int.le_refl _, by show (-1 : Int) ≤ _; omega⟩, w40.2⟩⟩
    have e := g k hk
    simp only at e
    simp only [spec_l7Any.f, e, Option.bind_some, e2, if_neg c0, if_pos c1]
  by_cases c2 : b = 2
  · obtain ⟨a, p3, s3, ⟨K3, g3⟩, q3, ha⟩ := dAnyChain l hl p2 s2 q2
    refine ⟨⟨r.f0, r.f1, r.f2 ++ [a]⟩, p3, s3, ⟨K + K3, fun k hk => ?_⟩, q3, ⟨w40.1, by simp only [List.length_append, List.length_singleton]; omega, fun y hy => ?_⟩⟩
    · have e := g k (by omega)
      have e3 := g3 k (by omega)
      simp only at e e3
      simp only [spec_l7Any.f, e, Option.bind_some, e2, if_neg c0, if_neg c1, if_pos c2, e3]
      rw [if_pos (by omega)]
    · rcases List.mem_append.1 hy with h | h
      · exact w40.2.2 y h
      · rw [List.mem_singleton.1 h]; exact shortC_up ha (by decide)
  by_cases c3 : b = 3
  · by_cases c4 : (r.f2.length : Int) > 0
    · have h0 := w.2.2 _ (getD_mem r.f2 0 z80 (by omega))
      have er : rd_T80 r.f2 0 = r.f2.getD 0 z80 := by unfold rd_T80; simp
      obtain ⟨K3, g3⟩ := specL4All_ev (r.f2.getD 0 z80).f1 (Nat.le_trans h0.1 (by decide)) (fun y hy => Nat.le_trans (h0.2 y hy).1 (by decide))
      refine ⟨⟨r.f0, r.f1, r.f2 ++ [r.f2.getD 0 z80]⟩, p2, s2, ⟨K + K3, fun k hk => ?_⟩, q2, ⟨w40.1, by simp only [List.length_append, List.length_singleton]; omega, fun y hy => ?_⟩⟩
      · have e := g k (by omega)
        have e3 := g3 k (by omega)
        simp only at e e3
        simp only [spec_l7Any.f, e, Option.bind_some, e2, if_neg c0, if_neg c1, if_neg c2, if_pos c3, if_pos c4]
        rw [er]
        simp only [spec_l6Copy.f, e3, Option.bind_some]
        rw [if_pos (by omega)]
      · rcases List.mem_append.1 hy with h | h
        · exact w40.2.2 y h
        · rw [List.mem_singleton.1 h]; exact shortC_up h0 (by decide)
    · refine ⟨r, p2, s2, ⟨K, fun k hk => ?_⟩, q2, w40⟩
      have e := g k hk
      simp only at e
      simp only [spec_l7Any.f, e, Option.bind_some, e2, if_neg c0, if_neg c1, if_neg c2, if_pos c3, if_neg c4]
  · refine ⟨r, p2, s2, ⟨K, fun k hk => ?_⟩, q2, w40⟩
    have e := g k hk
    simp only at e
    simp only [spec_l7Any.f, e, Option.bind_some, e2, if_neg c0, if_neg c1, if_neg c2, if_neg c3]
/-- Labels of an alarm of the row, or drawn ones. -/
theorem dPick (p s : Int) (la : List S29) (hp : 0 ≤ p) (ha : ∀ y ∈ la, ShortA y) (hn : la.length ≤ 4000000) : ∃ r p' s', Ev (fun k => spec_l7Labels.f k l p s la) (r, p', s') ∧ 0 ≤ p' ∧ ShortL 100 r := by
  have draw : ∀ p s : Int, 0 ≤ p → ∃ r p' s', Ev (fun k => spec_l7Labels.j0 k la false l p s) (r, p', s') ∧ 0 ≤ p' ∧ ShortL 100 r := fun p s hp => by
    obtain ⟨r, p1, s1, ⟨K, g⟩, q1, w, _⟩ := dLabels l hl p s hp
    refine ⟨r, p1, s1, ⟨K + 1, fun k hk => ?_⟩, q1, shortL_up w (by decide)⟩
    obtain ⟨k, rfl⟩ : ∃ j, k = j + 1 := ⟨k - 1, by omega⟩
    have e := g k (by omega)
    simp only at e
    simp only [spec_l7Labels.j0]
    rw [if_neg (by decide), e, Option.bind_some]
  by_cases c : (la.length : Int) > 0
  · obtain ⟨b, p1, s1, e1, q1⟩ := dOnce l hl p s 3 hp (by decide) (by decide)
    cases b with
    | true =>
      obtain ⟨r, p', s', ⟨K, g⟩, q, w⟩ := draw p1 s1 q1
      refine ⟨r, p', s', ⟨K, fun k hk => ?_⟩, q, w⟩
      have e := g k hk
      simp only at e
      simp only [spec_l7Labels.f, if_pos c, e1, Option.bind_some, Bool.not_true]
      exact e
    | false =>
      obtain ⟨v, p2, s2, e2, q2, v0, v1⟩ := dBelowAny l hl p1 s1 (la.length : Int) q1 (by omega)
      have hv := ha _ (getD_mem la v.toNat z29 (by omega))
      have er : rd_T29 la v = la.getD v.toNat z29 := by unfold rd_T29; rfl
      have hvl := hv.1
      refine ⟨(la.getD v.toNat z29).f0, p2, s2, ⟨1, fun k hk => ?_⟩, q2, ⟨hv.1, hv.2.1.2⟩⟩
      obtain ⟨k, rfl⟩ : ∃ j, k = j + 1 := ⟨k - 1, by omega⟩
      simp only [spec_l7Labels.f, if_pos c, e1, Option.bind_some, Bool.not_false, spec_l7Labels.j0, if_true, e2, er, List.nil_append, List.length_nil]
      rw [if_pos v0, if_pos v1, if_pos (by omega)]
  · obtain ⟨r, p', s', ⟨K, g⟩, q, w⟩ := draw p s hp
    refine ⟨r, p', s', ⟨K, fun k hk => ?_⟩, q, w⟩
    have e := g k hk
    simp only at e
    simp only [spec_l7Labels.f, if_neg c]
    exact e
theorem drawPutIn_ev : ∃ (t : S26) (a : S29), Ev (fun k => spec_DrawPutIn.f k l) (t.f0, t.f1, t.f2, a.f0, a.f1, a.f2, a.f3) ∧ ShortP 40 t ∧ ShortA a := by
  obtain ⟨s0, K0, g0⟩ := dNew l hl
  obtain ⟨t, p1, s1, ⟨K1, g1⟩, q1, w1⟩ := dAnyPart l hl 0 s0 0 1 (by decide)
  obtain ⟨x, p2, s2, ⟨K2, g2⟩, q2, w, w2, ht⟩ := dAlarm l hl p1 s1 q1
  obtain ⟨K3, g3⟩ := specIn_short w1 (by decide)
  have hi := shortP_in w1 (by decide)
  obtain ⟨r, p4, s4, ⟨K4, g4⟩, q4, w4⟩ := dPick l hl p2 s2 (inC t.f2) q2 hi.2 (Nat.le_trans hi.1 (by decide))
  refine ⟨t, ⟨r, x.f1, x.f2, x.f3⟩, ⟨K0 + K1 + K2 + K3 + K4, fun k hk => ?_⟩, w1, shortA_mk _ _ w4 (by decide) ht⟩
  have e0 := g0 k (by omega)
  have e1 := g1 k (by omega)
  have e2 := g2 k (by omega)
  have e3 := g3 k (by omega)
  have e4 := g4 k (by omega)
  simp only at e0 e1 e2 e3 e4
  simp only [spec_DrawPutIn.f, e0, Option.bind_some, e1, e2, e3, e4]
theorem drawFindIn_ev : ∃ (t : S26) (r : List S99), Ev (fun k => spec_DrawFindIn.f k l) (t.f0, t.f1, t.f2, r) ∧ ShortP 40 t ∧ ShortL 100 r := by
  obtain ⟨s0, K0, g0⟩ := dNew l hl
  obtain ⟨t, p1, s1, ⟨K1, g1⟩, q1, w1⟩ := dAnyPart l hl 0 s0 0 1 (by decide)
  obtain ⟨K3, g3⟩ := specIn_short w1 (by decide)
  have hi := shortP_in w1 (by decide)
  obtain ⟨r, p4, s4, ⟨K4, g4⟩, q4, w4⟩ := dPick l hl p1 s1 (inC t.f2) q1 hi.2 (Nat.le_trans hi.1 (by decide))
  refine ⟨t, r, ⟨K0 + K1 + K3 + K4, fun k hk => ?_⟩, w1, w4⟩
  have e0 := g0 k (by omega)
  have e1 := g1 k (by omega)
  have e3 := g3 k (by omega)
  have e4 := g4 k (by omega)
  simp only at e0 e1 e3 e4
  simp only [spec_DrawFindIn.f, e0, Option.bind_some, e1, e3, e4]
theorem drawSweepIn_ev : ∃ (t : S26) (v : Int), Ev (fun k => spec_DrawSweepIn.f k l) (t.f0, t.f1, t.f2, v) ∧ ShortP 40 t := by
  obtain ⟨s0, K0, g0⟩ := dNew l hl
  obtain ⟨t, p1, s1, ⟨K1, g1⟩, q1, w1⟩ := dAnyPart l hl 0 s0 0 1 (by decide)
  obtain ⟨v, p2, s2, e2, q2, _⟩ := dInt l hl p1 s1 [0, 3, 8, 12, 30, 100] q1 (by decide) (by decide)
  refine ⟨t, v, ⟨K0 + K1, fun k hk => ?_⟩, w1⟩
  have e0 := g0 k (by omega)
  have e1 := g1 k (by omega)
  simp only at e0 e1
  simp only [spec_DrawSweepIn.f, e0, Option.bind_some, e1, e2]
theorem drawPartOk_ev : ∃ (t : S26) (i n : Int), Ev (fun k => spec_DrawPartOk.f k l) (t.f0, t.f1, t.f2, i, n) ∧ ShortP 40 t := by
  obtain ⟨s0, K0, g0⟩ := dNew l hl
  obtain ⟨b, p1, s1, e1, q1, b0, b1⟩ := dBelow l hl 0 s0 3 (by decide) (by decide) (by decide)
  have ew : wrap64 (1 + b) = 1 + b := wrap_id (by omega) (by omega)
  obtain ⟨i, p2, s2, e2, q2, _, _⟩ := dBelow l hl p1 s1 (1 + b) q1 (by omega) (by omega)
  obtain ⟨t, p3, s3, ⟨K3, g3⟩, q3, w3⟩ := dAnyPart l hl p2 s2 i (1 + b) q2
  obtain ⟨c, p4, s4, e4, q4⟩ := dOnce l hl p3 s3 8 q3 (by decide) (by decide)
  cases c with
  | true =>
    refine ⟨t, i, wrap64 (1 + b + 1), ⟨K0 + K3, fun k hk => ?_⟩, w3⟩
    have e0 := g0 k (by omega)
    have e3 := g3 k (by omega)
    simp only at e0 e3
    simp only [spec_DrawPartOk.f, e0, Option.bind_some, e1, ew, e2, e3, e4, if_true]
  | false =>
    refine ⟨t, i, 1 + b, ⟨K0 + K3, fun k hk => ?_⟩, w3⟩
    have e0 := g0 k (by omega)
    have e3 := g3 k (by omega)
    simp only at e0 e3
    simp only [spec_DrawPartOk.f, e0, Option.bind_some, e1, ew, e2, e3, e4, Bool.false_eq_true, if_false]
theorem drawSamePart_ev : ∃ (t u : S26), Ev (fun k => spec_DrawSamePart.f k l) (t.f0, t.f1, t.f2, u.f0, u.f1, u.f2) ∧ ShortP 40 t ∧ ShortP 40 u := by
  obtain ⟨s0, K0, g0⟩ := dNew l hl
  obtain ⟨t, p1, s1, ⟨K1, g1⟩, q1, w1⟩ := dAnyPart l hl 0 s0 0 1 (by decide)
  obtain ⟨c, p4, s4, e4, q4⟩ := dOnce l hl p1 s1 2 q1 (by decide) (by decide)
  cases c with
  | true =>
    obtain ⟨K2, g2⟩ := specCopyPart_ev t (shortP_wi w1 (by decide))
    refine ⟨t, t, ⟨K0 + K1 + K2, fun k hk => ?_⟩, w1, w1⟩
    have e0 := g0 k (by omega)
    have e1 := g1 k (by omega)
    have e2 := g2 k (by omega)
    simp only at e0 e1 e2
    simp only [spec_DrawSamePart.f, e0, Option.bind_some, e1, e4, if_true, e2]
  | false =>
    obtain ⟨u, p2, s2, ⟨K2, g2⟩, q2, w2⟩ := dAnyPart l hl p4 s4 0 1 q4
    refine ⟨t, u, ⟨K0 + K1 + K2, fun k hk => ?_⟩, w1, w2⟩
    have e0 := g0 k (by omega)
    have e1 := g1 k (by omega)
    have e2 := g2 k (by omega)
    simp only at e0 e1 e2
    simp only [spec_DrawSamePart.f, e0, Option.bind_some, e1, e4, Bool.false_eq_true, if_false, e2]
end
theorem rdmidAlarmi (pre suf : List S29) (y : S29) : rd_T29 (pre ++ y :: suf) (pre.length : Int) = y := by unfold rd_T29; simp
end Go.Proofs.YtanfohlpkppeiaaGreat.Print
end
